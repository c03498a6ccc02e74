-- Written by a program of this session (printx.py) out of the translation; Lean checks it.
import Derived.Test.YtibmehnippjakaaPrint0
import Derived.Test.YtibmehnippjakaaPrint5
import Derived.Test.YtibmehnippjakaaPrint6
import Derived.Test.YtibmehnippjakaaPrint7
namespace Go.Proofs.Ytibmehnippjakaa.Print
open Go.RowKit Go.Proofs.YtibmehnippjakaaW.PrintWords Go.Proofs.YtibmehnippjakaaW.PrintLast Go.Proofs.YtibmehnippjakaaW.PrintMore Go.Proofs.Ytibmehnippjakaa.Short
attribute [local go_sem] max2_int min2_int max_two min_two max_three min_three max_four min_four   -- for this text's walks alone
set_option linter.unusedVariables false
set_option maxHeartbeats 8000000
set_option maxRecDepth 100000
set_option linter.unusedSimpArgs false

/-! ### impl_ExtOf: function 50 -/
def impl_ExtOf.f (k : Nat) (c : List (S44)) (b : Int) : Option (Int) := (slices_IndexFunc_impl_Ext_impl_Ext_with_impl_ExtOf_1.f k c b).bind fun a => (some a)
theorem impl_ExtOf.mono : ∀ a b k, LeO (impl_ExtOf.f k a b) (impl_ExtOf.f (k + 1) a b) := by
  intro a b k
  unfold impl_ExtOf.f
  exact mo1_ slices_IndexFunc_impl_Ext_impl_Ext_with_impl_ExtOf_1.mono
theorem impl_ExtOf.calls (k : Nat) (o : Option Addr) (p : Nat) (g : List (S44)) (i : Int) (r : Int) (w : World) (hr0 : Kd.C k44 w o g.length g) (j : g.length ≤ p) (h : impl_ExtOf.f k g i = some r) :
    Calls Try.prog 50 #[.slice o g.length p, .int .i64 i] w fun e w' => e = .returned (.int .i64 r) ∧ Below w.heap.size w w' := by
  have m := Q_ hr0
  have l := Q_ j
  clear hr0 j
  have HB := Q_ (Below.refl w.heap.size w)
  have H : ((slices_IndexFunc_impl_Ext_impl_Ext_with_impl_ExtOf_1.f k g i).bind fun b => (some b)) = some r := h
  clear h
  obtain ⟨b, q, H⟩ := bs_ H
  replace H : (some b) = some r := H
  obtain rfl := Option.some.inj H
  go_enter Try.func50, Try.ntmps50
  go_wp2_with (first | ((with_reducible refine gate_dst (N := 3) rfl ?_); refine bx_ 3 #[.int .i64 i] 3 ?_; intro n hg s hbox hb; have _ := Q_ (below_step (pb_ HB.1) hb); have a := Q_ (hbox); have d := Q_ (gw_ (w := w) hg (pb_ HB.1)); have c := d; clear HB; rename_i HB; clear hb hbox hg) | (go_at_call 67; (with_reducible refine (slices_IndexFunc_impl_Ext_impl_Ext_with_impl_ExtOf_1.calls k _ _ g _ i b _ (cb_ m HB) l.1 ?side3 q.1).mono ?_); (case side3 => exact pk_ a.1); rintro e t ⟨rfl, hb⟩; have _ := Q_ (bb_ a.1 hb); have _ := Q_ (below_step (pb1_ HB.1 c.1) hb); clear a HB; rename_i a HB; (try clear hb)))
  go_ret
  exact ⟨er_, pb1_ HB.1 c.1⟩

/-! ### impl_AreExts: function 49 -/
def impl_AreExts.l0 : Nat → List (S44) → List (S44) → Int → Int → Option (Bool)
  | 0, _, _, _, _ => none
  | k + 1, g, b, h, a => if a < h then (if 0 ≤ a then (if a < (b.length : Int) then ((impl_InRange.f ((rd_T44 b a).f0) 0 255).bind fun c => (if c = true then (if a ≤ (g.length : Int) then ((impl_ExtOf.f k (g.take (a : Int).toNat) ((rd_T44 b a).f0)).bind fun d => (if d ≥ 0 then (some false) else (if (((rd_T44 b a).f1).length : Int) > 4 then (some false) else ((impl_areNumbers.f k ((rd_T44 b a).f1) 0 255).bind fun e => (if e = true then (impl_AreExts.l0 k g b h (wrap64 (a + 1))) else (some false)))))) else (none)) else (some false))) else (none)) else (none)) else (some (decide ((g.length : Int) ≤ 6)))
def impl_AreExts.f (k : Nat) (a : List (S44)) : Option (Bool) := impl_AreExts.l0 k a a (a.length : Int) 0
theorem impl_AreExts.mono_l : ∀ k, (∀ a b c d, LeO (impl_AreExts.l0 k a b c d) (impl_AreExts.l0 (k + 1) a b c d))
  | 0 => fun _ _ _ _ r h => by simp [impl_AreExts.l0] at h
  | k + 1 => by
    have ih0 := impl_AreExts.mono_l k
    · intro a b c d
      unfold impl_AreExts.l0
      exact mo3_ ih0 impl_ExtOf.mono impl_areNumbers.mono
theorem impl_AreExts.mono : ∀ a k, LeO (impl_AreExts.f k a) (impl_AreExts.f (k + 1) a) := by
  intro a k
  have ih0 := impl_AreExts.mono_l k
  unfold impl_AreExts.f
  exact mo3_ ih0 impl_ExtOf.mono impl_areNumbers.mono
def impl_AreExts.T4 : Bool × List (List Nat × List Nat) := (true, [([], []), ([0], [0]), ([1], [1]), ([2], [2]), ([3, 2], [3]), ([4], [4]), ([4], [4]), ([5, 6, 4], [4, 5, 6]), ([4], [4]), ([8, 4], [4, 8]), ([7, 9, 4, 4], [4, 7, 9]), ([10, 4], [4, 10]), ([4, 11], [4, 11]), ([12, 10], [12]), ([13], [13]), ([14, 13], [13, 14]), ([15, 13], [13, 15]), ([16, 13], [13, 16]), ([13, 17], [13, 17]), ([18, 13], [18]), ([19], [19]), ([20, 19], [19, 20]), ([21, 19, 19], [19, 21]), ([22, 19], [19, 22]), ([19, 23], [19, 23])])
def impl_AreExts.B4 : List Nat := [0, 1, 3, 7, 15, 31, 31, 127, 31, 287, 1023, 2047, 4095, 8191, 16383, 32767, 65535, 131071, 262143, 524287, 1048575, 2097151, 4194303, 8388607, 16777215]
theorem impl_AreExts.tab4 : rtab .any (opsOf Try.f49 4) = impl_AreExts.T4 := by kernel_rfl
theorem impl_AreExts.bits4 : waitsOk impl_AreExts.T4.2 impl_AreExts.B4 = true := by kernel_rfl
theorem impl_AreExts.calls (k : Nat) (A0 : Option Addr) (y : Nat) (i : List (S44)) (r : Bool) (w : World) (hr0 : Kd.C k44 w A0 i.length i) (ai : i.length ≤ y) (h : impl_AreExts.f k i = some r) :
    Calls Try.prog 49 #[.slice A0 i.length y] w fun e w' => e = .returned (.bool r) ∧ Below w.heap.size w w' := by
  have hu44 := Try.underlying44
  have U := Q_ hr0
  have Y := Q_ ai
  clear hr0 ai
  have HB := Q_ (Below.refl w.heap.size w)
  have H : (impl_AreExts.l0 k i i (i.length : Int) 0) = some r := h
  clear h
  have H' := Q_ H
  clear H
  go_enter Try.func49, Try.ntmps49
  go_wp2
  go_loopg [7] k (fun kq v7 w' => ∃ (a : Int), v7 = .int .i64 a ∧ Aside0 (impl_AreExts.l0 kq i i (i.length : Int) a = some r) ∧ Aside0 (kq ≤ k) ∧ Aside0 (Below w.heap.size w w'))
  case atStart => exact ⟨(0), el_, H', ⟨Nat.le_refl _⟩, ⟨pb_ HB.1⟩⟩
  clear H'
  obtain ⟨a, rfl, HA, af, HB⟩ := hrel
  rcases gk with _ | k1
  · exact absurd HA.1 (by simp [impl_AreExts.l0])
  have H := HA.1
  clear HA
  simp only [impl_AreExts.l0] at H
  by_cases c2 : a < (i.length : Int)
  rotate_left
  · rw [if_neg c2] at H
    have ag := decide_eq_false c2
    clear c2
    obtain rfl := Option.some.inj H
    go_wp2
    go_ret
    exact ⟨er_, pb_ HB.1⟩
  rw [if_pos c2] at H
  have ag := decide_eq_true c2
  clear c2
  by_cases c3 : 0 ≤ a
  rotate_left
  · rw [if_neg c3] at H
    exact nn_ H
  rw [if_pos c3] at H
  have aw := decide_eq_true c3
  clear c3
  by_cases c4 : a < (i.length : Int)
  rotate_left
  · rw [if_neg c4] at H
    exact nn_ H
  rw [if_pos c4] at H
  have ax := decide_eq_true c4
  clear c4
  have HS_ := Q_ H
  clear H
  have M : 0 ≤ (a : Int) := dt_
  have O : a < (i.length : Int) := dt_
  obtain ⟨o, d, g, ah, v, x, E, F⟩ := at_U44 U.1 a M O
  cases ah
  replace v := bt_ HB v
  replace x := bt_ HB x
  replace M := eq_true M
  replace O := eq_true O
  go_upto_region 4 with (first | ((with_reducible refine gate_dst (N := 4) rfl ?_); (try (refine gate_guard (by rfl) ?_; dsimp only)); refine bx_ 4 #[.int .i64 0, .slice none 0 0] 44 ?_; intro c hg D hbox hb; have _ := Q_ (below_step (pb_ HB.1) hb); have b := Q_ (hbox); have X := Q_ (gw_ (w := w) hg (pb_ HB.1)); have j := X; clear HB; rename_i HB; clear hb hbox hg; have ay := bc2_ b.1))
  (try simp only [Act.put, s1_, s2_, s3_])
  have H := HS_.1
  clear HS_
  obtain ⟨aj, A7, H⟩ := bs_ H
  (try dsimp only at H)
  by_cases c8 : aj = true
  rotate_left
  · replace c8 := bf_ c8
    subst c8
    rw [if_neg ff_] at H
    obtain rfl := Option.some.inj H
    try go_wp2
    have n0_ : Aside0 (((D.setCell ⟨c, 0, none⟩ (.int .i64 ((rd_T44 i a).f0))).setCell ⟨c, 1, none⟩ (.slice d ((rd_T44 i a).f1).length g)).heap[c]? = some (.cells #[.int .i64 ((rd_T44 i a).f0), .slice d ((rd_T44 i a).f1).length g] 44 (0, 0))) := ⟨pp_ b.1⟩
    have n1_ : Aside0 (Below w.heap.size w ((D.setCell ⟨c, 0, none⟩ (.int .i64 ((rd_T44 i a).f0))).setCell ⟨c, 1, none⟩ (.slice d ((rd_T44 i a).f1).length g))) := ⟨pb1_ HB.1 j.1⟩
    (try clear b)
    (try clear HB)
    generalize ((D.setCell ⟨c, 0, none⟩ (.int .i64 ((rd_T44 i a).f0))).setCell ⟨c, 1, none⟩ (.slice d ((rd_T44 i a).f1).length g)) = w9 at n0_ n1_ ⊢
    (try (rw [show w9.drewN nd = w9.drewN nd from rfl]; replace n0_ := Q_ (blk_drewN n0_.1 nd); replace n1_ := Q_ (pw_below_drewN n1_.1 nd); generalize w9.drewN nd = w9 at n0_ n1_ ⊢))
    have b := n0_
    have HB := n1_
    clear n0_ n1_
    have _ := Q_ (blk_drew b.1)
    have _ := Q_ (below_drew1 HB.1)
    clear b HB
    rename_i b HB
    refine start_ (n := 25) (S := fun w' => w'.cell? ⟨c, 0, none⟩ = some (.int .i64 ((rd_T44 i a).f0)) ∧ w'.cell? ⟨c, 1, none⟩ = some (.slice d ((rd_T44 i a).f1).length g)) (ds := []) (tf_ 0 25) (by kernel_rfl) rfl rfl (sb_ b.1) (fun hHeld => ?_); refine with_tabW impl_AreExts.tab4 impl_AreExts.bits4 (fun HT_ HW_ => ?_)
    generalize w9.drew = aA at b HB hHeld ⊢
    refine pu1_ 0 12 25 1 ?_
    refine ta1_ 1 13 25 3 hHeld ?_
    refine on_ 2 (some 14) (tf_ 3 25) HT_ (fun K hK => ?_)
    refine goes_ Try.func46 (by kernel_rfl) rfl #[.int .i64 ((rd_T44 i a).f0), .int .i64 0, .int .i64 255] (by rfl) rfl rfl mp_ ?_
    with_reducible refine (impl_InRange.calls ((rd_T44 i a).f0) 0 255 false _ A7.1).mono ?_
    rintro e w' ⟨rfl, ⟨nd, rfl⟩⟩
    refine ⟨_, rfl, ?_⟩
    refine hK.out _ _ (sb_ b.1) (fun hHeld => ?_)
    clear hK K
    refine no_ (some 14) ?_
    refine pu1_ 3 15 25 15 ?_
    refine pu1_ 4 16 25 31 ?_
    refine pn1_ 5 17 25 63 ?_
    refine pn1_ 6 18 25 127 ?_
    refine pn1_ 7 19 25 255 ?_
    refine pn1_ 8 20 25 511 ?_
    refine pn1_ 9 21 25 1023 ?_
    refine pn1_ 10 22 25 2047 ?_
    refine pn1_ 11 23 25 4095 ?_
    refine pu1_ 12 24 25 8191 ?_
    refine pu1_ 13 25 25 16383 ?_
    refine pn1_ 14 26 25 32767 ?_
    refine pn1_ 15 27 25 65535 ?_
    refine pn1_ 16 28 25 131071 ?_
    refine pn1_ 17 29 25 262143 ?_
    refine pu1_ 18 30 25 524287 ?_
    refine pu1_ 19 31 25 1048575 ?_
    refine pn1_ 20 32 25 2097151 ?_
    refine pn1_ 21 33 25 4194303 ?_
    refine pn1_ 22 34 25 8388607 ?_
    refine pn1_ 23 35 25 16777215 ?_
    refine pu1_ 24 36 25 33554431 ?_
    refine done_ (done_of HT_.1 (by kernel_rfl)) ?_
    try go_wp2
    go_ret
    exact ⟨er_, pb1_ HB.1 j.1⟩
  subst c8
  rw [if_pos rfl] at H
  have aq := eq_true (dt_ : 0 ≤ a)
  by_cases G : a ≤ (i.length : Int)
  rotate_left
  · rw [if_neg G] at H
    exact nn_ H
  rw [if_pos G] at H
  have ar := eq_true G
  have au : decide (a ≤ (i.length : Int)) = true := decide_eq_true G
  clear G
  obtain ⟨l, hy346⟩ : ∃ y_ : List (S44), y_ = (i.take (a : Int).toNat) := ⟨_, rfl⟩
  replace H : ((impl_ExtOf.f k1 l ((rd_T44 i a).f0)).bind fun u => (if u ≥ 0 then (some false) else (if (((rd_T44 i a).f1).length : Int) > 4 then (some false) else ((impl_areNumbers.f k1 ((rd_T44 i a).f1) 0 255).bind fun z => (if z = true then (impl_AreExts.l0 k1 i i (i.length : Int) (wrap64 (a + 1))) else (some false)))))) = some r := hb_ hy346 H
  have p := Q_ hy346
  clear hy346
  obtain ⟨u, W, H⟩ := bs_ H
  (try dsimp only at H)
  by_cases A : u ≥ 0
  · rw [if_pos A] at H
    have t := decide_eq_true A
    clear A
    (first | rw [t] | (simp only [i64_w, i32_w]; rw [t]) | skip)
    obtain rfl := Option.some.inj H
    try go_wp2
    have n0_ : Aside0 (((D.setCell ⟨c, 0, none⟩ (.int .i64 ((rd_T44 i a).f0))).setCell ⟨c, 1, none⟩ (.slice d ((rd_T44 i a).f1).length g)).heap[c]? = some (.cells #[.int .i64 ((rd_T44 i a).f0), .slice d ((rd_T44 i a).f1).length g] 44 (0, 0))) := ⟨pp_ b.1⟩
    have n1_ : Aside0 (Below w.heap.size w ((D.setCell ⟨c, 0, none⟩ (.int .i64 ((rd_T44 i a).f0))).setCell ⟨c, 1, none⟩ (.slice d ((rd_T44 i a).f1).length g))) := ⟨pb1_ HB.1 j.1⟩
    (try clear b)
    (try clear HB)
    generalize ((D.setCell ⟨c, 0, none⟩ (.int .i64 ((rd_T44 i a).f0))).setCell ⟨c, 1, none⟩ (.slice d ((rd_T44 i a).f1).length g)) = Q at n0_ n1_ ⊢
    (try (rw [show Q.drewN nd = Q.drewN nd from rfl]; replace n0_ := Q_ (blk_drewN n0_.1 nd); replace n1_ := Q_ (pw_below_drewN n1_.1 nd); generalize Q.drewN nd = Q at n0_ n1_ ⊢))
    have b := n0_
    have HB := n1_
    clear n0_ n1_
    have _ := Q_ (blk_drew b.1)
    have _ := Q_ (below_drew1 HB.1)
    clear b HB
    rename_i b HB
    refine start_ (n := 25) (S := fun w' => w'.cell? ⟨c, 0, none⟩ = some (.int .i64 ((rd_T44 i a).f0)) ∧ w'.cell? ⟨c, 1, none⟩ = some (.slice d ((rd_T44 i a).f1).length g)) (ds := []) (tf_ 0 25) (by kernel_rfl) rfl rfl (sb_ b.1) (fun hHeld => ?_); refine with_tabW impl_AreExts.tab4 impl_AreExts.bits4 (fun HT_ HW_ => ?_)
    generalize Q.drew = aB at b HB hHeld ⊢
    refine pu1_ 0 12 25 1 ?_
    refine ta1_ 1 13 25 3 hHeld ?_
    refine on_ 2 (some 14) (tf_ 3 25) HT_ (fun K hK => ?_)
    refine goes_ Try.func46 (by kernel_rfl) rfl #[.int .i64 ((rd_T44 i a).f0), .int .i64 0, .int .i64 255] (by rfl) rfl rfl mp_ ?_
    with_reducible refine (impl_InRange.calls ((rd_T44 i a).f0) 0 255 true _ A7.1).mono ?_
    rintro e w' ⟨rfl, ⟨nd, rfl⟩⟩
    refine ⟨_, rfl, ?_⟩
    have ab : (a : Int) ≤ ((i.length : Int) : Int) := dt_
    obtain ⟨i017, I, _, hsz17, _⟩ := info_parts info44
    have hroom17 : i.length ≤ y := Y.1
    have hC17 : Kd.C k44 _ (some o) i.length i := U.1
    have hcut17 := cut_to (P := Try.prog) 27 44 .i64 Try.underlying27 I (some o) i.length y a dt_ ab hroom17
    have hr17 := Kd.C_take (m := (a : Int).toNat) hC17 (by omega)
    have hy17 : l.length = (a : Int).toNat := (by rw [p.1, List.length_take]; omega)
    rw [← p.1] at hr17
    rw [← hy17] at hcut17
    have s := Q_ hr17
    have q := Q_ (show l.length ≤ y from by omega)
    clear hr17 hC17 hroom17 I hsz17
    have KY17 := Q_ hy17
    clear hy17
    replace ab := eq_true ab
    refine hK.out _ _ (sb_ b.1) (fun hHeld => ?_)
    clear hK K
    refine no_ (some 14) ?_
    refine pu1_ 3 15 25 15 ?_
    refine pu1_ 4 16 25 31 ?_
    refine pu1_ 5 17 25 63 ?_
    refine pu1_ 6 18 25 127 ?_
    refine pu1_ 7 19 25 255 ?_
    refine pu1_ 8 20 25 511 ?_
    refine ta1_ 9 21 25 1023 hHeld ?_
    refine on_ 10 (some 22) (tf_ 11 25) HT_ (fun K hK => ?_)
    refine goes_ Try.func50 (by kernel_rfl) rfl #[.slice (some o) l.length y, .int .i64 ((rd_T44 i a).f0)] (by rfl) rfl rfl mp_ ?_
    with_reducible refine (impl_ExtOf.calls k1 _ _ l ((rd_T44 i a).f0) u _ ?side1 q.1 W.1).mono ?_
    (case side1 => exact pc_ (Kd.C_below s.1 (pb1_ HB.1 j.1)))
    rintro e aC ⟨rfl, hb⟩
    refine ⟨_, rfl, ?_⟩
    have _ := Q_ (bb_ b.1 hb)
    have _ := Q_ (below_step (pb1_ HB.1 j.1) hb)
    clear b HB
    rename_i b HB
    (try clear hb)
    refine hK.out _ _ (sb_ b.1) (fun hHeld => ?_)
    clear hK K
    refine no_ (some 22) ?_
    refine pu1_ 11 23 25 4095 ?_
    refine pu1_ 12 24 25 8191 ?_
    refine pu1_ 13 25 25 16383 ?_
    refine pn1_ 14 26 25 32767 ?_
    refine pn1_ 15 27 25 65535 ?_
    refine pn1_ 16 28 25 131071 ?_
    refine pn1_ 17 29 25 262143 ?_
    refine pu1_ 18 30 25 524287 ?_
    refine pu1_ 19 31 25 1048575 ?_
    refine pn1_ 20 32 25 2097151 ?_
    refine pn1_ 21 33 25 4194303 ?_
    refine pn1_ 22 34 25 8388607 ?_
    refine pn1_ 23 35 25 16777215 ?_
    refine pu1_ 24 36 25 33554431 ?_
    refine done_ (done_of HT_.1 (by kernel_rfl)) ?_
    try go_wp2
    go_ret
    exact ⟨er_, pb1_ HB.1 j.1⟩
  rw [if_neg A] at H
  have t := decide_eq_false A
  clear A
  (first | rw [t] | (simp only [i64_w, i32_w]; rw [t]) | skip)
  by_cases B : (((rd_T44 i a).f1).length : Int) > 4
  · rw [if_pos B] at H
    have Z := decide_eq_true B
    have aa : decide (4 < ((rd_T44 i a).f1).length) = true := decide_eq_true (by omega)
    clear B
    obtain rfl := Option.some.inj H
    try go_wp2
    have n0_ : Aside0 (((D.setCell ⟨c, 0, none⟩ (.int .i64 ((rd_T44 i a).f0))).setCell ⟨c, 1, none⟩ (.slice d ((rd_T44 i a).f1).length g)).heap[c]? = some (.cells #[.int .i64 ((rd_T44 i a).f0), .slice d ((rd_T44 i a).f1).length g] 44 (0, 0))) := ⟨pp_ b.1⟩
    have n1_ : Aside0 (Below w.heap.size w ((D.setCell ⟨c, 0, none⟩ (.int .i64 ((rd_T44 i a).f0))).setCell ⟨c, 1, none⟩ (.slice d ((rd_T44 i a).f1).length g))) := ⟨pb1_ HB.1 j.1⟩
    (try clear b)
    (try clear HB)
    generalize ((D.setCell ⟨c, 0, none⟩ (.int .i64 ((rd_T44 i a).f0))).setCell ⟨c, 1, none⟩ (.slice d ((rd_T44 i a).f1).length g)) = R at n0_ n1_ ⊢
    (try (rw [show R.drewN nd = R.drewN nd from rfl]; replace n0_ := Q_ (blk_drewN n0_.1 nd); replace n1_ := Q_ (pw_below_drewN n1_.1 nd); generalize R.drewN nd = R at n0_ n1_ ⊢))
    have b := n0_
    have HB := n1_
    clear n0_ n1_
    have _ := Q_ (blk_drew b.1)
    have _ := Q_ (below_drew1 HB.1)
    clear b HB
    rename_i b HB
    refine start_ (n := 25) (S := fun w' => w'.cell? ⟨c, 0, none⟩ = some (.int .i64 ((rd_T44 i a).f0)) ∧ w'.cell? ⟨c, 1, none⟩ = some (.slice d ((rd_T44 i a).f1).length g)) (ds := []) (tf_ 0 25) (by kernel_rfl) rfl rfl (sb_ b.1) (fun hHeld => ?_); refine with_tabW impl_AreExts.tab4 impl_AreExts.bits4 (fun HT_ HW_ => ?_)
    generalize R.drew = aD at b HB hHeld ⊢
    refine pu1_ 0 12 25 1 ?_
    refine ta1_ 1 13 25 3 hHeld ?_
    refine on_ 2 (some 14) (tf_ 3 25) HT_ (fun K hK => ?_)
    refine goes_ Try.func46 (by kernel_rfl) rfl #[.int .i64 ((rd_T44 i a).f0), .int .i64 0, .int .i64 255] (by rfl) rfl rfl mp_ ?_
    with_reducible refine (impl_InRange.calls ((rd_T44 i a).f0) 0 255 true _ A7.1).mono ?_
    rintro e w' ⟨rfl, ⟨nd, rfl⟩⟩
    refine ⟨_, rfl, ?_⟩
    have ac : (a : Int) ≤ ((i.length : Int) : Int) := dt_
    obtain ⟨i022, J, _, hsz22, _⟩ := info_parts info44
    have hroom22 : i.length ≤ y := Y.1
    have hC22 : Kd.C k44 _ (some o) i.length i := U.1
    have hcut22 := cut_to (P := Try.prog) 27 44 .i64 Try.underlying27 J (some o) i.length y a dt_ ac hroom22
    have hr22 := Kd.C_take (m := (a : Int).toNat) hC22 (by omega)
    have hy22 : l.length = (a : Int).toNat := (by rw [p.1, List.length_take]; omega)
    rw [← p.1] at hr22
    rw [← hy22] at hcut22
    have s := Q_ hr22
    have q := Q_ (show l.length ≤ y from by omega)
    clear hr22 hC22 hroom22 J hsz22
    have KY22 := Q_ hy22
    clear hy22
    replace ac := eq_true ac
    refine hK.out _ _ (sb_ b.1) (fun hHeld => ?_)
    clear hK K
    refine no_ (some 14) ?_
    refine pu1_ 3 15 25 15 ?_
    refine pu1_ 4 16 25 31 ?_
    refine pu1_ 5 17 25 63 ?_
    refine pu1_ 6 18 25 127 ?_
    refine pu1_ 7 19 25 255 ?_
    refine pu1_ 8 20 25 511 ?_
    refine ta1_ 9 21 25 1023 hHeld ?_
    refine on_ 10 (some 22) (tf_ 11 25) HT_ (fun K hK => ?_)
    refine goes_ Try.func50 (by kernel_rfl) rfl #[.slice (some o) l.length y, .int .i64 ((rd_T44 i a).f0)] (by rfl) rfl rfl mp_ ?_
    with_reducible refine (impl_ExtOf.calls k1 _ _ l ((rd_T44 i a).f0) u _ ?side1 q.1 W.1).mono ?_
    (case side1 => exact pc_ (Kd.C_below s.1 (pb1_ HB.1 j.1)))
    rintro e aE ⟨rfl, hb⟩
    refine ⟨_, rfl, ?_⟩
    have _ := Q_ (bb_ b.1 hb)
    have _ := Q_ (below_step (pb1_ HB.1 j.1) hb)
    clear b HB
    rename_i b HB
    (try clear hb)
    refine hK.out _ _ (sb_ b.1) (fun hHeld => ?_)
    clear hK K
    refine no_ (some 22) ?_
    refine pu1_ 11 23 25 4095 ?_
    refine pu1_ 12 24 25 8191 ?_
    refine pu1_ 13 25 25 16383 ?_
    refine pu1_ 14 26 25 32767 ?_
    refine ta1_ 15 27 25 65535 hHeld ?_
    refine pu1_ 16 28 25 131071 ?_
    refine pu1_ 17 29 25 262143 ?_
    refine pu1_ 18 30 25 524287 ?_
    refine pu1_ 19 31 25 1048575 ?_
    refine pn1_ 20 32 25 2097151 ?_
    refine pn1_ 21 33 25 4194303 ?_
    refine pn1_ 22 34 25 8388607 ?_
    refine pn1_ 23 35 25 16777215 ?_
    refine pu1_ 24 36 25 33554431 ?_
    refine done_ (done_of HT_.1 (by kernel_rfl)) ?_
    try go_wp2
    go_ret
    exact ⟨er_, pb1_ HB.1 j.1⟩
  rw [if_neg B] at H
  have Z := decide_eq_false B
  have aa : decide (4 < ((rd_T44 i a).f1).length) = false := decide_eq_false (by omega)
  clear B
  obtain ⟨z, ap, H⟩ := bs_ H
  (try dsimp only at H)
  have HS_ := Q_ H
  clear H
  try go_wp2
  have n0_ : Aside0 (((D.setCell ⟨c, 0, none⟩ (.int .i64 ((rd_T44 i a).f0))).setCell ⟨c, 1, none⟩ (.slice d ((rd_T44 i a).f1).length g)).heap[c]? = some (.cells #[.int .i64 ((rd_T44 i a).f0), .slice d ((rd_T44 i a).f1).length g] 44 (0, 0))) := ⟨pp_ b.1⟩
  have n1_ : Aside0 (Below w.heap.size w ((D.setCell ⟨c, 0, none⟩ (.int .i64 ((rd_T44 i a).f0))).setCell ⟨c, 1, none⟩ (.slice d ((rd_T44 i a).f1).length g))) := ⟨pb1_ HB.1 j.1⟩
  (try clear b)
  (try clear HB)
  generalize ((D.setCell ⟨c, 0, none⟩ (.int .i64 ((rd_T44 i a).f0))).setCell ⟨c, 1, none⟩ (.slice d ((rd_T44 i a).f1).length g)) = T at n0_ n1_ ⊢
  (try (rw [show T.drewN nd = T.drewN nd from rfl]; replace n0_ := Q_ (blk_drewN n0_.1 nd); replace n1_ := Q_ (pw_below_drewN n1_.1 nd); generalize T.drewN nd = T at n0_ n1_ ⊢))
  have b := n0_
  have HB := n1_
  clear n0_ n1_
  have _ := Q_ (blk_drew b.1)
  have _ := Q_ (below_drew1 HB.1)
  clear b HB
  rename_i b HB
  refine start_ (n := 25) (S := fun w' => w'.cell? ⟨c, 0, none⟩ = some (.int .i64 ((rd_T44 i a).f0)) ∧ w'.cell? ⟨c, 1, none⟩ = some (.slice d ((rd_T44 i a).f1).length g)) (ds := []) (tf_ 0 25) (by kernel_rfl) rfl rfl (sb_ b.1) (fun hHeld => ?_); refine with_tabW impl_AreExts.tab4 impl_AreExts.bits4 (fun HT_ HW_ => ?_)
  generalize T.drew = aF at b HB hHeld ⊢
  refine pu1_ 0 12 25 1 ?_
  refine ta1_ 1 13 25 3 hHeld ?_
  refine on_ 2 (some 14) (tf_ 3 25) HT_ (fun K hK => ?_)
  refine goes_ Try.func46 (by kernel_rfl) rfl #[.int .i64 ((rd_T44 i a).f0), .int .i64 0, .int .i64 255] (by rfl) rfl rfl mp_ ?_
  with_reducible refine (impl_InRange.calls ((rd_T44 i a).f0) 0 255 true _ A7.1).mono ?_
  rintro e w' ⟨rfl, ⟨nd, rfl⟩⟩
  refine ⟨_, rfl, ?_⟩
  have ad : (a : Int) ≤ ((i.length : Int) : Int) := dt_
  obtain ⟨i027, L, _, hsz27, _⟩ := info_parts info44
  have hroom27 : i.length ≤ y := Y.1
  have hC27 : Kd.C k44 _ (some o) i.length i := U.1
  have hcut27 := cut_to (P := Try.prog) 27 44 .i64 Try.underlying27 L (some o) i.length y a dt_ ad hroom27
  have hr27 := Kd.C_take (m := (a : Int).toNat) hC27 (by omega)
  have hy27 : l.length = (a : Int).toNat := (by rw [p.1, List.length_take]; omega)
  rw [← p.1] at hr27
  rw [← hy27] at hcut27
  have s := Q_ hr27
  have q := Q_ (show l.length ≤ y from by omega)
  clear hr27 hC27 hroom27 L hsz27
  have KY27 := Q_ hy27
  clear hy27
  replace ad := eq_true ad
  refine hK.out _ _ (sb_ b.1) (fun hHeld => ?_)
  clear hK K
  refine no_ (some 14) ?_
  refine pu1_ 3 15 25 15 ?_
  refine pu1_ 4 16 25 31 ?_
  refine pu1_ 5 17 25 63 ?_
  refine pu1_ 6 18 25 127 ?_
  refine pu1_ 7 19 25 255 ?_
  refine pu1_ 8 20 25 511 ?_
  refine ta1_ 9 21 25 1023 hHeld ?_
  refine on_ 10 (some 22) (tf_ 11 25) HT_ (fun K hK => ?_)
  refine goes_ Try.func50 (by kernel_rfl) rfl #[.slice (some o) l.length y, .int .i64 ((rd_T44 i a).f0)] (by rfl) rfl rfl mp_ ?_
  with_reducible refine (impl_ExtOf.calls k1 _ _ l ((rd_T44 i a).f0) u _ ?side1 q.1 W.1).mono ?_
  (case side1 => exact pc_ (Kd.C_below s.1 (pb1_ HB.1 j.1)))
  rintro e aG ⟨rfl, hb⟩
  refine ⟨_, rfl, ?_⟩
  have _ := Q_ (bb_ b.1 hb)
  have _ := Q_ (below_step (pb1_ HB.1 j.1) hb)
  clear b HB
  rename_i b HB
  (try clear hb)
  refine hK.out _ _ (sb_ b.1) (fun hHeld => ?_)
  clear hK K
  refine no_ (some 22) ?_
  refine pu1_ 11 23 25 4095 ?_
  refine pu1_ 12 24 25 8191 ?_
  refine pu1_ 13 25 25 16383 ?_
  refine pu1_ 14 26 25 32767 ?_
  refine ta1_ 15 27 25 65535 hHeld ?_
  refine pu1_ 16 28 25 131071 ?_
  refine pu1_ 17 29 25 262143 ?_
  refine pu1_ 18 30 25 524287 ?_
  refine pu1_ 19 31 25 1048575 ?_
  refine pu1_ 20 32 25 2097151 ?_
  refine ta1_ 21 33 25 4194303 hHeld ?_
  refine on_ 22 (some 34) (tf_ 23 25) HT_ (fun K hK => ?_)
  refine goes_ Try.func61 (by kernel_rfl) rfl #[.slice d ((rd_T44 i a).f1).length g, .int .i64 0, .int .i64 255] (by rfl) rfl rfl mp_ ?_
  with_reducible refine (impl_areNumbers.calls k1 _ _ ((rd_T44 i a).f1) 0 255 z _ (cb_ F HB) E.1 ap.1).mono ?_
  rintro e aH ⟨rfl, hb⟩
  refine ⟨_, rfl, ?_⟩
  have _ := Q_ (bb_ b.1 hb)
  have _ := Q_ (below_step (pb1_ HB.1 j.1) hb)
  clear b HB
  rename_i b HB
  (try clear hb)
  refine hK.out _ _ (sb_ b.1) (fun hHeld => ?_)
  clear hK K
  refine no_ (some 34) ?_
  refine pu1_ 23 35 25 16777215 ?_
  refine pu1_ 24 36 25 33554431 ?_
  refine done_ (done_of HT_.1 (by kernel_rfl)) ?_
  go_upto_if 36 with (fail)
  have H := HS_.1
  clear HS_
  by_cases V : z = true
  rotate_left
  · replace V := bf_ V
    subst V
    rw [if_neg ff_] at H
    obtain rfl := Option.some.inj H
    go_wp2
    go_ret
    exact ⟨er_, pb1_ HB.1 j.1⟩
  subst V
  rw [if_pos rfl] at H
  have H' := Q_ H
  clear H
  go_wp2
  go_roundg k1
  case measure => have := af.1; omega
  case rel => exact ⟨(wrap64 (a + 1)), el_, H', ⟨by have := af.1; omega⟩, ⟨pb1_ HB.1 j.1⟩⟩

/-! ### bits_Mul32: function 77 -/
def bits_Mul32.f (a : Int) (b : Int) : Option (Int × Int) := some (((IntKind.u64.wrap ((IntKind.u64.wrap (a)) * (IntKind.u64.wrap (b)))) / 4294967296) % 4294967296, (IntKind.u64.wrap ((IntKind.u64.wrap (a)) * (IntKind.u64.wrap (b)))) % 4294967296)
theorem bits_Mul32.calls (a : Int) (b : Int) (c : Int) (d : Int) (w : World) (h : bits_Mul32.f a b = some (c, d)) :
    Calls Try.prog 77 #[.int .u32 a, .int .u32 b] w fun e w' => e = .returned (.tuple #[.int .u32 c, .int .u32 d]) ∧ Drawn0 w w' := by
  have H : (some (((IntKind.u64.wrap ((IntKind.u64.wrap (a)) * (IntKind.u64.wrap (b)))) / 4294967296) % 4294967296, (IntKind.u64.wrap ((IntKind.u64.wrap (a)) * (IntKind.u64.wrap (b)))) % 4294967296)) = some (c, d) := h
  clear h
  simp only [Option.some.injEq, Prod.mk.injEq] at H
  obtain ⟨rfl, rfl⟩ := H
  go_enter Try.func77, Try.ntmps77
  go_wp2
  go_ret2
  exact ⟨by first | rfl | (simp; done) | (simp [*]; done), by repeat (first | exact Drawn0.refl _ | apply Drawn0.step)⟩

/-! ### bits_Mul64: function 78 -/
def bits_Mul64.f (a : Int) (b : Int) : Option (Int × Int) := some (IntKind.u64.wrap ((IntKind.u64.wrap ((IntKind.u64.wrap ((a / 4294967296) * (b / 4294967296))) + ((IntKind.u64.wrap ((IntKind.u64.wrap ((a / 4294967296) * (Go.bits .and .u64 b 4294967295))) + ((IntKind.u64.wrap ((Go.bits .and .u64 a 4294967295) * (Go.bits .and .u64 b 4294967295))) / 4294967296))) / 4294967296))) + ((IntKind.u64.wrap ((Go.bits .and .u64 (IntKind.u64.wrap ((IntKind.u64.wrap ((a / 4294967296) * (Go.bits .and .u64 b 4294967295))) + ((IntKind.u64.wrap ((Go.bits .and .u64 a 4294967295) * (Go.bits .and .u64 b 4294967295))) / 4294967296))) 4294967295) + (IntKind.u64.wrap ((Go.bits .and .u64 a 4294967295) * (b / 4294967296))))) / 4294967296)), IntKind.u64.wrap (a * b))
theorem bits_Mul64.calls (a : Int) (b : Int) (c : Int) (d : Int) (w : World) (h : bits_Mul64.f a b = some (c, d)) :
    Calls Try.prog 78 #[.int .u64 a, .int .u64 b] w fun e w' => e = .returned (.tuple #[.int .u64 c, .int .u64 d]) ∧ Drawn0 w w' := by
  have H : (some (IntKind.u64.wrap ((IntKind.u64.wrap ((IntKind.u64.wrap ((a / 4294967296) * (b / 4294967296))) + ((IntKind.u64.wrap ((IntKind.u64.wrap ((a / 4294967296) * (Go.bits .and .u64 b 4294967295))) + ((IntKind.u64.wrap ((Go.bits .and .u64 a 4294967295) * (Go.bits .and .u64 b 4294967295))) / 4294967296))) / 4294967296))) + ((IntKind.u64.wrap ((Go.bits .and .u64 (IntKind.u64.wrap ((IntKind.u64.wrap ((a / 4294967296) * (Go.bits .and .u64 b 4294967295))) + ((IntKind.u64.wrap ((Go.bits .and .u64 a 4294967295) * (Go.bits .and .u64 b 4294967295))) / 4294967296))) 4294967295) + (IntKind.u64.wrap ((Go.bits .and .u64 a 4294967295) * (b / 4294967296))))) / 4294967296)), IntKind.u64.wrap (a * b))) = some (c, d) := h
  clear h
  simp only [Option.some.injEq, Prod.mk.injEq] at H
  obtain ⟨rfl, rfl⟩ := H
  go_enter Try.func78, Try.ntmps78
  go_wp2
  go_ret2
  exact ⟨by first | rfl | (simp; done) | (simp [*]; done), by repeat (first | exact Drawn0.refl _ | apply Drawn0.step)⟩

/-! ### bits_Mul: function 69 -/
def bits_Mul.f (b : Int) (c : Int) : Option (Int × Int) := (bits_Mul64.f b c).bind fun a => (some (a.1, a.2))
theorem bits_Mul.calls (d : Int) (g : Int) (i : Int) (j : Int) (w : World) (h : bits_Mul.f d g = some (i, j)) :
    Calls Try.prog 69 #[.int .u64 d, .int .u64 g] w fun e w' => e = .returned (.tuple #[.int .u64 i, .int .u64 j]) ∧ Drawn0 w w' := by
  have H : ((bits_Mul64.f d g).bind fun a => (some (a.1, a.2))) = some (i, j) := h
  clear h
  obtain ⟨⟨b, c⟩, k, H⟩ := bs_ H
  replace H : (some (b, c)) = some (i, j) := H
  simp only [Option.some.injEq, Prod.mk.injEq] at H
  obtain ⟨rfl, rfl⟩ := H
  go_enter Try.func69, Try.ntmps69
  go_wp2_with (first | ((with_reducible refine gate_callee (f := 78) rfl ?_); refine gl_ (some 25) Try.func78 #[.int .u64 d, .int .u64 g] ?_; (with_reducible refine (bits_Mul64.calls d g b c _ k.1).mono ?_); rintro e w' ⟨rfl, ⟨nd, rfl⟩⟩; refine ⟨_, rfl, ?_⟩))
  go_ret2
  exact ⟨by first | rfl | (simp; done) | (simp [*]; done), by repeat (first | exact Drawn0.refl _ | apply Drawn0.step)⟩

-- NOT PRINTED: function 51 (slices_Repeat_int_int)

-- NOT PRINTED: function 72 (impl_Ext_72)

-- NOT PRINTED: function 80 (impl_Ext_80)

-- NOT PRINTED: function 79 (impl_Ext_79)

-- NOT PRINTED: function 73 (impl_Ext_73)

-- NOT PRINTED: function 53 (impl_Ext_53)

/-! ### impl_AddGrease: function 20, by hand -/
def impl_AddGrease.f (k : Nat) (a : List (S44)) (s : Int) : Option (List (S44)) := (impl_copyExts.f k a).bind fun b => ((impl_GreaseTag.f k s).bind fun t => ((impl_AreExts.f k a).bind fun o => (if o = true then (if (a.length : Int) = 6 then (some b) else ((impl_ExtOf.f k a t).bind fun e => (if 0 ≤ e then (some b) else ((impl_PickOf.f k s 3 256).bind fun p => ((impl_PickOf.f k s 2 3).bind fun c => ((impl_PickOf.f k s 1 (wrap64 ((a.length : Int) + 1))).bind fun i => (if 0 ≤ c then (if c ≤ 2 then (if 0 ≤ i then (if i ≤ (b.length : Int) then (if (b.length : Int) ≤ 1000000 then (some (b.take i.toNat ++ (⟨t, List.replicate c.toNat p⟩ : S44) :: b.drop i.toNat)) else (none)) else (none)) else (none)) else (none)) else (none)))))))) else (some b))))
theorem impl_AddGrease.mono : ∀ a b k, LeO (impl_AddGrease.f k a b) (impl_AddGrease.f (k + 1) a b) := by
 intro a b k
 unfold impl_AddGrease.f
 repeat' first
  | (with_reducible exact impl_copyExts.mono _ _)
  | (with_reducible exact impl_GreaseTag.mono _ _)
  | (with_reducible exact impl_AreExts.mono _ _)
  | (with_reducible exact impl_ExtOf.mono _ _ _)
  | (with_reducible exact impl_PickOf.mono _ _ _ _)
  | (with_reducible exact LeO.refl _)
  | (with_reducible exact LeO.none _)
  | (with_reducible refine LeO.ite ?_ ?_)
  | (with_reducible refine LeO.bind ?_ (fun _ => ?_))
theorem impl_AddGrease.calls (k : Nat) (d : Option Addr) (g : Nat) (a : List (S44)) (s : Int) (r : List (S44)) (w : World) (hr0 : Kd.C k44 w d a.length a) (ai0 : a.length ≤ g) (h : impl_AddGrease.f k a s = some r) :
  Calls Try.prog 20 #[.slice d a.length g, .int .i64 s] w fun e w' => ∃ v0_ : Value, e = .returned (v0_) ∧ Kd.S k44 44 w' w.heap.size (fun _ => True) v0_ r ∧ Below w.heap.size w w' := by
 unfold impl_AddGrease.f at h
 obtain ⟨b, hb, h⟩ := Option.bind_eq_some_iff.1 h
 obtain ⟨t, ht, h⟩ := Option.bind_eq_some_iff.1 h
 obtain ⟨o, ho, h⟩ := Option.bind_eq_some_iff.1 h
 have h47 := impl_copyExts.calls k d g a b w hr0 ai0 hb
 have h48 := fun w => impl_GreaseTag.calls k s t w ht
 have h49 := fun w hC => impl_AreExts.calls k d g a o w hC ai0 ho
 cases o with
 | false =>
  obtain rfl := Option.some.inj h
  exact GreaseK.grease_a hr0 ai0 trivial h47 h48 h49
 | true =>
  rw [if_pos rfl] at h
  by_cases h6 : (a.length : Int) = 6
  · rw [if_pos h6] at h
    obtain rfl := Option.some.inj h
    exact GreaseK.grease_b hr0 ai0 (by omega) h47 h48 h49
  rw [if_neg h6] at h
  obtain ⟨e, he, h⟩ := Option.bind_eq_some_iff.1 h
  have h50 := fun w hC => impl_ExtOf.calls k d g a t e w hC ai0 he
  by_cases h0 : 0 ≤ e
  · rw [if_pos h0] at h
    obtain rfl := Option.some.inj h
    exact GreaseK.grease_c hr0 ai0 (by omega) h47 h48 h49 e h0 h50
  rw [if_neg h0] at h
  obtain ⟨p, hp, h⟩ := Option.bind_eq_some_iff.1 h
  obtain ⟨c, hc, h⟩ := Option.bind_eq_some_iff.1 h
  obtain ⟨i, hi, h⟩ := Option.bind_eq_some_iff.1 h
  by_cases g1 : 0 ≤ c
  rotate_left
  · rw [if_neg g1] at h
    cases h
  rw [if_pos g1] at h
  by_cases g2 : c ≤ 2
  rotate_left
  · rw [if_neg g2] at h
    cases h
  rw [if_pos g2] at h
  by_cases g3 : 0 ≤ i
  rotate_left
  · rw [if_neg g3] at h
    cases h
  rw [if_pos g3] at h
  by_cases g4 : i ≤ (b.length : Int)
  rotate_left
  · rw [if_neg g4] at h
    cases h
  rw [if_pos g4] at h
  by_cases g5 : (b.length : Int) ≤ 1000000
  rotate_left
  · rw [if_neg g5] at h
    cases h
  rw [if_pos g5] at h
  obtain rfl := Option.some.inj h
  obtain ⟨c, rfl⟩ := Int.eq_ofNat_of_zero_le g1
  obtain ⟨i, rfl⟩ := Int.eq_ofNat_of_zero_le g3
  have hm : bits_Mul.f 1 (c : Int) = some (0, (c : Int)) := by
   obtain rfl | rfl | rfl : c = 0 ∨ c = 1 ∨ c = 2 := by omega
   all_goals decide
  exact GreaseK.grease_d hr0 ai0 (by omega) h47 h48 h49 e h0 h50 rfl (fun t ps => (⟨t, ps⟩ : S44)) (fun w base ok t v ps hR => k44_mkM w base ok ⟨t, ps⟩ hR) p c i (by omega) (by omega) (by omega) (fun w => impl_PickOf.calls k s 3 256 p w hp) (fun w => impl_PickOf.calls k s 2 3 c w hc) (fun w => impl_PickOf.calls k s 1 _ i w hi) (fun w => bits_Mul.calls 1 c 0 c w hm)


/-! ### impl_HelloOf: function 7 -/
def impl_HelloOf.l0 : Nat → Int → List (S44) → List Int → Int → Int → List Int → List Int → List (S59) → Int → Option (List Int × (List (S44)))
  | 0, _, _, _, _, _, _, _, _, _ => none
  | k + 1, m, l, h, j, b, a, c, d, e => if b < j then (if 0 ≤ b then (if b < (h.length : Int) then (if l.length < 4398046511104 then (impl_HelloOf.l0 k m (l ++ [(⟨rd h b, ([] : List Int)⟩ : S44)]) h j (wrap64 (b + 1)) a c d e) else (none)) else (none)) else (none)) else ((some (([] : List Int) : List Int)).bind fun g => (if g.length + a.length < 17592186044416 then ((impl_AddGrease.f k l m).bind fun i => (some ((g ++ a), i))) else (none)))
def impl_HelloOf.f (k : Nat) (c : List Int) (a : List Int) (d : List (S59)) (b : Int) (g : Int) : Option (List Int × (List (S44))) := (impl_IsEndpoint.f k c a d b).bind fun e => (if e = true then (impl_HelloOf.l0 k g (([] : List (S44))) a (a.length : Int) 0 c a d b) else (some (([] : List Int), ([] : List (S44)))))
theorem impl_HelloOf.mono_l : ∀ k, (∀ a b c d e f g i j, LeO (impl_HelloOf.l0 k a b c d e f g i j) (impl_HelloOf.l0 (k + 1) a b c d e f g i j))
  | 0 => fun _ _ _ _ _ _ _ _ _ r h => by simp [impl_HelloOf.l0] at h
  | k + 1 => by
    have ih0 := impl_HelloOf.mono_l k
    · intro a b c d e f g i j
      unfold impl_HelloOf.l0
      exact mo3_ ih0 impl_AddGrease.mono impl_IsEndpoint.mono
theorem impl_HelloOf.mono : ∀ a b c d e k, LeO (impl_HelloOf.f k a b c d e) (impl_HelloOf.f (k + 1) a b c d e) := by
  intro a b c d e k
  have ih0 := impl_HelloOf.mono_l k
  unfold impl_HelloOf.f
  exact mo3_ ih0 impl_AddGrease.mono impl_IsEndpoint.mono
theorem impl_HelloOf.calls (k : Nat) (z : Option Addr) (B : Nat) (j : List Int) (G : Option Addr) (D : Nat) (d : List Int) (A : Option Addr) (E : Nat) (q : List (S59)) (s : Int) (a1 : Int) (r1 : List Int) (r2 : List (S44)) (w : World) (hr0_0 : Kd.C (Kd.int .i64) w z j.length j) (Z : j.length ≤ B) (hr0_1 : Kd.C (Kd.int .i64) w G d.length d) (aa : d.length ≤ D) (hr0_2 : Kd.C k59 w A q.length q) (ab : q.length ≤ E) (h : impl_HelloOf.f k j d q s a1 = some (r1, r2)) :
    Calls Try.prog 7 #[.agg #[.slice z j.length B, .slice G d.length D, .slice A q.length E, .int .i64 s], .int .i64 a1] w fun e w' => ∃ v0_ v1_ : Value, e = .returned (.agg #[v0_, v1_]) ∧ Kd.R (Kd.int .i64) 3 w' w.heap.size (fun _ => True) v0_ r1 ∧ Kd.S k44 44 w' w.heap.size (fun k_ => some k_ ≠ (v0_ : Value).ownBlock) v1_ r2 ∧ Below w.heap.size w w' := by
  have hu33 := Try.underlying33
  have hu29 := Try.underlying29
  have hu44 := Try.underlying44
  have V := Q_ hr0_0
  have av := Q_ Z
  clear hr0_0 Z
  have W := Q_ hr0_1
  have aw := Q_ aa
  clear hr0_1 aa
  have aA := Q_ hr0_2
  have ax := Q_ ab
  clear hr0_2 ab
  have HB := Q_ (Below.refl w.heap.size w)
  have H : ((impl_IsEndpoint.f k j d q s).bind fun P => (if P = true then (impl_HelloOf.l0 k a1 (([] : List (S44))) d (d.length : Int) 0 j d q s) else (some (([] : List Int), ([] : List (S44)))))) = some (r1, r2) := h
  clear h
  have HS_ := Q_ H
  clear H
  go_enter Try.func7, Try.ntmps7
  go_upto_region 1 with (first | ((with_reducible refine gate_dst (N := 2) rfl ?_); refine bx_ 2 #[.slice z j.length B, .slice G d.length D, .slice A q.length E, .int .i64 s] 33 ?_; intro O hg w3 hbox hb; have _ := Q_ (below_step (pb_ HB.1) hb); have a := Q_ (hbox); have ar := Q_ (gw_ (w := w) hg (pb_ HB.1)); have i := ar; clear HB; rename_i HB; clear hb hbox hg) | ((with_reducible refine gate_dst (N := 4) rfl ?_); refine bx_ 4 #[.slice none 0 0, .slice none 0 0] 29 ?_; intro v hg w4 hbox hb; have _ := Q_ (bb_ a.1 hb); have _ := Q_ (below_step (pb1_ HB.1 i.1) hb); have c := Q_ (hbox); have au := Q_ (gw_ (w := w) hg (pb1_ HB.1 i.1)); have l := au; have r := Q_ (nb_ hg a); have t := Q_ r.1.symm; clear a HB; rename_i a HB; clear hb hbox hg))
  (try simp only [Act.put, s1_, s2_, s3_])
  have H := HS_.1
  clear HS_
  obtain ⟨P, A5, H⟩ := bs_ H
  (try dsimp only at H)
  have HS_ := Q_ H
  clear H
  have bd := r.1
  have be := t.1
  have bc := bc4_ a.1
  go_upto_if 10 with (first | ((with_reducible refine gate_callee (f := 19) rfl ?_); refine gl_ (some 9) Try.func19 #[.agg #[.slice z j.length B, .slice G d.length D, .slice A q.length E, .int .i64 s]] ?_; (with_reducible refine (impl_IsEndpoint.calls k _ _ j _ _ d _ _ q s P _ (cb_ V HB) av.1 (cb_ W HB) aw.1 (cb_ aA HB) ax.1 A5.1).mono ?_); rintro e w8 ⟨rfl, hb⟩; refine ⟨_, rfl, ?_⟩; have _ := Q_ (bb_ a.1 hb); have _ := Q_ (bb_ c.1 hb); have _ := Q_ (below_step (pb2_ HB.1 i.1 l.1) hb); clear a c HB; rename_i a c HB; (try clear hb)))
  (try simp only [Act.put, s1_, s2_, s3_])
  have H := HS_.1
  clear HS_
  by_cases c9 : P = true
  rotate_left
  · replace c9 := bf_ c9
    subst c9
    rw [if_neg ff_] at H
    simp only [Option.some.injEq, Prod.mk.injEq] at H
    obtain ⟨rfl, rfl⟩ := H
    have a5 := t.1
    have a8 := r.1
    have a0 := bc2_ c.1
    go_wp2
    refine bodyPost_ret (results_cell_row rfl _ _ v 29 #[.slice none 0 0, .slice none 0 0] (0, 0) _ rfl (pp_ c.1) Try.underlying29 rfl (by kernel_rfl)) rfl ?_
    exact ⟨_, _, er_, by first | exact Kd.R_nil _ _ _ _ _ | exact Kd.N_nil _ _ _ _ _ | exact Kd.V_nil _ _ _ _ _ | exact Kd.Q_nil _ _ _ _ _ | exact Kd.S_nil _ _ _ _ _, by first | exact Kd.S_nil _ _ _ _ _ | exact Kd.N_nil _ _ _ _ _ | exact Kd.V_nil _ _ _ _ _ | exact Kd.Q_nil _ _ _ _ _ | exact Kd.R_nil _ _ _ _ _, pb2_ HB.1 i.1 l.1⟩
  subst c9
  rw [if_pos rfl] at H
  obtain ⟨ap, hy372⟩ : ∃ y_ : List (S44), y_ = (([] : List (S44))) := ⟨_, rfl⟩
  replace H : (impl_HelloOf.l0 k a1 ap d (d.length : Int) 0 j d q s) = some (r1, r2) := hb_ hy372 H
  have X := Q_ hy372
  clear hy372
  have H' := Q_ H
  clear H
  go_wp2_with (first | ((with_reducible refine gate_dst (N := 12) rfl ?_); refine Kd.S_lit k44 _ 44 ?hg (N := 12) ?hd (xs := ([] : List (S44))) (inner := []) (ok := fun _ => True) (okp := fun _ => True) ?hr ?hp (fun _ hk => hk) trivial (Below.refl _ _) (Nat.le_refl _) (by simp) ?_; (case hd => rfl); (case hg => rfl); (case hr => first | (go_simp; done) | (go_simp; rfl)); (case hp => exact (Reps.none _ _)); intro bf bl K hb hg_ hnew_; clear hg_ hnew_; (first | rw [← X.1] at K | (simp only [Int.reduceToNat] at K; rw [← X.1] at K)); have _ := Q_ (Kd.S_lower K (below_size (pb2_ HB.1 i.1 l.1))); have _ := Q_ (bb_ a.1 hb); have _ := Q_ (bb_ c.1 hb); have _ := Q_ (below_step (pb2_ HB.1 i.1 l.1) hb); clear a c HB; rename_i ay a c HB; clear hb K; have a6 := r.1; have a9 := t.1; have a2 := bc4_ a.1))
  (try simp only [Act.put, s1_, s2_, s3_])
  go_loopg [5, 16] k (fun kq v5 bb w' => ∃ (u : List (S44)) (m : Int), bb = .int .i64 m ∧ Aside0 (impl_HelloOf.l0 kq a1 u d (d.length : Int) m j d q s = some (r1, r2)) ∧ Aside0 (kq ≤ k) ∧ Aside0 (Kd.S k44 44 w' w.heap.size (fun _ => True) v5 u) ∧ Aside0 (w'.heap[O]? = some (.cells #[(.slice z j.length B), (.slice G d.length D), (.slice A q.length E), .int .i64 s] 33 (0, 0))) ∧ Aside0 (w'.heap[v]? = some (.cells #[(.slice none 0 0), (.slice none 0 0)] 29 (0, 0))) ∧ Aside0 (Below w.heap.size w w'))
  case atStart => exact ⟨(ap), (0), el_, H', ⟨Nat.le_refl _⟩, ⟨ps_ ay.1⟩, ⟨pk_ a.1⟩, ⟨pk_ c.1⟩, ⟨pb2_ HB.1 i.1 l.1⟩⟩
  clear H'
  obtain ⟨u, m, rfl, HA, aK, n, a, c, HB⟩ := hrel
  rcases gk with _ | k1
  · exact absurd HA.1 (by simp [impl_HelloOf.l0])
  have H := HA.1
  clear HA
  simp only [impl_HelloOf.l0] at H
  by_cases T : m < (d.length : Int)
  · rw [if_pos T] at H
    have F := decide_eq_true T
    clear T
    (first | rw [F] | (simp only [i64_w, i32_w]; rw [F]) | skip)
    by_cases af : 0 ≤ m
    rotate_left
    · rw [if_neg af] at H
      exact nn_ H
    rw [if_pos af] at H
    have aY := decide_eq_true af
    clear af
    by_cases ag : m < (d.length : Int)
    rotate_left
    · rw [if_neg ag] at H
      exact nn_ H
    rw [if_pos ag] at H
    have aZ := decide_eq_true ag
    clear ag
    by_cases ah : u.length < 4398046511104
    rotate_left
    · rw [if_neg ah] at H
      exact nn_ H
    rw [if_pos ah] at H
    have aC := Q_ ah
    clear ah
    obtain ⟨aq, hy376⟩ : ∃ y_ : List (S44), y_ = (u ++ [(⟨rd d m, ([] : List Int)⟩ : S44)]) := ⟨_, rfl⟩
    replace H : (impl_HelloOf.l0 k1 a1 aq d (d.length : Int) (wrap64 (m + 1)) j d q s) = some (r1, r2) := hb_ hy376 H
    have aE := Q_ hy376
    clear hy376
    have H' := Q_ H
    clear H
    have ac : 0 ≤ (m : Int) := dt_
    have ad : m < (d.length : Int) := dt_
    obtain ⟨aH, aN, L⟩ := Kd.at_int W.1 m ac ad
    cases aN
    replace L := bt_ HB L
    replace ac := eq_true ac
    replace ad := eq_true ad
    go_wp2_with (first | ((with_reducible refine gate_builtin (b := .append) (xs := #[.tmp 20, .tmp 23]) rfl ?_); at_builtin; refine Kd.S_append k44 (w0 := w) w.heap.size rfl (.tmp 20) (.tmp 23) 27 44 (.agg #[(.int .i64 0), (.slice none 0 0)]) 32 rfl Try.underlying27 info44 rfl (by decide) (by omega) u5 u (⟨rd d m, ([] : List Int)⟩ : S44) [.int .i64 (rd d m), .slice none 0 0] (fun _ => True) (fun _ => False) rfl rfl ?aP (fun k_ hk_ => hk_.elim) ?aF ?aO ?aB ?aS ?aL ?_; (case aP => exact k44_mkM _ _ _ (⟨rd d m, ([] : List Int)⟩ : S44) (Kd.R_nil _ _ _ _ _)); (case aB => exact (pb2_ HB.1 i.1 l.1)); (case aF => exact (fun _ _ => trivial)); (case aO => exact (by (with_reducible repeat (first | apply Kd.S_alloc | apply Kd.S_drewN | apply Kd.S_drew)); exact Kd.S_mono n.1 (fun k_ hk => ⟨trivial, fun e_ => e_⟩))); (case aS => exact (below_size (pb2_ HB.1 i.1 l.1))); (case aL => have := aC.1; omega); intro bg bm ho hb hg hat; rw [← aE.1] at ho; have _ := Q_ (blk_grown (g := O) (o := .cells #[.slice z j.length B, .slice (some aH) d.length D, .slice A q.length E, .int .i64 s] 33 (0, 0)) (pk_ a.1) hg (Kd.S_ne n.1 a.1 (by decide))); have _ := Q_ (blk_grown (g := v) (o := .cells #[.slice none 0 0, .slice none 0 0] 29 (0, 0)) (pk_ c.1) hg (Kd.S_ne n.1 c.1 (by decide))); have _ := Q_ (hb); have _ := Q_ (ho); clear a c HB n; rename_i a c HB az; clear ho hb hg hat))
    go_roundg k1
    case measure => have := aK.1; omega
    case rel => exact ⟨(aq), (wrap64 (m + 1)), el_, H', ⟨by have := aK.1; omega⟩, ⟨ps_ az.1⟩, ⟨pk_ a.1⟩, ⟨pk_ c.1⟩, ⟨pb2_ HB.1 i.1 l.1⟩⟩
  rw [if_neg T] at H
  have F := decide_eq_false T
  clear T
  (first | rw [F] | (simp only [i64_w, i32_w]; rw [F]) | skip)
  obtain ⟨M, hy379⟩ : ∃ y_ : List Int, y_ = (([] : List Int)) := ⟨_, rfl⟩
  replace H : (if M.length + j.length < 17592186044416 then ((impl_AddGrease.f k1 u a1).bind fun y => (some ((M ++ j), y))) else (none)) = some (r1, r2) := hb_ hy379 H
  have Y := Q_ hy379
  clear hy379
  by_cases ai : M.length + j.length < 17592186044416
  rotate_left
  · rw [if_neg ai] at H
    exact nn_ H
  rw [if_pos ai] at H
  have aD := Q_ ai
  clear ai
  obtain ⟨Q, hy382⟩ : ∃ y_ : List Int, y_ = (M ++ j) := ⟨_, rfl⟩
  replace H : ((impl_AddGrease.f k1 u a1).bind fun y => (some (Q, y))) = some (r1, r2) := hb_ hy382 H
  have aG := Q_ hy382
  clear hy382
  obtain ⟨y, aX, H⟩ := bs_ H
  replace H : (some (Q, y)) = some (r1, r2) := H
  simp only [Option.some.injEq, Prod.mk.injEq] at H
  obtain ⟨rfl, rfl⟩ := H
  go_wp2_with (first | ((with_reducible refine gate_dst (N := 26) rfl ?_); refine Kd.R_lit (Kd.int .i64) _ 3 ?hg (N := 26) ?hd (xs := ([] : List Int)) (inner := []) (ok := fun _ => True) (okp := fun _ => True) ?hr ?hp (fun _ hk => hk) trivial (Below.refl _ _) (Nat.le_refl _) (by simp) ?_; (case hd => rfl); (case hg => rfl); (case hr => first | (go_simp; done) | (go_simp; rfl)); (case hp => exact (Reps.none _ _)); intro aV bn I hb hg_ hnew_; clear hg_ hnew_; (first | rw [← Y.1] at I | (simp only [Int.reduceToNat] at I; rw [← Y.1] at I)); have _ := Q_ (Kd.S_elder' (ps_ n.1) (Kd.R_base I) hb); have _ := Q_ (Kd.R_lower I (below_size (pb2_ HB.1 i.1 l.1))); have _ := Q_ (bb_ a.1 hb); have _ := Q_ (bb_ c.1 hb); have _ := Q_ (below_step (pb2_ HB.1 i.1 l.1) hb); clear n a c HB; rename_i n J a c HB; clear hb I; have a7 := r.1; have ba := t.1; have a3 := bc4_ a.1) | ((with_reducible refine gate_builtin (b := .append) (xs := #[.tmp 26, .tmp 28]) rfl ?_); at_builtin; refine Kd.R_append_rows (Kd.int .i64) (w0 := w) w.heap.size rfl (.tmp 26) (.tmp 28) 22 3 (.int .i64 0) 8 rfl Try.underlying22 info3 rfl (by decide) (by omega) aV M j _ _ _ (fun _ => True) (fun _ => False) rfl rfl ?aO ?aR (fun _ _ h => h) (fun _ h => h.elim) ?aF ?aB ?aS ?aL ?_; (case aR => exact cb_ V HB); (case aB => exact (pb2_ HB.1 i.1 l.1)); (case aF => exact (fun _ _ => trivial)); (case aO => exact (pr_ J.1)); (case aS => exact (below_size (pb2_ HB.1 i.1 l.1))); (case aL => have := aD.1; omega); intro bh bo ho hb hg hat; rw [← aG.1] at ho; have _ := Q_ (Kd.S_after (ok := (fun _ => True)) (ps_ n.1) hg hat); have _ := Q_ (blk_grown (g := O) (o := .cells #[.slice z j.length B, .slice G d.length D, .slice A q.length E, .int .i64 s] 33 (0, 0)) (pk_ a.1) hg (Kd.R_ne J.1 a.1 (by decide))); have _ := Q_ (blk_grown (g := v) (o := .cells #[.slice none 0 0, .slice none 0 0] 29 (0, 0)) (pk_ c.1) hg (Kd.R_ne J.1 c.1 (by decide))); have _ := Q_ (hb); have _ := Q_ (ho); clear n a c HB J; rename_i n a c HB x; clear ho hb hg hat; obtain ⟨aJ, aM, aQ⟩ := Kd.S_slice n.1; subst aQ) | ((with_reducible refine gate_callee (f := 20) rfl ?_); refine gl_ (some 32) Try.func20 #[.slice aJ u.length aM, .int .i64 a1] ?_; (with_reducible refine (impl_AddGrease.calls k1 _ _ u a1 y _ ?side1 ?side2 aX.1).mono ?_); (case side1 => exact pc_ ((Kd.S_reads' n.1).2.2)); (case side2 => exact (Kd.S_reads' n.1).2.1); rintro e bp ⟨bi, rfl, aI, hb⟩; refine ⟨_, rfl, ?_⟩; have _ := Q_ (Kd.S_elder' (ps_ n.1) (Kd.S_base aI) hb); have _ := Q_ (Kd.R_below (pr_ x.1) hb); have _ := Q_ (Kd.S_lower (Kd.S_new' (Kd.S_new' aI (Kd.S_lt (ps_ n.1))) (Kd.R_lt (pr_ x.1))) (below_size (pb2_ HB.1 i.1 l.1))); have _ := Q_ (bb_ a.1 hb); have _ := Q_ (bb_ c.1 hb); have _ := Q_ (below_step (pb2_ HB.1 i.1 l.1) hb); clear n x a c HB; rename_i n x U a c HB; (try clear hb aI); obtain ⟨al, an, aT⟩ := Kd.S_slice U.1; subst aT; obtain ⟨am, ao, aU⟩ := Kd.R_slice x.1; subst aU; have a4 := bc2_ c.1))
  refine bodyPost_ret (results_cell_row rfl _ _ v 29 #[.slice am Q.length ao, .slice al y.length an] (0, 0) _ rfl (pp_ c.1) Try.underlying29 rfl (by kernel_rfl)) rfl ?_
  exact ⟨_, _, er_, pr_ (Kd.R_mono (rf2_ x.1 c.1) (fun _ hk => trivial)), ps_ (Kd.S_mono (Kd.S_far (p := ⟨v, 1, none⟩) (Kd.S_far (p := ⟨v, 0, none⟩) (Kd.S_types U.1 c.1 (by decide)) (fun _ hk => hk.2) (.slice am Q.length ao)) (fun _ hk => hk.2) (.slice al y.length an)) (fun _ hk => hk.1.2)), pb2_ HB.1 i.1 l.1⟩

end Go.Proofs.Ytibmehnippjakaa.Print
