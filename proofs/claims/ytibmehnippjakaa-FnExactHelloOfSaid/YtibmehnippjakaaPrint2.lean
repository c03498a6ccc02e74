-- Written by a program of this session (printx.py) out of the translation; Lean checks it.
import Derived.Test.YtibmehnippjakaaPrint0
import Derived.Test.YtibmehnippjakaaPrint1
namespace Go.Proofs.Ytibmehnippjakaa.Print
open Go.RowKit Go.Proofs.YtibmehnippjakaaW.PrintWords Go.Proofs.YtibmehnippjakaaW.PrintLast Go.Proofs.YtibmehnippjakaaW.PrintMore Go.Proofs.Ytibmehnippjakaa.Short
attribute [local go_sem] max2_int min2_int max_two min_two max_three min_three max_four min_four   -- for this text's walks alone
set_option linter.unusedVariables false
set_option maxHeartbeats 8000000
set_option maxRecDepth 100000
set_option linter.unusedSimpArgs false

/-! ### spec_IsEndpoint: function 15 -/
mutual
def spec_IsEndpoint.l0 : Nat → Int → List Int → List Int → List (S59) → Int → Option (Bool)
 | 0, _, _, _, _, _ => none
 | k + 1, e, b, a, c, d => if e < (a.length : Int) then (if 0 ≤ e then ((spec_l1In.f (rd a e) 0 255).bind fun g => (if g = true then ((spec_IsReserved.f (rd a e)).bind fun h => (if h = true then (some false) else (if e > 0 then (if 0 ≤ (wrap64 (e - 1)) then (if (wrap64 (e - 1)) < (a.length : Int) then (if (rd a (wrap64 (e - 1))) ≥ (rd a e) then (some false) else (spec_IsEndpoint.l0 k (wrap64 (e + 1)) b a c d)) else (none)) else (none)) else (spec_IsEndpoint.l0 k (wrap64 (e + 1)) b a c d)))) else (some false))) else (none)) else (spec_IsEndpoint.l1 k 0 b a c d)
def spec_IsEndpoint.l1 : Nat → Int → List Int → List Int → List (S59) → Int → Option (Bool)
 | 0, _, _, _, _, _ => none
 | k + 1, e, b, c, a, d => if e < (a.length : Int) then (if 0 ≤ e then ((spec_IsBox.f k ((rd_T59 a e).f0) ((rd_T59 a e).f1) ((rd_T59 a e).f2) ((rd_T59 a e).f3)).bind fun g => (if g = true then (spec_IsEndpoint.l1 k (wrap64 (e + 1)) b c a d) else (some false))) else (none)) else ((spec_AreVersions.f k b).bind fun h => (if h = true then (if (c.length : Int) ≤ 5 then (if (a.length : Int) ≤ 4 then ((spec_l1In.f d 0 5).bind fun i => (some i)) else (some false)) else (some false)) else (some false)))
end
def spec_IsEndpoint.f (k : Nat) (b : List Int) (c : List Int) (d : List (S59)) (a : Int) : Option (Bool) := spec_IsEndpoint.l0 k 0 b c d a
theorem spec_IsEndpoint.mono_l : ∀ k, (∀ a b c d e, LeO (spec_IsEndpoint.l0 k a b c d e) (spec_IsEndpoint.l0 (k + 1) a b c d e)) ∧ (∀ a b c d e, LeO (spec_IsEndpoint.l1 k a b c d e) (spec_IsEndpoint.l1 (k + 1) a b c d e))
 | 0 => ⟨fun _ _ _ _ _ r h => by simp [spec_IsEndpoint.l0] at h, fun _ _ _ _ _ r h => by simp [spec_IsEndpoint.l1] at h⟩
 | k + 1 => by
  obtain ⟨ih0, ih1⟩ := spec_IsEndpoint.mono_l k
  refine ⟨?_, ?_⟩
  ·intro a b c d e
   unfold spec_IsEndpoint.l0
   exact mo4_ ih0 ih1 spec_AreVersions.mono spec_IsBox.mono
  ·intro a b c d e
   unfold spec_IsEndpoint.l1
   exact mo4_ ih0 ih1 spec_AreVersions.mono spec_IsBox.mono
theorem spec_IsEndpoint.mono : ∀ a b c d k, LeO (spec_IsEndpoint.f k a b c d) (spec_IsEndpoint.f (k + 1) a b c d) := by
 intro a b c d k
 obtain ⟨ih0, ih1⟩ := spec_IsEndpoint.mono_l k
 unfold spec_IsEndpoint.f
 exact mo4_ ih0 ih1 spec_AreVersions.mono spec_IsBox.mono
def spec_IsEndpoint.T4 : Bool × List (List Nat × List Nat) := (true, [([], []), ([0], [0]), ([], []), ([1, 2], [1, 2]), ([3], [3]), ([4], [4]), ([5], [5]), ([6, 5], [6]), ([7], [7]), ([8, 7], [7, 8]), ([7], [7]), ([9, 10, 7], [7, 9, 10]), ([11, 7], [7, 11]), ([12, 7, 7], [7, 12]), ([7, 13], [7, 13]), ([14, 13], [14]), ([15], [15]), ([16, 15], [15, 16]), ([17, 15, 15], [15, 17]), ([18], [18]), ([19, 18], [18, 19]), ([18], [18]), ([21, 18], [18, 21]), ([20, 22, 18], [18, 20, 22]), ([23, 18], [18, 23]), ([18], [18]), ([25, 18], [18, 25]), ([18], [18]), ([26, 27, 18], [18, 26, 27]), ([28, 18], [18, 28]), ([24, 29, 18], [18, 24, 29]), ([18, 30, 15], [15, 18, 30]), ([15, 31], [15, 31])])
def spec_IsEndpoint.B4 : List Nat := [0, 1, 0, 7, 15, 31, 63, 127, 255, 511, 255, 2047, 4095, 8191, 16383, 32767, 65535, 131071, 262143, 524287, 1048575, 524287, 2621439, 8388607, 16777215, 524287, 34078719, 524287, 235405311, 503840767, 1073741823, 2147483647, 4294967295]
theorem spec_IsEndpoint.tab4 : rtab .any (opsOf Try.f15 4) = spec_IsEndpoint.T4 := by kernel_rfl
theorem spec_IsEndpoint.bits4 : waitsOk spec_IsEndpoint.T4.2 spec_IsEndpoint.B4 = true := by kernel_rfl
theorem spec_IsEndpoint.calls (k : Nat) (x : Option Addr) (y : Nat) (o : List Int) (U : Option Addr) (F : Nat) (c : List Int) (E : Option Addr) (G : Nat) (j : List (S59)) (v : Int) (r : Bool) (w : World) (hr0_0 : Kd.C (Kd.int .i64) w x o.length o) (ak : o.length ≤ y) (hr0_1 : Kd.C (Kd.int .i64) w U c.length c) (al : c.length ≤ F) (hr0_2 : Kd.C k59 w E j.length j) (am : j.length ≤ G) (h : spec_IsEndpoint.f k o c j v = some r) :
  Calls Try.prog 15 #[.agg #[.slice x o.length y, .slice U c.length F, .slice E j.length G, .int .i64 v]] w fun e w' => e = .returned (.bool r) ∧ Below w.heap.size w w' := by
 have hu33 := Try.underlying33
 have hu59 := Try.underlying59
 have T := Q_ hr0_0
 have R := Q_ ak
 clear hr0_0 ak
 have z := Q_ hr0_1
 have a6 := Q_ al
 clear hr0_1 al
 have aL := Q_ hr0_2
 have a7 := Q_ am
 clear hr0_2 am
 have HB := Q_ (Below.refl w.heap.size w)
 have H : (spec_IsEndpoint.l0 k 0 o c j v) = some r := h
 clear h
 have H' := Q_ H
 clear H
 go_enter Try.func15, Try.ntmps15
 go_wp2_with (first | ((with_reducible refine gate_dst (N := 1) rfl ?_); (try (refine gate_guard (by rfl) ?_; dsimp only)); refine bx_ 1 #[.slice x o.length y, .slice U c.length F, .slice E j.length G, .int .i64 v] 33 ?_; intro m hg w2 hbox hb; have _ := Q_ (below_step (pb_ HB.1) hb); have a := Q_ (hbox); have aK := Q_ (gw_ (w := w) hg (pb_ HB.1)); have q := aK; clear HB; rename_i HB; clear hb hbox hg))
 (try simp only [Act.put, s1_, s2_, s3_])
 go_loopg [3] k (fun kq v3 w' => ∃ (b : Int), v3 = .int .i64 b ∧ Aside0 (spec_IsEndpoint.l0 kq b o c j v = some r) ∧ Aside0 (kq ≤ k) ∧ Aside0 (w'.heap[m]? = some (.cells #[(.slice x o.length y), (.slice U c.length F), (.slice E j.length G), .int .i64 v] 33 (0, 0))) ∧ Aside0 (Below w.heap.size w w'))
 case atStart => exact ⟨(0), el_, H', ⟨Nat.le_refl _⟩, ⟨pk_ a.1⟩, ⟨pb1_ HB.1 q.1⟩⟩
 clear H'
 obtain ⟨b, rfl, HA, aa, a, HB⟩ := hrel
 rcases gk with _ | k1
 ·exact absurd HA.1 (by simp [spec_IsEndpoint.l0])
 have H := HA.1
 clear HA
 simp only [spec_IsEndpoint.l0] at H
 by_cases c3 : b < (c.length : Int)
 rotate_left
 ·rw [if_neg c3] at H
  have aW := decide_eq_false c3
  clear c3
  have H' := Q_ H
  clear H
  have bl := bc4_ a.1
  go_wp2
  go_loopg [4] k1 (fun kq v4 w' => ∃ (s : Int), v4 = .int .i64 s ∧ Aside0 (spec_IsEndpoint.l1 kq s o c j v = some r) ∧ Aside0 (kq ≤ k1) ∧ Aside0 (w'.heap[m]? = some (.cells #[(.slice x o.length y), (.slice U c.length F), (.slice E j.length G), .int .i64 v] 33 (0, 0))) ∧ Aside0 (Below w.heap.size w w'))
  case atStart => exact ⟨(0), el_, H', ⟨Nat.le_refl _⟩, ⟨pk_ a.1⟩, ⟨pb1_ HB.1 q.1⟩⟩
  clear H'
  obtain ⟨s, rfl, HA, aV, a, HB⟩ := hrel
  rcases gk with _ | k2
  ·exact absurd HA.1 (by simp [spec_IsEndpoint.l1])
  have H := HA.1
  clear HA
  simp only [spec_IsEndpoint.l1] at H
  by_cases c5 : s < (j.length : Int)
  ·rw [if_pos c5] at H
   have aX := decide_eq_true c5
   clear c5
   by_cases c6 : 0 ≤ s
   rotate_left
   ·rw [if_neg c6] at H
    exact nn_ H
   rw [if_pos c6] at H
   have bk := decide_eq_true c6
   clear c6
   obtain ⟨aI, A7, H⟩ := bs_ H
   (try dsimp only at H)
   have HS_ := Q_ H
   clear H
   have bm := bc4_ a.1
   have ap : 0 ≤ (s : Int) := dt_
   have au : s < (j.length : Int) := dt_
   obtain ⟨a8, aw, aB, ax, aC, a0, W, X, Y, Z, ag, ai, ah, aj⟩ := at_U59 aL.1 s ap au
   cases a0
   replace W := bt_ HB W
   replace X := bt_ HB X
   replace Y := bt_ HB Y
   replace Z := bt_ HB Z
   replace ap := eq_true ap
   replace au := eq_true au
   go_upto_if 58 with (first | ((with_reducible refine gate_callee (f := 32) rfl ?_); refine gl_ (some 57) Try.func32 #[.agg #[.int .i64 ((rd_T59 j s).f0), .slice aw ((rd_T59 j s).f1).length aB, .slice ax ((rd_T59 j s).f2).length aC, .bool ((rd_T59 j s).f3)]] ?_; (with_reducible refine (spec_IsBox.calls k2 ((rd_T59 j s).f0) _ _ ((rd_T59 j s).f1) _ _ ((rd_T59 j s).f2) ((rd_T59 j s).f3) aI _ (cb_ ai HB) ag.1 (cb_ aj HB) ah.1 A7.1).mono ?_); rintro e w9 ⟨rfl, hb⟩; refine ⟨_, rfl, ?_⟩; have _ := Q_ (bb_ a.1 hb); have _ := Q_ (below_step (pb1_ HB.1 q.1) hb); clear a HB; rename_i a HB; (try clear hb)))
   (try simp only [Act.put, s1_, s2_, s3_])
   have H := HS_.1
   clear HS_
   by_cases az : aI = true
   rotate_left
   ·replace az := bf_ az
    subst az
    rw [if_neg ff_] at H
    obtain rfl := Option.some.inj H
    go_wp2
    go_ret
    exact ⟨er_, pb1_ HB.1 q.1⟩
   subst az
   rw [if_pos rfl] at H
   have H' := Q_ H
   clear H
   go_wp2
   go_roundg k2
   case measure => have := aa.1; have := aV.1; omega
   case rel => exact ⟨(wrap64 (s + 1)), el_, H', ⟨by have := aa.1; have := aV.1; omega⟩, ⟨pk_ a.1⟩, ⟨pb1_ HB.1 q.1⟩⟩
  rw [if_neg c5] at H
  have aX := decide_eq_false c5
  clear c5
  obtain ⟨a3, av, H⟩ := bs_ H
  (try dsimp only at H)
  by_cases aA : a3 = true
  rotate_left
  ·replace aA := bf_ aA
   subst aA
   rw [if_neg ff_] at H
   obtain rfl := Option.some.inj H
   have bc := bc4_ a.1
   go_wp2_with (first | ((with_reducible refine gate_callee (f := 33) rfl ?_); refine gl_ (some 61) Try.func33 #[.slice x o.length y] ?_; (with_reducible refine (spec_AreVersions.calls k2 _ _ o false _ (cb_ T HB) R.1 av.1).mono ?_); rintro e w' ⟨rfl, ⟨nd, rfl⟩⟩; refine ⟨_, rfl, ?_⟩))
   go_ret
   exact ⟨er_, pb1_ HB.1 q.1⟩
  subst aA
  rw [if_pos rfl] at H
  by_cases ab : (c.length : Int) ≤ 5
  rotate_left
  ·rw [if_neg ab] at H
   have aO := decide_eq_false ab
   have aP : decide (c.length ≤ 5) = false := decide_eq_false (by omega)
   clear ab
   obtain rfl := Option.some.inj H
   have bd := bc4_ a.1
   go_wp2_with (first | ((with_reducible refine gate_callee (f := 33) rfl ?_); refine gl_ (some 61) Try.func33 #[.slice x o.length y] ?_; (with_reducible refine (spec_AreVersions.calls k2 _ _ o true _ (cb_ T HB) R.1 av.1).mono ?_); rintro e w' ⟨rfl, ⟨nd, rfl⟩⟩; refine ⟨_, rfl, ?_⟩))
   go_ret
   exact ⟨er_, pb1_ HB.1 q.1⟩
  rw [if_pos ab] at H
  have aO := decide_eq_true ab
  have aP : decide (c.length ≤ 5) = true := decide_eq_true (by omega)
  clear ab
  by_cases ac : (j.length : Int) ≤ 4
  rotate_left
  ·rw [if_neg ac] at H
   have aQ := decide_eq_false ac
   have aR : decide (j.length ≤ 4) = false := decide_eq_false (by omega)
   clear ac
   obtain rfl := Option.some.inj H
   have be := bc4_ a.1
   go_wp2_with (first | ((with_reducible refine gate_callee (f := 33) rfl ?_); refine gl_ (some 61) Try.func33 #[.slice x o.length y] ?_; (with_reducible refine (spec_AreVersions.calls k2 _ _ o true _ (cb_ T HB) R.1 av.1).mono ?_); rintro e w' ⟨rfl, ⟨nd, rfl⟩⟩; refine ⟨_, rfl, ?_⟩))
   go_ret
   exact ⟨er_, pb1_ HB.1 q.1⟩
  rw [if_pos ac] at H
  have aQ := decide_eq_true ac
  have aR : decide (j.length ≤ 4) = true := decide_eq_true (by omega)
  clear ac
  obtain ⟨aJ, a5, H⟩ := bs_ H
  replace H : (some aJ) = some r := H
  obtain rfl := Option.some.inj H
  have bf := bc4_ a.1
  go_wp2_with (first | ((with_reducible refine gate_callee (f := 33) rfl ?_); refine gl_ (some 61) Try.func33 #[.slice x o.length y] ?_; (with_reducible refine (spec_AreVersions.calls k2 _ _ o true _ (cb_ T HB) R.1 av.1).mono ?_); rintro e w' ⟨rfl, ⟨nd, rfl⟩⟩; refine ⟨_, rfl, ?_⟩) | (go_at_call 30; (with_reducible refine (spec_l1In.calls v 0 5 aJ _ a5.1).mono ?_); rintro e w' ⟨rfl, ⟨nd, rfl⟩⟩))
  go_ret
  exact ⟨er_, pb1_ HB.1 q.1⟩
 rw [if_pos c3] at H
 have aW := decide_eq_true c3
 clear c3
 by_cases aD : 0 ≤ b
 rotate_left
 ·rw [if_neg aD] at H
  exact nn_ H
 rw [if_pos aD] at H
 have a9 := decide_eq_true aD
 clear aD
 obtain ⟨a1, af, H⟩ := bs_ H
 (try dsimp only at H)
 by_cases aE : a1 = true
 rotate_left
 ·replace aE := bf_ aE
  subst aE
  rw [if_neg ff_] at H
  obtain rfl := Option.some.inj H
  have bg := bc4_ a.1
  try go_wp2
  have _ := Q_ (blk_drew a.1)
  have _ := Q_ (below_drew1 HB.1)
  clear a HB
  rename_i a HB
  have t : 0 ≤ (b : Int) := dt_
  have u : b < (c.length : Int) := dt_
  obtain ⟨l, O, d⟩ := Kd.at_int z.1 b t u
  have g := d
  cases O
  replace d := bt_ HB d
  replace t := eq_true t
  replace u := eq_true u
  refine start_ (n := 33) (S := fun w' => w'.cell? ⟨m, 0, none⟩ = some (.slice x o.length y) ∧ w'.cell? ⟨m, 1, none⟩ = some (.slice (some l) c.length F) ∧ w'.cell? ⟨m, 2, none⟩ = some (.slice E j.length G) ∧ w'.cell? ⟨m, 3, none⟩ = some (.int .i64 v) ∧ w'.cell? (l.add (b).toNat) = some (.int .i64 (rd c b))) (ds := []) (tf_ 0 33) (by kernel_rfl) rfl rfl ⟨(blk_cell a.1 0).trans rfl, (blk_cell a.1 1).trans rfl, (blk_cell a.1 2).trans rfl, (blk_cell a.1 3).trans rfl, (bt_ HB g)⟩ (fun hHeld => ?_); refine with_tabW spec_IsEndpoint.tab4 spec_IsEndpoint.bits4 (fun HT_ HW_ => ?_)
  generalize wr.drew = bq at a HB d hHeld ⊢
  refine pu1_ 0 12 33 1 ?_
  refine pu1_ 2 14 33 5 ?_
  refine ta1_ 1 13 33 7 hHeld ?_
  refine pu1_ 3 15 33 15 ?_
  refine ta1_ 4 16 33 31 hHeld ?_
  refine on_ 5 (some 17) (tf_ 6 33) HT_ (fun K hK => ?_)
  refine goes_ Try.func30 (by kernel_rfl) rfl #[.int .i64 (rd c b), .int .i64 0, .int .i64 255] (by rfl) rfl rfl mp_ ?_
  with_reducible refine (spec_l1In.calls (rd c b) 0 255 false _ af.1).mono ?_
  rintro e w' ⟨rfl, ⟨nd, rfl⟩⟩
  refine ⟨_, rfl, ?_⟩
  refine hK.out _ _ ⟨(blk_cell a.1 0).trans rfl, (blk_cell a.1 1).trans rfl, (blk_cell a.1 2).trans rfl, (blk_cell a.1 3).trans rfl, (bt_ HB g)⟩ (fun hHeld => ?_)
  clear hK K
  refine no_ (some 17) ?_
  refine pu1_ 6 18 33 127 ?_
  refine pu1_ 7 19 33 255 ?_
  refine pn1_ 8 20 33 511 ?_
  refine pn1_ 9 21 33 1023 ?_
  refine pn1_ 10 22 33 2047 ?_
  refine pn1_ 11 23 33 4095 ?_
  refine pn1_ 12 24 33 8191 ?_
  refine pn1_ 13 25 33 16383 ?_
  refine pu1_ 14 26 33 32767 ?_
  refine pu1_ 15 27 33 65535 ?_
  refine pn1_ 16 28 33 131071 ?_
  refine pn1_ 17 29 33 262143 ?_
  refine pn1_ 18 30 33 524287 ?_
  refine pn1_ 19 31 33 1048575 ?_
  refine pn1_ 20 32 33 2097151 ?_
  refine pn1_ 21 33 33 4194303 ?_
  refine pn1_ 22 34 33 8388607 ?_
  refine pn1_ 23 35 33 16777215 ?_
  refine pn1_ 24 36 33 33554431 ?_
  refine pn1_ 25 37 33 67108863 ?_
  refine pn1_ 26 38 33 134217727 ?_
  refine pn1_ 27 39 33 268435455 ?_
  refine pn1_ 28 40 33 536870911 ?_
  refine pn1_ 29 41 33 1073741823 ?_
  refine pn1_ 30 42 33 2147483647 ?_
  refine pn1_ 31 43 33 4294967295 ?_
  refine pu1_ 32 44 33 8589934591 ?_
  refine done_ (done_of HT_.1 (by kernel_rfl)) ?_
  try go_wp2
  go_ret
  exact ⟨er_, pb1_ HB.1 q.1⟩
 subst aE
 rw [if_pos rfl] at H
 obtain ⟨a2, ay, H⟩ := bs_ H
 (try dsimp only at H)
 by_cases aF : a2 = true
 ·subst aF
  rw [if_pos rfl] at H
  obtain rfl := Option.some.inj H
  have bh := bc4_ a.1
  try go_wp2
  have _ := Q_ (blk_drew a.1)
  have _ := Q_ (below_drew1 HB.1)
  clear a HB
  rename_i a HB
  have t : 0 ≤ (b : Int) := dt_
  have u : b < (c.length : Int) := dt_
  obtain ⟨l, O, d⟩ := Kd.at_int z.1 b t u
  have g := d
  cases O
  replace d := bt_ HB d
  replace t := eq_true t
  replace u := eq_true u
  have B : 0 ≤ (b : Int) := dt_
  have D : b < (c.length : Int) := dt_
  obtain ⟨L, V, i⟩ := Kd.at_int z.1 b B D
  have p := i
  obtain rfl : l = L := (by injection V)
  replace i := bt_ HB i
  replace B := eq_true B
  replace D := eq_true D
  refine start_ (n := 33) (S := fun w' => w'.cell? ⟨m, 0, none⟩ = some (.slice x o.length y) ∧ w'.cell? ⟨m, 1, none⟩ = some (.slice (some l) c.length F) ∧ w'.cell? ⟨m, 2, none⟩ = some (.slice E j.length G) ∧ w'.cell? ⟨m, 3, none⟩ = some (.int .i64 v) ∧ w'.cell? (l.add (b).toNat) = some (.int .i64 (rd c b)) ∧ w'.cell? (l.add (b).toNat) = some (.int .i64 (rd c b))) (ds := []) (tf_ 0 33) (by kernel_rfl) rfl rfl ⟨(blk_cell a.1 0).trans rfl, (blk_cell a.1 1).trans rfl, (blk_cell a.1 2).trans rfl, (blk_cell a.1 3).trans rfl, (bt_ HB g), (bt_ HB p)⟩ (fun hHeld => ?_); refine with_tabW spec_IsEndpoint.tab4 spec_IsEndpoint.bits4 (fun HT_ HW_ => ?_)
  generalize wr.drew = br at a HB d i hHeld ⊢
  refine pu1_ 0 12 33 1 ?_
  refine pu1_ 2 14 33 5 ?_
  refine ta1_ 1 13 33 7 hHeld ?_
  refine pu1_ 3 15 33 15 ?_
  refine ta1_ 4 16 33 31 hHeld ?_
  refine on_ 5 (some 17) (tf_ 6 33) HT_ (fun K hK => ?_)
  refine goes_ Try.func30 (by kernel_rfl) rfl #[.int .i64 (rd c b), .int .i64 0, .int .i64 255] (by rfl) rfl rfl mp_ ?_
  with_reducible refine (spec_l1In.calls (rd c b) 0 255 true _ af.1).mono ?_
  rintro e w' ⟨rfl, ⟨nd, rfl⟩⟩
  refine ⟨_, rfl, ?_⟩
  refine hK.out _ _ ⟨(blk_cell a.1 0).trans rfl, (blk_cell a.1 1).trans rfl, (blk_cell a.1 2).trans rfl, (blk_cell a.1 3).trans rfl, (bt_ HB g), (bt_ HB p)⟩ (fun hHeld => ?_)
  clear hK K
  refine no_ (some 17) ?_
  refine pu1_ 6 18 33 127 ?_
  refine pu1_ 7 19 33 255 ?_
  refine pu1_ 8 20 33 511 ?_
  refine pu1_ 10 22 33 1535 ?_
  refine ta1_ 9 21 33 2047 hHeld ?_
  refine pu1_ 11 23 33 4095 ?_
  refine ta1_ 12 24 33 8191 hHeld ?_
  refine on_ 13 (some 25) (tf_ 14 33) HT_ (fun K hK => ?_)
  refine goes_ Try.func31 (by kernel_rfl) rfl #[.int .i64 (rd c b)] (by rfl) rfl rfl mp_ ?_
  with_reducible refine (spec_IsReserved.calls (rd c b) true _ ay.1).mono ?_
  rintro e w' ⟨rfl, ⟨nd, rfl⟩⟩
  refine ⟨_, rfl, ?_⟩
  refine hK.out _ _ ⟨(blk_cell a.1 0).trans rfl, (blk_cell a.1 1).trans rfl, (blk_cell a.1 2).trans rfl, (blk_cell a.1 3).trans rfl, (bt_ HB g), (bt_ HB p)⟩ (fun hHeld => ?_)
  clear hK K
  refine no_ (some 25) ?_
  refine pu1_ 14 26 33 32767 ?_
  refine pu1_ 15 27 33 65535 ?_
  refine pn1_ 16 28 33 131071 ?_
  refine pn1_ 17 29 33 262143 ?_
  refine pn1_ 18 30 33 524287 ?_
  refine pn1_ 19 31 33 1048575 ?_
  refine pn1_ 20 32 33 2097151 ?_
  refine pn1_ 21 33 33 4194303 ?_
  refine pn1_ 22 34 33 8388607 ?_
  refine pn1_ 23 35 33 16777215 ?_
  refine pn1_ 24 36 33 33554431 ?_
  refine pn1_ 25 37 33 67108863 ?_
  refine pn1_ 26 38 33 134217727 ?_
  refine pn1_ 27 39 33 268435455 ?_
  refine pn1_ 28 40 33 536870911 ?_
  refine pn1_ 29 41 33 1073741823 ?_
  refine pn1_ 30 42 33 2147483647 ?_
  refine pn1_ 31 43 33 4294967295 ?_
  refine pu1_ 32 44 33 8589934591 ?_
  refine done_ (done_of HT_.1 (by kernel_rfl)) ?_
  try go_wp2
  go_ret
  exact ⟨er_, pb1_ HB.1 q.1⟩
 replace aF := bf_ aF
 subst aF
 rw [if_neg ff_] at H
 by_cases ad : b > 0
 rotate_left
 ·rw [if_neg ad] at H
  have aS := decide_eq_false ad
  clear ad
  have H' := Q_ H
  clear H
  have bi := bc4_ a.1
  try go_wp2
  have _ := Q_ (blk_drew a.1)
  have _ := Q_ (below_drew1 HB.1)
  clear a HB
  rename_i a HB
  have t : 0 ≤ (b : Int) := dt_
  have u : b < (c.length : Int) := dt_
  obtain ⟨l, O, d⟩ := Kd.at_int z.1 b t u
  have g := d
  cases O
  replace d := bt_ HB d
  replace t := eq_true t
  replace u := eq_true u
  have B : 0 ≤ (b : Int) := dt_
  have D : b < (c.length : Int) := dt_
  obtain ⟨L, V, i⟩ := Kd.at_int z.1 b B D
  have p := i
  obtain rfl : l = L := (by injection V)
  replace i := bt_ HB i
  replace B := eq_true B
  replace D := eq_true D
  refine start_ (n := 33) (S := fun w' => w'.cell? ⟨m, 0, none⟩ = some (.slice x o.length y) ∧ w'.cell? ⟨m, 1, none⟩ = some (.slice (some l) c.length F) ∧ w'.cell? ⟨m, 2, none⟩ = some (.slice E j.length G) ∧ w'.cell? ⟨m, 3, none⟩ = some (.int .i64 v) ∧ w'.cell? (l.add (b).toNat) = some (.int .i64 (rd c b)) ∧ w'.cell? (l.add (b).toNat) = some (.int .i64 (rd c b))) (ds := []) (tf_ 0 33) (by kernel_rfl) rfl rfl ⟨(blk_cell a.1 0).trans rfl, (blk_cell a.1 1).trans rfl, (blk_cell a.1 2).trans rfl, (blk_cell a.1 3).trans rfl, (bt_ HB g), (bt_ HB p)⟩ (fun hHeld => ?_); refine with_tabW spec_IsEndpoint.tab4 spec_IsEndpoint.bits4 (fun HT_ HW_ => ?_)
  generalize wr.drew = bs at a HB d i hHeld ⊢
  refine pu1_ 0 12 33 1 ?_
  refine pu1_ 2 14 33 5 ?_
  refine ta1_ 1 13 33 7 hHeld ?_
  refine pu1_ 3 15 33 15 ?_
  refine ta1_ 4 16 33 31 hHeld ?_
  refine on_ 5 (some 17) (tf_ 6 33) HT_ (fun K hK => ?_)
  refine goes_ Try.func30 (by kernel_rfl) rfl #[.int .i64 (rd c b), .int .i64 0, .int .i64 255] (by rfl) rfl rfl mp_ ?_
  with_reducible refine (spec_l1In.calls (rd c b) 0 255 true _ af.1).mono ?_
  rintro e w' ⟨rfl, ⟨nd, rfl⟩⟩
  refine ⟨_, rfl, ?_⟩
  refine hK.out _ _ ⟨(blk_cell a.1 0).trans rfl, (blk_cell a.1 1).trans rfl, (blk_cell a.1 2).trans rfl, (blk_cell a.1 3).trans rfl, (bt_ HB g), (bt_ HB p)⟩ (fun hHeld => ?_)
  clear hK K
  refine no_ (some 17) ?_
  refine pu1_ 6 18 33 127 ?_
  refine pu1_ 7 19 33 255 ?_
  refine pu1_ 8 20 33 511 ?_
  refine pu1_ 10 22 33 1535 ?_
  refine ta1_ 9 21 33 2047 hHeld ?_
  refine pu1_ 11 23 33 4095 ?_
  refine ta1_ 12 24 33 8191 hHeld ?_
  refine on_ 13 (some 25) (tf_ 14 33) HT_ (fun K hK => ?_)
  refine goes_ Try.func31 (by kernel_rfl) rfl #[.int .i64 (rd c b)] (by rfl) rfl rfl mp_ ?_
  with_reducible refine (spec_IsReserved.calls (rd c b) false _ ay.1).mono ?_
  rintro e w' ⟨rfl, ⟨nd, rfl⟩⟩
  refine ⟨_, rfl, ?_⟩
  refine hK.out _ _ ⟨(blk_cell a.1 0).trans rfl, (blk_cell a.1 1).trans rfl, (blk_cell a.1 2).trans rfl, (blk_cell a.1 3).trans rfl, (bt_ HB g), (bt_ HB p)⟩ (fun hHeld => ?_)
  clear hK K
  refine no_ (some 25) ?_
  refine pu1_ 14 26 33 32767 ?_
  refine pu1_ 15 27 33 65535 ?_
  refine pu1_ 16 28 33 131071 ?_
  refine pu1_ 17 29 33 262143 ?_
  refine pu1_ 18 30 33 524287 ?_
  refine pn1_ 19 31 33 1048575 ?_
  refine pn1_ 20 32 33 2097151 ?_
  refine pn1_ 21 33 33 4194303 ?_
  refine pn1_ 22 34 33 8388607 ?_
  refine pn1_ 23 35 33 16777215 ?_
  refine pn1_ 24 36 33 33554431 ?_
  refine pn1_ 25 37 33 67108863 ?_
  refine pn1_ 26 38 33 134217727 ?_
  refine pn1_ 27 39 33 268435455 ?_
  refine pn1_ 28 40 33 536870911 ?_
  refine pn1_ 29 41 33 1073741823 ?_
  refine pn1_ 30 42 33 2147483647 ?_
  refine pu1_ 31 43 33 4294967295 ?_
  refine pu1_ 32 44 33 8589934591 ?_
  refine done_ (done_of HT_.1 (by kernel_rfl)) ?_
  try go_wp2
  go_roundg k1
  case measure => have := aa.1; omega
  case rel => exact ⟨(wrap64 (b + 1)), el_, H', ⟨by have := aa.1; omega⟩, ⟨pk_ a.1⟩, ⟨pb1_ HB.1 q.1⟩⟩
 rw [if_pos ad] at H
 have aS := decide_eq_true ad
 clear ad
 obtain ⟨A, hji32⟩ : ∃ j_ : Int, (wrap64 (b - 1)) = j_ := ⟨_, rfl⟩
 replace H : (if 0 ≤ (A) then (if (A) < (c.length : Int) then (if (rd c (A)) ≥ (rd c b) then (some false) else (spec_IsEndpoint.l0 k1 (wrap64 (b + 1)) o c j v)) else (none)) else (none)) = some r := by first | (rw [hji32] at H; exact H) | (simp only [hji32] at H ⊢; exact H)
 (try rw [hji32] at af)
 (try rw [hji32] at ay)
 have hji32w : (IntKind.i64.wrap (b - 1)) = A := (i64_w _).trans hji32
 by_cases aG : 0 ≤ (A)
 rotate_left
 ·rw [if_neg aG] at H
  exact nn_ H
 rw [if_pos aG] at H
 have ba := decide_eq_true aG
 clear aG
 by_cases aH : (A) < (c.length : Int)
 rotate_left
 ·rw [if_neg aH] at H
  exact nn_ H
 rw [if_pos aH] at H
 have bb := decide_eq_true aH
 clear aH
 have HS_ := Q_ H
 clear H
 have bj := bc4_ a.1
 try go_wp2
 have _ := Q_ (blk_drew a.1)
 have _ := Q_ (below_drew1 HB.1)
 clear a HB
 rename_i a HB
 have t : 0 ≤ (b : Int) := dt_
 have u : b < (c.length : Int) := dt_
 obtain ⟨l, O, d⟩ := Kd.at_int z.1 b t u
 have g := d
 cases O
 replace d := bt_ HB d
 replace t := eq_true t
 replace u := eq_true u
 have B : 0 ≤ (b : Int) := dt_
 have D : b < (c.length : Int) := dt_
 obtain ⟨L, V, i⟩ := Kd.at_int z.1 b B D
 have p := i
 obtain rfl : l = L := (by injection V)
 replace i := bt_ HB i
 replace B := eq_true B
 replace D := eq_true D
 have an : 0 ≤ ((A) : Int) := dt_
 have aq : (A) < (c.length : Int) := dt_
 obtain ⟨aM, aY, I⟩ := Kd.at_int z.1 (A) an aq
 have P := I
 obtain rfl : l = aM := (by injection aY)
 replace I := bt_ HB I
 replace an := eq_true an
 replace aq := eq_true aq
 have ao : 0 ≤ (b : Int) := dt_
 have ar : b < (c.length : Int) := dt_
 obtain ⟨aN, aZ, J⟩ := Kd.at_int z.1 b ao ar
 have Q := J
 obtain rfl : l = aN := (by injection aZ)
 replace J := bt_ HB J
 replace ao := eq_true ao
 replace ar := eq_true ar
 refine start_ (n := 33) (S := fun w' => w'.cell? ⟨m, 0, none⟩ = some (.slice x o.length y) ∧ w'.cell? ⟨m, 1, none⟩ = some (.slice (some l) c.length F) ∧ w'.cell? ⟨m, 2, none⟩ = some (.slice E j.length G) ∧ w'.cell? ⟨m, 3, none⟩ = some (.int .i64 v) ∧ w'.cell? (l.add (b).toNat) = some (.int .i64 (rd c b)) ∧ w'.cell? (l.add (b).toNat) = some (.int .i64 (rd c b)) ∧ w'.cell? (l.add ((A)).toNat) = some (.int .i64 (rd c (A))) ∧ w'.cell? (l.add (b).toNat) = some (.int .i64 (rd c b))) (ds := []) (tf_ 0 33) (by kernel_rfl) rfl rfl ⟨(blk_cell a.1 0).trans rfl, (blk_cell a.1 1).trans rfl, (blk_cell a.1 2).trans rfl, (blk_cell a.1 3).trans rfl, (bt_ HB g), (bt_ HB p), (bt_ HB P), (bt_ HB Q)⟩ (fun hHeld => ?_); refine with_tabW spec_IsEndpoint.tab4 spec_IsEndpoint.bits4 (fun HT_ HW_ => ?_)
 generalize wr.drew = bt at a HB d i I J hHeld ⊢
 refine pu1_ 0 12 33 1 ?_
 refine pu1_ 2 14 33 5 ?_
 refine ta1_ 1 13 33 7 hHeld ?_
 refine pu1_ 3 15 33 15 ?_
 refine ta1_ 4 16 33 31 hHeld ?_
 refine on_ 5 (some 17) (tf_ 6 33) HT_ (fun K hK => ?_)
 refine goes_ Try.func30 (by kernel_rfl) rfl #[.int .i64 (rd c b), .int .i64 0, .int .i64 255] (by rfl) rfl rfl mp_ ?_
 with_reducible refine (spec_l1In.calls (rd c b) 0 255 true _ af.1).mono ?_
 rintro e w' ⟨rfl, ⟨nd, rfl⟩⟩
 refine ⟨_, rfl, ?_⟩
 refine hK.out _ _ ⟨(blk_cell a.1 0).trans rfl, (blk_cell a.1 1).trans rfl, (blk_cell a.1 2).trans rfl, (blk_cell a.1 3).trans rfl, (bt_ HB g), (bt_ HB p), (bt_ HB P), (bt_ HB Q)⟩ (fun hHeld => ?_)
 clear hK K
 refine no_ (some 17) ?_
 refine pu1_ 6 18 33 127 ?_
 refine pu1_ 7 19 33 255 ?_
 refine pu1_ 8 20 33 511 ?_
 refine pu1_ 10 22 33 1535 ?_
 refine ta1_ 9 21 33 2047 hHeld ?_
 refine pu1_ 11 23 33 4095 ?_
 refine ta1_ 12 24 33 8191 hHeld ?_
 refine on_ 13 (some 25) (tf_ 14 33) HT_ (fun K hK => ?_)
 refine goes_ Try.func31 (by kernel_rfl) rfl #[.int .i64 (rd c b)] (by rfl) rfl rfl mp_ ?_
 with_reducible refine (spec_IsReserved.calls (rd c b) false _ ay.1).mono ?_
 rintro e w' ⟨rfl, ⟨nd, rfl⟩⟩
 refine ⟨_, rfl, ?_⟩
 refine hK.out _ _ ⟨(blk_cell a.1 0).trans rfl, (blk_cell a.1 1).trans rfl, (blk_cell a.1 2).trans rfl, (blk_cell a.1 3).trans rfl, (bt_ HB g), (bt_ HB p), (bt_ HB P), (bt_ HB Q)⟩ (fun hHeld => ?_)
 clear hK K
 refine no_ (some 25) ?_
 refine pu1_ 14 26 33 32767 ?_
 refine pu1_ 15 27 33 65535 ?_
 refine pu1_ 16 28 33 131071 ?_
 refine pu1_ 17 29 33 262143 ?_
 refine pu1_ 18 30 33 524287 ?_
 refine pu1_ 19 31 33 1048575 ?_
 refine pu1_ 21 33 33 3145727 ?_
 refine pu1_ 22 34 33 7340031 ?_
 refine pu1_ 25 37 33 40894463 ?_
 refine pu1_ 27 39 33 175112191 ?_
 refine ta1_ 20 32 33 176160767 hHeld ?_
 refine pu1_ 23 35 33 184549375 ?_
 refine ta1_ 24 36 33 201326591 hHeld ?_
 refine ta1_ 26 38 33 268435455 hHeld ?_
 refine pu1_ 28 40 33 536870911 ?_
 refine ta1_ 29 41 33 1073741823 hHeld ?_
 refine pu1_ 30 42 33 2147483647 ?_
 refine pu1_ 31 43 33 4294967295 ?_
 refine pu1_ 32 44 33 8589934591 ?_
 refine done_ (done_of HT_.1 (by kernel_rfl)) ?_
 go_upto_if 44 with (fail)
 have H := HS_.1
 clear HS_
 by_cases ae : (rd c (A)) ≥ (rd c b)
 rotate_left
 ·rw [if_neg ae] at H
  have M := decide_eq_false ae
  clear ae
  (first | rw [M] | (simp only [i64_w, i32_w]; rw [M]) | skip)
  have H' := Q_ H
  clear H
  go_wp2
  go_roundg k1
  case measure => have := aa.1; omega
  case rel => exact ⟨(wrap64 (b + 1)), el_, H', ⟨by have := aa.1; omega⟩, ⟨pk_ a.1⟩, ⟨pb1_ HB.1 q.1⟩⟩
 rw [if_pos ae] at H
 have M := decide_eq_true ae
 clear ae
 (first | rw [M] | (simp only [i64_w, i32_w]; rw [M]) | skip)
 obtain rfl := Option.some.inj H
 go_wp2
 go_ret
 exact ⟨by first | rfl | (simp [errW_none, errW_some] <;> rfl) | (simp only [← hji32]; first | rfl | (simp [errW_none, errW_some] <;> rfl)) | (simp [*, errW_none, errW_some] <;> rfl), pb1_ HB.1 q.1⟩

/-! ### spec_Mod: function 59 -/
def spec_Mod.f (c : Int) (a : Int) : Option (Int) := (spec_l1In.f a 1 1000000000000).bind fun b => (if b = true then (if a = 0 then (none) else (some (Int.tmod (wrap64 ((Int.tmod c a) + a)) a))) else (some 0))
theorem spec_Mod.calls (j : Int) (b : Int) (r : Int) (w : World) (h : spec_Mod.f j b = some r) :
  Calls Try.prog 59 #[.int .i64 j, .int .i64 b] w fun e w' => e = .returned (.int .i64 r) ∧ Drawn0 w w' := by
 have H : ((spec_l1In.f b 1 1000000000000).bind fun a => (if a = true then (if b = 0 then (none) else (some (Int.tmod (wrap64 ((Int.tmod j b) + b)) b))) else (some 0))) = some r := h
 clear h
 obtain ⟨a, k, H⟩ := bs_ H
 (try dsimp only at H)
 have HS_ := Q_ H
 clear H
 go_enter Try.func59, Try.ntmps59
 go_upto_if 7 with (first | ((with_reducible refine gate_callee (f := 30) rfl ?_); refine gl_ (some 6) Try.func30 #[.int .i64 b, .int .i64 1, .int .i64 1000000000000] ?_; (with_reducible refine (spec_l1In.calls b 1 1000000000000 a _ k.1).mono ?_); rintro e w' ⟨rfl, ⟨nd, rfl⟩⟩; refine ⟨_, rfl, ?_⟩))
 (try simp only [Act.put, s1_, s2_, s3_])
 have H := HS_.1
 clear HS_
 by_cases g : a = true
 rotate_left
 ·replace g := bf_ g
  subst g
  rw [if_neg ff_] at H
  obtain rfl := Option.some.inj H
  go_wp2
  go_ret
  exact ⟨by first | rfl | (simp; done) | (simp [*]; done), by repeat (first | exact Drawn0.refl _ | apply Drawn0.step)⟩
 subst g
 rw [if_pos rfl] at H
 by_cases i : b = 0
 rotate_left
 ·rw [if_neg i] at H
  have c : (b == 0) = false := beq_eq_false_iff_ne.mpr i
  have d : (b != 0) = true := bne_iff_ne.mpr i
  (first | rw [c] | (simp only [i64_w, i32_w]; rw [c]) | rw [d] | (have c_ := d; rw [bne] at c_; rw [c_]; clear c_) | skip)
  obtain rfl := Option.some.inj H
  go_wp2
  go_ret
  exact ⟨by first | rfl | (simp; done) | (simp [*]; done), by repeat (first | exact Drawn0.refl _ | apply Drawn0.step)⟩
 rw [if_pos i] at H
 exact nn_ H

/-! ### spec_Hash: function 60 -/
def spec_Hash.l0 : Nat → List Int → Int → Int → Option (Int)
 | 0, _, _, _ => none
 | k + 1, c, d, b => if b < (c.length : Int) then (if 0 ≤ b then ((spec_Mod.f (rd c b) 2147483647).bind fun a => (spec_Hash.l0 k c (Int.tmod (wrap64 ((wrap64 ((wrap64 (d * 1000003)) + a)) + 13)) 2147483647) (wrap64 (b + 1)))) else (none)) else (some d)
def spec_Hash.f (k : Nat) (a : List Int) : Option (Int) := spec_Hash.l0 k a 11 0
theorem spec_Hash.mono_l : ∀ k, (∀ a b c, LeO (spec_Hash.l0 k a b c) (spec_Hash.l0 (k + 1) a b c))
 | 0 => fun _ _ _ r h => by simp [spec_Hash.l0] at h
 | k + 1 => by
  have ih0 := spec_Hash.mono_l k
  ·intro a b c
   unfold spec_Hash.l0
   exact mo1_ ih0
theorem spec_Hash.mono : ∀ a k, LeO (spec_Hash.f k a) (spec_Hash.f (k + 1) a) := by
 intro a k
 have ih0 := spec_Hash.mono_l k
 unfold spec_Hash.f
 exact mo1_ ih0
theorem spec_Hash.calls (k : Nat) (u : Option Addr) (v : Nat) (c : List Int) (r : Int) (w : World) (hr0 : Kd.C (Kd.int .i64) w u c.length c) (o : c.length ≤ v) (h : spec_Hash.f k c = some r) :
  Calls Try.prog 60 #[.slice u c.length v] w fun e w' => e = .returned (.int .i64 r) ∧ Drawn0 w w' := by
 have s := Q_ hr0
 have z := Q_ o
 clear hr0 o
 have H : (spec_Hash.l0 k c 11 0) = some r := h
 clear h
 have H' := Q_ H
 clear H
 go_enter Try.func60, Try.ntmps60
 go_wp2
 go_loopg [3, 4] k (fun kq A B w' => ∃ (b : Int) (a : Int), A = .int .i64 b ∧ B = .int .i64 a ∧ Aside0 (spec_Hash.l0 kq c b a = some r) ∧ Aside0 (kq ≤ k) ∧ Drawn0 w w')
 case atStart => exact ⟨(11), (0), el_, el_, H', ⟨Nat.le_refl _⟩, by repeat (first | exact Drawn0.refl _ | apply Drawn0.step)⟩
 clear H'
 obtain ⟨b, a, rfl, rfl, HA, l, ⟨m1, rfl⟩⟩ := hrel
 rcases gk with _ | k1
 ·exact absurd HA.1 (by simp [spec_Hash.l0])
 have H := HA.1
 clear HA
 simp only [spec_Hash.l0] at H
 by_cases j : a < (c.length : Int)
 rotate_left
 ·rw [if_neg j] at H
  have m := decide_eq_false j
  clear j
  obtain rfl := Option.some.inj H
  go_wp2
  go_ret
  exact ⟨by first | rfl | (simp; done) | (simp [*]; done), by repeat (first | exact Drawn0.refl _ | apply Drawn0.step)⟩
 rw [if_pos j] at H
 have m := decide_eq_true j
 clear j
 by_cases q : 0 ≤ a
 rotate_left
 ·rw [if_neg q] at H
  exact nn_ H
 rw [if_pos q] at H
 have x := decide_eq_true q
 clear q
 obtain ⟨i, y, H⟩ := bs_ H
 (try dsimp only at H)
 have H' := Q_ H
 clear H
 have d : 0 ≤ (a : Int) := dt_
 have g : a < (c.length : Int) := dt_
 obtain ⟨t, n, p⟩ := Kd.at_int s.1 a d g
 cases n
 replace d := eq_true d
 replace g := eq_true g
 go_wp2_with (first | ((with_reducible refine gate_callee (f := 59) rfl ?_); refine gl_ (some 17) Try.func59 #[.int .i64 (rd c a), .int .i64 2147483647] ?_; (with_reducible refine (spec_Mod.calls (rd c a) 2147483647 i _ y.1).mono ?_); rintro e w' ⟨rfl, ⟨nd, rfl⟩⟩; refine ⟨_, rfl, ?_⟩))
 go_roundg k1
 case measure => have := l.1; omega
 case rel => exact ⟨(Int.tmod (wrap64 ((wrap64 ((wrap64 (b * 1000003)) + i)) + 13)) 2147483647), (wrap64 (a + 1)), el_, el_, H', ⟨by have := l.1; omega⟩, by repeat (first | exact Drawn0.refl _ | apply Drawn0.step)⟩

/-! ### spec_PickOf: function 38 -/
def spec_PickOf.f (k : Nat) (d : Int) (e : Int) (c : Int) : Option (Int) := if c < 1 then (some 0) else ((spec_Hash.f k (([d, e] : List Int))).bind fun a => ((spec_Mod.f a c).bind fun b => (some b)))
theorem spec_PickOf.mono : ∀ a b c k, LeO (spec_PickOf.f k a b c) (spec_PickOf.f (k + 1) a b c) := by
 intro a b c k
 unfold spec_PickOf.f
 exact mo1_ spec_Hash.mono
theorem spec_PickOf.calls (k : Nat) (l : Int) (m : Int) (j : Int) (r : Int) (w : World) (h : spec_PickOf.f k l m j = some r) :
  Calls Try.prog 38 #[.int .i64 l, .int .i64 m, .int .i64 j] w fun e w' => e = .returned (.int .i64 r) ∧ Below w.heap.size w w' := by
 have HB := Q_ (Below.refl w.heap.size w)
 have H : (if j < 1 then (some 0) else ((spec_Hash.f k (([l, m] : List Int))).bind fun a => ((spec_Mod.f a j).bind fun b => (some b)))) = some r := h
 clear h
 by_cases n : j < 1
 ·rw [if_pos n] at H
  have o := decide_eq_true n
  clear n
  obtain rfl := Option.some.inj H
  go_enter Try.func38, Try.ntmps38
  go_wp2
  go_ret
  exact ⟨er_, pb_ HB.1⟩
 rw [if_neg n] at H
 have o := decide_eq_false n
 clear n
 obtain ⟨i, hy135⟩ : ∃ y_ : List Int, y_ = (([l, m] : List Int)) := ⟨_, rfl⟩
 replace H : ((spec_Hash.f k i).bind fun a => ((spec_Mod.f a j).bind fun b => (some b))) = some r := hb_ hy135 H
 have d := Q_ hy135
 clear hy135
 obtain ⟨a, u, H⟩ := bs_ H
 replace H : ((spec_Mod.f a j).bind fun b => (some b)) = some r := H
 obtain ⟨b, v, H⟩ := bs_ H
 replace H : (some b) = some r := H
 obtain rfl := Option.some.inj H
 go_enter Try.func38, Try.ntmps38
 go_wp2_with (first | ((with_reducible refine gate_dst (N := 11) rfl ?_); refine Kd.R_lit (Kd.int .i64) _ 3 ?hg (N := 11) ?hd (xs := ([l, m] : List Int)) (inner := [.int .i64 l, .int .i64 m]) (ok := fun _ => True) (okp := fun _ => True) ?hr ?hp (fun _ hk => hk) trivial (Below.refl _ _) (Nat.le_refl _) (by simp) ?_; (case hd => rfl); (case hg => rfl); (case hr => first | (go_simp; done) | (go_simp; rfl)); (case hp => exact (Reps.one (show Kd.M (Kd.int .i64) _ _ _ l [.int .i64 l] from rfl) (Reps.one (show Kd.M (Kd.int .i64) _ _ _ m [.int .i64 m] from rfl) (Reps.none _ _)))); intro t x g hb hg_ hnew_; clear hg_ hnew_; (first | rw [← d.1] at g | (simp only [Int.reduceToNat] at g; rw [← d.1] at g)); have _ := Q_ (Kd.R_lower g (below_size (pb_ HB.1))); have _ := Q_ (below_step (pb_ HB.1) hb); clear HB; rename_i c HB; clear hb g; obtain ⟨p, q, s⟩ := Kd.R_slice c.1; subst s) | ((with_reducible refine gate_callee (f := 60) rfl ?_); refine gl_ (some 12) Try.func60 #[.slice p i.length q] ?_; (with_reducible refine (spec_Hash.calls k _ _ i a _ ?side1 ?side2 u.1).mono ?_); (case side1 => exact pc_ ((Kd.R_reads' c.1).2.2)); (case side2 => exact (Kd.R_reads' c.1).2.1); rintro e w' ⟨rfl, ⟨nd, rfl⟩⟩; refine ⟨_, rfl, ?_⟩) | ((with_reducible refine gate_callee (f := 59) rfl ?_); refine gl_ (some 14) Try.func59 #[.int .i64 a, .int .i64 j] ?_; (with_reducible refine (spec_Mod.calls a j b _ v.1).mono ?_); rintro e w' ⟨rfl, ⟨nd, rfl⟩⟩; refine ⟨_, rfl, ?_⟩))
 go_ret
 exact ⟨er_, pb_ HB.1⟩

/-! ### spec_GreaseTag: function 34 -/
def spec_GreaseTag.f (k : Nat) (b : Int) : Option (Int) := (spec_PickOf.f k b 0 16).bind fun a => (some (wrap64 ((wrap64 (16 * a)) + 10)))
theorem spec_GreaseTag.mono : ∀ a k, LeO (spec_GreaseTag.f k a) (spec_GreaseTag.f (k + 1) a) := by
 intro a k
 unfold spec_GreaseTag.f
 exact mo1_ spec_PickOf.mono
theorem spec_GreaseTag.calls (k : Nat) (b : Int) (r : Int) (w : World) (h : spec_GreaseTag.f k b = some r) :
  Calls Try.prog 34 #[.int .i64 b] w fun e w' => e = .returned (.int .i64 r) ∧ Below w.heap.size w w' := by
 have HB := Q_ (Below.refl w.heap.size w)
 have H : ((spec_PickOf.f k b 0 16).bind fun a => (some (wrap64 ((wrap64 (16 * a)) + 10)))) = some r := h
 clear h
 obtain ⟨a, c, H⟩ := bs_ H
 replace H : (some (wrap64 ((wrap64 (16 * a)) + 10))) = some r := H
 obtain rfl := Option.some.inj H
 go_enter Try.func34, Try.ntmps34
 go_wp2_with (first | ((with_reducible refine gate_callee (f := 38) rfl ?_); refine gl_ (some 4) Try.func38 #[.int .i64 b, .int .i64 0, .int .i64 16] ?_; (with_reducible refine (spec_PickOf.calls k b 0 16 a _ c.1).mono ?_); rintro e d ⟨rfl, hb⟩; refine ⟨_, rfl, ?_⟩; have _ := Q_ (below_step (pb_ HB.1) hb); clear HB; rename_i HB; (try clear hb)))
 go_ret
 exact ⟨er_, pb_ HB.1⟩

end Go.Proofs.Ytibmehnippjakaa.Print
