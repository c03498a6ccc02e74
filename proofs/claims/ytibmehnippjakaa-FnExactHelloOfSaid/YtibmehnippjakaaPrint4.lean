-- Written by a program of this session (printx.py) out of the translation; Lean checks it.
import Derived.Test.YtibmehnippjakaaPrint0
import Derived.Test.YtibmehnippjakaaPrint2
import Derived.Test.YtibmehnippjakaaPrint3
namespace Go.Proofs.Ytibmehnippjakaa.Print
open Go.RowKit Go.Proofs.YtibmehnippjakaaW.PrintWords Go.Proofs.YtibmehnippjakaaW.PrintLast Go.Proofs.YtibmehnippjakaaW.PrintMore Go.Proofs.Ytibmehnippjakaa.Short
attribute [local go_sem] max2_int min2_int max_two min_two max_three min_three max_four min_four   -- for this text's walks alone
set_option linter.unusedVariables false
set_option maxHeartbeats 8000000
set_option maxRecDepth 100000
set_option linter.unusedSimpArgs false

/-! ### spec_AddGrease: function 16 -/
mutual
def spec_AddGrease.j0 : Nat → List (S44) → Int → Int → List (S44) → Bool → Option ((List (S44)))
 | 0, _, _, _, _, _ => none
 | k + 1, e, c, g, d, b => if b = true then (some d) else ((spec_PickOf.f k c 2 3).bind fun a => (spec_AddGrease.l0 k e c d a g ([] : List Int)))
def spec_AddGrease.l0 : Nat → List (S44) → Int → List (S44) → Int → Int → List Int → Option ((List (S44)))
 | 0, _, _, _, _, _, _ => none
 | k + 1, p, o, n, q, b, a => if q > 0 then ((spec_PickOf.f k o 3 256).bind fun m => ((some (([m] : List Int) : List Int)).bind fun d => (if a.length + d.length < 17592186044416 then (spec_AddGrease.l0 k p o n (wrap64 (q - 1)) b (a ++ d)) else (none)))) else ((spec_PickOf.f k o 1 (wrap64 ((p.length : Int) + 1))).bind fun c => ((some (([] : List (S44)) : List (S44))).bind fun e => (if 0 ≤ c then (if c ≤ (n.length : Int) then ((some (n.take (c : Int).toNat : List (S44))).bind fun g => (if e.length + g.length < 4398046511104 then ((some (e ++ g : List (S44))).bind fun h => ((some (([(⟨b, a⟩ : S44)] : List (S44)) : List (S44))).bind fun i => (if h.length + i.length < 4398046511104 then ((some (h ++ i : List (S44))).bind fun j => ((some (n.drop (c : Int).toNat : List (S44))).bind fun l => (if j.length + l.length < 4398046511104 then (some (j ++ l)) else (none)))) else (none)))) else (none))) else (none)) else (none))))
end
def spec_AddGrease.f (k : Nat) (c : List (S44)) (g : Int) : Option ((List (S44))) := (spec_GreaseTag.f k g).bind fun a => ((spec_l11Copy.f k c).bind fun b => ((spec_AreExts.f k c).bind fun d => (if d = true then (if (c.length : Int) ≥ 6 then (spec_AddGrease.j0 k c g a b true) else ((spec_ExtOf.f k c a).bind fun e => (spec_AddGrease.j0 k c g a b (decide (e ≥ 0))))) else (spec_AddGrease.j0 k c g a b true))))
theorem spec_AddGrease.mono_l : ∀ k, (∀ a b c d e, LeO (spec_AddGrease.j0 k a b c d e) (spec_AddGrease.j0 (k + 1) a b c d e)) ∧ (∀ a b c d e f, LeO (spec_AddGrease.l0 k a b c d e f) (spec_AddGrease.l0 (k + 1) a b c d e f))
 | 0 => ⟨fun _ _ _ _ _ r h => by simp [spec_AddGrease.j0] at h, fun _ _ _ _ _ _ r h => by simp [spec_AddGrease.l0] at h⟩
 | k + 1 => by
  obtain ⟨ih0, ih1⟩ := spec_AddGrease.mono_l k
  refine ⟨?_, ?_⟩
  ·intro a b c d e
   unfold spec_AddGrease.j0
   repeat' first
   | (with_reducible exact ih0 _ _ _ _ _)
   | (with_reducible exact ih1 _ _ _ _ _ _)
   | (with_reducible exact spec_AreExts.mono _ _)
   | (with_reducible exact spec_ExtOf.mono _ _ _)
   | (with_reducible exact spec_GreaseTag.mono _ _)
   | (with_reducible exact spec_PickOf.mono _ _ _ _)
   | (with_reducible exact spec_l11Copy.mono _ _)
   | (with_reducible exact LeO.refl _)
   | (with_reducible exact LeO.none _)
   | (with_reducible refine LeO.ite ?_ ?_)
   | (with_reducible refine LeO.bind ?_ (fun _ => ?_))
   | exact ih0 _ _ _ _ _
   | exact ih1 _ _ _ _ _ _
   | exact spec_AreExts.mono _ _
   | exact spec_ExtOf.mono _ _ _
   | exact spec_GreaseTag.mono _ _
   | exact spec_PickOf.mono _ _ _ _
   | exact spec_l11Copy.mono _ _
   | exact LeO.none _
   | refine LeO.ite ?_ ?_
   | refine LeO.bind ?_ (fun _ => ?_)
  ·intro a b c d e f
   unfold spec_AddGrease.l0
   repeat' first
   | (with_reducible exact ih0 _ _ _ _ _)
   | (with_reducible exact ih1 _ _ _ _ _ _)
   | (with_reducible exact spec_AreExts.mono _ _)
   | (with_reducible exact spec_ExtOf.mono _ _ _)
   | (with_reducible exact spec_GreaseTag.mono _ _)
   | (with_reducible exact spec_PickOf.mono _ _ _ _)
   | (with_reducible exact spec_l11Copy.mono _ _)
   | (with_reducible exact LeO.refl _)
   | (with_reducible exact LeO.none _)
   | (with_reducible refine LeO.ite ?_ ?_)
   | (with_reducible refine LeO.bind ?_ (fun _ => ?_))
   | exact ih0 _ _ _ _ _
   | exact ih1 _ _ _ _ _ _
   | exact spec_AreExts.mono _ _
   | exact spec_ExtOf.mono _ _ _
   | exact spec_GreaseTag.mono _ _
   | exact spec_PickOf.mono _ _ _ _
   | exact spec_l11Copy.mono _ _
   | exact LeO.none _
   | refine LeO.ite ?_ ?_
   | refine LeO.bind ?_ (fun _ => ?_)
theorem spec_AddGrease.mono : ∀ a b k, LeO (spec_AddGrease.f k a b) (spec_AddGrease.f (k + 1) a b) := by
 intro a b k
 obtain ⟨ih0, ih1⟩ := spec_AddGrease.mono_l k
 unfold spec_AddGrease.f
 repeat' first
   | (with_reducible exact ih0 _ _ _ _ _)
   | (with_reducible exact ih1 _ _ _ _ _ _)
   | (with_reducible exact spec_AreExts.mono _ _)
   | (with_reducible exact spec_ExtOf.mono _ _ _)
   | (with_reducible exact spec_GreaseTag.mono _ _)
   | (with_reducible exact spec_PickOf.mono _ _ _ _)
   | (with_reducible exact spec_l11Copy.mono _ _)
   | (with_reducible exact LeO.refl _)
   | (with_reducible exact LeO.none _)
   | (with_reducible refine LeO.ite ?_ ?_)
   | (with_reducible refine LeO.bind ?_ (fun _ => ?_))
   | exact ih0 _ _ _ _ _
   | exact ih1 _ _ _ _ _ _
   | exact spec_AreExts.mono _ _
   | exact spec_ExtOf.mono _ _ _
   | exact spec_GreaseTag.mono _ _
   | exact spec_PickOf.mono _ _ _ _
   | exact spec_l11Copy.mono _ _
   | exact LeO.none _
   | refine LeO.ite ?_ ?_
   | refine LeO.bind ?_ (fun _ => ?_)
def spec_AddGrease.T9 : Bool × List (List Nat × List Nat) := (true, [([], []), ([0], [0]), ([], []), ([2], [2]), ([3], [3]), ([1, 4, 3], [1, 4]), ([0, 1, 2, 3, 4, 5], []), ([6, 5, 5, 0, 1, 2, 3, 4, 5], [5, 6])])
def spec_AddGrease.B9 : List Nat := [0, 1, 0, 4, 12, 31, 63, 127]
theorem spec_AddGrease.tab9 : rtab .any (opsOf Try.f16 9) = spec_AddGrease.T9 := by kernel_rfl
theorem spec_AddGrease.bits9 : waitsOk spec_AddGrease.T9.2 spec_AddGrease.B9 = true := by kernel_rfl
def spec_AddGrease.T11 : Bool × List (List Nat × List Nat) := (true, [([], []), ([], []), ([], []), ([1, 2], [1, 2]), ([0, 3], [0, 3]), ([], []), ([5], [5]), ([4, 6, 4], [4, 6]), ([], []), ([], []), ([8, 9], [8, 9]), ([7, 10, 7], [7, 10]), ([11, 11, 0, 1, 2, 3, 4, 5, 6, 7, 8, 9, 10, 11], [11])])
def spec_AddGrease.B11 : List Nat := [0, 0, 0, 6, 15, 0, 32, 127, 0, 0, 768, 2047, 4095]
theorem spec_AddGrease.tab11 : rtab .any (opsOf Try.f16 11) = spec_AddGrease.T11 := by kernel_rfl
theorem spec_AddGrease.bits11 : waitsOk spec_AddGrease.T11.2 spec_AddGrease.B11 = true := by kernel_rfl
theorem spec_AddGrease.calls (k : Nat) (A0 : Option Addr) (c0 : Nat) (Y : List (S44)) (a1 : Int) (r : List (S44)) (w : World) (hr0 : Kd.C k44 w A0 Y.length Y) (bs : Y.length ≤ c0) (h : spec_AddGrease.f k Y a1 = some r) :
  Calls Try.prog 16 #[.slice A0 Y.length c0, .int .i64 a1] w fun e w' => ∃ v0_ : Value, e = .returned (v0_) ∧ Kd.N k44 44 w' w.heap.size (fun k_ => (w.heap.size ≤ k_)) v0_ r ∧ Below w.heap.size w w' := by
 have hu44 := Try.underlying44
 have aH := Q_ hr0
 have aE := Q_ bs
 clear hr0 bs
 have HB := Q_ (Below.refl w.heap.size w)
 have H : ((spec_GreaseTag.f k a1).bind fun u => ((spec_l11Copy.f k Y).bind fun s => ((spec_AreExts.f k Y).bind fun aU => (if aU = true then (if (Y.length : Int) ≥ 6 then (spec_AddGrease.j0 k Y a1 u s true) else ((spec_ExtOf.f k Y u).bind fun aq => (spec_AddGrease.j0 k Y a1 u s (decide (aq ≥ 0))))) else (spec_AddGrease.j0 k Y a1 u s true))))) = some r := h
 clear h
 obtain ⟨u, A3, H⟩ := bs_ H
 (try dsimp only at H)
 obtain ⟨s, A4, H⟩ := bs_ H
 (try dsimp only at H)
 have bd := Q_ H
 clear H
 go_enter Try.func16, Try.ntmps16
 go_upto_region 3 with (first | ((with_reducible refine gate_callee (f := 34) rfl ?_); refine gl_ (some 11) Try.func34 #[.int .i64 a1] ?_; (with_reducible refine (spec_GreaseTag.calls k a1 u _ A3.1).mono ?_); rintro e w6 ⟨rfl, hb⟩; refine ⟨_, rfl, ?_⟩; have _ := Q_ (below_step (pb_ HB.1) hb); clear HB; rename_i HB; (try clear hb)) | ((with_reducible refine gate_callee (f := 35) rfl ?_); refine gl_ (some 13) Try.func35 #[.slice A0 Y.length c0] ?_; (with_reducible refine (spec_l11Copy.calls k _ _ Y s _ (cb_ aH HB) aE.1 A4.1).mono ?_); rintro e w7 ⟨bb, rfl, bt, hb⟩; refine ⟨_, rfl, ?_⟩; have _ := Q_ (Kd.N_lower (Kd.N_mono (ok' := fun k_ => (w.heap.size ≤ k_)) (Kd.S_N (Kd.S_bound bt)) (fun k_ hk_ => (Nat.le_trans (below_size (pb_ HB.1)) hk_.2.1))) (below_size (pb_ HB.1))); have _ := Q_ (below_step (pb_ HB.1) hb); clear HB; rename_i au HB; (try clear hb bt)))
 (try simp only [Act.put, s1_, s2_, s3_])
 go_cut [27] (fun bO wc => ∃ (kq : Nat) (ap : Bool), bO = .bool ap ∧ Aside0 (spec_AddGrease.j0 kq Y a1 u s ap = some r) ∧ Aside0 (kq ≤ k) ∧ Aside0 (Kd.N k44 44 wc w.heap.size (fun k_ => (w.heap.size ≤ k_)) bb s) ∧ Aside0 (Below w.heap.size w wc))
 case first =>
  have H := bd.1
  clear bd
  obtain ⟨aU, A8, H⟩ := bs_ H
  (try dsimp only at H)
  by_cases c9 : aU = true
  rotate_left
  ·replace c9 := bf_ c9
   subst c9
   rw [if_neg ff_] at H
   have H' := Q_ H
   clear H
   go_wp2_with (first | ((with_reducible refine gate_callee (f := 36) rfl ?_); refine gl_ (some 15) Try.func36 #[.slice A0 Y.length c0] ?_; (with_reducible refine (spec_AreExts.calls k _ _ Y false _ (cb_ aH HB) aE.1 A8.1).mono ?_); rintro e w' ⟨rfl, ⟨nd, rfl⟩⟩; refine ⟨_, rfl, ?_⟩))
   go_meet
   case rel => exact ⟨_, (true), el_, H', ⟨by first | omega | exact Nat.le_refl _⟩, ⟨by (with_reducible repeat (first | apply Kd.N_alloc | apply Kd.N_drewN | apply Kd.N_drew)); exact au.1⟩, ⟨pb_ HB.1⟩⟩
  subst c9
  rw [if_pos rfl] at H
  by_cases aA : (Y.length : Int) ≥ 6
  ·rw [if_pos aA] at H
   have af := decide_eq_true aA
   have ay : decide (6 ≤ Y.length) = true := decide_eq_true (by omega)
   clear aA
   (first | rw [af] | (simp only [i64_w, i32_w]; rw [af]) | rw [ay] | skip)
   have H' := Q_ H
   clear H
   go_wp2_with (first | ((with_reducible refine gate_callee (f := 36) rfl ?_); refine gl_ (some 15) Try.func36 #[.slice A0 Y.length c0] ?_; (with_reducible refine (spec_AreExts.calls k _ _ Y true _ (cb_ aH HB) aE.1 A8.1).mono ?_); rintro e w' ⟨rfl, ⟨nd, rfl⟩⟩; refine ⟨_, rfl, ?_⟩))
   go_meet
   case rel => exact ⟨_, (true), el_, H', ⟨by first | omega | exact Nat.le_refl _⟩, ⟨by (with_reducible repeat (first | apply Kd.N_alloc | apply Kd.N_drewN | apply Kd.N_drew)); exact au.1⟩, ⟨pb_ HB.1⟩⟩
  rw [if_neg aA] at H
  have af := decide_eq_false aA
  have ay : decide (6 ≤ Y.length) = false := decide_eq_false (by omega)
  clear aA
  (first | rw [af] | (simp only [i64_w, i32_w]; rw [af]) | rw [ay] | skip)
  obtain ⟨aq, bz, H⟩ := bs_ H
  replace H : (spec_AddGrease.j0 k Y a1 u s (decide (aq ≥ 0))) = some r := H
  have H' := Q_ H
  clear H
  go_wp2_with (first | ((with_reducible refine gate_callee (f := 36) rfl ?_); refine gl_ (some 15) Try.func36 #[.slice A0 Y.length c0] ?_; (with_reducible refine (spec_AreExts.calls k _ _ Y true _ (cb_ aH HB) aE.1 A8.1).mono ?_); rintro e w' ⟨rfl, ⟨nd, rfl⟩⟩; refine ⟨_, rfl, ?_⟩) | (go_at_call 37; (with_reducible refine (spec_ExtOf.calls k _ _ Y u aq _ ?side1 aE.1 bz.1).mono ?_); (case side1 => exact pc_ (Kd.C_below aH.1 (pb_ HB.1))); rintro e w' ⟨rfl, ⟨nd, rfl⟩⟩))
  go_meet
  case rel => exact ⟨_, (decide (aq ≥ 0)), el_, H', ⟨by first | omega | exact Nat.le_refl _⟩, ⟨by (with_reducible repeat (first | apply Kd.N_alloc | apply Kd.N_drewN | apply Kd.N_drew)); exact au.1⟩, ⟨pb_ HB.1⟩⟩
 clear bd
 obtain ⟨kq, ap, rfl, HA, bq, q, HB⟩ := hcut
 rcases kq with _ | kj4
 ·exact absurd HA.1 (by simp [spec_AddGrease.j0])
 have H := HA.1
 clear HA
 simp only [spec_AddGrease.j0] at H
 by_cases aY : ap = true
 ·subst aY
  rw [if_pos rfl] at H
  obtain rfl := Option.some.inj H
  go_wp2
  go_ret
  exact ⟨_, er_, by (with_reducible repeat (first | apply Kd.N_alloc | apply Kd.N_drewN | apply Kd.N_drew)); exact q.1, pb_ HB.1⟩
 replace aY := bf_ aY
 subst aY
 rw [if_neg ff_] at H
 obtain ⟨aV, bA, H⟩ := bs_ H
 replace H : (spec_AddGrease.l0 kj4 Y a1 s aV u ([] : List Int)) = some r := H
 have H' := Q_ H
 clear H
 go_wp2_with (first | ((with_reducible refine gate_dst (N := 7) rfl ?_); (try (refine gate_guard (by rfl) ?_; dsimp only)); refine bx_ 7 #[.int .i64 0, .slice none 0 0] 44 ?_; intro b hg b5 hbox hb; have _ := Q_ (Kd.N_below (Kd.N_elderB (by (with_reducible repeat (first | apply Kd.N_alloc | apply Kd.N_drewN | apply Kd.N_drew)); exact q.1) b (Nat.le_of_eq hg.symm)) hb); have _ := Q_ (below_step (pb_ HB.1) hb); have d := Q_ (hbox); have bc := Q_ (gw_ (w := w) hg (pb_ HB.1)); have t := bc; clear q HB; rename_i q HB; clear hb hbox hg; have bM := bc2_ d.1) | ((with_reducible refine gate_callee (f := 38) rfl ?_); refine gl_ (some 32) Try.func38 #[.int .i64 a1, .int .i64 2, .int .i64 3] ?_; (with_reducible refine (spec_PickOf.calls kj4 a1 2 3 aV _ bA.1).mono ?_); rintro e b6 ⟨rfl, hb⟩; refine ⟨_, rfl, ?_⟩; have _ := Q_ (Kd.N_below (by (with_reducible repeat (first | apply Kd.N_alloc | apply Kd.N_drewN | apply Kd.N_drew)); exact (Kd.N_mono (Kd.N_far (p := ⟨b, 1, none⟩) (Kd.N_far (p := ⟨b, 0, none⟩) (Kd.N_mono q.1 (fun k_ hk => (⟨hk, hk.2⟩ : _ ∧ k_ ≠ b))) (fun _ hk => hk.2) (.int .i64 u)) (fun _ hk => hk.2) (.slice none 0 0)) (fun _ h_ => h_.1))) hb); have _ := Q_ (blk_below (g := b) (o := .cells #[.int .i64 u, .slice none 0 0] 44 (0, 0)) (pp_ d.1) hb); have _ := Q_ (below_step (pb1_ HB.1 t.1) hb); clear q d HB; rename_i q d HB; (try clear hb)))
 (try simp only [Act.put, s1_, s2_, s3_])
 go_loopg [8] kj4 (fun kq v8 w' => ∃ (ah : Int) (a : List Int) (O : Value), v8 = .int .i64 ah ∧ Aside0 (spec_AddGrease.l0 kq Y a1 s ah u a = some r) ∧ Aside0 (kq ≤ kj4) ∧ Aside0 (Kd.N k44 44 w' w.heap.size (fun k_ => (w.heap.size ≤ k_) ∧ some k_ ≠ (O : Value).ownBlock ∧ k_ ≠ b) bb s) ∧ Aside0 (Kd.R (Kd.int .i64) 3 w' w.heap.size (fun k_ => (w.heap.size ≤ k_)) O a) ∧ Aside0 (w'.heap[b]? = some (.cells #[.int .i64 u, O] 44 (0, 0))) ∧ Aside0 (Below w.heap.size w w'))
 case atStart => exact ⟨(aV), (([] : List Int)), (.slice none 0 0), el_, H', ⟨Nat.le_refl _⟩, ⟨by (with_reducible repeat (first | apply Kd.N_alloc | apply Kd.N_drewN | apply Kd.N_drew)); exact Kd.N_mono q.1 (fun _ hk => ⟨hk.1, ⟨(by simp [Value.ownBlock]), hk.2⟩⟩)⟩, ⟨by first | exact Kd.R_nil _ _ _ _ _ | exact Kd.N_nil _ _ _ _ _ | exact Kd.V_nil _ _ _ _ _ | exact Kd.Q_nil _ _ _ _ _ | exact Kd.S_nil _ _ _ _ _⟩, ⟨pk_ d.1⟩, ⟨pb1_ HB.1 t.1⟩⟩
 clear H'
 obtain ⟨ah, a, O, rfl, HA, br, q, l, d, HB⟩ := hrel
 rcases gk with _ | k2
 ·exact absurd HA.1 (by simp [spec_AddGrease.l0])
 have H := HA.1
 clear HA
 simp only [spec_AddGrease.l0] at H
 by_cases aC : ah > 0
 ·rw [if_pos aC] at H
  have bl := decide_eq_true aC
  clear aC
  obtain ⟨am, bB, H⟩ := bs_ H
  (try dsimp only at H)
  obtain ⟨ai, hy188⟩ : ∃ y_ : List Int, y_ = (([am] : List Int)) := ⟨_, rfl⟩
  replace H : (if a.length + ai.length < 17592186044416 then (spec_AddGrease.l0 k2 Y a1 s (wrap64 (ah - 1)) u (a ++ ai)) else (none)) = some r := hb_ hy188 H
  have aI := Q_ hy188
  clear hy188
  by_cases aZ : a.length + ai.length < 17592186044416
  rotate_left
  ·rw [if_neg aZ] at H
   exact nn_ H
  rw [if_pos aZ] at H
  have bf := Q_ aZ
  clear aZ
  obtain ⟨ar, hy191⟩ : ∃ y_ : List Int, y_ = (a ++ ai) := ⟨_, rfl⟩
  replace H : (spec_AddGrease.l0 k2 Y a1 s (wrap64 (ah - 1)) u ar) = some r := hb_ hy191 H
  have bi := Q_ hy191
  clear hy191
  have H' := Q_ H
  clear H
  try go_wp2
  have _ := Q_ (Kd.N_drew q.1)
  have _ := Q_ (Kd.R_drew l.1)
  have _ := Q_ (blk_drew d.1)
  have _ := Q_ (below_drew1 HB.1)
  clear q l d HB
  rename_i q l d HB
  refine start_ (n := 8) (S := fun w' => w'.cell? ⟨b, 0, none⟩ = some (.int .i64 u) ∧ w'.cell? ⟨b, 1, none⟩ = some (O)) (ds := [7]) #[false, false, false, false, false, false, false, false] (by kernel_rfl) rfl rfl (sb_ d.1) (fun hHeld => ?_); refine with_tabW spec_AddGrease.tab9 spec_AddGrease.bits9 (fun HT_ HW_ => ?_)
  generalize wr.drew = b7 at q l d HB hHeld ⊢
  refine pu1_ 0 37 8 1 ?_
  refine pu1_ 2 39 8 5 ?_
  refine ta1_ 1 38 8 7 hHeld ?_
  refine on_ 3 (some 40) (tf_ 4 8) HT_ (fun K hK => ?_)
  refine goes_ Try.func38 (by kernel_rfl) rfl #[.int .i64 a1, .int .i64 3, .int .i64 256] (by rfl) rfl rfl mp_ ?_
  with_reducible refine (spec_PickOf.calls k2 a1 3 256 am _ bB.1).mono ?_
  rintro e b8 ⟨rfl, hb⟩
  refine ⟨_, rfl, ?_⟩
  have _ := Q_ (Kd.N_below (by (with_reducible repeat (first | apply Kd.N_alloc | apply Kd.N_drewN | apply Kd.N_drew)); exact q.1) hb)
  have _ := Q_ (Kd.R_below (pr_ l.1) hb)
  have _ := Q_ (bb_ d.1 hb)
  have _ := Q_ (below_step (pb1_ HB.1 t.1) hb)
  clear q l d HB
  rename_i q l d HB
  (try clear hb)
  refine hK.out _ _ (sb_ d.1) (fun hHeld => ?_)
  clear hK K
  refine no_ (some 40) ?_
  refine on_ 4 (some 41) (tf_ 5 8) HT_ (fun K hK => ?_)
  refine Kd.R_lit_step (Kd.int .i64) _ 3 ?hg (N := 41) ?hd (xs := ([am] : List Int)) (inner := [.int .i64 am]) (ok := fun _ => True) (okp := fun _ => True) ?hr ?hp (fun _ hk => hk) trivial (Below.refl _ _) (Nat.le_refl _) (by simp) ?_; (case hd => rfl); (case hg => rfl); (case hr => first | (go_simp; done) | (go_simp; rfl)); (case hp => exact (Reps.one (show Kd.M (Kd.int .i64) _ _ _ am [.int .i64 am] from rfl) (Reps.none _ _)))
  intro bX b9 ag hb hg_ hnew_
  clear hg_ hnew_
  (first | rw [← aI.1] at ag | (simp only [Int.reduceToNat] at ag; rw [← aI.1] at ag))
  have _ := Q_ (Kd.N_elder' (by (with_reducible repeat (first | apply Kd.N_alloc | apply Kd.N_drewN | apply Kd.N_drew)); exact q.1) (Kd.R_base ag) hb)
  have _ := Q_ (Kd.R_elder' (pr_ l.1) (Kd.R_base ag) hb)
  have _ := Q_ (Kd.R_lower (Kd.R_new' (Kd.R_newM (M := fun k_ => (w.heap.size ≤ k_)) ag (below_size (pb1_ HB.1 t.1)) (fun k_ h_ => h_)) (Kd.R_lt (pr_ l.1))) (below_size (pb1_ HB.1 t.1)))
  have _ := Q_ (bb_ d.1 hb)
  have _ := Q_ (below_step (pb1_ HB.1 t.1) hb)
  clear q l d HB
  rename_i q l ab d HB
  clear hb ag
  obtain ⟨a5, a6, a7⟩ := Kd.R_slice ab.1
  (first | subst a7 | (injection a7 with f1_ f2_ f3_; have f4_ := f1_.symm; have f5_ := f3_.symm; clear f1_ f2_ f3_; subst f4_; subst f5_))
  refine hK.out _ _ (sb_ d.1) (fun hHeld => ?_)
  clear hK K
  refine no_ (some 41) ?_
  refine on_ 5 (some 42) (tf_ 6 8) HT_ (fun K hK => ?_)
  refine Kd.R_append_rows_step (Kd.int .i64) (w0 := w) w.heap.size (by rfl) (.tmp 38) (.tmp 41) 22 3 (.int .i64 0) 8 rfl Try.underlying22 info3 rfl (by decide) (by omega) O a ai _ _ _ (fun k_ => (w.heap.size ≤ k_) ∧ some k_ ≠ (.slice a5 ai.length a6 : Value).ownBlock) (fun _ => False) rfl rfl ?aO ?aR (fun _ _ h => h) (fun _ h => h.elim) ?aF ?aB ?aS ?aL ?_
  (case aR => exact pc_ ((Kd.R_reads' ab.1).2.2))
  (case aB => exact (pb1_ HB.1 t.1))
  (case aF => exact (fun k_ hk => ⟨(Nat.le_trans (below_size (pb1_ HB.1 t.1)) hk), Kd.fresh' (Kd.R_lt (pr_ ab.1)) k_ hk⟩))
  (case aO => exact (pr_ l.1))
  (case aS => exact (below_size (pb1_ HB.1 t.1)))
  (case aL => have := bf.1; omega)
  intro bY bP ho hb hg hat
  rw [← bi.1] at ho
  have _ := Q_ (Kd.N_afterv (ok := (fun k_ => (w.heap.size ≤ k_) ∧ some k_ ≠ (.slice a5 ai.length a6 : Value).ownBlock ∧ k_ ≠ b)) (by (with_reducible repeat (first | apply Kd.N_alloc | apply Kd.N_drewN | apply Kd.N_drew)); exact Kd.N_mono q.1 (fun _ hk => ⟨⟨hk.1.1, ⟨hk.2, hk.1.2.2⟩⟩, hk.1.2.1⟩)) hg hat)
  have _ := Q_ (blk_grown (g := b) (o := .cells #[.int .i64 u, O] 44 (0, 0)) (pk_ d.1) hg (Kd.R_ne l.1 d.1 (by decide)))
  have _ := Q_ (Kd.R_after (ok := (fun k_ => (w.heap.size ≤ k_))) (by (with_reducible repeat (first | apply Kd.R_alloc | apply Kd.R_drewN | apply Kd.R_drew)); exact Kd.R_mono ab.1 (fun _ hk => ⟨hk.1.1, hk.2⟩)) hg hat)
  have _ := Q_ (hb)
  have _ := Q_ (ho)
  clear q d ab HB l
  rename_i q d ab HB aG
  clear ho hb hg hat
  obtain ⟨aD, aP, a8⟩ := Kd.R_slice aG.1
  (first | subst a8 | (injection a8 with f1_ f2_ f3_; have f4_ := f1_.symm; have f5_ := f3_.symm; clear f1_ f2_ f3_; subst f4_; subst f5_))
  refine hK.out _ _ (sb_ d.1) (fun hHeld => ?_)
  clear hK K
  refine no_ (some 42) ?_
  refine pu1_ 6 43 8 127 ?_
  refine last_ (i := 7) (N := none) #[true, true, true, true, true, true, true, true] rfl rfl (one_of HT_.1 (by kernel_rfl)) (by decide) (fun K hK => ?_)
  have bW : bP.cell? ⟨b, 1, none⟩ = some (O) := (blk_cell d.1 1).trans rfl
  have bN := blk_frozen d.1 1
  refine skip_ (w1 := ?_) (by rfl) rfl ?_ ?_
  rotate_left
  ·go_simp
   rfl
  refine hK.out _ _ ?_
  clear hK K
  refine done_ (done_of HT_.1 (by kernel_rfl)) ?_
  try go_wp2
  go_roundg k2
  case measure => have := bq.1; have := br.1; omega
  case rel => exact ⟨(wrap64 (ah - 1)), (ar), (.slice aD ar.length aP), el_, H', ⟨by have := bq.1; have := br.1; omega⟩, ⟨by (with_reducible repeat (first | apply Kd.N_alloc | apply Kd.N_drewN | apply Kd.N_drew)); exact Kd.N_mono (Kd.N_far (p := ⟨b, 1, none⟩) (Kd.N_mono q.1 (fun k_ hk => (⟨hk, hk.1.2.2⟩ : _ ∧ k_ ≠ b))) (fun _ hk => hk.2) (.slice aD ar.length aP)) (fun _ hk => ⟨hk.1.1.1, ⟨hk.1.2, hk.1.1.2.2⟩⟩)⟩, ⟨pr_ (Kd.R_mono (Kd.R_far (p := ⟨b, 1, none⟩) (Kd.R_types aG.1 d.1 (by decide)) (fun _ hk => hk.2) (.slice aD ar.length aP)) (fun _ hk => hk.1.1))⟩, ⟨pp_ d.1⟩, ⟨pb1_ HB.1 t.1⟩⟩
 rw [if_neg aC] at H
 have bl := decide_eq_false aC
 clear aC
 obtain ⟨D, bC, H⟩ := bs_ H
 (try dsimp only at H)
 obtain ⟨aa, hy195⟩ : ∃ y_ : List (S44), y_ = (([] : List (S44))) := ⟨_, rfl⟩
 replace H : (if 0 ≤ D then (if D ≤ (s.length : Int) then ((some (s.take (D : Int).toNat : List (S44))).bind fun W => (if aa.length + W.length < 4398046511104 then ((some (aa ++ W : List (S44))).bind fun X => ((some (([(⟨u, a⟩ : S44)] : List (S44)) : List (S44))).bind fun I => (if X.length + I.length < 4398046511104 then ((some (X ++ I : List (S44))).bind fun U => ((some (s.drop (D : Int).toNat : List (S44))).bind fun B => (if U.length + B.length < 4398046511104 then (some (U ++ B)) else (none)))) else (none)))) else (none))) else (none)) else (none)) = some r := hb_ hy195 H
 have an := Q_ hy195
 clear hy195
 by_cases aM : 0 ≤ D
 rotate_left
 ·rw [if_neg aM] at H
  exact nn_ H
 rw [if_pos aM] at H
 have bG := eq_true aM
 have bH : decide (0 ≤ D) = true := decide_eq_true aM
 clear aM
 by_cases aN : D ≤ (s.length : Int)
 rotate_left
 ·rw [if_neg aN] at H
  exact nn_ H
 rw [if_pos aN] at H
 have bI := eq_true aN
 have bJ : decide (D ≤ (s.length : Int)) = true := decide_eq_true aN
 clear aN
 obtain ⟨W, hy198⟩ : ∃ y_ : List (S44), y_ = (s.take (D : Int).toNat) := ⟨_, rfl⟩
 replace H : (if aa.length + W.length < 4398046511104 then ((some (aa ++ W : List (S44))).bind fun X => ((some (([(⟨u, a⟩ : S44)] : List (S44)) : List (S44))).bind fun I => (if X.length + I.length < 4398046511104 then ((some (X ++ I : List (S44))).bind fun U => ((some (s.drop (D : Int).toNat : List (S44))).bind fun B => (if U.length + B.length < 4398046511104 then (some (U ++ B)) else (none)))) else (none)))) else (none)) = some r := hb_ hy198 H
 have aJ := Q_ hy198
 clear hy198
 by_cases a0 : aa.length + W.length < 4398046511104
 rotate_left
 ·rw [if_neg a0] at H
  exact nn_ H
 rw [if_pos a0] at H
 have aw := Q_ a0
 clear a0
 obtain ⟨X, hy203⟩ : ∃ y_ : List (S44), y_ = (aa ++ W) := ⟨_, rfl⟩
 replace H : ((some (([(⟨u, a⟩ : S44)] : List (S44)) : List (S44))).bind fun I => (if X.length + I.length < 4398046511104 then ((some (X ++ I : List (S44))).bind fun U => ((some (s.drop (D : Int).toNat : List (S44))).bind fun B => (if U.length + B.length < 4398046511104 then (some (U ++ B)) else (none)))) else (none))) = some r := hb_ hy203 H
 have ax := Q_ hy203
 clear hy203
 obtain ⟨I, hy206⟩ : ∃ y_ : List (S44), y_ = (([(⟨u, a⟩ : S44)] : List (S44))) := ⟨_, rfl⟩
 replace H : (if X.length + I.length < 4398046511104 then ((some (X ++ I : List (S44))).bind fun U => ((some (s.drop (D : Int).toNat : List (S44))).bind fun B => (if U.length + B.length < 4398046511104 then (some (U ++ B)) else (none)))) else (none)) = some r := hb_ hy206 H
 have ac := Q_ hy206
 clear hy206
 by_cases a2 : X.length + I.length < 4398046511104
 rotate_left
 ·rw [if_neg a2] at H
  exact nn_ H
 rw [if_pos a2] at H
 have bg := Q_ a2
 clear a2
 obtain ⟨U, hy209⟩ : ∃ y_ : List (S44), y_ = (X ++ I) := ⟨_, rfl⟩
 replace H : ((some (s.drop (D : Int).toNat : List (S44))).bind fun B => (if U.length + B.length < 4398046511104 then (some (U ++ B)) else (none))) = some r := hb_ hy209 H
 have bj := Q_ hy209
 clear hy209
 have bK := eq_true (dt_ : 0 ≤ D)
 have bL := eq_true (dt_ : D ≤ (s.length : Int))
 obtain ⟨B, hy212⟩ : ∃ y_ : List (S44), y_ = (s.drop (D : Int).toNat) := ⟨_, rfl⟩
 replace H : (if U.length + B.length < 4398046511104 then (some (U ++ B)) else (none)) = some r := hb_ hy212 H
 have aK := Q_ hy212
 clear hy212
 by_cases a3 : U.length + B.length < 4398046511104
 rotate_left
 ·rw [if_neg a3] at H
  exact nn_ H
 rw [if_pos a3] at H
 have bh := Q_ a3
 clear a3
 obtain ⟨bw, hy217⟩ : ∃ y_ : List (S44), y_ = (U ++ B) := ⟨_, rfl⟩
 replace H : (some bw) = some r := hb_ hy217 H
 have bk := Q_ hy217
 clear hy217
 obtain rfl := Option.some.inj H
 try go_wp2_with (first | ((with_reducible refine gate_callee (f := 38) rfl ?_); refine gl_ (some 48) Try.func38 #[.int .i64 a1, .int .i64 1, .int .i64 (wrap64 ((Y.length : Int) + 1))] ?_; (with_reducible refine (spec_PickOf.calls k2 a1 1 (wrap64 ((Y.length : Int) + 1)) D _ bC.1).mono ?_); rintro e bQ ⟨rfl, hb⟩; refine ⟨_, rfl, ?_⟩; have _ := Q_ (Kd.N_below (by (with_reducible repeat (first | apply Kd.N_alloc | apply Kd.N_drewN | apply Kd.N_drew)); exact q.1) hb); have _ := Q_ (Kd.R_below (pr_ l.1) hb); have _ := Q_ (bb_ d.1 hb); have _ := Q_ (below_step (pb1_ HB.1 t.1) hb); clear q l d HB; rename_i q l d HB; (try clear hb)))
 have _ := Q_ (Kd.N_drew q.1)
 have _ := Q_ (Kd.R_drew l.1)
 have _ := Q_ (blk_drew d.1)
 have _ := Q_ (below_drew1 HB.1)
 clear q l d HB
 rename_i q l d HB
 obtain ⟨z, y, a9⟩ := Kd.N_slice q.1
 (first | subst a9 | (injection a9 with f1_ f2_ f3_; have f4_ := f1_.symm; have f5_ := f3_.symm; clear f1_ f2_ f3_; subst f4_; subst f5_))
 have bm : (D : Int) ≤ ((s.length : Int) : Int) := dt_
 obtain ⟨i038, aQ, _, hsz38, _⟩ := info_parts info44
 have hroom38 : s.length ≤ y := (Kd.N_reads' q.1).2.1
 have hC38 : Kd.F k44 _ _ z s.length s := (Kd.V_at (base := w.heap.size) (Kd.N_V q.1)).2.2
 have hcut38 := cut_to (P := Try.prog) 27 44 .i64 Try.underlying27 aQ z s.length y D dt_ bm hroom38
 have hr38 := Kd.F_take (m := (D : Int).toNat) hC38 (by omega)
 have hy38 : W.length = (D : Int).toNat := (by rw [aJ.1, List.length_take]; omega)
 rw [← aJ.1] at hr38
 rw [← hy38] at hcut38
 have v := Q_ (show Kd.V k44 44 _ w.heap.size _ (.slice z W.length y) W from Kd.V_mk (by omega) hr38)
 have bE := Q_ (show W.length ≤ y from by omega)
 clear hr38 hC38 hroom38 aQ hsz38
 have KY38 := Q_ hy38
 clear hy38
 replace bm := eq_true bm
 have bn : (D : Int) ≤ ((s.length : Int) : Int) := dt_
 obtain ⟨i040, aT, _, hsz40, _⟩ := info_parts info44
 have hroom40 : s.length ≤ y := (Kd.N_reads' q.1).2.1
 have hC40 : Kd.F k44 _ _ z s.length s := (Kd.V_at (base := w.heap.size) (Kd.N_V q.1)).2.2
 have bu : (0 : Int) ≤ (D : Int) := dt_
 have hcut40 := cut_from (P := Try.prog) 27 44 .i64 Try.underlying27 aT 2 hsz40 z s.length y D bu bn
 have hr40 := Kd.F_cut (m := (D : Int).toNat) (c := y) hC40 (by omega) hroom40
 obtain ⟨aX, hA40⟩ : ∃ A1, A1 = (if y = (D : Int).toNat then z else (z : Option Addr).map (·.add ((D : Int).toNat * 2))) := ⟨_, rfl⟩
 obtain ⟨a4, az⟩ : ∃ c1, c1 = y - (D : Int).toNat := ⟨_, rfl⟩
 have hy40 : B.length = s.length - (D : Int).toNat := (by rw [aK.1, List.length_drop] <;> omega)
 rw [show (s).drop (D : Int).toNat = B from aK.1.symm] at hr40
 replace hr40 : Kd.F k44 _ _ aX B.length B := (by rw [hA40]; exact hr40)
 rw [← hy40, ← hA40, ← az] at hcut40
 have x := Q_ (show Kd.V k44 44 _ w.heap.size _ (.slice aX B.length a4) B from Kd.V_mk (by rw [hy40, az]; exact Nat.sub_le_sub_right hroom40 _) hr40)
 have bF := Q_ (show B.length ≤ a4 from by rw [hy40, az]; exact Nat.sub_le_sub_right hroom40 _)
 clear hr40 hC40 hroom40 aT hsz40 az
 have KY40 := Q_ hy40
 have KA40 := Q_ hA40
 clear hy40 hA40
 replace bn := eq_true bn
 refine start_ (n := 13) (S := fun w' => w'.cell? ⟨b, 0, none⟩ = some (.int .i64 u) ∧ w'.cell? ⟨b, 1, none⟩ = some (O)) (ds := []) (tf_ 0 13) (by kernel_rfl) rfl rfl (sb_ d.1) (fun hHeld => ?_); refine with_tabW spec_AddGrease.tab11 spec_AddGrease.bits11 (fun HT_ HW_ => ?_)
 generalize bQ.drew = bv at q l d HB v x hHeld ⊢
 refine pu1_ 1 50 13 2 ?_
 refine pu1_ 2 51 13 6 ?_
 refine pu1_ 3 52 13 14 ?_
 refine pu1_ 8 57 13 270 ?_
 refine pu1_ 9 58 13 782 ?_
 refine pu1_ 10 59 13 1806 ?_
 refine ta1_ 5 54 13 1838 hHeld ?_
 obtain ⟨AoX, coX, eoX⟩ := Kd.R_slice l.1
 subst eoX
 refine join_ (σ := Value × Value × Value) 3 #[true, true, true, true, true, true, true, false, true, true, true, false, false] (fun s_ => [(49, s_.1), (53, s_.2.1), (55, s_.2.2)]) (fun s_ w' => (w'.cell? ⟨b, 0, none⟩ = some (.int .i64 u) ∧ w'.cell? ⟨b, 1, none⟩ = some (.slice AoX a.length coX)) ∧ (Kd.V k44 44 w' w.heap.size (fun k_ => (w.heap.size ≤ k_) ∧ some k_ ≠ (s_.2.1 : Value).ownBlock ∧ some k_ ≠ (s_.2.2 : Value).ownBlock ∧ k_ ≠ b) (.slice z W.length y) W) ∧ (Kd.N k44 44 w' w.heap.size (fun k_ => (w.heap.size ≤ k_) ∧ some k_ ≠ (s_.2.2 : Value).ownBlock ∧ k_ ≠ b) s_.2.1 X) ∧ (Kd.N k44 44 w' w.heap.size (fun k_ => (w.heap.size ≤ k_) ∧ some k_ ≠ (s_.2.1 : Value).ownBlock ∧ some k_ ≠ (.slice z s.length y : Value).ownBlock ∧ k_ ≠ b) s_.2.2 I) ∧ (Kd.V k44 44 w' w.heap.size (fun k_ => (w.heap.size ≤ k_) ∧ some k_ ≠ (s_.2.1 : Value).ownBlock ∧ some k_ ≠ (s_.2.2 : Value).ownBlock ∧ k_ ≠ b) (.slice aX B.length a4) B) ∧ (Kd.N k44 44 w' w.heap.size (fun k_ => (w.heap.size ≤ k_) ∧ some k_ ≠ (s_.2.1 : Value).ownBlock ∧ some k_ ≠ (s_.2.2 : Value).ownBlock ∧ k_ ≠ b) (.slice z s.length y) s) ∧ (w'.heap[b]? = some (.cells #[.int .i64 u, .slice AoX a.length coX] 44 (0, 0))) ∧ (Below w.heap.size w w')) ?_ ?_
 rotate_left
 ·intro hCont
  refine two_ (i := 0) (j := 6) (Ni := some 49) (Nj := some 55) #[true, true, true, true, false, true, false, false, true, true, true, false, false] #[false, true, true, true, false, true, true, false, true, true, true, false, false] rfl rfl rfl rfl (two_of HT_.1 (by kernel_rfl)) (by decide) (by decide) (fun K hK => ?_) (fun K hK => ?_)
  ·skip
   refine Kd.N_lit_step k44 _ 44 ?hg (N' := 49) ?hd (xs := ([] : List (S44))) (inner := []) (ok := (fun k_ => (w.heap.size ≤ k_) ∧ some k_ ≠ (.slice z s.length y : Value).ownBlock ∧ some k_ ≠ (.slice AoX a.length coX : Value).ownBlock ∧ k_ ≠ b)) (okp := (fun k_ => (w.heap.size ≤ k_) ∧ some k_ ≠ (.slice z s.length y : Value).ownBlock ∧ some k_ ≠ (.slice AoX a.length coX : Value).ownBlock ∧ k_ ≠ b)) ?hr ?hp (fun _ hk => hk) ((show ∀ k_, bv.heap.size ≤ k_ → (fun k_ => (w.heap.size ≤ k_) ∧ some k_ ≠ (.slice z s.length y : Value).ownBlock ∧ some k_ ≠ (.slice AoX a.length coX : Value).ownBlock ∧ k_ ≠ b) k_ from fun k_ hk => ⟨(Nat.le_trans (below_size (pb1_ HB.1 t.1)) hk), Kd.fresh' (Kd.N_lt (by (with_reducible repeat (first | apply Kd.N_alloc | apply Kd.N_drewN | apply Kd.N_drew)); exact q.1)) k_ hk, Kd.fresh' (Kd.R_lt (pr_ l.1)) k_ hk, Kd.freshB (g := b) (o := .cells #[.int .i64 u, .slice AoX a.length coX] 44 (0, 0)) (pk_ d.1) k_ hk⟩) _ (Nat.le_refl _)) (Below.refl _ _) (Nat.le_refl _) (by simp) ?_; (case hd => rfl); (case hg => rfl); (case hr => first | (go_simp; done) | (go_simp; rfl)); (case hp => exact (Reps.none _ _))
   intro Q bR ad hb hg_ hnew_
   clear hg_ hnew_
   (first | rw [← an.1] at ad | (simp only [Int.reduceToNat] at ad; rw [← an.1] at ad))
   have _ := Q_ (Kd.N_elder' (by (with_reducible repeat (first | apply Kd.N_alloc | apply Kd.N_drewN | apply Kd.N_drew)); exact q.1) (Kd.N_base ad) hb)
   have _ := Q_ (Kd.R_below (pr_ l.1) hb)
   have _ := Q_ (Kd.V_elder' (by (with_reducible repeat (first | apply Kd.V_alloc | apply Kd.V_drewN | apply Kd.V_drew)); exact v.1) (Kd.N_base ad) hb)
   have _ := Q_ (Kd.V_elder' (by (with_reducible repeat (first | apply Kd.V_alloc | apply Kd.V_drewN | apply Kd.V_drew)); exact x.1) (Kd.N_base ad) hb)
   have _ := Q_ (Kd.N_lower ad (below_size (pb1_ HB.1 t.1)))
   have _ := Q_ (bb_ d.1 hb)
   have _ := Q_ (below_step (pb1_ HB.1 t.1) hb)
   clear q l v x d HB
   rename_i q l v x G d HB
   clear hb ad
   refine hK.out _ _ (sb_ d.1) (fun hHeld => ?_)
   clear hK K
   refine no_ (some 49) ?_
   refine two_ (i := 4) (j := 6) (Ni := some 53) (Nj := some 55) #[true, true, true, true, true, true, false, false, true, true, true, false, false] #[true, true, true, true, false, true, true, false, true, true, true, false, false] rfl rfl rfl rfl (two_of HT_.1 (by kernel_rfl)) (by decide) (by decide) (fun K hK => ?_) (fun K hK => ?_)
   ·skip
    refine Kd.N_append_rows_step k44 (w0 := w) w.heap.size (by rfl) (.tmp 49) (.tmp 52) 27 44 (.agg #[(.int .i64 0), (.slice none 0 0)]) 32 rfl Try.underlying27 info44 rfl (by decide) (by omega) Q aa W _ _ _ (fun k_ => (w.heap.size ≤ k_) ∧ some k_ ≠ (.slice AoX a.length coX : Value).ownBlock ∧ k_ ≠ b) (fun k_ => ((fun k_ => (w.heap.size ≤ k_) ∧ some k_ ≠ (.slice AoX a.length coX : Value).ownBlock ∧ k_ ≠ b)) k_ ∧ some k_ ≠ (Q : Value).ownBlock) rfl rfl ?aO ?aR (fun _ hk => hk) ?aF ?aB ?aS ?aL ?_
    (case aR => exact (by skip; exact Kd.V_F (Kd.V_mono (ok' := (fun k_ => ((fun k_ => (w.heap.size ≤ k_) ∧ some k_ ≠ (.slice AoX a.length coX : Value).ownBlock ∧ k_ ≠ b)) k_ ∧ some k_ ≠ (Q : Value).ownBlock)) (v.1) (fun k_ hk => ⟨⟨hk.1.1, ⟨hk.1.2.1, hk.1.2.2⟩⟩, hk.2⟩))))
    (case aB => exact (pb1_ HB.1 t.1))
    (case aF => exact (fun k_ hk => ⟨(Nat.le_trans (below_size (pb1_ HB.1 t.1)) hk), Kd.fresh' (Kd.R_lt (pr_ l.1)) k_ hk, Kd.freshB (g := b) (o := .cells #[.int .i64 u, .slice AoX a.length coX] 44 (0, 0)) (pk_ d.1) k_ hk⟩))
    (case aO => exact (by (with_reducible repeat (first | apply Kd.N_alloc | apply Kd.N_drewN | apply Kd.N_drew)); exact Kd.N_mono G.1 (fun _ hk => ⟨hk.1, ⟨hk.2.2.1, hk.2.2.2⟩⟩)))
    (case aS => exact (below_size (pb1_ HB.1 t.1)))
    (case aL => have := aw.1; omega)
    intro T bT ho hb hg hat
    rw [← ax.1] at ho
    have _ := Q_ (Kd.N_afterv (ok := (fun k_ => (w.heap.size ≤ k_) ∧ some k_ ≠ (.slice AoX a.length coX : Value).ownBlock ∧ k_ ≠ b)) (by (with_reducible repeat (first | apply Kd.N_alloc | apply Kd.N_drewN | apply Kd.N_drew)); exact q.1) hg hat)
    have _ := Q_ (Kd.R_over' (pr_ l.1) (Kd.N_typed (by (with_reducible repeat (first | apply Kd.N_alloc | apply Kd.N_drewN | apply Kd.N_drew)); exact G.1)) (by decide) hg)
    have _ := Q_ (blk_grown (g := b) (o := .cells #[.int .i64 u, .slice AoX a.length coX] 44 (0, 0)) (pk_ d.1) hg (Kd.N_away G.1 (fun _ hk => hk.2.2.2)))
    have _ := Q_ (Kd.V_afterv (ok := (fun k_ => (w.heap.size ≤ k_) ∧ some k_ ≠ (.slice AoX a.length coX : Value).ownBlock ∧ k_ ≠ b)) (by (with_reducible repeat (first | apply Kd.V_alloc | apply Kd.V_drewN | apply Kd.V_drew)); exact v.1) hg hat)
    have _ := Q_ (Kd.V_afterv (ok := (fun k_ => (w.heap.size ≤ k_) ∧ some k_ ≠ (.slice AoX a.length coX : Value).ownBlock ∧ k_ ≠ b)) (by (with_reducible repeat (first | apply Kd.V_alloc | apply Kd.V_drewN | apply Kd.V_drew)); exact x.1) hg hat)
    have _ := Q_ (hb)
    have _ := Q_ (ho)
    clear q l d v x HB G
    rename_i q l d v x HB J
    clear ho hb hg hat
    refine hK.out _ _ (sb_ d.1) (fun hHeld => ?_)
    clear hK K
    refine no_ (some 53) ?_
    refine on_ 6 (some 55) (tm_ 13 1919) HT_ (fun K hK => ?_)
    refine Kd.N_lit_step k44 _ 44 ?hg (N' := 55) ?hd (xs := ([(⟨u, a⟩ : S44)] : List (S44))) (inner := [.int .i64 u, .slice AoX a.length coX]) (ok := (fun k_ => (w.heap.size ≤ k_) ∧ some k_ ≠ (.slice z s.length y : Value).ownBlock ∧ some k_ ≠ (T : Value).ownBlock ∧ k_ ≠ b)) (okp := (fun k_ => (w.heap.size ≤ k_) ∧ some k_ ≠ (.slice z s.length y : Value).ownBlock ∧ some k_ ≠ (T : Value).ownBlock ∧ k_ ≠ b)) ?hr ?hp (fun _ hk => hk) ((show ∀ k_, bT.heap.size ≤ k_ → (fun k_ => (w.heap.size ≤ k_) ∧ some k_ ≠ (.slice z s.length y : Value).ownBlock ∧ some k_ ≠ (T : Value).ownBlock ∧ k_ ≠ b) k_ from fun k_ hk => ⟨(Nat.le_trans (below_size (pb1_ HB.1 t.1)) hk), Kd.fresh' (Kd.N_lt (by (with_reducible repeat (first | apply Kd.N_alloc | apply Kd.N_drewN | apply Kd.N_drew)); exact q.1)) k_ hk, Kd.fresh' (Kd.N_lt (by (with_reducible repeat (first | apply Kd.N_alloc | apply Kd.N_drewN | apply Kd.N_drew)); exact J.1)) k_ hk, Kd.freshB (g := b) (o := .cells #[.int .i64 u, .slice AoX a.length coX] 44 (0, 0)) (pk_ d.1) k_ hk⟩) _ (Nat.le_refl _)) (Below.refl _ _) (Nat.le_refl _) (by simp) ?_; (case hd => rfl); (case hg => rfl); (case hr => first | (go_simp; done) | (go_simp; rfl)); (case hp => exact (Reps.c2 (show Kd.FK k44 _ _ (⟨u, a⟩ : S44) [.int .i64 u, .slice AoX a.length coX] from (k44_mkF _ _ (⟨u, a⟩ : S44) (Kd.R_reads' (Kd.R_mono (ok' := (fun k_ => (w.heap.size ≤ k_) ∧ some k_ ≠ (.slice z s.length y : Value).ownBlock ∧ some k_ ≠ (T : Value).ownBlock ∧ k_ ≠ b)) (Kd.R_types (Kd.R_apart' (Kd.R_apart' (l.1) (Kd.N_typed q.1) (by decide)) (Kd.N_typed J.1) (by decide)) d.1 (by decide)) (fun k_ hk => ⟨hk.1.1.1, ⟨hk.1.1.2, ⟨hk.1.2, hk.2⟩⟩⟩))).2.1 (Kd.R_F (Kd.R_mono (ok' := (fun k_ => (w.heap.size ≤ k_) ∧ some k_ ≠ (.slice z s.length y : Value).ownBlock ∧ some k_ ≠ (T : Value).ownBlock ∧ k_ ≠ b)) (Kd.R_types (Kd.R_apart' (Kd.R_apart' (l.1) (Kd.N_typed q.1) (by decide)) (Kd.N_typed J.1) (by decide)) d.1 (by decide)) (fun k_ hk => ⟨hk.1.1.1, ⟨hk.1.1.2, ⟨hk.1.2, hk.2⟩⟩⟩))))) (Reps.none _ _)))
    intro E ca Z hb hg_ hnew_
    clear hg_ hnew_
    (first | rw [← ac.1] at Z | (simp only [Int.reduceToNat] at Z; rw [← ac.1] at Z))
    have _ := Q_ (Kd.N_elder' (by (with_reducible repeat (first | apply Kd.N_alloc | apply Kd.N_drewN | apply Kd.N_drew)); exact q.1) (Kd.N_base Z) hb)
    have _ := Q_ (Kd.V_elder' (by (with_reducible repeat (first | apply Kd.V_alloc | apply Kd.V_drewN | apply Kd.V_drew)); exact v.1) (Kd.N_base Z) hb)
    have _ := Q_ (Kd.V_elder' (by (with_reducible repeat (first | apply Kd.V_alloc | apply Kd.V_drewN | apply Kd.V_drew)); exact x.1) (Kd.N_base Z) hb)
    have _ := Q_ (Kd.N_elder' (by (with_reducible repeat (first | apply Kd.N_alloc | apply Kd.N_drewN | apply Kd.N_drew)); exact J.1) (Kd.N_base Z) hb)
    have _ := Q_ (Kd.N_lower Z (below_size (pb1_ HB.1 t.1)))
    have _ := Q_ (bb_ d.1 hb)
    have _ := Q_ (below_step (pb1_ HB.1 t.1) hb)
    clear q v x J d HB l
    rename_i q v x J A d HB
    clear hb Z
    refine hK.out _ _ (sb_ d.1) (fun hHeld => ?_)
    clear hK K
    refine no_ (some 55) ?_
    exact norm_ (by simp only [putAll, Act.put, List.setIfInBounds_toArray, List.set_cons_zero, List.set_cons_succ]) (hCont (Q, T, E) _ ⟨hHeld, (by (with_reducible repeat (first | apply Kd.V_alloc | apply Kd.V_drewN | apply Kd.V_drew)); exact Kd.V_mono v.1 (fun _ hk => ⟨hk.1.1.1, ⟨hk.1.2, ⟨hk.2, hk.1.1.2.2⟩⟩⟩)), (by (with_reducible repeat (first | apply Kd.N_alloc | apply Kd.N_drewN | apply Kd.N_drew)); exact Kd.N_mono J.1 (fun _ hk => ⟨hk.1.1, ⟨hk.2, hk.1.2.2⟩⟩)), (by (with_reducible repeat (first | apply Kd.N_alloc | apply Kd.N_drewN | apply Kd.N_drew)); exact Kd.N_mono A.1 (fun _ hk => ⟨hk.1, ⟨hk.2.2.1, ⟨hk.2.1, hk.2.2.2⟩⟩⟩)), (by (with_reducible repeat (first | apply Kd.V_alloc | apply Kd.V_drewN | apply Kd.V_drew)); exact Kd.V_mono x.1 (fun _ hk => ⟨hk.1.1.1, ⟨hk.1.2, ⟨hk.2, hk.1.1.2.2⟩⟩⟩)), (by (with_reducible repeat (first | apply Kd.N_alloc | apply Kd.N_drewN | apply Kd.N_drew)); exact Kd.N_mono q.1 (fun _ hk => ⟨hk.1.1.1, ⟨hk.1.2, ⟨hk.2, hk.1.1.2.2⟩⟩⟩)), (pk_ d.1), (pb1_ HB.1 t.1)⟩)
   ·skip
    refine Kd.N_lit_step k44 _ 44 ?hg (N' := 55) ?hd (xs := ([(⟨u, a⟩ : S44)] : List (S44))) (inner := [.int .i64 u, .slice AoX a.length coX]) (ok := (fun k_ => (w.heap.size ≤ k_) ∧ some k_ ≠ (.slice z s.length y : Value).ownBlock ∧ some k_ ≠ (Q : Value).ownBlock ∧ k_ ≠ b)) (okp := (fun k_ => (w.heap.size ≤ k_) ∧ some k_ ≠ (.slice z s.length y : Value).ownBlock ∧ some k_ ≠ (Q : Value).ownBlock ∧ k_ ≠ b)) ?hr ?hp (fun _ hk => hk) ((show ∀ k_, bR.heap.size ≤ k_ → (fun k_ => (w.heap.size ≤ k_) ∧ some k_ ≠ (.slice z s.length y : Value).ownBlock ∧ some k_ ≠ (Q : Value).ownBlock ∧ k_ ≠ b) k_ from fun k_ hk => ⟨(Nat.le_trans (below_size (pb1_ HB.1 t.1)) hk), Kd.fresh' (Kd.N_lt (by (with_reducible repeat (first | apply Kd.N_alloc | apply Kd.N_drewN | apply Kd.N_drew)); exact q.1)) k_ hk, Kd.fresh' (Kd.N_lt (by (with_reducible repeat (first | apply Kd.N_alloc | apply Kd.N_drewN | apply Kd.N_drew)); exact G.1)) k_ hk, Kd.freshB (g := b) (o := .cells #[.int .i64 u, .slice AoX a.length coX] 44 (0, 0)) (pk_ d.1) k_ hk⟩) _ (Nat.le_refl _)) (Below.refl _ _) (Nat.le_refl _) (by simp) ?_; (case hd => rfl); (case hg => rfl); (case hr => first | (go_simp; done) | (go_simp; rfl)); (case hp => exact (Reps.c2 (show Kd.FK k44 _ _ (⟨u, a⟩ : S44) [.int .i64 u, .slice AoX a.length coX] from (k44_mkF _ _ (⟨u, a⟩ : S44) (Kd.R_reads' (Kd.R_mono (ok' := (fun k_ => (w.heap.size ≤ k_) ∧ some k_ ≠ (.slice z s.length y : Value).ownBlock ∧ some k_ ≠ (Q : Value).ownBlock ∧ k_ ≠ b)) (Kd.R_types (Kd.R_apart' (Kd.R_apart' (l.1) (Kd.N_typed q.1) (by decide)) (Kd.N_typed G.1) (by decide)) d.1 (by decide)) (fun k_ hk => ⟨hk.1.1.1, ⟨hk.1.1.2, ⟨hk.1.2, hk.2⟩⟩⟩))).2.1 (Kd.R_F (Kd.R_mono (ok' := (fun k_ => (w.heap.size ≤ k_) ∧ some k_ ≠ (.slice z s.length y : Value).ownBlock ∧ some k_ ≠ (Q : Value).ownBlock ∧ k_ ≠ b)) (Kd.R_types (Kd.R_apart' (Kd.R_apart' (l.1) (Kd.N_typed q.1) (by decide)) (Kd.N_typed G.1) (by decide)) d.1 (by decide)) (fun k_ hk => ⟨hk.1.1.1, ⟨hk.1.1.2, ⟨hk.1.2, hk.2⟩⟩⟩))))) (Reps.none _ _)))
    intro E bU L hb hg_ hnew_
    clear hg_ hnew_
    (first | rw [← ac.1] at L | (simp only [Int.reduceToNat] at L; rw [← ac.1] at L))
    have _ := Q_ (Kd.N_elder' (by (with_reducible repeat (first | apply Kd.N_alloc | apply Kd.N_drewN | apply Kd.N_drew)); exact q.1) (Kd.N_base L) hb)
    have _ := Q_ (Kd.V_elder' (by (with_reducible repeat (first | apply Kd.V_alloc | apply Kd.V_drewN | apply Kd.V_drew)); exact v.1) (Kd.N_base L) hb)
    have _ := Q_ (Kd.V_elder' (by (with_reducible repeat (first | apply Kd.V_alloc | apply Kd.V_drewN | apply Kd.V_drew)); exact x.1) (Kd.N_base L) hb)
    have _ := Q_ (Kd.N_elder' (by (with_reducible repeat (first | apply Kd.N_alloc | apply Kd.N_drewN | apply Kd.N_drew)); exact G.1) (Kd.N_base L) hb)
    have _ := Q_ (Kd.N_lower L (below_size (pb1_ HB.1 t.1)))
    have _ := Q_ (bb_ d.1 hb)
    have _ := Q_ (below_step (pb1_ HB.1 t.1) hb)
    clear q v x G d HB l
    rename_i q v x G A d HB
    clear hb L
    refine hK.out _ _ (sb_ d.1) (fun hHeld => ?_)
    clear hK K
    refine no_ (some 55) ?_
    refine on_ 4 (some 53) (tm_ 13 1919) HT_ (fun K hK => ?_)
    refine Kd.N_append_rows_step k44 (w0 := w) w.heap.size (by rfl) (.tmp 49) (.tmp 52) 27 44 (.agg #[(.int .i64 0), (.slice none 0 0)]) 32 rfl Try.underlying27 info44 rfl (by decide) (by omega) Q aa W _ _ _ (fun k_ => (w.heap.size ≤ k_) ∧ some k_ ≠ (E : Value).ownBlock ∧ k_ ≠ b) (fun k_ => ((fun k_ => (w.heap.size ≤ k_) ∧ some k_ ≠ (E : Value).ownBlock ∧ k_ ≠ b)) k_ ∧ some k_ ≠ (Q : Value).ownBlock) rfl rfl ?aO ?aR (fun _ hk => hk) ?aF ?aB ?aS ?aL ?_
    (case aR => exact (by skip; exact Kd.V_F (Kd.V_mono (ok' := (fun k_ => ((fun k_ => (w.heap.size ≤ k_) ∧ some k_ ≠ (E : Value).ownBlock ∧ k_ ≠ b)) k_ ∧ some k_ ≠ (Q : Value).ownBlock)) (v.1) (fun k_ hk => ⟨⟨hk.1.1.1, ⟨hk.2, hk.1.1.2.2⟩⟩, hk.1.2⟩))))
    (case aB => exact (pb1_ HB.1 t.1))
    (case aF => exact (fun k_ hk => ⟨(Nat.le_trans (below_size (pb1_ HB.1 t.1)) hk), Kd.fresh' (Kd.N_lt (by (with_reducible repeat (first | apply Kd.N_alloc | apply Kd.N_drewN | apply Kd.N_drew)); exact A.1)) k_ hk, Kd.freshB (g := b) (o := .cells #[.int .i64 u, .slice AoX a.length coX] 44 (0, 0)) (pk_ d.1) k_ hk⟩))
    (case aO => exact (by (with_reducible repeat (first | apply Kd.N_alloc | apply Kd.N_drewN | apply Kd.N_drew)); exact Kd.N_mono G.1 (fun _ hk => ⟨hk.1.1, ⟨hk.2, hk.1.2.2.2⟩⟩)))
    (case aS => exact (below_size (pb1_ HB.1 t.1)))
    (case aL => have := aw.1; omega)
    intro T bV ho hb hg hat
    rw [← ax.1] at ho
    have _ := Q_ (Kd.N_afterv (ok := (fun k_ => (w.heap.size ≤ k_) ∧ some k_ ≠ (E : Value).ownBlock ∧ k_ ≠ b)) (by (with_reducible repeat (first | apply Kd.N_alloc | apply Kd.N_drewN | apply Kd.N_drew)); exact Kd.N_mono q.1 (fun _ hk => ⟨⟨hk.1.1.1, ⟨hk.2, hk.1.1.2.2⟩⟩, hk.1.2⟩)) hg hat)
    have _ := Q_ (blk_grown (g := b) (o := .cells #[.int .i64 u, .slice AoX a.length coX] 44 (0, 0)) (pk_ d.1) hg (Kd.N_away G.1 (fun _ hk => hk.1.2.2.2)))
    have _ := Q_ (Kd.V_afterv (ok := (fun k_ => (w.heap.size ≤ k_) ∧ some k_ ≠ (E : Value).ownBlock ∧ k_ ≠ b)) (by (with_reducible repeat (first | apply Kd.V_alloc | apply Kd.V_drewN | apply Kd.V_drew)); exact Kd.V_mono v.1 (fun _ hk => ⟨⟨hk.1.1.1, ⟨hk.2, hk.1.1.2.2⟩⟩, hk.1.2⟩)) hg hat)
    have _ := Q_ (Kd.V_afterv (ok := (fun k_ => (w.heap.size ≤ k_) ∧ some k_ ≠ (E : Value).ownBlock ∧ k_ ≠ b)) (by (with_reducible repeat (first | apply Kd.V_alloc | apply Kd.V_drewN | apply Kd.V_drew)); exact Kd.V_mono x.1 (fun _ hk => ⟨⟨hk.1.1.1, ⟨hk.2, hk.1.1.2.2⟩⟩, hk.1.2⟩)) hg hat)
    have _ := Q_ (Kd.N_afterv (ok := (fun k_ => (w.heap.size ≤ k_) ∧ some k_ ≠ (.slice z s.length y : Value).ownBlock ∧ k_ ≠ b)) (by (with_reducible repeat (first | apply Kd.N_alloc | apply Kd.N_drewN | apply Kd.N_drew)); exact Kd.N_mono A.1 (fun _ hk => ⟨⟨hk.1, ⟨hk.2.1, hk.2.2.2⟩⟩, hk.2.2.1⟩)) hg hat)
    have _ := Q_ (hb)
    have _ := Q_ (ho)
    clear q d v x A HB G
    rename_i q d v x A HB J
    clear ho hb hg hat
    refine hK.out _ _ (sb_ d.1) (fun hHeld => ?_)
    clear hK K
    refine no_ (some 53) ?_
    exact norm_ (by simp only [putAll, Act.put, List.setIfInBounds_toArray, List.set_cons_zero, List.set_cons_succ]) (hCont (Q, T, E) _ ⟨hHeld, (by (with_reducible repeat (first | apply Kd.V_alloc | apply Kd.V_drewN | apply Kd.V_drew)); exact Kd.V_mono v.1 (fun _ hk => ⟨hk.1.1, ⟨hk.2, ⟨hk.1.2.1, hk.1.2.2⟩⟩⟩)), (by (with_reducible repeat (first | apply Kd.N_alloc | apply Kd.N_drewN | apply Kd.N_drew)); exact J.1), (by (with_reducible repeat (first | apply Kd.N_alloc | apply Kd.N_drewN | apply Kd.N_drew)); exact Kd.N_mono A.1 (fun _ hk => ⟨hk.1.1, ⟨hk.2, ⟨hk.1.2.1, hk.1.2.2⟩⟩⟩)), (by (with_reducible repeat (first | apply Kd.V_alloc | apply Kd.V_drewN | apply Kd.V_drew)); exact Kd.V_mono x.1 (fun _ hk => ⟨hk.1.1, ⟨hk.2, ⟨hk.1.2.1, hk.1.2.2⟩⟩⟩)), (by (with_reducible repeat (first | apply Kd.N_alloc | apply Kd.N_drewN | apply Kd.N_drew)); exact Kd.N_mono q.1 (fun _ hk => ⟨hk.1.1, ⟨hk.2, ⟨hk.1.2.1, hk.1.2.2⟩⟩⟩)), (pk_ d.1), (pb1_ HB.1 t.1)⟩)
  ·skip
   refine Kd.N_lit_step k44 _ 44 ?hg (N' := 55) ?hd (xs := ([(⟨u, a⟩ : S44)] : List (S44))) (inner := [.int .i64 u, .slice AoX a.length coX]) (ok := (fun k_ => (w.heap.size ≤ k_) ∧ some k_ ≠ (.slice z s.length y : Value).ownBlock ∧ k_ ≠ b)) (okp := (fun k_ => (w.heap.size ≤ k_) ∧ some k_ ≠ (.slice z s.length y : Value).ownBlock ∧ k_ ≠ b)) ?hr ?hp (fun _ hk => hk) ((show ∀ k_, bv.heap.size ≤ k_ → (fun k_ => (w.heap.size ≤ k_) ∧ some k_ ≠ (.slice z s.length y : Value).ownBlock ∧ k_ ≠ b) k_ from fun k_ hk => ⟨(Nat.le_trans (below_size (pb1_ HB.1 t.1)) hk), Kd.fresh' (Kd.N_lt (by (with_reducible repeat (first | apply Kd.N_alloc | apply Kd.N_drewN | apply Kd.N_drew)); exact q.1)) k_ hk, Kd.freshB (g := b) (o := .cells #[.int .i64 u, .slice AoX a.length coX] 44 (0, 0)) (pk_ d.1) k_ hk⟩) _ (Nat.le_refl _)) (Below.refl _ _) (Nat.le_refl _) (by simp) ?_; (case hd => rfl); (case hg => rfl); (case hr => first | (go_simp; done) | (go_simp; rfl)); (case hp => exact (Reps.c2 (show Kd.FK k44 _ _ (⟨u, a⟩ : S44) [.int .i64 u, .slice AoX a.length coX] from (k44_mkF _ _ (⟨u, a⟩ : S44) (Kd.R_reads' (Kd.R_mono (ok' := (fun k_ => (w.heap.size ≤ k_) ∧ some k_ ≠ (.slice z s.length y : Value).ownBlock ∧ k_ ≠ b)) (Kd.R_types (Kd.R_apart' (l.1) (Kd.N_typed q.1) (by decide)) d.1 (by decide)) (fun k_ hk => ⟨hk.1.1, ⟨hk.1.2, hk.2⟩⟩))).2.1 (Kd.R_F (Kd.R_mono (ok' := (fun k_ => (w.heap.size ≤ k_) ∧ some k_ ≠ (.slice z s.length y : Value).ownBlock ∧ k_ ≠ b)) (Kd.R_types (Kd.R_apart' (l.1) (Kd.N_typed q.1) (by decide)) d.1 (by decide)) (fun k_ hk => ⟨hk.1.1, ⟨hk.1.2, hk.2⟩⟩))))) (Reps.none _ _)))
   intro E bS ae hb hg_ hnew_
   clear hg_ hnew_
   (first | rw [← ac.1] at ae | (simp only [Int.reduceToNat] at ae; rw [← ac.1] at ae))
   have _ := Q_ (Kd.N_elder' (by (with_reducible repeat (first | apply Kd.N_alloc | apply Kd.N_drewN | apply Kd.N_drew)); exact q.1) (Kd.N_base ae) hb)
   have _ := Q_ (Kd.V_elder' (by (with_reducible repeat (first | apply Kd.V_alloc | apply Kd.V_drewN | apply Kd.V_drew)); exact v.1) (Kd.N_base ae) hb)
   have _ := Q_ (Kd.V_elder' (by (with_reducible repeat (first | apply Kd.V_alloc | apply Kd.V_drewN | apply Kd.V_drew)); exact x.1) (Kd.N_base ae) hb)
   have _ := Q_ (Kd.N_lower ae (below_size (pb1_ HB.1 t.1)))
   have _ := Q_ (bb_ d.1 hb)
   have _ := Q_ (below_step (pb1_ HB.1 t.1) hb)
   clear q v x d HB l
   rename_i q v x A d HB
   clear hb ae
   refine hK.out _ _ (sb_ d.1) (fun hHeld => ?_)
   clear hK K
   refine no_ (some 55) ?_
   refine on_ 0 (some 49) (tm_ 13 1903) HT_ (fun K hK => ?_)
   refine Kd.N_lit_step k44 _ 44 ?hg (N' := 49) ?hd (xs := ([] : List (S44))) (inner := []) (ok := (fun k_ => (w.heap.size ≤ k_) ∧ some k_ ≠ (.slice z s.length y : Value).ownBlock ∧ some k_ ≠ (E : Value).ownBlock ∧ k_ ≠ b)) (okp := (fun k_ => (w.heap.size ≤ k_) ∧ some k_ ≠ (.slice z s.length y : Value).ownBlock ∧ some k_ ≠ (E : Value).ownBlock ∧ k_ ≠ b)) ?hr ?hp (fun _ hk => hk) ((show ∀ k_, bS.heap.size ≤ k_ → (fun k_ => (w.heap.size ≤ k_) ∧ some k_ ≠ (.slice z s.length y : Value).ownBlock ∧ some k_ ≠ (E : Value).ownBlock ∧ k_ ≠ b) k_ from fun k_ hk => ⟨(Nat.le_trans (below_size (pb1_ HB.1 t.1)) hk), Kd.fresh' (Kd.N_lt (by (with_reducible repeat (first | apply Kd.N_alloc | apply Kd.N_drewN | apply Kd.N_drew)); exact q.1)) k_ hk, Kd.fresh' (Kd.N_lt (by (with_reducible repeat (first | apply Kd.N_alloc | apply Kd.N_drewN | apply Kd.N_drew)); exact A.1)) k_ hk, Kd.freshB (g := b) (o := .cells #[.int .i64 u, .slice AoX a.length coX] 44 (0, 0)) (pk_ d.1) k_ hk⟩) _ (Nat.le_refl _)) (Below.refl _ _) (Nat.le_refl _) (by simp) ?_; (case hd => rfl); (case hg => rfl); (case hr => first | (go_simp; done) | (go_simp; rfl)); (case hp => exact (Reps.none _ _))
   intro Q bU L hb hg_ hnew_
   clear hg_ hnew_
   (first | rw [← an.1] at L | (simp only [Int.reduceToNat] at L; rw [← an.1] at L))
   have _ := Q_ (Kd.N_elder' (by (with_reducible repeat (first | apply Kd.N_alloc | apply Kd.N_drewN | apply Kd.N_drew)); exact q.1) (Kd.N_base L) hb)
   have _ := Q_ (Kd.V_elder' (by (with_reducible repeat (first | apply Kd.V_alloc | apply Kd.V_drewN | apply Kd.V_drew)); exact v.1) (Kd.N_base L) hb)
   have _ := Q_ (Kd.V_elder' (by (with_reducible repeat (first | apply Kd.V_alloc | apply Kd.V_drewN | apply Kd.V_drew)); exact x.1) (Kd.N_base L) hb)
   have _ := Q_ (Kd.N_elder' (by (with_reducible repeat (first | apply Kd.N_alloc | apply Kd.N_drewN | apply Kd.N_drew)); exact A.1) (Kd.N_base L) hb)
   have _ := Q_ (Kd.N_lower L (below_size (pb1_ HB.1 t.1)))
   have _ := Q_ (bb_ d.1 hb)
   have _ := Q_ (below_step (pb1_ HB.1 t.1) hb)
   clear q v x A d HB
   rename_i q v x A G d HB
   clear hb L
   refine hK.out _ _ (sb_ d.1) (fun hHeld => ?_)
   clear hK K
   refine no_ (some 49) ?_
   refine on_ 4 (some 53) (tm_ 13 1919) HT_ (fun K hK => ?_)
   refine Kd.N_append_rows_step k44 (w0 := w) w.heap.size (by rfl) (.tmp 49) (.tmp 52) 27 44 (.agg #[(.int .i64 0), (.slice none 0 0)]) 32 rfl Try.underlying27 info44 rfl (by decide) (by omega) Q aa W _ _ _ (fun k_ => (w.heap.size ≤ k_) ∧ some k_ ≠ (E : Value).ownBlock ∧ k_ ≠ b) (fun k_ => ((fun k_ => (w.heap.size ≤ k_) ∧ some k_ ≠ (E : Value).ownBlock ∧ k_ ≠ b)) k_ ∧ some k_ ≠ (Q : Value).ownBlock) rfl rfl ?aO ?aR (fun _ hk => hk) ?aF ?aB ?aS ?aL ?_
   (case aR => exact (by skip; exact Kd.V_F (Kd.V_mono (ok' := (fun k_ => ((fun k_ => (w.heap.size ≤ k_) ∧ some k_ ≠ (E : Value).ownBlock ∧ k_ ≠ b)) k_ ∧ some k_ ≠ (Q : Value).ownBlock)) (v.1) (fun k_ hk => ⟨⟨hk.1.1.1, ⟨hk.1.2, hk.1.1.2.2⟩⟩, hk.2⟩))))
   (case aB => exact (pb1_ HB.1 t.1))
   (case aF => exact (fun k_ hk => ⟨(Nat.le_trans (below_size (pb1_ HB.1 t.1)) hk), Kd.fresh' (Kd.N_lt (by (with_reducible repeat (first | apply Kd.N_alloc | apply Kd.N_drewN | apply Kd.N_drew)); exact A.1)) k_ hk, Kd.freshB (g := b) (o := .cells #[.int .i64 u, .slice AoX a.length coX] 44 (0, 0)) (pk_ d.1) k_ hk⟩))
   (case aO => exact (by (with_reducible repeat (first | apply Kd.N_alloc | apply Kd.N_drewN | apply Kd.N_drew)); exact Kd.N_mono G.1 (fun _ hk => ⟨hk.1, ⟨hk.2.2.1, hk.2.2.2⟩⟩)))
   (case aS => exact (below_size (pb1_ HB.1 t.1)))
   (case aL => have := aw.1; omega)
   intro T bV ho hb hg hat
   rw [← ax.1] at ho
   have _ := Q_ (Kd.N_afterv (ok := (fun k_ => (w.heap.size ≤ k_) ∧ some k_ ≠ (E : Value).ownBlock ∧ k_ ≠ b)) (by (with_reducible repeat (first | apply Kd.N_alloc | apply Kd.N_drewN | apply Kd.N_drew)); exact Kd.N_mono q.1 (fun _ hk => ⟨⟨hk.1.1.1, ⟨hk.1.2, hk.1.1.2.2⟩⟩, hk.2⟩)) hg hat)
   have _ := Q_ (blk_grown (g := b) (o := .cells #[.int .i64 u, .slice AoX a.length coX] 44 (0, 0)) (pk_ d.1) hg (Kd.N_away G.1 (fun _ hk => hk.2.2.2)))
   have _ := Q_ (Kd.V_afterv (ok := (fun k_ => (w.heap.size ≤ k_) ∧ some k_ ≠ (E : Value).ownBlock ∧ k_ ≠ b)) (by (with_reducible repeat (first | apply Kd.V_alloc | apply Kd.V_drewN | apply Kd.V_drew)); exact Kd.V_mono v.1 (fun _ hk => ⟨⟨hk.1.1.1, ⟨hk.1.2, hk.1.1.2.2⟩⟩, hk.2⟩)) hg hat)
   have _ := Q_ (Kd.V_afterv (ok := (fun k_ => (w.heap.size ≤ k_) ∧ some k_ ≠ (E : Value).ownBlock ∧ k_ ≠ b)) (by (with_reducible repeat (first | apply Kd.V_alloc | apply Kd.V_drewN | apply Kd.V_drew)); exact Kd.V_mono x.1 (fun _ hk => ⟨⟨hk.1.1.1, ⟨hk.1.2, hk.1.1.2.2⟩⟩, hk.2⟩)) hg hat)
   have _ := Q_ (Kd.N_afterv (ok := (fun k_ => (w.heap.size ≤ k_) ∧ some k_ ≠ (.slice z s.length y : Value).ownBlock ∧ k_ ≠ b)) (by (with_reducible repeat (first | apply Kd.N_alloc | apply Kd.N_drewN | apply Kd.N_drew)); exact A.1) hg hat)
   have _ := Q_ (hb)
   have _ := Q_ (ho)
   clear q d v x A HB G
   rename_i q d v x A HB J
   clear ho hb hg hat
   refine hK.out _ _ (sb_ d.1) (fun hHeld => ?_)
   clear hK K
   refine no_ (some 53) ?_
   exact norm_ (by simp only [putAll, Act.put, List.setIfInBounds_toArray, List.set_cons_zero, List.set_cons_succ]) (hCont (Q, T, E) _ ⟨hHeld, (by (with_reducible repeat (first | apply Kd.V_alloc | apply Kd.V_drewN | apply Kd.V_drew)); exact Kd.V_mono v.1 (fun _ hk => ⟨hk.1.1, ⟨hk.2, ⟨hk.1.2.1, hk.1.2.2⟩⟩⟩)), (by (with_reducible repeat (first | apply Kd.N_alloc | apply Kd.N_drewN | apply Kd.N_drew)); exact J.1), (by (with_reducible repeat (first | apply Kd.N_alloc | apply Kd.N_drewN | apply Kd.N_drew)); exact Kd.N_mono A.1 (fun _ hk => ⟨hk.1.1, ⟨hk.2, ⟨hk.1.2.1, hk.1.2.2⟩⟩⟩)), (by (with_reducible repeat (first | apply Kd.V_alloc | apply Kd.V_drewN | apply Kd.V_drew)); exact Kd.V_mono x.1 (fun _ hk => ⟨hk.1.1, ⟨hk.2, ⟨hk.1.2.1, hk.1.2.2⟩⟩⟩)), (by (with_reducible repeat (first | apply Kd.N_alloc | apply Kd.N_drewN | apply Kd.N_drew)); exact Kd.N_mono q.1 (fun _ hk => ⟨hk.1.1, ⟨hk.2, ⟨hk.1.2.1, hk.1.2.2⟩⟩⟩)), (pk_ d.1), (pb1_ HB.1 t.1)⟩)
 rintro ⟨Q, T, E⟩ ao ⟨hS_, h0_, h1_, h2_, h3_, h4_, h5_, h6_⟩
 have n0_ : Aside0 (Kd.V k44 44 ao w.heap.size (fun k_ => (w.heap.size ≤ k_) ∧ some k_ ≠ (T : Value).ownBlock ∧ some k_ ≠ (E : Value).ownBlock ∧ k_ ≠ b) (.slice z W.length y) W) := ⟨h0_⟩
 have n1_ : Aside0 (Kd.N k44 44 ao w.heap.size (fun k_ => (w.heap.size ≤ k_) ∧ some k_ ≠ (E : Value).ownBlock ∧ k_ ≠ b) T X) := ⟨h1_⟩
 have n2_ : Aside0 (Kd.N k44 44 ao w.heap.size (fun k_ => (w.heap.size ≤ k_) ∧ some k_ ≠ (T : Value).ownBlock ∧ some k_ ≠ (.slice z s.length y : Value).ownBlock ∧ k_ ≠ b) E I) := ⟨h2_⟩
 have n3_ : Aside0 (Kd.V k44 44 ao w.heap.size (fun k_ => (w.heap.size ≤ k_) ∧ some k_ ≠ (T : Value).ownBlock ∧ some k_ ≠ (E : Value).ownBlock ∧ k_ ≠ b) (.slice aX B.length a4) B) := ⟨h3_⟩
 have n4_ : Aside0 (Kd.N k44 44 ao w.heap.size (fun k_ => (w.heap.size ≤ k_) ∧ some k_ ≠ (T : Value).ownBlock ∧ some k_ ≠ (E : Value).ownBlock ∧ k_ ≠ b) (.slice z s.length y) s) := ⟨h4_⟩
 have n5_ : Aside0 (ao.heap[b]? = some (.cells #[.int .i64 u, .slice AoX a.length coX] 44 (0, 0))) := ⟨h5_⟩
 have n6_ : Aside0 (Below w.heap.size w ao) := ⟨h6_⟩
 clear q
 clear l
 clear d
 clear HB
 clear h0_ h1_ h2_ h3_ h4_ h5_ h6_
 have v := n0_
 have J := n1_
 have A := n2_
 have x := n3_
 have q := n4_
 have d := n5_
 have HB := n6_
 clear n0_ n1_ n2_ n3_ n4_ n5_ n6_
 have hHeld : ao.cell? ⟨b, 0, none⟩ = some (.int .i64 u) ∧ ao.cell? ⟨b, 1, none⟩ = some (.slice AoX a.length coX) := hS_
 obtain ⟨aj, al, ba⟩ := Kd.N_slice A.1
 (first | subst ba | (injection ba with f1_ f2_ f3_; have f4_ := f1_.symm; have f5_ := f3_.symm; clear f1_ f2_ f3_; subst f4_; subst f5_))
 refine norm_ (a' := ?_) ?_ ?_
 rotate_left
 ·simp only [putAll, Act.put, List.setIfInBounds_toArray, List.set_cons_zero, List.set_cons_succ]
  rfl
 refine on_ 7 (some 56) (tf_ 11 13) HT_ (fun K hK => ?_)
 refine Kd.N_append_rows_step k44 (w0 := w) w.heap.size (by rfl) (.tmp 53) (.tmp 55) 27 44 (.agg #[(.int .i64 0), (.slice none 0 0)]) 32 rfl Try.underlying27 info44 rfl (by decide) (by omega) T X I _ _ _ (fun k_ => (w.heap.size ≤ k_) ∧ k_ ≠ b) (fun k_ => ((fun k_ => (w.heap.size ≤ k_) ∧ k_ ≠ b)) k_ ∧ some k_ ≠ (T : Value).ownBlock) rfl rfl ?aO ?aR (fun _ hk => hk) ?aF ?aB ?aS ?aL ?_
 (case aR => exact (by skip; exact Kd.N_F (Kd.N_mono (ok' := (fun k_ => ((fun k_ => (w.heap.size ≤ k_) ∧ k_ ≠ b)) k_ ∧ some k_ ≠ (T : Value).ownBlock)) (A.1) (fun k_ hk => ⟨⟨hk.1, hk.2.2.2⟩, hk.2.1⟩))))
 (case aB => exact (pb1_ HB.1 t.1))
 (case aF => exact (fun k_ hk => ⟨(Nat.le_trans (below_size (pb1_ HB.1 t.1)) hk), Kd.freshB (g := b) (o := .cells #[.int .i64 u, .slice AoX a.length coX] 44 (0, 0)) (pk_ d.1) k_ hk⟩))
 (case aO => exact (by (with_reducible repeat (first | apply Kd.N_alloc | apply Kd.N_drewN | apply Kd.N_drew)); exact Kd.N_mono J.1 (fun _ hk => ⟨hk.1, hk.2.2⟩)))
 (case aS => exact (below_size (pb1_ HB.1 t.1)))
 (case aL => have := bg.1; omega)
 intro aW cb ho hb hg hat
 rw [← bj.1] at ho
 have _ := Q_ (Kd.N_afterv (ok := (fun k_ => (w.heap.size ≤ k_) ∧ some k_ ≠ (.slice aj I.length al : Value).ownBlock ∧ k_ ≠ b)) (by (with_reducible repeat (first | apply Kd.N_alloc | apply Kd.N_drewN | apply Kd.N_drew)); exact Kd.N_mono q.1 (fun _ hk => ⟨⟨hk.1, ⟨hk.2.2.1, hk.2.2.2⟩⟩, hk.2.1⟩)) hg hat)
 have _ := Q_ (blk_grown (g := b) (o := .cells #[.int .i64 u, .slice AoX a.length coX] 44 (0, 0)) (pk_ d.1) hg (Kd.N_away J.1 (fun _ hk => hk.2.2)))
 have _ := Q_ (Kd.V_afterv (ok := (fun k_ => (w.heap.size ≤ k_) ∧ some k_ ≠ (.slice aj I.length al : Value).ownBlock ∧ k_ ≠ b)) (by (with_reducible repeat (first | apply Kd.V_alloc | apply Kd.V_drewN | apply Kd.V_drew)); exact Kd.V_mono v.1 (fun _ hk => ⟨⟨hk.1, ⟨hk.2.2.1, hk.2.2.2⟩⟩, hk.2.1⟩)) hg hat)
 have _ := Q_ (Kd.V_afterv (ok := (fun k_ => (w.heap.size ≤ k_) ∧ some k_ ≠ (.slice aj I.length al : Value).ownBlock ∧ k_ ≠ b)) (by (with_reducible repeat (first | apply Kd.V_alloc | apply Kd.V_drewN | apply Kd.V_drew)); exact Kd.V_mono x.1 (fun _ hk => ⟨⟨hk.1, ⟨hk.2.2.1, hk.2.2.2⟩⟩, hk.2.1⟩)) hg hat)
 have _ := Q_ (Kd.N_afterv (ok := (fun k_ => (w.heap.size ≤ k_) ∧ some k_ ≠ (.slice z s.length y : Value).ownBlock ∧ k_ ≠ b)) (by (with_reducible repeat (first | apply Kd.N_alloc | apply Kd.N_drewN | apply Kd.N_drew)); exact Kd.N_mono A.1 (fun _ hk => ⟨⟨hk.1, ⟨hk.2.2.1, hk.2.2.2⟩⟩, hk.2.1⟩)) hg hat)
 have _ := Q_ (hb)
 have _ := Q_ (ho)
 clear q d v x A HB J
 rename_i q d v x A HB av
 clear ho hb hg hat
 refine hK.out _ _ (sb_ d.1) (fun hHeld => ?_)
 clear hK K
 refine no_ (some 56) ?_
 refine on_ 11 (some 60) (tf_ 12 13) HT_ (fun K hK => ?_)
 refine Kd.N_append_rows_step k44 (w0 := w) w.heap.size (by rfl) (.tmp 56) (.tmp 59) 27 44 (.agg #[(.int .i64 0), (.slice none 0 0)]) 32 rfl Try.underlying27 info44 rfl (by decide) (by omega) aW U B _ _ _ (fun k_ => (w.heap.size ≤ k_) ∧ k_ ≠ b) (fun k_ => ((fun k_ => (w.heap.size ≤ k_) ∧ k_ ≠ b)) k_ ∧ some k_ ≠ (aW : Value).ownBlock) rfl rfl ?aO ?aR (fun _ hk => hk) ?aF ?aB ?aS ?aL ?_
 (case aR => exact (by skip; exact Kd.V_F (Kd.V_mono (ok' := (fun k_ => ((fun k_ => (w.heap.size ≤ k_) ∧ k_ ≠ b)) k_ ∧ some k_ ≠ (aW : Value).ownBlock)) (x.1) (fun k_ hk => ⟨⟨hk.1.1, hk.1.2.2⟩, hk.2⟩))))
 (case aB => exact (pb1_ HB.1 t.1))
 (case aF => exact (fun k_ hk => ⟨(Nat.le_trans (below_size (pb1_ HB.1 t.1)) hk), Kd.freshB (g := b) (o := .cells #[.int .i64 u, .slice AoX a.length coX] 44 (0, 0)) (pk_ d.1) k_ hk⟩))
 (case aO => exact (by (with_reducible repeat (first | apply Kd.N_alloc | apply Kd.N_drewN | apply Kd.N_drew)); exact av.1))
 (case aS => exact (below_size (pb1_ HB.1 t.1)))
 (case aL => have := bh.1; omega)
 intro bZ cc ho hb hg hat
 rw [← bk.1] at ho
 have _ := Q_ (Kd.N_afterv (ok := (fun k_ => (w.heap.size ≤ k_) ∧ some k_ ≠ (.slice aj I.length al : Value).ownBlock ∧ k_ ≠ b)) (by (with_reducible repeat (first | apply Kd.N_alloc | apply Kd.N_drewN | apply Kd.N_drew)); exact q.1) hg hat)
 have _ := Q_ (blk_grown (g := b) (o := .cells #[.int .i64 u, .slice AoX a.length coX] 44 (0, 0)) (pk_ d.1) hg (Kd.N_away av.1 (fun _ hk => hk.2)))
 have _ := Q_ (Kd.V_afterv (ok := (fun k_ => (w.heap.size ≤ k_) ∧ some k_ ≠ (.slice aj I.length al : Value).ownBlock ∧ k_ ≠ b)) (by (with_reducible repeat (first | apply Kd.V_alloc | apply Kd.V_drewN | apply Kd.V_drew)); exact v.1) hg hat)
 have _ := Q_ (Kd.V_afterv (ok := (fun k_ => (w.heap.size ≤ k_) ∧ some k_ ≠ (.slice aj I.length al : Value).ownBlock ∧ k_ ≠ b)) (by (with_reducible repeat (first | apply Kd.V_alloc | apply Kd.V_drewN | apply Kd.V_drew)); exact x.1) hg hat)
 have _ := Q_ (Kd.N_afterv (ok := (fun k_ => (w.heap.size ≤ k_) ∧ some k_ ≠ (.slice z s.length y : Value).ownBlock ∧ k_ ≠ b)) (by (with_reducible repeat (first | apply Kd.N_alloc | apply Kd.N_drewN | apply Kd.N_drew)); exact A.1) hg hat)
 have _ := Q_ (hb)
 have _ := Q_ (ho)
 clear q d v x A HB av
 rename_i q d v x A HB be
 clear ho hb hg hat
 refine hK.out _ _ (sb_ d.1) (fun hHeld => ?_)
 clear hK K
 refine no_ (some 60) ?_
 refine pu1_ 12 4 13 8191 ?_
 refine done_ (done_of HT_.1 (by kernel_rfl)) ?_
 try go_wp2
 go_ret
 exact ⟨_, er_, by (with_reducible repeat (first | apply Kd.N_alloc | apply Kd.N_drewN | apply Kd.N_drew)); exact Kd.N_mono be.1 (fun _ hk => hk.1), pb1_ HB.1 t.1⟩

end Go.Proofs.Ytibmehnippjakaa.Print
