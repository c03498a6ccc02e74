-- Written by a program of this session (printx.py) out of the translation; Lean checks it.
import Derived.Test.YtldcchjbaglppaaPrint0
import Derived.Test.YtldcchjbaglppaaPrint3
import Derived.Test.YtldcchjbaglppaaPrint4
namespace Go.Proofs.Ytldcchjbaglppaa.Print
open Go.RowKit Go.Proofs.YtldcchjbaglppaaW.PrintWords Go.Proofs.YtldcchjbaglppaaW.PrintLast Go.Proofs.YtldcchjbaglppaaW.PrintMore Go.Proofs.Ytldcchjbaglppaa.Short
attribute [local go_sem] max2_int min2_int max_two min_two max_three min_three max_four min_four   -- for this text's walks alone
set_option linter.unusedVariables false
set_option linter.unusedSimpArgs false

/-! ### spec_IsMachine: function 59 -/
mutual
def spec_IsMachine.j0 : Nat → Bool → Int → List Bool → List (S78) → Option (Bool)
  | 0, _, _, _, _ => none
  | k + 1, x22, x214000, x214001, x214002 => if x22 = true then (some false) else (spec_IsMachine.l0 k 0 x214000 x214001 x214002)
def spec_IsMachine.l0 : Nat → Int → Int → List Bool → List (S78) → Option (Bool)
  | 0, _, _, _, _ => none
  | k + 1, x3, x214000, x214001, x214002 => if x3 < (x214002.length : Int) then (if 0 ≤ x3 then ((spec_l1In.f ((rd_T78 x214002 x3).f0) 0 (wrap64 (x214000 - 1))).bind fun t217 => (if t217 = true then ((spec_l1In.f ((rd_T78 x214002 x3).f3) 0 (wrap64 (x214000 - 1))).bind fun t218 => (if t218 = true then ((spec_l1In.f ((rd_T78 x214002 x3).f2) 0 5).bind fun t219 => (if t219 = true then ((spec_MoveOf.f k x214000 x214001 x214002 ((rd_T78 x214002 x3).f0) ((rd_T78 x214002 x3).f1) ((rd_T78 x214002 x3).f2)).bind fun t220 => (if t220 < x3 then (some false) else ((spec_MovesFrom.f k x214000 x214001 x214002 ((rd_T78 x214002 x3).f0) (!((rd_T78 x214002 x3).f1))).bind fun t221 => (if (t221.length : Int) > 0 then (some false) else (spec_IsMachine.l0 k (wrap64 (x3 + 1)) x214000 x214001 x214002))))) else (some false))) else (some false))) else (some false))) else (none)) else (some true)
end
def spec_IsMachine.f (k : Nat) (a0_0 : Int) (l0_1 : List Bool) (l0_2 : List (S78)) : Option (Bool) := (spec_l1In.f a0_0 1 6).bind fun t214 => (if t214 = true then (if (l0_1.length : Int) = a0_0 then (spec_IsMachine.j0 k (decide ((l0_2.length : Int) > 12)) a0_0 l0_1 l0_2) else (spec_IsMachine.j0 k true a0_0 l0_1 l0_2)) else (spec_IsMachine.j0 k true a0_0 l0_1 l0_2))
theorem spec_IsMachine.mono_l : ∀ k, (∀ y0 y1 y2 y3, LeO (spec_IsMachine.j0 k y0 y1 y2 y3) (spec_IsMachine.j0 (k + 1) y0 y1 y2 y3)) ∧ (∀ y0 y1 y2 y3, LeO (spec_IsMachine.l0 k y0 y1 y2 y3) (spec_IsMachine.l0 (k + 1) y0 y1 y2 y3))
  | 0 => ⟨fun _ _ _ _ r h => by simp [spec_IsMachine.j0] at h, fun _ _ _ _ r h => by simp [spec_IsMachine.l0] at h⟩
  | k + 1 => by
    obtain ⟨ih0, ih1⟩ := spec_IsMachine.mono_l k
    refine ⟨?_, ?_⟩
    · intro y0 y1 y2 y3
      unfold spec_IsMachine.j0
      exact mo4_ ih0 ih1 spec_MoveOf.mono spec_MovesFrom.mono
    · intro y0 y1 y2 y3
      unfold spec_IsMachine.l0
      exact mo4_ ih0 ih1 spec_MoveOf.mono spec_MovesFrom.mono
theorem spec_IsMachine.mono : ∀ a0 a1 a2 k, LeO (spec_IsMachine.f k a0 a1 a2) (spec_IsMachine.f (k + 1) a0 a1 a2) := by
  intro a0 a1 a2 k
  obtain ⟨ih0, ih1⟩ := spec_IsMachine.mono_l k
  unfold spec_IsMachine.f
  exact mo4_ ih0 ih1 spec_MoveOf.mono spec_MovesFrom.mono
set_option maxHeartbeats 8000000 in
set_option maxRecDepth 100000 in
theorem spec_IsMachine.calls (k : Nat) (a0_0 : Int) (A0_1 : Option Addr) (c0_1 : Nat) (l0_1 : List Bool) (A0_2 : Option Addr) (c0_2 : Nat) (l0_2 : List (S78)) (r : Bool) (w : World) (hr0_1 : Kd.C Kd.bool w A0_1 l0_1.length l0_1) (hc0_1 : l0_1.length ≤ c0_1) (hr0_2 : Kd.C k78 w A0_2 l0_2.length l0_2) (hc0_2 : l0_2.length ≤ c0_2) (h : spec_IsMachine.f k a0_0 l0_1 l0_2 = some r) :
    Calls Try.prog 59 #[.agg #[.int .i64 a0_0, .slice A0_1 l0_1.length c0_1, .slice A0_2 l0_2.length c0_2]] w fun e w' => e = .returned (.bool r) ∧ Below w.heap.size w w' := by
  have hu34 := Try.underlying34
  have hu78 := Try.underlying78
  have HR0_1 := Q_ hr0_1
  have HC0_1 := Q_ hc0_1
  clear hr0_1 hc0_1
  have HR0_2 := Q_ hr0_2
  have HC0_2 := Q_ hc0_2
  clear hr0_2 hc0_2
  have HB := Q_ (Below.refl w.heap.size w)
  have H : ((spec_l1In.f a0_0 1 6).bind fun t214 => (if t214 = true then (if (l0_1.length : Int) = a0_0 then (spec_IsMachine.j0 k (decide ((l0_2.length : Int) > 12)) a0_0 l0_1 l0_2) else (spec_IsMachine.j0 k true a0_0 l0_1 l0_2)) else (spec_IsMachine.j0 k true a0_0 l0_1 l0_2))) = some r := h
  clear h
  have HC2 := Q_ H
  clear H
  go_enter Try.func59, Try.ntmps59
  go_upto_region 1 with (first | ((with_reducible refine gate_dst (N := 1) rfl ?_); (try (refine gate_guard (by rfl) ?_; dsimp only)); refine box_event ?hg (N := 1) ?hd (cs := #[.int .i64 a0_0, .slice A0_1 l0_1.length c0_1, .slice A0_2 l0_2.length c0_2]) (t := 34) ?hr ?_; (case hd => rfl); (case hg => rfl); (case hr => first | (go_simp; done) | (go_simp; rfl)); intro gb213 hg w3 hbox hb; have n0_ := Q_ (below_step (pb_ HB.out) hb); have n1_ := Q_ (hbox); have n2_ := Q_ ((by rw [hg]; exact (below_size (pb_ HB.out)) : w.heap.size ≤ gb213)); have n3_ := n2_; clear HB; have HB := n0_; have BK213 := n1_; have GW213 := n2_; have GE213 := n3_; clear n0_ n1_ n2_ n3_; clear hb hbox hg))
  (try simp only [Act.put, List.setIfInBounds_toArray, List.set_cons_zero, List.set_cons_succ])
  go_cut [22] (fun v22 wc => ∃ (kq : Nat) (x22_1 : Bool), v22 = .bool x22_1 ∧ Aside0 (spec_IsMachine.j0 kq x22_1 a0_0 l0_1 l0_2 = some r) ∧ Aside0 (kq ≤ k) ∧ Aside0 (wc.heap[gb213]? = some (.cells #[.int .i64 a0_0, (.slice A0_1 l0_1.length c0_1), (.slice A0_2 l0_2.length c0_2)] 34 (0, 0))) ∧ Aside0 (Below w.heap.size w wc))
  case first =>
    have H := HC2.out
    clear HC2
    replace H := Option.bind_eq_some_iff.mp H
    obtain ⟨t214, A40, H⟩ := H
    (try dsimp only at H)
    have A4 := Q_ A40
    clear A40
    by_cases c5 : t214 = true
    rotate_left
    · replace c5 := Bool.eq_false_iff.mpr c5
      subst c5
      rw [if_neg (show ¬ (false = true) by decide)] at H
      have H' := Q_ H
      clear H
      have hcz6 := bc3_ BK213.out
      go_wp2_with (first | ((with_reducible refine gate_callee (f := 45) rfl ?_); refine gl_ (some 7) Try.func45 #[.int .i64 a0_0, .int .i64 1, .int .i64 6] ?_; (with_reducible refine (spec_l1In.calls a0_0 1 6 false _ A4.out).mono ?_); rintro e w' ⟨rfl, ⟨nd, rfl⟩⟩; refine ⟨_, rfl, ?_⟩))
      go_meet
      case rel => exact ⟨_, (true), el_, H', ⟨by first | omega | exact Nat.le_refl _⟩, ⟨pk_ BK213.out⟩, ⟨pb1_ HB.out GE213.out⟩⟩
    subst c5
    rw [if_pos rfl] at H
    by_cases c7 : (l0_1.length : Int) = a0_0
    rotate_left
    · rw [if_neg c7] at H
      have c7b0 : ((l0_1.length : Int) == a0_0) = false := beq_eq_false_iff_ne.mpr c7
      have c7b1 : ((l0_1.length : Int) != a0_0) = true := bne_iff_ne.mpr c7
      (first | rw [c7b0] | (simp only [i64_w, i32_w]; rw [c7b0]) | rw [c7b1] | (have c_ := c7b1; rw [bne] at c_; rw [c_]; clear c_) | skip)
      have H' := Q_ H
      clear H
      have hcz8 := bc3_ BK213.out
      go_wp2_with (first | ((with_reducible refine gate_callee (f := 45) rfl ?_); refine gl_ (some 7) Try.func45 #[.int .i64 a0_0, .int .i64 1, .int .i64 6] ?_; (with_reducible refine (spec_l1In.calls a0_0 1 6 true _ A4.out).mono ?_); rintro e w' ⟨rfl, ⟨nd, rfl⟩⟩; refine ⟨_, rfl, ?_⟩))
      go_meet
      case rel => exact ⟨_, (true), el_, H', ⟨by first | omega | exact Nat.le_refl _⟩, ⟨pk_ BK213.out⟩, ⟨pb1_ HB.out GE213.out⟩⟩
    rw [if_pos c7] at H
    have c7b0 : ((l0_1.length : Int) == a0_0) = true := beq_iff_eq.mpr c7
    have c7b1 : ((l0_1.length : Int) != a0_0) = false := bne_eq_false_iff_eq.mpr c7
    clear c7
    (first | rw [c7b0] | (simp only [i64_w, i32_w]; rw [c7b0]) | rw [c7b1] | (have c_ := c7b1; rw [bne] at c_; rw [c_]; clear c_) | skip)
    have H' := Q_ H
    clear H
    have hcz9 := bc3_ BK213.out
    go_wp2_with (first | ((with_reducible refine gate_callee (f := 45) rfl ?_); refine gl_ (some 7) Try.func45 #[.int .i64 a0_0, .int .i64 1, .int .i64 6] ?_; (with_reducible refine (spec_l1In.calls a0_0 1 6 true _ A4.out).mono ?_); rintro e w' ⟨rfl, ⟨nd, rfl⟩⟩; refine ⟨_, rfl, ?_⟩))
    go_meet
    case rel => exact ⟨_, (decide ((l0_2.length : Int) > 12)), el_, H', ⟨by first | omega | exact Nat.le_refl _⟩, ⟨pk_ BK213.out⟩, ⟨pb1_ HB.out GE213.out⟩⟩
  clear HC2
  try clear p2
  try clear c4
  try clear c5
  try clear c7
  try clear c7b0
  try clear c7b1
  try clear hcz6
  try clear hcz8
  try clear hcz9
  obtain ⟨kq, x22_1, rfl, HA, HJ1, BK213, HB⟩ := hcut
  rcases kq with _ | kj1
  · exact absurd HA.out (by simp [spec_IsMachine.j0])
  have H := HA.out
  clear HA
  simp only [spec_IsMachine.j0] at H
  by_cases c10 : x22_1 = true
  rotate_left
  · replace c10 := Bool.eq_false_iff.mpr c10
    subst c10
    rw [if_neg (show ¬ (false = true) by decide)] at H
    have H' := Q_ H
    clear H
    go_wp2
    go_loopg [3] kj1 (fun kq v3 w' => ∃ (x3_2 : Int), v3 = .int .i64 x3_2 ∧ Aside0 (spec_IsMachine.l0 kq x3_2 a0_0 l0_1 l0_2 = some r) ∧ Aside0 (kq ≤ kj1) ∧ Aside0 (w'.heap[gb213]? = some (.cells #[.int .i64 a0_0, (.slice A0_1 l0_1.length c0_1), (.slice A0_2 l0_2.length c0_2)] 34 (0, 0))) ∧ Aside0 (Below w.heap.size w w'))
    case atStart => exact ⟨(0), el_, H', ⟨Nat.le_refl _⟩, ⟨pk_ BK213.out⟩, ⟨pb1_ HB.out GE213.out⟩⟩
    clear H'
    try clear c1
    try clear p2
    try clear c4
    try clear c5
    try clear c7
    try clear c7b0
    try clear c7b1
    try clear c10
    try clear p2
    obtain ⟨x3_2, rfl, HA, HK2, BK213, HB⟩ := hrel
    rcases gk with _ | k2
    · exact absurd HA.out (by simp [spec_IsMachine.l0])
    have H := HA.out
    clear HA
    simp only [spec_IsMachine.l0] at H
    by_cases c11 : x3_2 < (l0_2.length : Int)
    rotate_left
    · rw [if_neg c11] at H
      have c11b0 : decide (x3_2 < (l0_2.length : Int)) = false := decide_eq_false c11
      clear c11
      obtain rfl := Option.some.inj H
      have hcz12 := bc3_ BK213.out
      go_wp2
      go_ret
      exact ⟨er_, pb1_ HB.out GE213.out⟩
    rw [if_pos c11] at H
    have c11b0 : decide (x3_2 < (l0_2.length : Int)) = true := decide_eq_true c11
    clear c11
    by_cases c13 : 0 ≤ x3_2
    rotate_left
    · rw [if_neg c13] at H
      exact absurd H (by simp)
    rw [if_pos c13] at H
    have c13b0 : decide (0 ≤ x3_2) = true := decide_eq_true c13
    clear c13
    have HS_ := Q_ H
    clear H
    have hcz14 := bc3_ BK213.out
    have p215 : 0 ≤ (x3_2 : Int) := dt_
    have q215 : x3_2 < (l0_2.length : Int) := dt_
    obtain ⟨ad215, e215, hx215_0, hx215_1, hx215_2, hx215_3⟩ := at_T78 HR0_2.out x3_2 p215 q215
    cases e215
    replace hx215_0 := bt_ HB hx215_0
    replace hx215_1 := bt_ HB hx215_1
    replace hx215_2 := bt_ HB hx215_2
    replace hx215_3 := bt_ HB hx215_3
    replace p215 := eq_true p215
    replace q215 := eq_true q215
    go_upto_region 7 with (first | ((with_reducible refine gate_dst (N := 4) rfl ?_); (try (refine gate_guard (by rfl) ?_; dsimp only)); refine box_event ?hg (N := 4) ?hd (cs := #[.int .i64 0, .bool false, .int .i64 0, .int .i64 0]) (t := 78) ?hr ?_; (case hd => rfl); (case hg => rfl); (case hr => first | (go_simp; done) | (go_simp; rfl)); intro gb216 hg w15 hbox hb; have n0_ := Q_ (bb_ BK213.out hb); have n1_ := Q_ (below_step (pb1_ HB.out GE213.out) hb); have n2_ := Q_ (hbox); have n3_ := Q_ ((by rw [hg]; exact (below_size (pb1_ HB.out GE213.out)) : w.heap.size ≤ gb216)); have n4_ := n3_; have n5_ := Q_ ((by rw [hg]; exact Nat.ne_of_lt (blk_lt (pk_ BK213.out)) : gb213 ≠ gb216)); have n6_ := Q_ ((by rw [hg]; exact Nat.ne_of_gt (blk_lt (pk_ BK213.out)) : gb216 ≠ gb213)); clear BK213; clear HB; have BK213 := n0_; have HB := n1_; have BK216 := n2_; have GW216 := n3_; have GE216 := n4_; have NB213_216 := n5_; have NB216_213 := n6_; clear n0_ n1_ n2_ n3_ n4_ n5_ n6_; clear hb hbox hg; have hnb16 := NB216_213.out; have hnc16 := NB213_216.out; have hcz17 := bc4_ BK216.out))
    (try simp only [Act.put, List.setIfInBounds_toArray, List.set_cons_zero, List.set_cons_succ])
    have H := HS_.out
    clear HS_
    replace H := Option.bind_eq_some_iff.mp H
    obtain ⟨t217, A180, H⟩ := H
    (try dsimp only at H)
    have A18 := Q_ A180
    clear A180
    by_cases c19 : t217 = true
    rotate_left
    · replace c19 := Bool.eq_false_iff.mpr c19
      subst c19
      rw [if_neg (show ¬ (false = true) by decide)] at H
      obtain rfl := Option.some.inj H
      have hnb20 := NB216_213.out
      have hnc20 := NB213_216.out
      have hcz21 := bc4_ BK216.out
      have hcz22 := bc3_ BK213.out
      go_wp2_with (first | ((with_reducible refine gate_callee (f := 45) rfl ?_); refine gl_ (some 40) Try.func45 #[.int .i64 ((rd_T78 l0_2 x3_2).f0), .int .i64 0, .int .i64 (wrap64 (a0_0 - 1))] ?_; (with_reducible refine (spec_l1In.calls ((rd_T78 l0_2 x3_2).f0) 0 (wrap64 (a0_0 - 1)) false _ A18.out).mono ?_); rintro e w' ⟨rfl, ⟨nd, rfl⟩⟩; refine ⟨_, rfl, ?_⟩))
      go_ret
      exact ⟨er_, pb2_ HB.out GE213.out GE216.out⟩
    subst c19
    rw [if_pos rfl] at H
    replace H := Option.bind_eq_some_iff.mp H
    obtain ⟨t218, A230, H⟩ := H
    (try dsimp only at H)
    have A23 := Q_ A230
    clear A230
    by_cases c24 : t218 = true
    rotate_left
    · replace c24 := Bool.eq_false_iff.mpr c24
      subst c24
      rw [if_neg (show ¬ (false = true) by decide)] at H
      obtain rfl := Option.some.inj H
      have hnb25 := NB216_213.out
      have hnc25 := NB213_216.out
      have hcz26 := bc4_ BK216.out
      have hcz27 := bc3_ BK213.out
      go_wp2_with (first | ((with_reducible refine gate_callee (f := 45) rfl ?_); refine gl_ (some 40) Try.func45 #[.int .i64 ((rd_T78 l0_2 x3_2).f0), .int .i64 0, .int .i64 (wrap64 (a0_0 - 1))] ?_; (with_reducible refine (spec_l1In.calls ((rd_T78 l0_2 x3_2).f0) 0 (wrap64 (a0_0 - 1)) true _ A18.out).mono ?_); rintro e w' ⟨rfl, ⟨nd, rfl⟩⟩; refine ⟨_, rfl, ?_⟩) | (go_at_call 45; (with_reducible refine (spec_l1In.calls ((rd_T78 l0_2 x3_2).f3) 0 (wrap64 (a0_0 - 1)) false _ A23.out).mono ?_); rintro e w' ⟨rfl, ⟨nd, rfl⟩⟩))
      go_ret
      exact ⟨er_, pb2_ HB.out GE213.out GE216.out⟩
    subst c24
    rw [if_pos rfl] at H
    replace H := Option.bind_eq_some_iff.mp H
    obtain ⟨t219, A280, H⟩ := H
    (try dsimp only at H)
    have A28 := Q_ A280
    clear A280
    by_cases c29 : t219 = true
    rotate_left
    · replace c29 := Bool.eq_false_iff.mpr c29
      subst c29
      rw [if_neg (show ¬ (false = true) by decide)] at H
      obtain rfl := Option.some.inj H
      have hnb30 := NB216_213.out
      have hnc30 := NB213_216.out
      have hcz31 := bc4_ BK216.out
      have hcz32 := bc3_ BK213.out
      go_wp2_with (first | ((with_reducible refine gate_callee (f := 45) rfl ?_); refine gl_ (some 40) Try.func45 #[.int .i64 ((rd_T78 l0_2 x3_2).f0), .int .i64 0, .int .i64 (wrap64 (a0_0 - 1))] ?_; (with_reducible refine (spec_l1In.calls ((rd_T78 l0_2 x3_2).f0) 0 (wrap64 (a0_0 - 1)) true _ A18.out).mono ?_); rintro e w' ⟨rfl, ⟨nd, rfl⟩⟩; refine ⟨_, rfl, ?_⟩) | (go_at_call 45; (with_reducible refine (spec_l1In.calls ((rd_T78 l0_2 x3_2).f3) 0 (wrap64 (a0_0 - 1)) true _ A23.out).mono ?_); rintro e w' ⟨rfl, ⟨nd, rfl⟩⟩) | (go_at_call 45; (with_reducible refine (spec_l1In.calls ((rd_T78 l0_2 x3_2).f2) 0 5 false _ A28.out).mono ?_); rintro e w' ⟨rfl, ⟨nd, rfl⟩⟩))
      go_ret
      exact ⟨er_, pb2_ HB.out GE213.out GE216.out⟩
    subst c29
    rw [if_pos rfl] at H
    replace H := Option.bind_eq_some_iff.mp H
    obtain ⟨t220, A330, H⟩ := H
    (try dsimp only at H)
    have A33 := Q_ A330
    clear A330
    by_cases c34 : t220 < x3_2
    · rw [if_pos c34] at H
      have c34b0 : decide (t220 < x3_2) = true := decide_eq_true c34
      clear c34
      (first | rw [c34b0] | (simp only [i64_w, i32_w]; rw [c34b0]) | skip)
      obtain rfl := Option.some.inj H
      have hnb35 := NB216_213.out
      have hnc35 := NB213_216.out
      have hcz36 := bc4_ BK216.out
      have hcz37 := bc3_ BK213.out
      go_wp2_with (first | ((with_reducible refine gate_callee (f := 45) rfl ?_); refine gl_ (some 40) Try.func45 #[.int .i64 ((rd_T78 l0_2 x3_2).f0), .int .i64 0, .int .i64 (wrap64 (a0_0 - 1))] ?_; (with_reducible refine (spec_l1In.calls ((rd_T78 l0_2 x3_2).f0) 0 (wrap64 (a0_0 - 1)) true _ A18.out).mono ?_); rintro e w' ⟨rfl, ⟨nd, rfl⟩⟩; refine ⟨_, rfl, ?_⟩) | (go_at_call 45; (with_reducible refine (spec_l1In.calls ((rd_T78 l0_2 x3_2).f3) 0 (wrap64 (a0_0 - 1)) true _ A23.out).mono ?_); rintro e w' ⟨rfl, ⟨nd, rfl⟩⟩) | (go_at_call 45; (with_reducible refine (spec_l1In.calls ((rd_T78 l0_2 x3_2).f2) 0 5 true _ A28.out).mono ?_); rintro e w' ⟨rfl, ⟨nd, rfl⟩⟩) | (go_at_call 68; (with_reducible refine (spec_MoveOf.calls k2 a0_0 _ _ l0_1 _ _ l0_2 ((rd_T78 l0_2 x3_2).f0) ((rd_T78 l0_2 x3_2).f1) ((rd_T78 l0_2 x3_2).f2) t220 _ ?side1 ?side2 ?side3 ?side4 A33.out).mono ?_); (case side1 => exact Kd.C_below HR0_1.out (pb2_ HB.out GE213.out GE216.out)); (case side2 => exact HC0_1.out); (case side3 => exact Kd.C_below HR0_2.out (pb2_ HB.out GE213.out GE216.out)); (case side4 => exact HC0_2.out); rintro e w38 ⟨rfl, hb⟩; have _ := Q_ (blk_below (g := gb213) (o := .cells #[.int .i64 a0_0, .slice A0_1 l0_1.length c0_1, .slice (some ad215) l0_2.length c0_2] 34 (0, 0)) (pp_ BK213.out) hb); have _ := Q_ (blk_below (g := gb216) (o := .cells #[.int .i64 ((rd_T78 l0_2 x3_2).f0), .bool ((rd_T78 l0_2 x3_2).f1), .int .i64 ((rd_T78 l0_2 x3_2).f2), .int .i64 ((rd_T78 l0_2 x3_2).f3)] 78 (0, 0)) (pp_ BK216.out) hb); have _ := Q_ (below_step (pb2_ HB.out GE213.out GE216.out) hb); clear BK213 BK216 HB; rename_i BK213 BK216 HB; (try clear hb); (try clear hb2); (try clear hk); (try clear hi)))
      go_ret
      exact ⟨er_, pb2_ HB.out GE213.out GE216.out⟩
    rw [if_neg c34] at H
    have c34b0 : decide (t220 < x3_2) = false := decide_eq_false c34
    clear c34
    (first | rw [c34b0] | (simp only [i64_w, i32_w]; rw [c34b0]) | skip)
    replace H := Option.bind_eq_some_iff.mp H
    obtain ⟨t221, A390, H⟩ := H
    (try dsimp only at H)
    have A39 := Q_ A390
    clear A390
    have HS_ := Q_ H
    clear H
    have hnb40 := NB216_213.out
    have hnc40 := NB213_216.out
    have hcz41 := bc4_ BK216.out
    have hcz42 := bc3_ BK213.out
    go_upto_if 79 with (first | ((with_reducible refine gate_callee (f := 45) rfl ?_); refine gl_ (some 40) Try.func45 #[.int .i64 ((rd_T78 l0_2 x3_2).f0), .int .i64 0, .int .i64 (wrap64 (a0_0 - 1))] ?_; (with_reducible refine (spec_l1In.calls ((rd_T78 l0_2 x3_2).f0) 0 (wrap64 (a0_0 - 1)) true _ A18.out).mono ?_); rintro e w' ⟨rfl, ⟨nd, rfl⟩⟩; refine ⟨_, rfl, ?_⟩) | (go_at_call 45; (with_reducible refine (spec_l1In.calls ((rd_T78 l0_2 x3_2).f3) 0 (wrap64 (a0_0 - 1)) true _ A23.out).mono ?_); rintro e w' ⟨rfl, ⟨nd, rfl⟩⟩) | (go_at_call 45; (with_reducible refine (spec_l1In.calls ((rd_T78 l0_2 x3_2).f2) 0 5 true _ A28.out).mono ?_); rintro e w' ⟨rfl, ⟨nd, rfl⟩⟩) | (go_at_call 68; (with_reducible refine (spec_MoveOf.calls k2 a0_0 _ _ l0_1 _ _ l0_2 ((rd_T78 l0_2 x3_2).f0) ((rd_T78 l0_2 x3_2).f1) ((rd_T78 l0_2 x3_2).f2) t220 _ ?side1 ?side2 ?side3 ?side4 A33.out).mono ?_); (case side1 => exact Kd.C_below HR0_1.out (pb2_ HB.out GE213.out GE216.out)); (case side2 => exact HC0_1.out); (case side3 => exact Kd.C_below HR0_2.out (pb2_ HB.out GE213.out GE216.out)); (case side4 => exact HC0_2.out); rintro e w43 ⟨rfl, hb⟩; have _ := Q_ (blk_below (g := gb213) (o := .cells #[.int .i64 a0_0, .slice A0_1 l0_1.length c0_1, .slice (some ad215) l0_2.length c0_2] 34 (0, 0)) (pp_ BK213.out) hb); have _ := Q_ (blk_below (g := gb216) (o := .cells #[.int .i64 ((rd_T78 l0_2 x3_2).f0), .bool ((rd_T78 l0_2 x3_2).f1), .int .i64 ((rd_T78 l0_2 x3_2).f2), .int .i64 ((rd_T78 l0_2 x3_2).f3)] 78 (0, 0)) (pp_ BK216.out) hb); have _ := Q_ (below_step (pb2_ HB.out GE213.out GE216.out) hb); clear BK213 BK216 HB; rename_i BK213 BK216 HB; (try clear hb); (try clear hb2); (try clear hk); (try clear hi); have hcz44 := bc3_ BK213.out; have hcz45 := bc4_ BK216.out) | (go_at_call 70; (with_reducible refine (spec_MovesFrom.calls k2 a0_0 _ _ l0_1 _ _ l0_2 ((rd_T78 l0_2 x3_2).f0) (!((rd_T78 l0_2 x3_2).f1)) t221 _ ?side1 ?side2 ?side3 ?side4 A39.out).mono ?_); (case side1 => exact cb_ HR0_1 HB); (case side2 => exact HC0_1.out); (case side3 => exact cb_ HR0_2 HB); (case side4 => exact HC0_2.out); rintro e w46 ⟨v222, rfl, ho0, hb⟩; have _ := Q_ (Kd.R_lower ho0 (below_size (pb2_ HB.out GE213.out GE216.out))); have _ := Q_ (bb_ BK213.out hb); have _ := Q_ (bb_ BK216.out hb); have _ := Q_ (below_step (pb2_ HB.out GE213.out GE216.out) hb); clear BK213 BK216 HB; rename_i HO223 BK213 BK216 HB; (try clear hb); (try clear hb2); (try clear hk); (try clear hi); (try clear ho0); obtain ⟨Ao47, co47, eo47⟩ := Kd.R_slice HO223.out; subst eo47))
    (try simp only [Act.put, List.setIfInBounds_toArray, List.set_cons_zero, List.set_cons_succ])
    have H := HS_.out
    clear HS_
    by_cases c48 : (t221.length : Int) > 0
    rotate_left
    · rw [if_neg c48] at H
      have c48b0 : decide (0 < (t221.length : Int)) = false := decide_eq_false c48
      have c48b1 : decide (0 < t221.length) = false := decide_eq_false (by omega)
      clear c48
      (first | rw [c48b0] | (simp only [i64_w, i32_w]; rw [c48b0]) | rw [c48b1] | skip)
      have H' := Q_ H
      clear H
      go_wp2
      go_roundg k2
      case measure => have := HJ1.out; have := HK2.out; omega
      case rel => exact ⟨(wrap64 (x3_2 + 1)), el_, H', ⟨by have := HJ1.out; have := HK2.out; omega⟩, ⟨pk_ BK213.out⟩, ⟨pb2_ HB.out GE213.out GE216.out⟩⟩
    rw [if_pos c48] at H
    have c48b0 : decide (0 < (t221.length : Int)) = true := decide_eq_true c48
    have c48b1 : decide (0 < t221.length) = true := decide_eq_true (by omega)
    clear c48
    (first | rw [c48b0] | (simp only [i64_w, i32_w]; rw [c48b0]) | rw [c48b1] | skip)
    obtain rfl := Option.some.inj H
    go_wp2
    go_ret
    exact ⟨er_, pb2_ HB.out GE213.out GE216.out⟩
  subst c10
  rw [if_pos rfl] at H
  obtain rfl := Option.some.inj H
  go_wp2
  go_ret
  exact ⟨er_, pb1_ HB.out GE213.out⟩

/-! ### spec_EqualInts: function 89 -/
def spec_EqualInts.l0 : Nat → List Int → List Int → Int → Option (Bool)
  | 0, _, _, _ => none
  | k + 1, x0, x1, x5 => if x5 < (x0.length : Int) then (if 0 ≤ x5 then (if x5 < (x1.length : Int) then (if (rd x0 x5) = (rd x1 x5) then (spec_EqualInts.l0 k x0 x1 (wrap64 (x5 + 1))) else (some false)) else (none)) else (none)) else (some true)
def spec_EqualInts.f (k : Nat) (l0 : List Int) (l1 : List Int) : Option (Bool) := if (l0.length : Int) = (l1.length : Int) then (spec_EqualInts.l0 k l0 l1 0) else (some false)
theorem spec_EqualInts.mono_l : ∀ k, (∀ y0 y1 y2, LeO (spec_EqualInts.l0 k y0 y1 y2) (spec_EqualInts.l0 (k + 1) y0 y1 y2))
  | 0 => fun _ _ _ r h => by simp [spec_EqualInts.l0] at h
  | k + 1 => by
    have ih0 := spec_EqualInts.mono_l k
    · intro y0 y1 y2
      unfold spec_EqualInts.l0
      exact mo1_ ih0
theorem spec_EqualInts.mono : ∀ a0 a1 k, LeO (spec_EqualInts.f k a0 a1) (spec_EqualInts.f (k + 1) a0 a1) := by
  intro a0 a1 k
  have ih0 := spec_EqualInts.mono_l k
  unfold spec_EqualInts.f
  exact mo1_ ih0
set_option maxHeartbeats 8000000 in
set_option maxRecDepth 100000 in
theorem spec_EqualInts.calls (k : Nat) (A0 : Option Addr) (c0 : Nat) (l0 : List Int) (A1 : Option Addr) (c1 : Nat) (l1 : List Int) (r : Bool) (w : World) (hr0 : Kd.C (Kd.int .i64) w A0 l0.length l0) (hc0 : l0.length ≤ c0) (hr1 : Kd.C (Kd.int .i64) w A1 l1.length l1) (hc1 : l1.length ≤ c1) (h : spec_EqualInts.f k l0 l1 = some r) :
    Calls Try.prog 89 #[.slice A0 l0.length c0, .slice A1 l1.length c1] w fun e w' => e = .returned (.bool r) ∧ Drawn0 w w' := by
  have HR0 := Q_ hr0
  have HC0 := Q_ hc0
  clear hr0 hc0
  have HR1 := Q_ hr1
  have HC1 := Q_ hc1
  clear hr1 hc1
  have H : (if (l0.length : Int) = (l1.length : Int) then (spec_EqualInts.l0 k l0 l1 0) else (some false)) = some r := h
  clear h
  by_cases c3 : (l0.length : Int) = (l1.length : Int)
  rotate_left
  · rw [if_neg c3] at H
    have c3b0 : ((l0.length : Int) == (l1.length : Int)) = false := beq_eq_false_iff_ne.mpr c3
    have c3b1 : ((l0.length : Int) != (l1.length : Int)) = true := bne_iff_ne.mpr c3
    have c3b2 : (l0.length == l1.length) = false := by first | simpa using c3 | (simp at c3 ⊢; omega)
    obtain rfl := Option.some.inj H
    go_enter Try.func89, Try.ntmps89
    go_wp2
    repeat (go_quiet (fail); try go_wp2)
    go_ret
    exact ⟨by first | rfl | (simp; done) | (simp [*]; done), by repeat (first | exact Drawn0.refl _ | apply Drawn0.step)⟩
  rw [if_pos c3] at H
  have c3b0 : ((l0.length : Int) == (l1.length : Int)) = true := beq_iff_eq.mpr c3
  have c3b1 : ((l0.length : Int) != (l1.length : Int)) = false := bne_eq_false_iff_eq.mpr c3
  have c3b2 : (l0.length == l1.length) = true := by first | simpa using c3 | (simp at c3 ⊢; omega)
  clear c3
  have H' := Q_ H
  clear H
  go_enter Try.func89, Try.ntmps89
  go_wp2
  repeat (go_quiet (fail); try go_wp2)
  go_loopg [5] k (fun kq v5 w' => ∃ (x5_1 : Int), v5 = .int .i64 x5_1 ∧ Aside0 (spec_EqualInts.l0 kq l0 l1 x5_1 = some r) ∧ Aside0 (kq ≤ k) ∧ Drawn0 w w')
  case atStart => exact ⟨(0), el_, H', ⟨Nat.le_refl _⟩, by repeat (first | exact Drawn0.refl _ | apply Drawn0.step)⟩
  clear H'
  try clear c1
  try clear p2
  try clear c3
  try clear c3b0
  try clear c3b1
  try clear c3b2
  obtain ⟨x5_1, rfl, HA, HK1, ⟨m1, rfl⟩⟩ := hrel
  rcases gk with _ | k1
  · exact absurd HA.out (by simp [spec_EqualInts.l0])
  have H := HA.out
  clear HA
  simp only [spec_EqualInts.l0] at H
  by_cases c4 : x5_1 < (l0.length : Int)
  rotate_left
  · rw [if_neg c4] at H
    have c4b0 : decide (x5_1 < (l0.length : Int)) = false := decide_eq_false c4
    clear c4
    obtain rfl := Option.some.inj H
    go_wp2
    repeat (go_quiet (fail); try go_wp2)
    go_ret
    exact ⟨by first | rfl | (simp; done) | (simp [*]; done), by repeat (first | exact Drawn0.refl _ | apply Drawn0.step)⟩
  rw [if_pos c4] at H
  have c4b0 : decide (x5_1 < (l0.length : Int)) = true := decide_eq_true c4
  clear c4
  by_cases c5 : 0 ≤ x5_1
  rotate_left
  · rw [if_neg c5] at H
    exact absurd H (by simp)
  rw [if_pos c5] at H
  have c5b0 : decide (0 ≤ x5_1) = true := decide_eq_true c5
  clear c5
  by_cases c6 : x5_1 < (l1.length : Int)
  rotate_left
  · rw [if_neg c6] at H
    exact absurd H (by simp)
  rw [if_pos c6] at H
  have c6b0 : decide (x5_1 < (l1.length : Int)) = true := decide_eq_true c6
  clear c6
  by_cases c7 : (rd l0 x5_1) = (rd l1 x5_1)
  rotate_left
  · rw [if_neg c7] at H
    have c7b0 : ((rd l0 x5_1) == (rd l1 x5_1)) = false := beq_eq_false_iff_ne.mpr c7
    have c7b1 : ((rd l0 x5_1) != (rd l1 x5_1)) = true := bne_iff_ne.mpr c7
    obtain rfl := Option.some.inj H
    have p224 : 0 ≤ (x5_1 : Int) := dt_
    have q224 : x5_1 < (l0.length : Int) := dt_
    obtain ⟨ad224, e224, hx224_0⟩ := Kd.at_int HR0.out x5_1 p224 q224
    cases e224
    replace p224 := eq_true p224
    replace q224 := eq_true q224
    have p225 : 0 ≤ (x5_1 : Int) := dt_
    have q225 : x5_1 < (l1.length : Int) := dt_
    obtain ⟨ad225, e225, hx225_0⟩ := Kd.at_int HR1.out x5_1 p225 q225
    cases e225
    replace p225 := eq_true p225
    replace q225 := eq_true q225
    go_wp2
    repeat (go_quiet (fail); try go_wp2)
    go_ret
    exact ⟨by first | rfl | (simp; done) | (simp [*]; done), by repeat (first | exact Drawn0.refl _ | apply Drawn0.step)⟩
  rw [if_pos c7] at H
  have c7b0 : ((rd l0 x5_1) == (rd l1 x5_1)) = true := beq_iff_eq.mpr c7
  have c7b1 : ((rd l0 x5_1) != (rd l1 x5_1)) = false := bne_eq_false_iff_eq.mpr c7
  clear c7
  have H' := Q_ H
  clear H
  have p224 : 0 ≤ (x5_1 : Int) := dt_
  have q224 : x5_1 < (l0.length : Int) := dt_
  obtain ⟨ad224, e224, hx224_0⟩ := Kd.at_int HR0.out x5_1 p224 q224
  cases e224
  replace p224 := eq_true p224
  replace q224 := eq_true q224
  have p225 : 0 ≤ (x5_1 : Int) := dt_
  have q225 : x5_1 < (l1.length : Int) := dt_
  obtain ⟨ad225, e225, hx225_0⟩ := Kd.at_int HR1.out x5_1 p225 q225
  cases e225
  replace p225 := eq_true p225
  replace q225 := eq_true q225
  go_wp2
  repeat (go_quiet (fail); try go_wp2)
  go_roundg k1
  case measure => have := HK1.out; omega
  case rel => exact ⟨(wrap64 (x5_1 + 1)), el_, H', ⟨by have := HK1.out; omega⟩, by repeat (first | exact Drawn0.refl _ | apply Drawn0.step)⟩

/-! ### spec_l14Has: function 75 -/
def spec_l14Has.l0 : Nat → List (List Int) → List Int → Int → Option (Bool)
  | 0, _, _, _ => none
  | k + 1, x0, x1, x5 => if x5 < (x0.length : Int) then (if 0 ≤ x5 then ((spec_EqualInts.f k (rd_L9 x0 x5) x1).bind fun t227 => (if t227 = true then (some true) else (spec_l14Has.l0 k x0 x1 (wrap64 (x5 + 1))))) else (none)) else (some false)
def spec_l14Has.f (k : Nat) (l0 : List (List Int)) (l1 : List Int) : Option (Bool) := spec_l14Has.l0 k l0 l1 0
theorem spec_l14Has.mono_l : ∀ k, (∀ y0 y1 y2, LeO (spec_l14Has.l0 k y0 y1 y2) (spec_l14Has.l0 (k + 1) y0 y1 y2))
  | 0 => fun _ _ _ r h => by simp [spec_l14Has.l0] at h
  | k + 1 => by
    have ih0 := spec_l14Has.mono_l k
    · intro y0 y1 y2
      unfold spec_l14Has.l0
      exact mo2_ ih0 spec_EqualInts.mono
theorem spec_l14Has.mono : ∀ a0 a1 k, LeO (spec_l14Has.f k a0 a1) (spec_l14Has.f (k + 1) a0 a1) := by
  intro a0 a1 k
  have ih0 := spec_l14Has.mono_l k
  unfold spec_l14Has.f
  exact mo2_ ih0 spec_EqualInts.mono
set_option maxHeartbeats 8000000 in
set_option maxRecDepth 100000 in
theorem spec_l14Has.calls (k : Nat) (A0 : Option Addr) (c0 : Nat) (l0 : List (List Int)) (A1 : Option Addr) (c1 : Nat) (l1 : List Int) (r : Bool) (w : World) (hr0 : Kd.C (Kd.slice 3 (Kd.int .i64)) w A0 l0.length l0) (hc0 : l0.length ≤ c0) (hr1 : Kd.C (Kd.int .i64) w A1 l1.length l1) (hc1 : l1.length ≤ c1) (h : spec_l14Has.f k l0 l1 = some r) :
    Calls Try.prog 75 #[.slice A0 l0.length c0, .slice A1 l1.length c1] w fun e w' => e = .returned (.bool r) ∧ Drawn0 w w' := by
  have HR0 := Q_ hr0
  have HC0 := Q_ hc0
  clear hr0 hc0
  have HR1 := Q_ hr1
  have HC1 := Q_ hc1
  clear hr1 hc1
  have H : (spec_l14Has.l0 k l0 l1 0) = some r := h
  clear h
  have H' := Q_ H
  clear H
  go_enter Try.func75, Try.ntmps75
  go_wp2
  go_loopg [5] k (fun kq v5 w' => ∃ (x5_1 : Int), v5 = .int .i64 x5_1 ∧ Aside0 (spec_l14Has.l0 kq l0 l1 x5_1 = some r) ∧ Aside0 (kq ≤ k) ∧ Drawn0 w w')
  case atStart => exact ⟨(0), el_, H', ⟨Nat.le_refl _⟩, by repeat (first | exact Drawn0.refl _ | apply Drawn0.step)⟩
  clear H'
  try clear c1
  try clear p2
  obtain ⟨x5_1, rfl, HA, HK1, ⟨m1, rfl⟩⟩ := hrel
  rcases gk with _ | k1
  · exact absurd HA.out (by simp [spec_l14Has.l0])
  have H := HA.out
  clear HA
  simp only [spec_l14Has.l0] at H
  by_cases c3 : x5_1 < (l0.length : Int)
  rotate_left
  · rw [if_neg c3] at H
    have c3b0 : decide (x5_1 < (l0.length : Int)) = false := decide_eq_false c3
    clear c3
    obtain rfl := Option.some.inj H
    go_wp2
    go_ret
    exact ⟨by first | rfl | (simp; done) | (simp [*]; done), by repeat (first | exact Drawn0.refl _ | apply Drawn0.step)⟩
  rw [if_pos c3] at H
  have c3b0 : decide (x5_1 < (l0.length : Int)) = true := decide_eq_true c3
  clear c3
  by_cases c4 : 0 ≤ x5_1
  rotate_left
  · rw [if_neg c4] at H
    exact absurd H (by simp)
  rw [if_pos c4] at H
  have c4b0 : decide (0 ≤ x5_1) = true := decide_eq_true c4
  clear c4
  replace H := Option.bind_eq_some_iff.mp H
  obtain ⟨t227, A50, H⟩ := H
  (try dsimp only at H)
  have A5 := Q_ A50
  clear A50
  have HS_ := Q_ H
  clear H
  have p226 : 0 ≤ (x5_1 : Int) := dt_
  have q226 : x5_1 < (l0.length : Int) := dt_
  obtain ⟨ad226, A226_0, c226_0, e226, hx226_0, hl226_0, hi226_0⟩ := at_L9 HR0.out x5_1 p226 q226
  cases e226
  have HR226_0 := Q_ hi226_0
  have HC226_0 := Q_ hl226_0
  clear hi226_0 hl226_0
  replace p226 := eq_true p226
  replace q226 := eq_true q226
  go_upto_if 17 with (first | ((with_reducible refine gate_callee (f := 89) rfl ?_); refine gl_ (some 17) Try.func89 #[.slice A226_0 (rd_L9 l0 x5_1).length c226_0, .slice A1 l1.length c1] ?_; (with_reducible refine (spec_EqualInts.calls k1 _ _ (rd_L9 l0 x5_1) _ _ l1 t227 _ ?side1 ?side2 ?side3 ?side4 A5.out).mono ?_); (case side1 => exact pc_ HR226_0.out); (case side2 => exact HC226_0.out); (case side3 => exact pc_ HR1.out); (case side4 => exact HC1.out); rintro e w' ⟨rfl, ⟨nd, rfl⟩⟩; refine ⟨_, rfl, ?_⟩))
  (try simp only [Act.put, List.setIfInBounds_toArray, List.set_cons_zero, List.set_cons_succ])
  have H := HS_.out
  clear HS_
  by_cases c6 : t227 = true
  rotate_left
  · replace c6 := Bool.eq_false_iff.mpr c6
    subst c6
    rw [if_neg (show ¬ (false = true) by decide)] at H
    have H' := Q_ H
    clear H
    go_wp2
    go_roundg k1
    case measure => have := HK1.out; omega
    case rel => exact ⟨(wrap64 (x5_1 + 1)), el_, H', ⟨by have := HK1.out; omega⟩, by repeat (first | exact Drawn0.refl _ | apply Drawn0.step)⟩
  subst c6
  rw [if_pos rfl] at H
  obtain rfl := Option.some.inj H
  go_wp2
  go_ret
  exact ⟨by first | rfl | (simp; done) | (simp [*]; done), by repeat (first | exact Drawn0.refl _ | apply Drawn0.step)⟩

end Go.Proofs.Ytldcchjbaglppaa.Print
