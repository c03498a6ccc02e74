-- Written by a program of this session (printx.py) out of the translation; Lean checks it.
import Derived.Test.YtldcchjbaglppaaPrint0
namespace Go.Proofs.Ytldcchjbaglppaa.Print
open Go.RowKit Go.Proofs.YtldcchjbaglppaaW.PrintWords Go.Proofs.YtldcchjbaglppaaW.PrintLast Go.Proofs.YtldcchjbaglppaaW.PrintMore Go.Proofs.Ytldcchjbaglppaa.Short
attribute [local go_sem] max2_int min2_int max_two min_two max_three min_three max_four min_four   -- for this text's walks alone
set_option linter.unusedVariables false
set_option linter.unusedSimpArgs false

/-! ### laws_eqBoolS: function 39 -/
def laws_eqBoolS.l0 : Nat → List Bool → List Bool → Int → Option (Bool)
  | 0, _, _, _ => none
  | k + 1, x0, x1, x5 => if x5 < (x0.length : Int) then (if 0 ≤ x5 then (if x5 < (x1.length : Int) then (if rdOf false x0 x5 = true then (if rdOf false x1 x5 = true then (laws_eqBoolS.l0 k x0 x1 (wrap64 (x5 + 1))) else (some false)) else (if rdOf false x1 x5 = true then (some false) else (laws_eqBoolS.l0 k x0 x1 (wrap64 (x5 + 1))))) else (none)) else (none)) else (some true)
def laws_eqBoolS.f (k : Nat) (l0 : List Bool) (l1 : List Bool) : Option (Bool) := if (l0.length : Int) = (l1.length : Int) then (laws_eqBoolS.l0 k l0 l1 0) else (some false)
theorem laws_eqBoolS.mono_l : ∀ k, (∀ y0 y1 y2, LeO (laws_eqBoolS.l0 k y0 y1 y2) (laws_eqBoolS.l0 (k + 1) y0 y1 y2))
  | 0 => fun _ _ _ r h => by simp [laws_eqBoolS.l0] at h
  | k + 1 => by
    have ih0 := laws_eqBoolS.mono_l k
    · intro y0 y1 y2
      unfold laws_eqBoolS.l0
      exact mo1_ ih0
theorem laws_eqBoolS.mono : ∀ a0 a1 k, LeO (laws_eqBoolS.f k a0 a1) (laws_eqBoolS.f (k + 1) a0 a1) := by
  intro a0 a1 k
  have ih0 := laws_eqBoolS.mono_l k
  unfold laws_eqBoolS.f
  exact mo1_ ih0
set_option maxHeartbeats 8000000 in
set_option maxRecDepth 100000 in
theorem laws_eqBoolS.calls (k : Nat) (A0 : Option Addr) (c0 : Nat) (l0 : List Bool) (A1 : Option Addr) (c1 : Nat) (l1 : List Bool) (r : Bool) (w : World) (hr0 : Kd.C Kd.bool w A0 l0.length l0) (hc0 : l0.length ≤ c0) (hr1 : Kd.C Kd.bool w A1 l1.length l1) (hc1 : l1.length ≤ c1) (h : laws_eqBoolS.f k l0 l1 = some r) :
    Calls Try.prog 39 #[.slice A0 l0.length c0, .slice A1 l1.length c1] w fun e w' => e = .returned (.bool r) ∧ Drawn0 w w' := by
  have HR0 := Q_ hr0
  have HC0 := Q_ hc0
  clear hr0 hc0
  have HR1 := Q_ hr1
  have HC1 := Q_ hc1
  clear hr1 hc1
  have H : (if (l0.length : Int) = (l1.length : Int) then (laws_eqBoolS.l0 k l0 l1 0) else (some false)) = some r := h
  clear h
  by_cases c3 : (l0.length : Int) = (l1.length : Int)
  rotate_left
  · rw [if_neg c3] at H
    have c3b0 : ((l0.length : Int) == (l1.length : Int)) = false := beq_eq_false_iff_ne.mpr c3
    have c3b1 : ((l0.length : Int) != (l1.length : Int)) = true := bne_iff_ne.mpr c3
    have c3b2 : (l0.length == l1.length) = false := by first | simpa using c3 | (simp at c3 ⊢; omega)
    obtain rfl := Option.some.inj H
    go_enter Try.func39, Try.ntmps39
    go_wp2
    repeat (go_quiet (fail); try go_wp2)
    go_ret
    exact ⟨by first | rfl | (simp; done) | (simp [*]; done), by repeat (first | exact Drawn0.refl _ | apply Drawn0.step)⟩
  rw [if_pos c3] at H
  have c3b0 : ((l0.length : Int) == (l1.length : Int)) = true := beq_iff_eq.mpr c3
  have c3b1 : ((l0.length : Int) != (l1.length : Int)) = false := bne_eq_false_iff_eq.mpr c3
  have c3b2 : (l0.length == l1.length) = true := by first | simpa using c3 | (simp at c3 ⊢; omega)
  clear c3
  have H' := Q_ H
  clear H
  go_enter Try.func39, Try.ntmps39
  go_wp2
  repeat (go_quiet (fail); try go_wp2)
  go_loopg [5] k (fun kq v5 w' => ∃ (x5_1 : Int), v5 = .int .i64 x5_1 ∧ Aside0 (laws_eqBoolS.l0 kq l0 l1 x5_1 = some r) ∧ Aside0 (kq ≤ k) ∧ Drawn0 w w')
  case atStart => exact ⟨(0), el_, H', ⟨Nat.le_refl _⟩, by repeat (first | exact Drawn0.refl _ | apply Drawn0.step)⟩
  clear H'
  try clear c1
  try clear p2
  try clear c3
  try clear c3b0
  try clear c3b1
  try clear c3b2
  obtain ⟨x5_1, rfl, HA, HK1, ⟨m1, rfl⟩⟩ := hrel
  rcases gk with _ | k1
  · exact absurd HA.out (by simp [laws_eqBoolS.l0])
  have H := HA.out
  clear HA
  simp only [laws_eqBoolS.l0] at H
  by_cases c4 : x5_1 < (l0.length : Int)
  rotate_left
  · rw [if_neg c4] at H
    have c4b0 : decide (x5_1 < (l0.length : Int)) = false := decide_eq_false c4
    clear c4
    obtain rfl := Option.some.inj H
    go_wp2
    repeat (go_quiet (fail); try go_wp2)
    go_ret
    exact ⟨by first | rfl | (simp; done) | (simp [*]; done), by repeat (first | exact Drawn0.refl _ | apply Drawn0.step)⟩
  rw [if_pos c4] at H
  have c4b0 : decide (x5_1 < (l0.length : Int)) = true := decide_eq_true c4
  clear c4
  by_cases c5 : 0 ≤ x5_1
  rotate_left
  · rw [if_neg c5] at H
    exact absurd H (by simp)
  rw [if_pos c5] at H
  have c5b0 : decide (0 ≤ x5_1) = true := decide_eq_true c5
  clear c5
  by_cases c6 : x5_1 < (l1.length : Int)
  rotate_left
  · rw [if_neg c6] at H
    exact absurd H (by simp)
  rw [if_pos c6] at H
  have c6b0 : decide (x5_1 < (l1.length : Int)) = true := decide_eq_true c6
  clear c6
  obtain ⟨bq7, hbq7⟩ : ∃ b_ : Bool, b_ = (rdOf false l0 x5_1) := ⟨_, rfl⟩
  replace H : (if bq7 = true then (if rdOf false l1 x5_1 = true then (laws_eqBoolS.l0 k1 l0 l1 (wrap64 (x5_1 + 1))) else (some false)) else (if rdOf false l1 x5_1 = true then (some false) else (laws_eqBoolS.l0 k1 l0 l1 (wrap64 (x5_1 + 1))))) = some r := by rw [← hbq7] at H; exact H
  have Nbq7 := Q_ hbq7
  clear hbq7
  by_cases c8 : bq7 = true
  rotate_left
  · replace c8 := Bool.eq_false_iff.mpr c8
    subst c8
    rw [if_neg (show ¬ (false = true) by decide)] at H
    obtain ⟨bq9, hbq9⟩ : ∃ b_ : Bool, b_ = (rdOf false l1 x5_1) := ⟨_, rfl⟩
    replace H : (if bq9 = true then (some false) else (laws_eqBoolS.l0 k1 l0 l1 (wrap64 (x5_1 + 1)))) = some r := by rw [← hbq9] at H; exact H
    have Nbq9 := Q_ hbq9
    clear hbq9
    by_cases c10 : bq9 = true
    rotate_left
    · replace c10 := Bool.eq_false_iff.mpr c10
      subst c10
      rw [if_neg (show ¬ (false = true) by decide)] at H
      have H' := Q_ H
      clear H
      have p144 : 0 ≤ (x5_1 : Int) := dt_
      have q144 : x5_1 < (l0.length : Int) := dt_
      obtain ⟨ad144, e144, hx144_0⟩ := Kd.at_bool HR0.out x5_1 p144 q144
      (try rw [← Nbq7.out] at hx144_0)
      (try rw [← Nbq9.out] at hx144_0)
      cases e144
      replace p144 := eq_true p144
      replace q144 := eq_true q144
      have p145 : 0 ≤ (x5_1 : Int) := dt_
      have q145 : x5_1 < (l1.length : Int) := dt_
      obtain ⟨ad145, e145, hx145_0⟩ := Kd.at_bool HR1.out x5_1 p145 q145
      (try rw [← Nbq7.out] at hx145_0)
      (try rw [← Nbq9.out] at hx145_0)
      cases e145
      replace p145 := eq_true p145
      replace q145 := eq_true q145
      go_wp2
      repeat (go_quiet (fail); try go_wp2)
      go_roundg k1
      case measure => have := HK1.out; omega
      case rel => (try rw [← Nbq7.out]); (try rw [← Nbq9.out]); exact ⟨(wrap64 (x5_1 + 1)), el_, H', ⟨by have := HK1.out; omega⟩, by repeat (first | exact Drawn0.refl _ | apply Drawn0.step)⟩
    subst c10
    rw [if_pos rfl] at H
    obtain rfl := Option.some.inj H
    have p144 : 0 ≤ (x5_1 : Int) := dt_
    have q144 : x5_1 < (l0.length : Int) := dt_
    obtain ⟨ad144, e144, hx144_0⟩ := Kd.at_bool HR0.out x5_1 p144 q144
    (try rw [← Nbq7.out] at hx144_0)
    (try rw [← Nbq9.out] at hx144_0)
    cases e144
    replace p144 := eq_true p144
    replace q144 := eq_true q144
    have p145 : 0 ≤ (x5_1 : Int) := dt_
    have q145 : x5_1 < (l1.length : Int) := dt_
    obtain ⟨ad145, e145, hx145_0⟩ := Kd.at_bool HR1.out x5_1 p145 q145
    (try rw [← Nbq7.out] at hx145_0)
    (try rw [← Nbq9.out] at hx145_0)
    cases e145
    replace p145 := eq_true p145
    replace q145 := eq_true q145
    go_wp2
    repeat (go_quiet (fail); try go_wp2)
    go_ret
    exact ⟨by first | rfl | (simp; done) | (simp [*]; done), by repeat (first | exact Drawn0.refl _ | apply Drawn0.step)⟩
  subst c8
  rw [if_pos rfl] at H
  obtain ⟨bq11, hbq11⟩ : ∃ b_ : Bool, b_ = (rdOf false l1 x5_1) := ⟨_, rfl⟩
  replace H : (if bq11 = true then (laws_eqBoolS.l0 k1 l0 l1 (wrap64 (x5_1 + 1))) else (some false)) = some r := by rw [← hbq11] at H; exact H
  have Nbq11 := Q_ hbq11
  clear hbq11
  by_cases c12 : bq11 = true
  rotate_left
  · replace c12 := Bool.eq_false_iff.mpr c12
    subst c12
    rw [if_neg (show ¬ (false = true) by decide)] at H
    obtain rfl := Option.some.inj H
    have p144 : 0 ≤ (x5_1 : Int) := dt_
    have q144 : x5_1 < (l0.length : Int) := dt_
    obtain ⟨ad144, e144, hx144_0⟩ := Kd.at_bool HR0.out x5_1 p144 q144
    (try rw [← Nbq7.out] at hx144_0)
    (try rw [← Nbq11.out] at hx144_0)
    cases e144
    replace p144 := eq_true p144
    replace q144 := eq_true q144
    have p145 : 0 ≤ (x5_1 : Int) := dt_
    have q145 : x5_1 < (l1.length : Int) := dt_
    obtain ⟨ad145, e145, hx145_0⟩ := Kd.at_bool HR1.out x5_1 p145 q145
    (try rw [← Nbq7.out] at hx145_0)
    (try rw [← Nbq11.out] at hx145_0)
    cases e145
    replace p145 := eq_true p145
    replace q145 := eq_true q145
    go_wp2
    repeat (go_quiet (fail); try go_wp2)
    go_ret
    exact ⟨by first | rfl | (simp; done) | (simp [*]; done), by repeat (first | exact Drawn0.refl _ | apply Drawn0.step)⟩
  subst c12
  rw [if_pos rfl] at H
  have H' := Q_ H
  clear H
  have p144 : 0 ≤ (x5_1 : Int) := dt_
  have q144 : x5_1 < (l0.length : Int) := dt_
  obtain ⟨ad144, e144, hx144_0⟩ := Kd.at_bool HR0.out x5_1 p144 q144
  (try rw [← Nbq7.out] at hx144_0)
  (try rw [← Nbq11.out] at hx144_0)
  cases e144
  replace p144 := eq_true p144
  replace q144 := eq_true q144
  have p145 : 0 ≤ (x5_1 : Int) := dt_
  have q145 : x5_1 < (l1.length : Int) := dt_
  obtain ⟨ad145, e145, hx145_0⟩ := Kd.at_bool HR1.out x5_1 p145 q145
  (try rw [← Nbq7.out] at hx145_0)
  (try rw [← Nbq11.out] at hx145_0)
  cases e145
  replace p145 := eq_true p145
  replace q145 := eq_true q145
  go_wp2
  repeat (go_quiet (fail); try go_wp2)
  go_roundg k1
  case measure => have := HK1.out; omega
  case rel => (try rw [← Nbq7.out]); (try rw [← Nbq11.out]); exact ⟨(wrap64 (x5_1 + 1)), el_, H', ⟨by have := HK1.out; omega⟩, by repeat (first | exact Drawn0.refl _ | apply Drawn0.step)⟩

/-! ### laws_eqMove: function 58 -/
def laws_eqMove.f (a0_0 : Int) (a0_1 : Bool) (a0_2 : Int) (a0_3 : Int) (a1_0 : Int) (a1_1 : Bool) (a1_2 : Int) (a1_3 : Int) : Option (Bool) := if a0_0 = a1_0 then (if a0_1 = true then (if a1_1 = true then (if a0_2 = a1_2 then (if a0_3 = a1_3 then (some true) else (some false)) else (some false)) else (some false)) else (if a1_1 = true then (some false) else (if a0_2 = a1_2 then (if a0_3 = a1_3 then (some true) else (some false)) else (some false)))) else (some false)
set_option maxHeartbeats 8000000 in
set_option maxRecDepth 100000 in
theorem laws_eqMove.calls (a0_0 : Int) (a0_1 : Bool) (a0_2 : Int) (a0_3 : Int) (a1_0 : Int) (a1_1 : Bool) (a1_2 : Int) (a1_3 : Int) (r : Bool) (w : World) (h : laws_eqMove.f a0_0 a0_1 a0_2 a0_3 a1_0 a1_1 a1_2 a1_3 = some r) :
    Calls Try.prog 58 #[.agg #[.int .i64 a0_0, .bool a0_1, .int .i64 a0_2, .int .i64 a0_3], .agg #[.int .i64 a1_0, .bool a1_1, .int .i64 a1_2, .int .i64 a1_3]] w fun e w' => e = .returned (.bool r) ∧ Below w.heap.size w w' := by
  have hu78 := Try.underlying78
  have HB := Q_ (Below.refl w.heap.size w)
  have H : (if a0_0 = a1_0 then (if a0_1 = true then (if a1_1 = true then (if a0_2 = a1_2 then (if a0_3 = a1_3 then (some true) else (some false)) else (some false)) else (some false)) else (if a1_1 = true then (some false) else (if a0_2 = a1_2 then (if a0_3 = a1_3 then (some true) else (some false)) else (some false)))) else (some false)) = some r := h
  clear h
  have HS_ := Q_ H
  clear H
  go_enter Try.func58, Try.ntmps58
  go_upto_region 1 with (first | ((with_reducible refine gate_dst (N := 2) rfl ?_); refine box_event ?hg (N := 2) ?hd (cs := #[.int .i64 a0_0, .bool a0_1, .int .i64 a0_2, .int .i64 a0_3]) (t := 78) ?hr ?_; (case hd => rfl); (case hg => rfl); (case hr => first | (go_simp; done) | (go_simp; rfl)); intro gb146 hg w3 hbox hb; have n0_ := Q_ (below_step (pb_ HB.out) hb); have n1_ := Q_ (hbox); have n2_ := Q_ ((by rw [hg]; exact (below_size (pb_ HB.out)) : w.heap.size ≤ gb146)); have n3_ := n2_; clear HB; have HB := n0_; have BK146 := n1_; have GW146 := n2_; have GE146 := n3_; clear n0_ n1_ n2_ n3_; clear hb hbox hg) | ((with_reducible refine gate_dst (N := 3) rfl ?_); refine box_event ?hg (N := 3) ?hd (cs := #[.int .i64 a1_0, .bool a1_1, .int .i64 a1_2, .int .i64 a1_3]) (t := 78) ?hr ?_; (case hd => rfl); (case hg => rfl); (case hr => first | (go_simp; done) | (go_simp; rfl)); intro gb147 hg w4 hbox hb; have n0_ := Q_ (bb_ BK146.out hb); have n1_ := Q_ (below_step (pb1_ HB.out GE146.out) hb); have n2_ := Q_ (hbox); have n3_ := Q_ ((by rw [hg]; exact (below_size (pb1_ HB.out GE146.out)) : w.heap.size ≤ gb147)); have n4_ := n3_; have n5_ := Q_ ((by rw [hg]; exact Nat.ne_of_lt (blk_lt (pk_ BK146.out)) : gb146 ≠ gb147)); have n6_ := Q_ ((by rw [hg]; exact Nat.ne_of_gt (blk_lt (pk_ BK146.out)) : gb147 ≠ gb146)); clear BK146; clear HB; have BK146 := n0_; have HB := n1_; have BK147 := n2_; have GW147 := n3_; have GE147 := n4_; have NB146_147 := n5_; have NB147_146 := n6_; clear n0_ n1_ n2_ n3_ n4_ n5_ n6_; clear hb hbox hg))
  (try simp only [Act.put, List.setIfInBounds_toArray, List.set_cons_zero, List.set_cons_succ])
  have H := HS_.out
  clear HS_
  by_cases c5 : a0_0 = a1_0
  rotate_left
  · rw [if_neg c5] at H
    have c5b0 : (a0_0 == a1_0) = false := beq_eq_false_iff_ne.mpr c5
    have c5b1 : (a0_0 != a1_0) = true := bne_iff_ne.mpr c5
    (first | rw [c5b0] | (simp only [i64_w, i32_w]; rw [c5b0]) | rw [c5b1] | (have c_ := c5b1; rw [bne] at c_; rw [c_]; clear c_) | skip)
    obtain rfl := Option.some.inj H
    have hnb6 := NB146_147.out
    have hnc6 := NB147_146.out
    have hcz7 := bc4_ BK146.out
    have hcz8 := bc4_ BK147.out
    go_wp2
    go_ret
    exact ⟨er_, pb2_ HB.out GE146.out GE147.out⟩
  rw [if_pos c5] at H
  have c5b0 : (a0_0 == a1_0) = true := beq_iff_eq.mpr c5
  have c5b1 : (a0_0 != a1_0) = false := bne_eq_false_iff_eq.mpr c5
  clear c5
  (first | rw [c5b0] | (simp only [i64_w, i32_w]; rw [c5b0]) | rw [c5b1] | (have c_ := c5b1; rw [bne] at c_; rw [c_]; clear c_) | skip)
  by_cases c9 : a0_1 = true
  rotate_left
  · replace c9 := Bool.eq_false_iff.mpr c9
    subst c9
    rw [if_neg (show ¬ (false = true) by decide)] at H
    by_cases c10 : a1_1 = true
    · subst c10
      rw [if_pos rfl] at H
      obtain rfl := Option.some.inj H
      have hnb11 := NB146_147.out
      have hnc11 := NB147_146.out
      have hcz12 := bc4_ BK146.out
      have hcz13 := bc4_ BK147.out
      go_wp2
      go_ret
      exact ⟨er_, pb2_ HB.out GE146.out GE147.out⟩
    replace c10 := Bool.eq_false_iff.mpr c10
    subst c10
    rw [if_neg (show ¬ (false = true) by decide)] at H
    by_cases c14 : a0_2 = a1_2
    rotate_left
    · rw [if_neg c14] at H
      have c14b0 : (a0_2 == a1_2) = false := beq_eq_false_iff_ne.mpr c14
      have c14b1 : (a0_2 != a1_2) = true := bne_iff_ne.mpr c14
      obtain rfl := Option.some.inj H
      have hnb15 := NB146_147.out
      have hnc15 := NB147_146.out
      have hcz16 := bc4_ BK146.out
      have hcz17 := bc4_ BK147.out
      go_wp2
      go_ret
      exact ⟨er_, pb2_ HB.out GE146.out GE147.out⟩
    rw [if_pos c14] at H
    have c14b0 : (a0_2 == a1_2) = true := beq_iff_eq.mpr c14
    have c14b1 : (a0_2 != a1_2) = false := bne_eq_false_iff_eq.mpr c14
    clear c14
    by_cases c18 : a0_3 = a1_3
    rotate_left
    · rw [if_neg c18] at H
      have c18b0 : (a0_3 == a1_3) = false := beq_eq_false_iff_ne.mpr c18
      have c18b1 : (a0_3 != a1_3) = true := bne_iff_ne.mpr c18
      obtain rfl := Option.some.inj H
      have hnb19 := NB146_147.out
      have hnc19 := NB147_146.out
      have hcz20 := bc4_ BK146.out
      have hcz21 := bc4_ BK147.out
      go_wp2
      go_ret
      exact ⟨er_, pb2_ HB.out GE146.out GE147.out⟩
    rw [if_pos c18] at H
    have c18b0 : (a0_3 == a1_3) = true := beq_iff_eq.mpr c18
    have c18b1 : (a0_3 != a1_3) = false := bne_eq_false_iff_eq.mpr c18
    clear c18
    obtain rfl := Option.some.inj H
    have hnb22 := NB146_147.out
    have hnc22 := NB147_146.out
    have hcz23 := bc4_ BK146.out
    have hcz24 := bc4_ BK147.out
    go_wp2
    go_ret
    exact ⟨er_, pb2_ HB.out GE146.out GE147.out⟩
  subst c9
  rw [if_pos rfl] at H
  by_cases c25 : a1_1 = true
  rotate_left
  · replace c25 := Bool.eq_false_iff.mpr c25
    subst c25
    rw [if_neg (show ¬ (false = true) by decide)] at H
    obtain rfl := Option.some.inj H
    have hnb26 := NB146_147.out
    have hnc26 := NB147_146.out
    have hcz27 := bc4_ BK146.out
    have hcz28 := bc4_ BK147.out
    go_wp2
    go_ret
    exact ⟨er_, pb2_ HB.out GE146.out GE147.out⟩
  subst c25
  rw [if_pos rfl] at H
  by_cases c29 : a0_2 = a1_2
  rotate_left
  · rw [if_neg c29] at H
    have c29b0 : (a0_2 == a1_2) = false := beq_eq_false_iff_ne.mpr c29
    have c29b1 : (a0_2 != a1_2) = true := bne_iff_ne.mpr c29
    obtain rfl := Option.some.inj H
    have hnb30 := NB146_147.out
    have hnc30 := NB147_146.out
    have hcz31 := bc4_ BK146.out
    have hcz32 := bc4_ BK147.out
    go_wp2
    go_ret
    exact ⟨er_, pb2_ HB.out GE146.out GE147.out⟩
  rw [if_pos c29] at H
  have c29b0 : (a0_2 == a1_2) = true := beq_iff_eq.mpr c29
  have c29b1 : (a0_2 != a1_2) = false := bne_eq_false_iff_eq.mpr c29
  clear c29
  by_cases c33 : a0_3 = a1_3
  rotate_left
  · rw [if_neg c33] at H
    have c33b0 : (a0_3 == a1_3) = false := beq_eq_false_iff_ne.mpr c33
    have c33b1 : (a0_3 != a1_3) = true := bne_iff_ne.mpr c33
    obtain rfl := Option.some.inj H
    have hnb34 := NB146_147.out
    have hnc34 := NB147_146.out
    have hcz35 := bc4_ BK146.out
    have hcz36 := bc4_ BK147.out
    go_wp2
    go_ret
    exact ⟨er_, pb2_ HB.out GE146.out GE147.out⟩
  rw [if_pos c33] at H
  have c33b0 : (a0_3 == a1_3) = true := beq_iff_eq.mpr c33
  have c33b1 : (a0_3 != a1_3) = false := bne_eq_false_iff_eq.mpr c33
  clear c33
  obtain rfl := Option.some.inj H
  have hnb37 := NB146_147.out
  have hnc37 := NB147_146.out
  have hcz38 := bc4_ BK146.out
  have hcz39 := bc4_ BK147.out
  go_wp2
  go_ret
  exact ⟨er_, pb2_ HB.out GE146.out GE147.out⟩

/-! ### laws_eqMoveS: function 40 -/
def laws_eqMoveS.l0 : Nat → List (S78) → List (S78) → Int → Option (Bool)
  | 0, _, _, _ => none
  | k + 1, x0, x1, x5 => if x5 < (x0.length : Int) then (if 0 ≤ x5 then (if x5 < (x1.length : Int) then ((laws_eqMove.f ((rd_T78 x0 x5).f0) ((rd_T78 x0 x5).f1) ((rd_T78 x0 x5).f2) ((rd_T78 x0 x5).f3) ((rd_T78 x1 x5).f0) ((rd_T78 x1 x5).f1) ((rd_T78 x1 x5).f2) ((rd_T78 x1 x5).f3)).bind fun t150 => (if t150 = true then (laws_eqMoveS.l0 k x0 x1 (wrap64 (x5 + 1))) else (some false))) else (none)) else (none)) else (some true)
def laws_eqMoveS.f (k : Nat) (l0 : List (S78)) (l1 : List (S78)) : Option (Bool) := if (l0.length : Int) = (l1.length : Int) then (laws_eqMoveS.l0 k l0 l1 0) else (some false)
theorem laws_eqMoveS.mono_l : ∀ k, (∀ y0 y1 y2, LeO (laws_eqMoveS.l0 k y0 y1 y2) (laws_eqMoveS.l0 (k + 1) y0 y1 y2))
  | 0 => fun _ _ _ r h => by simp [laws_eqMoveS.l0] at h
  | k + 1 => by
    have ih0 := laws_eqMoveS.mono_l k
    · intro y0 y1 y2
      unfold laws_eqMoveS.l0
      exact mo1_ ih0
theorem laws_eqMoveS.mono : ∀ a0 a1 k, LeO (laws_eqMoveS.f k a0 a1) (laws_eqMoveS.f (k + 1) a0 a1) := by
  intro a0 a1 k
  have ih0 := laws_eqMoveS.mono_l k
  unfold laws_eqMoveS.f
  exact mo1_ ih0
def laws_eqMoveS.T6 : Bool × List (List Nat × List Nat) := (true, [([], []), ([], []), ([0, 1], [0, 1]), ([2], [2]), ([], []), ([], []), ([4, 5], [4, 5]), ([6], [6]), ([3, 7], [3, 7]), ([8], [8])])
def laws_eqMoveS.B6 : List Nat := [0, 0, 3, 7, 0, 0, 48, 112, 255, 511]
theorem laws_eqMoveS.tab6 : rtab .any (opsOf Try.f40 6) = laws_eqMoveS.T6 := by kernel_rfl
theorem laws_eqMoveS.bits6 : waitsOk laws_eqMoveS.T6.2 laws_eqMoveS.B6 = true := by kernel_rfl
set_option maxHeartbeats 8000000 in
set_option maxRecDepth 100000 in
theorem laws_eqMoveS.calls (k : Nat) (A0 : Option Addr) (c0 : Nat) (l0 : List (S78)) (A1 : Option Addr) (c1 : Nat) (l1 : List (S78)) (r : Bool) (w : World) (hr0 : Kd.C k78 w A0 l0.length l0) (hc0 : l0.length ≤ c0) (hr1 : Kd.C k78 w A1 l1.length l1) (hc1 : l1.length ≤ c1) (h : laws_eqMoveS.f k l0 l1 = some r) :
    Calls Try.prog 40 #[.slice A0 l0.length c0, .slice A1 l1.length c1] w fun e w' => e = .returned (.bool r) ∧ Below w.heap.size w w' := by
  have hu78 := Try.underlying78
  have HR0 := Q_ hr0
  have HC0 := Q_ hc0
  clear hr0 hc0
  have HR1 := Q_ hr1
  have HC1 := Q_ hc1
  clear hr1 hc1
  have HB := Q_ (Below.refl w.heap.size w)
  have H : (if (l0.length : Int) = (l1.length : Int) then (laws_eqMoveS.l0 k l0 l1 0) else (some false)) = some r := h
  clear h
  by_cases c3 : (l0.length : Int) = (l1.length : Int)
  rotate_left
  · rw [if_neg c3] at H
    have c3b0 : ((l0.length : Int) == (l1.length : Int)) = false := beq_eq_false_iff_ne.mpr c3
    have c3b1 : ((l0.length : Int) != (l1.length : Int)) = true := bne_iff_ne.mpr c3
    have c3b2 : (l0.length == l1.length) = false := by first | simpa using c3 | (simp at c3 ⊢; omega)
    obtain rfl := Option.some.inj H
    go_enter Try.func40, Try.ntmps40
    go_wp2
    go_ret
    exact ⟨er_, pb_ HB.out⟩
  rw [if_pos c3] at H
  have c3b0 : ((l0.length : Int) == (l1.length : Int)) = true := beq_iff_eq.mpr c3
  have c3b1 : ((l0.length : Int) != (l1.length : Int)) = false := bne_eq_false_iff_eq.mpr c3
  have c3b2 : (l0.length == l1.length) = true := by first | simpa using c3 | (simp at c3 ⊢; omega)
  clear c3
  have H' := Q_ H
  clear H
  go_enter Try.func40, Try.ntmps40
  go_wp2
  go_loopg [5] k (fun kq v5 w' => ∃ (x5_1 : Int), v5 = .int .i64 x5_1 ∧ Aside0 (laws_eqMoveS.l0 kq l0 l1 x5_1 = some r) ∧ Aside0 (kq ≤ k) ∧ Aside0 (Below w.heap.size w w'))
  case atStart => exact ⟨(0), el_, H', ⟨Nat.le_refl _⟩, ⟨pb_ HB.out⟩⟩
  clear H'
  try clear c1
  try clear p2
  try clear c3
  try clear c3b0
  try clear c3b1
  try clear c3b2
  obtain ⟨x5_1, rfl, HA, HK1, HB⟩ := hrel
  rcases gk with _ | k1
  · exact absurd HA.out (by simp [laws_eqMoveS.l0])
  have H := HA.out
  clear HA
  simp only [laws_eqMoveS.l0] at H
  by_cases c4 : x5_1 < (l0.length : Int)
  rotate_left
  · rw [if_neg c4] at H
    have c4b0 : decide (x5_1 < (l0.length : Int)) = false := decide_eq_false c4
    clear c4
    obtain rfl := Option.some.inj H
    go_wp2
    go_ret
    exact ⟨er_, pb_ HB.out⟩
  rw [if_pos c4] at H
  have c4b0 : decide (x5_1 < (l0.length : Int)) = true := decide_eq_true c4
  clear c4
  by_cases c5 : 0 ≤ x5_1
  rotate_left
  · rw [if_neg c5] at H
    exact absurd H (by simp)
  rw [if_pos c5] at H
  have c5b0 : decide (0 ≤ x5_1) = true := decide_eq_true c5
  clear c5
  by_cases c6 : x5_1 < (l1.length : Int)
  rotate_left
  · rw [if_neg c6] at H
    exact absurd H (by simp)
  rw [if_pos c6] at H
  have c6b0 : decide (x5_1 < (l1.length : Int)) = true := decide_eq_true c6
  clear c6
  replace H := Option.bind_eq_some_iff.mp H
  obtain ⟨t150, A70, H⟩ := H
  (try dsimp only at H)
  have A7 := Q_ A70
  clear A70
  have HS_ := Q_ H
  clear H
  try go_wp2
  have _ := Q_ (below_drew1 HB.out)
  clear HB
  rename_i HB
  have p148 : 0 ≤ (x5_1 : Int) := dt_
  have q148 : x5_1 < (l0.length : Int) := dt_
  obtain ⟨ad148, e148, hx148_0, hx148_1, hx148_2, hx148_3⟩ := at_T78 HR0.out x5_1 p148 q148
  have hw148_3 := hx148_3
  have hw148_2 := hx148_2
  have hw148_1 := hx148_1
  have hw148_0 := hx148_0
  cases e148
  replace hx148_0 := bt_ HB hx148_0
  replace hx148_1 := bt_ HB hx148_1
  replace hx148_2 := bt_ HB hx148_2
  replace hx148_3 := bt_ HB hx148_3
  replace p148 := eq_true p148
  replace q148 := eq_true q148
  have p149 : 0 ≤ (x5_1 : Int) := dt_
  have q149 : x5_1 < (l1.length : Int) := dt_
  obtain ⟨ad149, e149, hx149_0, hx149_1, hx149_2, hx149_3⟩ := at_T78 HR1.out x5_1 p149 q149
  have hw149_3 := hx149_3
  have hw149_2 := hx149_2
  have hw149_1 := hx149_1
  have hw149_0 := hx149_0
  cases e149
  replace hx149_0 := bt_ HB hx149_0
  replace hx149_1 := bt_ HB hx149_1
  replace hx149_2 := bt_ HB hx149_2
  replace hx149_3 := bt_ HB hx149_3
  replace p149 := eq_true p149
  replace q149 := eq_true q149
  refine start_ (n := 10) (S := fun w' => w'.cell? (ad148.add ((x5_1).toNat * 4)) = some (.int .i64 ((rd_T78 l0 x5_1).f0)) ∧ w'.cell? ⟨(ad148.add ((x5_1).toNat * 4)).block, (ad148.add ((x5_1).toNat * 4)).off + 1, none⟩ = some (.bool ((rd_T78 l0 x5_1).f1)) ∧ w'.cell? ⟨(ad148.add ((x5_1).toNat * 4)).block, (ad148.add ((x5_1).toNat * 4)).off + 2, none⟩ = some (.int .i64 ((rd_T78 l0 x5_1).f2)) ∧ w'.cell? ⟨(ad148.add ((x5_1).toNat * 4)).block, (ad148.add ((x5_1).toNat * 4)).off + 3, none⟩ = some (.int .i64 ((rd_T78 l0 x5_1).f3)) ∧ w'.cell? (ad149.add ((x5_1).toNat * 4)) = some (.int .i64 ((rd_T78 l1 x5_1).f0)) ∧ w'.cell? ⟨(ad149.add ((x5_1).toNat * 4)).block, (ad149.add ((x5_1).toNat * 4)).off + 1, none⟩ = some (.bool ((rd_T78 l1 x5_1).f1)) ∧ w'.cell? ⟨(ad149.add ((x5_1).toNat * 4)).block, (ad149.add ((x5_1).toNat * 4)).off + 2, none⟩ = some (.int .i64 ((rd_T78 l1 x5_1).f2)) ∧ w'.cell? ⟨(ad149.add ((x5_1).toNat * 4)).block, (ad149.add ((x5_1).toNat * 4)).off + 3, none⟩ = some (.int .i64 ((rd_T78 l1 x5_1).f3))) (ds := []) (tf_ 0 10) (by kernel_rfl) rfl rfl ⟨(bt_ HB hw148_0), (bt_ HB hw148_1), (bt_ HB hw148_2), (bt_ HB hw148_3), (bt_ HB hw149_0), (bt_ HB hw149_1), (bt_ HB hw149_2), (bt_ HB hw149_3)⟩ (fun hHeld => ?_); refine with_tabW laws_eqMoveS.tab6 laws_eqMoveS.bits6 (fun HT_ HW_ => ?_)
  generalize wr.drew = w8 at HB hx148_0 hx148_1 hx148_2 hx148_3 hx149_0 hx149_1 hx149_2 hx149_3 hHeld ⊢
  refine pu_ 0 (some 17) (tf_ 1 10) HT_ ?_
  refine pu_ 1 (some 18) (tf_ 2 10) HT_ ?_
  refine pu_ 2 (some 19) (tf_ 3 10) HT_ ?_
  refine pu_ 4 (some 21) (tm_ 10 23) HT_ ?_
  refine pu_ 5 (some 22) (tm_ 10 55) HT_ ?_
  refine pu_ 6 (some 23) (tm_ 10 119) HT_ ?_
  refine ta_ 3 (some 20) (tf_ 7 10) HT_ HW_ hHeld ?_
  refine ta_ 7 (some 24) (tf_ 8 10) HT_ HW_ hHeld ?_
  refine on_ 8 (some 25) (tf_ 9 10) HT_ (fun K hK => ?_)
  refine goes_ Try.func58 (by kernel_rfl) rfl #[.agg #[.int .i64 ((rd_T78 l0 x5_1).f0), .bool ((rd_T78 l0 x5_1).f1), .int .i64 ((rd_T78 l0 x5_1).f2), .int .i64 ((rd_T78 l0 x5_1).f3)], .agg #[.int .i64 ((rd_T78 l1 x5_1).f0), .bool ((rd_T78 l1 x5_1).f1), .int .i64 ((rd_T78 l1 x5_1).f2), .int .i64 ((rd_T78 l1 x5_1).f3)]] (by rfl) rfl rfl mp_ ?_
  with_reducible refine (laws_eqMove.calls ((rd_T78 l0 x5_1).f0) ((rd_T78 l0 x5_1).f1) ((rd_T78 l0 x5_1).f2) ((rd_T78 l0 x5_1).f3) ((rd_T78 l1 x5_1).f0) ((rd_T78 l1 x5_1).f1) ((rd_T78 l1 x5_1).f2) ((rd_T78 l1 x5_1).f3) t150 _ A7.out).mono ?_
  rintro e w9 ⟨rfl, hb⟩
  refine ⟨_, rfl, ?_⟩
  have _ := Q_ (below_step (pb_ HB.out) hb)
  clear HB
  rename_i HB
  (try clear hb)
  (try clear hb2)
  (try clear hk)
  (try clear hi)
  refine hK.out _ _ ⟨(bt_ HB hw148_0), (bt_ HB hw148_1), (bt_ HB hw148_2), (bt_ HB hw148_3), (bt_ HB hw149_0), (bt_ HB hw149_1), (bt_ HB hw149_2), (bt_ HB hw149_3)⟩ (fun hHeld => ?_)
  clear hK K
  refine no_ (some 25) ?_
  refine pu_ 9 (some 26) (tf_ 10 10) HT_ ?_
  refine done_ (done_of HT_.out (by kernel_rfl)) ?_
  go_upto_if 26 with (fail)
  have H := HS_.out
  clear HS_
  by_cases c10 : t150 = true
  rotate_left
  · replace c10 := Bool.eq_false_iff.mpr c10
    subst c10
    rw [if_neg (show ¬ (false = true) by decide)] at H
    obtain rfl := Option.some.inj H
    go_wp2
    go_ret
    exact ⟨er_, pb_ HB.out⟩
  subst c10
  rw [if_pos rfl] at H
  have H' := Q_ H
  clear H
  go_wp2
  go_roundg k1
  case measure => have := HK1.out; omega
  case rel => exact ⟨(wrap64 (x5_1 + 1)), el_, H', ⟨by have := HK1.out; omega⟩, ⟨pb_ HB.out⟩⟩

/-! ### laws_eqMachine: function 16 -/
def laws_eqMachine.f (k : Nat) (a0_0 : Int) (l0_1 : List Bool) (l0_2 : List (S78)) (a1_0 : Int) (l1_1 : List Bool) (l1_2 : List (S78)) : Option (Bool) := if a0_0 = a1_0 then ((laws_eqBoolS.f k l0_1 l1_1).bind fun t153 => (if t153 = true then ((laws_eqMoveS.f k l0_2 l1_2).bind fun t154 => (if t154 = true then (some true) else (some false))) else (some false))) else (some false)
theorem laws_eqMachine.mono : ∀ a0 a1 a2 a3 a4 a5 k, LeO (laws_eqMachine.f k a0 a1 a2 a3 a4 a5) (laws_eqMachine.f (k + 1) a0 a1 a2 a3 a4 a5) := by
  intro a0 a1 a2 a3 a4 a5 k
  unfold laws_eqMachine.f
  exact mo2_ laws_eqBoolS.mono laws_eqMoveS.mono
set_option maxHeartbeats 8000000 in
set_option maxRecDepth 100000 in
theorem laws_eqMachine.calls (k : Nat) (a0_0 : Int) (A0_1 : Option Addr) (c0_1 : Nat) (l0_1 : List Bool) (A0_2 : Option Addr) (c0_2 : Nat) (l0_2 : List (S78)) (a1_0 : Int) (A1_1 : Option Addr) (c1_1 : Nat) (l1_1 : List Bool) (A1_2 : Option Addr) (c1_2 : Nat) (l1_2 : List (S78)) (r : Bool) (w : World) (hr0_1 : Kd.C Kd.bool w A0_1 l0_1.length l0_1) (hc0_1 : l0_1.length ≤ c0_1) (hr0_2 : Kd.C k78 w A0_2 l0_2.length l0_2) (hc0_2 : l0_2.length ≤ c0_2) (hr1_1 : Kd.C Kd.bool w A1_1 l1_1.length l1_1) (hc1_1 : l1_1.length ≤ c1_1) (hr1_2 : Kd.C k78 w A1_2 l1_2.length l1_2) (hc1_2 : l1_2.length ≤ c1_2) (h : laws_eqMachine.f k a0_0 l0_1 l0_2 a1_0 l1_1 l1_2 = some r) :
    Calls Try.prog 16 #[.agg #[.int .i64 a0_0, .slice A0_1 l0_1.length c0_1, .slice A0_2 l0_2.length c0_2], .agg #[.int .i64 a1_0, .slice A1_1 l1_1.length c1_1, .slice A1_2 l1_2.length c1_2]] w fun e w' => e = .returned (.bool r) ∧ Below w.heap.size w w' := by
  have hu34 := Try.underlying34
  have HR0_1 := Q_ hr0_1
  have HC0_1 := Q_ hc0_1
  clear hr0_1 hc0_1
  have HR0_2 := Q_ hr0_2
  have HC0_2 := Q_ hc0_2
  clear hr0_2 hc0_2
  have HR1_1 := Q_ hr1_1
  have HC1_1 := Q_ hc1_1
  clear hr1_1 hc1_1
  have HR1_2 := Q_ hr1_2
  have HC1_2 := Q_ hc1_2
  clear hr1_2 hc1_2
  have HB := Q_ (Below.refl w.heap.size w)
  have H : (if a0_0 = a1_0 then ((laws_eqBoolS.f k l0_1 l1_1).bind fun t153 => (if t153 = true then ((laws_eqMoveS.f k l0_2 l1_2).bind fun t154 => (if t154 = true then (some true) else (some false))) else (some false))) else (some false)) = some r := h
  clear h
  have HS_ := Q_ H
  clear H
  go_enter Try.func16, Try.ntmps16
  go_upto_region 1 with (first | ((with_reducible refine gate_dst (N := 2) rfl ?_); refine box_event ?hg (N := 2) ?hd (cs := #[.int .i64 a0_0, .slice A0_1 l0_1.length c0_1, .slice A0_2 l0_2.length c0_2]) (t := 34) ?hr ?_; (case hd => rfl); (case hg => rfl); (case hr => first | (go_simp; done) | (go_simp; rfl)); intro gb151 hg w3 hbox hb; have n0_ := Q_ (below_step (pb_ HB.out) hb); have n1_ := Q_ (hbox); have n2_ := Q_ ((by rw [hg]; exact (below_size (pb_ HB.out)) : w.heap.size ≤ gb151)); have n3_ := n2_; clear HB; have HB := n0_; have BK151 := n1_; have GW151 := n2_; have GE151 := n3_; clear n0_ n1_ n2_ n3_; clear hb hbox hg) | ((with_reducible refine gate_dst (N := 3) rfl ?_); refine box_event ?hg (N := 3) ?hd (cs := #[.int .i64 a1_0, .slice A1_1 l1_1.length c1_1, .slice A1_2 l1_2.length c1_2]) (t := 34) ?hr ?_; (case hd => rfl); (case hg => rfl); (case hr => first | (go_simp; done) | (go_simp; rfl)); intro gb152 hg w4 hbox hb; have n0_ := Q_ (bb_ BK151.out hb); have n1_ := Q_ (below_step (pb1_ HB.out GE151.out) hb); have n2_ := Q_ (hbox); have n3_ := Q_ ((by rw [hg]; exact (below_size (pb1_ HB.out GE151.out)) : w.heap.size ≤ gb152)); have n4_ := n3_; have n5_ := Q_ ((by rw [hg]; exact Nat.ne_of_lt (blk_lt (pk_ BK151.out)) : gb151 ≠ gb152)); have n6_ := Q_ ((by rw [hg]; exact Nat.ne_of_gt (blk_lt (pk_ BK151.out)) : gb152 ≠ gb151)); clear BK151; clear HB; have BK151 := n0_; have HB := n1_; have BK152 := n2_; have GW152 := n3_; have GE152 := n4_; have NB151_152 := n5_; have NB152_151 := n6_; clear n0_ n1_ n2_ n3_ n4_ n5_ n6_; clear hb hbox hg))
  (try simp only [Act.put, List.setIfInBounds_toArray, List.set_cons_zero, List.set_cons_succ])
  have H := HS_.out
  clear HS_
  by_cases c5 : a0_0 = a1_0
  rotate_left
  · rw [if_neg c5] at H
    have c5b0 : (a0_0 == a1_0) = false := beq_eq_false_iff_ne.mpr c5
    have c5b1 : (a0_0 != a1_0) = true := bne_iff_ne.mpr c5
    (first | rw [c5b0] | (simp only [i64_w, i32_w]; rw [c5b0]) | rw [c5b1] | (have c_ := c5b1; rw [bne] at c_; rw [c_]; clear c_) | skip)
    obtain rfl := Option.some.inj H
    have hnb6 := NB151_152.out
    have hnc6 := NB152_151.out
    have hcz7 := bc3_ BK151.out
    have hcz8 := bc3_ BK152.out
    go_wp2
    go_ret
    exact ⟨er_, pb2_ HB.out GE151.out GE152.out⟩
  rw [if_pos c5] at H
  have c5b0 : (a0_0 == a1_0) = true := beq_iff_eq.mpr c5
  have c5b1 : (a0_0 != a1_0) = false := bne_eq_false_iff_eq.mpr c5
  clear c5
  (first | rw [c5b0] | (simp only [i64_w, i32_w]; rw [c5b0]) | rw [c5b1] | (have c_ := c5b1; rw [bne] at c_; rw [c_]; clear c_) | skip)
  replace H := Option.bind_eq_some_iff.mp H
  obtain ⟨t153, A90, H⟩ := H
  (try dsimp only at H)
  have A9 := Q_ A90
  clear A90
  have HS_ := Q_ H
  clear H
  have hnb10 := NB151_152.out
  have hnc10 := NB152_151.out
  have hcz11 := bc3_ BK151.out
  have hcz12 := bc3_ BK152.out
  go_upto_if 15 with (first | ((with_reducible refine gate_callee (f := 39) rfl ?_); refine gl_ (some 14) Try.func39 #[.slice A0_1 l0_1.length c0_1, .slice A1_1 l1_1.length c1_1] ?_; (with_reducible refine (laws_eqBoolS.calls k _ _ l0_1 _ _ l1_1 t153 _ ?side1 ?side2 ?side3 ?side4 A9.out).mono ?_); (case side1 => exact cb_ HR0_1 HB); (case side2 => exact HC0_1.out); (case side3 => exact cb_ HR1_1 HB); (case side4 => exact HC1_1.out); rintro e w' ⟨rfl, ⟨nd, rfl⟩⟩; refine ⟨_, rfl, ?_⟩))
  (try simp only [Act.put, List.setIfInBounds_toArray, List.set_cons_zero, List.set_cons_succ])
  have H := HS_.out
  clear HS_
  by_cases c13 : t153 = true
  rotate_left
  · replace c13 := Bool.eq_false_iff.mpr c13
    subst c13
    rw [if_neg (show ¬ (false = true) by decide)] at H
    obtain rfl := Option.some.inj H
    go_wp2
    go_ret
    exact ⟨er_, pb2_ HB.out GE151.out GE152.out⟩
  subst c13
  rw [if_pos rfl] at H
  replace H := Option.bind_eq_some_iff.mp H
  obtain ⟨t154, A140, H⟩ := H
  replace H : (if t154 = true then (some true) else (some false)) = some r := H
  have A14 := Q_ A140
  clear A140
  have HS_ := Q_ H
  clear H
  have hnb15 := NB151_152.out
  have hnc15 := NB152_151.out
  have hcz16 := bc3_ BK151.out
  have hcz17 := bc3_ BK152.out
  go_upto_if 21 with (first | ((with_reducible refine gate_callee (f := 40) rfl ?_); refine gl_ (some 20) Try.func40 #[.slice A0_2 l0_2.length c0_2, .slice A1_2 l1_2.length c1_2] ?_; (with_reducible refine (laws_eqMoveS.calls k _ _ l0_2 _ _ l1_2 t154 _ ?side1 ?side2 ?side3 ?side4 A14.out).mono ?_); (case side1 => exact pc_ (Kd.C_below HR0_2.out (pb2_ HB.out GE151.out GE152.out))); (case side2 => exact HC0_2.out); (case side3 => exact pc_ (Kd.C_below HR1_2.out (pb2_ HB.out GE151.out GE152.out))); (case side4 => exact HC1_2.out); rintro e w18 ⟨rfl, hb⟩; refine ⟨_, rfl, ?_⟩; have _ := Q_ (bb_ BK151.out hb); have _ := Q_ (bb_ BK152.out hb); have _ := Q_ (below_step (pb2_ HB.out GE151.out GE152.out) hb); clear BK151 BK152 HB; rename_i BK151 BK152 HB; (try clear hb); (try clear hb2); (try clear hk); (try clear hi)))
  (try simp only [Act.put, List.setIfInBounds_toArray, List.set_cons_zero, List.set_cons_succ])
  have H := HS_.out
  clear HS_
  by_cases c19 : t154 = true
  rotate_left
  · replace c19 := Bool.eq_false_iff.mpr c19
    subst c19
    rw [if_neg (show ¬ (false = true) by decide)] at H
    obtain rfl := Option.some.inj H
    go_wp2
    go_ret
    exact ⟨er_, pb2_ HB.out GE151.out GE152.out⟩
  subst c19
  rw [if_pos rfl] at H
  obtain rfl := Option.some.inj H
  go_wp2
  go_ret
  exact ⟨er_, pb2_ HB.out GE151.out GE152.out⟩

end Go.Proofs.Ytldcchjbaglppaa.Print
