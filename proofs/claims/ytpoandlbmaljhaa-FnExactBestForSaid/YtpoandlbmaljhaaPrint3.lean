-- Written by a program of this session (printx.py) out of the translation; Lean checks it.
import Derived.Test.YtpoandlbmaljhaaPrint0
import Derived.Test.YtpoandlbmaljhaaPrint1
import Derived.Test.YtpoandlbmaljhaaPrint2
namespace Go.Proofs.Ytpoandlbmaljhaa.Print
open Go.RowKit Go.Proofs.YtpoandlbmaljhaaW.PrintWords Go.Proofs.YtpoandlbmaljhaaW.PrintLast Go.Proofs.YtpoandlbmaljhaaW.PrintMore Go.Proofs.Ytpoandlbmaljhaa.Short
attribute [local go_sem] max2_int min2_int max_two min_two max_three min_three max_four min_four   -- for this text's walks alone
set_option linter.unusedVariables false
set_option linter.unusedSimpArgs false

/-! ### spec_IsEndpoint: function 33 -/
mutual
def spec_IsEndpoint.l0 : Nat → Int → List Int → List Int → List (S50) → Int → Option (Bool)
  | 0, _, _, _, _, _ => none
  | k + 1, x3, x129000, x129001, x129002, x129003 => if x3 < (x129001.length : Int) then (if 0 ≤ x3 then ((spec_l1In.f (rd x129001 x3) 0 255).bind fun t130 => (if t130 = true then ((spec_IsReserved.f (rd x129001 x3)).bind fun t132 => (if t132 = true then (some false) else (if x3 > 0 then (if 0 ≤ (wrap64 (x3 - 1)) then (if (wrap64 (x3 - 1)) < (x129001.length : Int) then (if (rd x129001 (wrap64 (x3 - 1))) ≥ (rd x129001 x3) then (some false) else (spec_IsEndpoint.l0 k (wrap64 (x3 + 1)) x129000 x129001 x129002 x129003)) else (none)) else (none)) else (spec_IsEndpoint.l0 k (wrap64 (x3 + 1)) x129000 x129001 x129002 x129003)))) else (some false))) else (none)) else (spec_IsEndpoint.l1 k 0 x129000 x129001 x129002 x129003)
def spec_IsEndpoint.l1 : Nat → Int → List Int → List Int → List (S50) → Int → Option (Bool)
  | 0, _, _, _, _, _ => none
  | k + 1, x4, x129000, x129001, x129002, x129003 => if x4 < (x129002.length : Int) then (if 0 ≤ x4 then ((spec_IsBox.f k ((rd_T50 x129002 x4).f0) ((rd_T50 x129002 x4).f1) ((rd_T50 x129002 x4).f2) ((rd_T50 x129002 x4).f3)).bind fun t136 => (if t136 = true then (spec_IsEndpoint.l1 k (wrap64 (x4 + 1)) x129000 x129001 x129002 x129003) else (some false))) else (none)) else ((spec_AreVersions.f k x129000).bind fun t137 => (if t137 = true then (if (x129001.length : Int) ≤ 5 then (if (x129002.length : Int) ≤ 4 then ((spec_l1In.f x129003 0 5).bind fun t138 => (some t138)) else (some false)) else (some false)) else (some false)))
end
def spec_IsEndpoint.f (k : Nat) (l0_0 : List Int) (l0_1 : List Int) (l0_2 : List (S50)) (a0_3 : Int) : Option (Bool) := spec_IsEndpoint.l0 k 0 l0_0 l0_1 l0_2 a0_3
theorem spec_IsEndpoint.mono_l : ∀ k, (∀ y0 y1 y2 y3 y4, LeO (spec_IsEndpoint.l0 k y0 y1 y2 y3 y4) (spec_IsEndpoint.l0 (k + 1) y0 y1 y2 y3 y4)) ∧ (∀ y0 y1 y2 y3 y4, LeO (spec_IsEndpoint.l1 k y0 y1 y2 y3 y4) (spec_IsEndpoint.l1 (k + 1) y0 y1 y2 y3 y4))
  | 0 => ⟨fun _ _ _ _ _ r h => by simp [spec_IsEndpoint.l0] at h, fun _ _ _ _ _ r h => by simp [spec_IsEndpoint.l1] at h⟩
  | k + 1 => by
    obtain ⟨ih0, ih1⟩ := spec_IsEndpoint.mono_l k
    refine ⟨?_, ?_⟩
    · intro y0 y1 y2 y3 y4
      unfold spec_IsEndpoint.l0
      repeat' first
      | (with_reducible exact ih0 _ _ _ _ _)
      | (with_reducible exact ih1 _ _ _ _ _)
      | (with_reducible exact spec_AreVersions.mono _ _)
      | (with_reducible exact spec_IsBox.mono _ _ _ _ _)
      | (with_reducible exact LeO.refl _)
      | (with_reducible exact LeO.none _)
      | (with_reducible refine LeO.ite ?_ ?_)
      | (with_reducible refine LeO.bind ?_ (fun _ => ?_))
      | exact ih0 _ _ _ _ _
      | exact ih1 _ _ _ _ _
      | exact spec_AreVersions.mono _ _
      | exact spec_IsBox.mono _ _ _ _ _
      | exact LeO.none _
      | refine LeO.ite ?_ ?_
      | refine LeO.bind ?_ (fun _ => ?_)
    · intro y0 y1 y2 y3 y4
      unfold spec_IsEndpoint.l1
      repeat' first
      | (with_reducible exact ih0 _ _ _ _ _)
      | (with_reducible exact ih1 _ _ _ _ _)
      | (with_reducible exact spec_AreVersions.mono _ _)
      | (with_reducible exact spec_IsBox.mono _ _ _ _ _)
      | (with_reducible exact LeO.refl _)
      | (with_reducible exact LeO.none _)
      | (with_reducible refine LeO.ite ?_ ?_)
      | (with_reducible refine LeO.bind ?_ (fun _ => ?_))
      | exact ih0 _ _ _ _ _
      | exact ih1 _ _ _ _ _
      | exact spec_AreVersions.mono _ _
      | exact spec_IsBox.mono _ _ _ _ _
      | exact LeO.none _
      | refine LeO.ite ?_ ?_
      | refine LeO.bind ?_ (fun _ => ?_)
theorem spec_IsEndpoint.mono : ∀ a0 a1 a2 a3 k, LeO (spec_IsEndpoint.f k a0 a1 a2 a3) (spec_IsEndpoint.f (k + 1) a0 a1 a2 a3) := by
  intro a0 a1 a2 a3 k
  obtain ⟨ih0, ih1⟩ := spec_IsEndpoint.mono_l k
  unfold spec_IsEndpoint.f
  repeat' first
      | (with_reducible exact ih0 _ _ _ _ _)
      | (with_reducible exact ih1 _ _ _ _ _)
      | (with_reducible exact spec_AreVersions.mono _ _)
      | (with_reducible exact spec_IsBox.mono _ _ _ _ _)
      | (with_reducible exact LeO.refl _)
      | (with_reducible exact LeO.none _)
      | (with_reducible refine LeO.ite ?_ ?_)
      | (with_reducible refine LeO.bind ?_ (fun _ => ?_))
      | exact ih0 _ _ _ _ _
      | exact ih1 _ _ _ _ _
      | exact spec_AreVersions.mono _ _
      | exact spec_IsBox.mono _ _ _ _ _
      | exact LeO.none _
      | refine LeO.ite ?_ ?_
      | refine LeO.bind ?_ (fun _ => ?_)
def spec_IsEndpoint.T4 : Bool × List (List Nat × List Nat) := (true, [([], []), ([0], [0]), ([], []), ([1, 2], [1, 2]), ([3], [3]), ([4], [4]), ([5], [5]), ([6, 5], [6]), ([7], [7]), ([8, 7], [7, 8]), ([7], [7]), ([9, 10, 7], [7, 9, 10]), ([11, 7], [7, 11]), ([12, 7, 7], [7, 12]), ([7, 13], [7, 13]), ([14, 13], [14]), ([15], [15]), ([16, 15], [15, 16]), ([17, 15, 15], [15, 17]), ([18], [18]), ([19, 18], [18, 19]), ([18], [18]), ([21, 18], [18, 21]), ([20, 22, 18], [18, 20, 22]), ([23, 18], [18, 23]), ([18], [18]), ([25, 18], [18, 25]), ([18], [18]), ([26, 27, 18], [18, 26, 27]), ([28, 18], [18, 28]), ([24, 29, 18], [18, 24, 29]), ([18, 30, 15], [15, 18, 30]), ([15, 31], [15, 31])])
def spec_IsEndpoint.B4 : List Nat := [0, 1, 0, 7, 15, 31, 63, 127, 255, 511, 255, 2047, 4095, 8191, 16383, 32767, 65535, 131071, 262143, 524287, 1048575, 524287, 2621439, 8388607, 16777215, 524287, 34078719, 524287, 235405311, 503840767, 1073741823, 2147483647, 4294967295]
theorem spec_IsEndpoint.tab4 : rtab .any (opsOf Try.f33 4) = spec_IsEndpoint.T4 := by kernel_rfl
theorem spec_IsEndpoint.bits4 : waitsOk spec_IsEndpoint.T4.2 spec_IsEndpoint.B4 = true := by kernel_rfl
set_option maxHeartbeats 8000000 in
set_option maxRecDepth 100000 in
theorem spec_IsEndpoint.calls (k : Nat) (A0_0 : Option Addr) (c0_0 : Nat) (l0_0 : List Int) (A0_1 : Option Addr) (c0_1 : Nat) (l0_1 : List Int) (A0_2 : Option Addr) (c0_2 : Nat) (l0_2 : List (S50)) (a0_3 : Int) (r : Bool) (w : World) (hr0_0 : Kd.C (Kd.int .i64) w A0_0 l0_0.length l0_0) (hc0_0 : l0_0.length ≤ c0_0) (hr0_1 : Kd.C (Kd.int .i64) w A0_1 l0_1.length l0_1) (hc0_1 : l0_1.length ≤ c0_1) (hr0_2 : Kd.C k50 w A0_2 l0_2.length l0_2) (hc0_2 : l0_2.length ≤ c0_2) (h : spec_IsEndpoint.f k l0_0 l0_1 l0_2 a0_3 = some r) :
    Calls Try.prog 33 #[.agg #[.slice A0_0 l0_0.length c0_0, .slice A0_1 l0_1.length c0_1, .slice A0_2 l0_2.length c0_2, .int .i64 a0_3]] w fun e w' => e = .returned (.bool r) ∧ Below w.heap.size w w' := by
  have hu39 := Try.underlying39
  have hu50 := Try.underlying50
  have HR0_0 := Aside0.mk hr0_0
  have HC0_0 := Aside0.mk hc0_0
  clear hr0_0 hc0_0
  have HR0_1 := Aside0.mk hr0_1
  have HC0_1 := Aside0.mk hc0_1
  clear hr0_1 hc0_1
  have HR0_2 := Aside0.mk hr0_2
  have HC0_2 := Aside0.mk hc0_2
  clear hr0_2 hc0_2
  have HB := Aside0.mk (Below.refl w.heap.size w)
  have H : (spec_IsEndpoint.l0 k 0 l0_0 l0_1 l0_2 a0_3) = some r := h
  clear h
  have H' := Aside0.mk H
  clear H
  go_enter Try.func33, Try.ntmps33
  go_wp2_with (first | ((with_reducible refine gate_dst (N := 1) rfl ?_); (try (refine gate_guard (by rfl) ?_; dsimp only)); refine box_event ?hg (N := 1) ?hd (cs := #[.slice A0_0 l0_0.length c0_0, .slice A0_1 l0_1.length c0_1, .slice A0_2 l0_2.length c0_2, .int .i64 a0_3]) (t := 39) ?hr ?_; (case hd => rfl); (case hg => rfl); (case hr => first | (go_simp; done) | (go_simp; rfl)); intro gb128 hg w2 hbox hb; have n0_ := Aside0.mk (below_step (pb_ HB.out) hb); have n1_ := Aside0.mk (hbox); have n2_ := Aside0.mk ((by rw [hg]; exact (below_size (pb_ HB.out)) : w.heap.size ≤ gb128)); have n3_ := Aside0.mk ((by rw [hg]; exact (below_size (pb_ HB.out)) : w.heap.size ≤ gb128)); clear HB; have HB := n0_; have BK128 := n1_; have GW128 := n2_; have GE128 := n3_; clear n0_ n1_ n2_ n3_; clear hb hbox hg))
  (try simp only [Act.put, List.setIfInBounds_toArray, List.set_cons_zero, List.set_cons_succ])
  go_loopg [3] k (fun kq v3 w' => ∃ (x3_1 : Int), v3 = .int .i64 x3_1 ∧ Aside0 (spec_IsEndpoint.l0 kq x3_1 l0_0 l0_1 l0_2 a0_3 = some r) ∧ Aside0 (kq ≤ k) ∧ Aside0 (w'.heap[gb128]? = some (.cells #[(.slice A0_0 l0_0.length c0_0), (.slice A0_1 l0_1.length c0_1), (.slice A0_2 l0_2.length c0_2), .int .i64 a0_3] 39 (0, 0))) ∧ Aside0 (Below w.heap.size w w'))
  case atStart => exact ⟨(0), el_, H', ⟨Nat.le_refl _⟩, ⟨pk_ BK128.out⟩, ⟨pb1_ HB.out GE128.out⟩⟩
  clear H'
  try clear p2
  obtain ⟨x3_1, rfl, HA, HK1, BK128, HB⟩ := hrel
  rcases gk with _ | k1
  · exact absurd HA.out (by simp [spec_IsEndpoint.l0])
  have H := HA.out
  clear HA
  simp only [spec_IsEndpoint.l0] at H
  by_cases c3 : x3_1 < (l0_1.length : Int)
  rotate_left
  · rw [if_neg c3] at H
    have c3b0 : decide (x3_1 < (l0_1.length : Int)) = false := decide_eq_false c3
    clear c3
    have H' := Aside0.mk H
    clear H
    obtain ⟨hcz4_0, hcz4_1, hcz4_2, hcz4_3, hfz4_0, hfz4_1, hfz4_2, hfz4_3⟩ := bc4_ BK128.out
    go_wp2
    go_loopg [4] k1 (fun kq v4 w' => ∃ (x4_2 : Int), v4 = .int .i64 x4_2 ∧ Aside0 (spec_IsEndpoint.l1 kq x4_2 l0_0 l0_1 l0_2 a0_3 = some r) ∧ Aside0 (kq ≤ k1) ∧ Aside0 (w'.heap[gb128]? = some (.cells #[(.slice A0_0 l0_0.length c0_0), (.slice A0_1 l0_1.length c0_1), (.slice A0_2 l0_2.length c0_2), .int .i64 a0_3] 39 (0, 0))) ∧ Aside0 (Below w.heap.size w w'))
    case atStart => exact ⟨(0), el_, H', ⟨Nat.le_refl _⟩, ⟨pk_ BK128.out⟩, ⟨pb1_ HB.out GE128.out⟩⟩
    clear H'
    try clear p2
    try clear c3
    try clear c3b0
    try clear hcz4_0
    try clear hcz4_1
    try clear hcz4_2
    try clear hcz4_3
    try clear hfz4_0
    try clear hfz4_1
    try clear hfz4_2
    try clear hfz4_3
    try clear p2
    obtain ⟨x4_2, rfl, HA, HK2, BK128, HB⟩ := hrel
    rcases gk with _ | k2
    · exact absurd HA.out (by simp [spec_IsEndpoint.l1])
    have H := HA.out
    clear HA
    simp only [spec_IsEndpoint.l1] at H
    by_cases c5 : x4_2 < (l0_2.length : Int)
    · rw [if_pos c5] at H
      have c5b0 : decide (x4_2 < (l0_2.length : Int)) = true := decide_eq_true c5
      clear c5
      by_cases c6 : 0 ≤ x4_2
      rotate_left
      · rw [if_neg c6] at H
        exact absurd H (by simp)
      rw [if_pos c6] at H
      have c6b0 : decide (0 ≤ x4_2) = true := decide_eq_true c6
      clear c6
      replace H := Option.bind_eq_some_iff.mp H
      obtain ⟨t136, A70, H⟩ := H
      (try dsimp only at H)
      have A7 := Aside0.mk A70
      clear A70
      have HS_ := Aside0.mk H
      clear H
      obtain ⟨hcz8_0, hcz8_1, hcz8_2, hcz8_3, hfz8_0, hfz8_1, hfz8_2, hfz8_3⟩ := bc4_ BK128.out
      have p135 : 0 ≤ (x4_2 : Int) := dt_
      have q135 : x4_2 < (l0_2.length : Int) := dt_
      obtain ⟨ad135, A135_1, c135_1, A135_2, c135_2, e135, hx135_0, hx135_1, hx135_2, hx135_3, hl135_1, hi135_1, hl135_2, hi135_2⟩ := at_T50 HR0_2.out x4_2 p135 q135
      cases e135
      replace hx135_0 := (HB.out.cell (World.block_lt_of_cell? w _ hx135_0)).trans hx135_0
      replace hx135_1 := (HB.out.cell (World.block_lt_of_cell? w _ hx135_1)).trans hx135_1
      replace hx135_2 := (HB.out.cell (World.block_lt_of_cell? w _ hx135_2)).trans hx135_2
      replace hx135_3 := (HB.out.cell (World.block_lt_of_cell? w _ hx135_3)).trans hx135_3
      have HR135_1 := Aside0.mk hi135_1
      have HC135_1 := Aside0.mk hl135_1
      clear hi135_1 hl135_1
      have HR135_2 := Aside0.mk hi135_2
      have HC135_2 := Aside0.mk hl135_2
      clear hi135_2 hl135_2
      replace p135 := eq_true p135
      replace q135 := eq_true q135
      go_upto_if 58 with (first | ((with_reducible refine gate_callee (f := 51) rfl ?_); refine goesL_ (some 57) rfl rfl Try.func51 (by kernel_rfl) rfl #[.agg #[.int .i64 ((rd_T50 l0_2 x4_2).f0), .slice A135_1 ((rd_T50 l0_2 x4_2).f1).length c135_1, .slice A135_2 ((rd_T50 l0_2 x4_2).f2).length c135_2, .bool ((rd_T50 l0_2 x4_2).f3)]] rfl mp_ ?_; (with_reducible refine (spec_IsBox.calls k2 ((rd_T50 l0_2 x4_2).f0) _ _ ((rd_T50 l0_2 x4_2).f1) _ _ ((rd_T50 l0_2 x4_2).f2) ((rd_T50 l0_2 x4_2).f3) t136 _ ?side1 ?side2 ?side3 ?side4 A7.out).mono ?_); (case side1 => exact pc_ (Kd.C_below HR135_1.out HB.out)); (case side2 => exact HC135_1.out); (case side3 => exact pc_ (Kd.C_below HR135_2.out HB.out)); (case side4 => exact HC135_2.out); rintro e w9 ⟨rfl, hb⟩; refine ⟨_, rfl, ?_⟩; have n0_ := Aside0.mk (bb_ BK128.out hb); have n1_ := Aside0.mk (below_step (pb1_ HB.out GE128.out) hb); clear BK128; clear HB; have BK128 := n0_; have HB := n1_; clear n0_ n1_; (try clear hb); (try clear hb2); (try clear hk); (try clear hi)))
      (try simp only [Act.put, List.setIfInBounds_toArray, List.set_cons_zero, List.set_cons_succ])
      have H := HS_.out
      clear HS_
      by_cases c10 : t136 = true
      rotate_left
      · replace c10 := Bool.eq_false_iff.mpr c10
        subst c10
        rw [if_neg (show ¬ (false = true) by decide)] at H
        obtain rfl := Option.some.inj H
        go_wp2
        go_ret
        exact ⟨er_, pb1_ HB.out GE128.out⟩
      subst c10
      rw [if_pos rfl] at H
      have H' := Aside0.mk H
      clear H
      go_wp2
      go_roundg k2
      case measure => have := HK1.out; have := HK2.out; omega
      case rel => exact ⟨(wrap64 (x4_2 + 1)), el_, H', ⟨by have := HK1.out; have := HK2.out; omega⟩, ⟨pk_ BK128.out⟩, ⟨pb1_ HB.out GE128.out⟩⟩
    rw [if_neg c5] at H
    have c5b0 : decide (x4_2 < (l0_2.length : Int)) = false := decide_eq_false c5
    clear c5
    replace H := Option.bind_eq_some_iff.mp H
    obtain ⟨t137, A110, H⟩ := H
    (try dsimp only at H)
    have A11 := Aside0.mk A110
    clear A110
    by_cases c12 : t137 = true
    rotate_left
    · replace c12 := Bool.eq_false_iff.mpr c12
      subst c12
      rw [if_neg (show ¬ (false = true) by decide)] at H
      obtain rfl := Option.some.inj H
      obtain ⟨hcz13_0, hcz13_1, hcz13_2, hcz13_3, hfz13_0, hfz13_1, hfz13_2, hfz13_3⟩ := bc4_ BK128.out
      go_wp2_with (first | ((with_reducible refine gate_callee (f := 52) rfl ?_); refine goesL_ (some 61) rfl rfl Try.func52 (by kernel_rfl) rfl #[.slice A0_0 l0_0.length c0_0] rfl mp_ ?_; (with_reducible refine (spec_AreVersions.calls k2 _ _ l0_0 false _ ?side1 ?side2 A11.out).mono ?_); (case side1 => exact pc_ (Kd.C_below HR0_0.out HB.out)); (case side2 => exact HC0_0.out); rintro e w' ⟨rfl, ⟨nd, rfl⟩⟩; refine ⟨_, rfl, ?_⟩))
      go_ret
      exact ⟨er_, pb1_ HB.out GE128.out⟩
    subst c12
    rw [if_pos rfl] at H
    by_cases c14 : (l0_1.length : Int) ≤ 5
    rotate_left
    · rw [if_neg c14] at H
      have c14b0 : decide ((l0_1.length : Int) ≤ 5) = false := decide_eq_false c14
      have c14b1 : decide (l0_1.length ≤ 5) = false := decide_eq_false (by omega)
      clear c14
      obtain rfl := Option.some.inj H
      obtain ⟨hcz15_0, hcz15_1, hcz15_2, hcz15_3, hfz15_0, hfz15_1, hfz15_2, hfz15_3⟩ := bc4_ BK128.out
      go_wp2_with (first | ((with_reducible refine gate_callee (f := 52) rfl ?_); refine goesL_ (some 61) rfl rfl Try.func52 (by kernel_rfl) rfl #[.slice A0_0 l0_0.length c0_0] rfl mp_ ?_; (with_reducible refine (spec_AreVersions.calls k2 _ _ l0_0 true _ ?side1 ?side2 A11.out).mono ?_); (case side1 => exact pc_ (Kd.C_below HR0_0.out HB.out)); (case side2 => exact HC0_0.out); rintro e w' ⟨rfl, ⟨nd, rfl⟩⟩; refine ⟨_, rfl, ?_⟩))
      go_ret
      exact ⟨er_, pb1_ HB.out GE128.out⟩
    rw [if_pos c14] at H
    have c14b0 : decide ((l0_1.length : Int) ≤ 5) = true := decide_eq_true c14
    have c14b1 : decide (l0_1.length ≤ 5) = true := decide_eq_true (by omega)
    clear c14
    by_cases c16 : (l0_2.length : Int) ≤ 4
    rotate_left
    · rw [if_neg c16] at H
      have c16b0 : decide ((l0_2.length : Int) ≤ 4) = false := decide_eq_false c16
      have c16b1 : decide (l0_2.length ≤ 4) = false := decide_eq_false (by omega)
      clear c16
      obtain rfl := Option.some.inj H
      obtain ⟨hcz17_0, hcz17_1, hcz17_2, hcz17_3, hfz17_0, hfz17_1, hfz17_2, hfz17_3⟩ := bc4_ BK128.out
      go_wp2_with (first | ((with_reducible refine gate_callee (f := 52) rfl ?_); refine goesL_ (some 61) rfl rfl Try.func52 (by kernel_rfl) rfl #[.slice A0_0 l0_0.length c0_0] rfl mp_ ?_; (with_reducible refine (spec_AreVersions.calls k2 _ _ l0_0 true _ ?side1 ?side2 A11.out).mono ?_); (case side1 => exact pc_ (Kd.C_below HR0_0.out HB.out)); (case side2 => exact HC0_0.out); rintro e w' ⟨rfl, ⟨nd, rfl⟩⟩; refine ⟨_, rfl, ?_⟩))
      go_ret
      exact ⟨er_, pb1_ HB.out GE128.out⟩
    rw [if_pos c16] at H
    have c16b0 : decide ((l0_2.length : Int) ≤ 4) = true := decide_eq_true c16
    have c16b1 : decide (l0_2.length ≤ 4) = true := decide_eq_true (by omega)
    clear c16
    replace H := Option.bind_eq_some_iff.mp H
    obtain ⟨t138, A180, H⟩ := H
    replace H : (some t138) = some r := H
    have A18 := Aside0.mk A180
    clear A180
    obtain rfl := Option.some.inj H
    obtain ⟨hcz19_0, hcz19_1, hcz19_2, hcz19_3, hfz19_0, hfz19_1, hfz19_2, hfz19_3⟩ := bc4_ BK128.out
    go_wp2_with (first | ((with_reducible refine gate_callee (f := 52) rfl ?_); refine goesL_ (some 61) rfl rfl Try.func52 (by kernel_rfl) rfl #[.slice A0_0 l0_0.length c0_0] rfl mp_ ?_; (with_reducible refine (spec_AreVersions.calls k2 _ _ l0_0 true _ ?side1 ?side2 A11.out).mono ?_); (case side1 => exact pc_ (Kd.C_below HR0_0.out HB.out)); (case side2 => exact HC0_0.out); rintro e w' ⟨rfl, ⟨nd, rfl⟩⟩; refine ⟨_, rfl, ?_⟩) | (go_at_call 49; (with_reducible refine (spec_l1In.calls a0_3 0 5 t138 _ A18.out).mono ?_); rintro e w' ⟨rfl, ⟨nd, rfl⟩⟩))
    go_ret
    exact ⟨er_, pb1_ HB.out GE128.out⟩
  rw [if_pos c3] at H
  have c3b0 : decide (x3_1 < (l0_1.length : Int)) = true := decide_eq_true c3
  clear c3
  by_cases c20 : 0 ≤ x3_1
  rotate_left
  · rw [if_neg c20] at H
    exact absurd H (by simp)
  rw [if_pos c20] at H
  have c20b0 : decide (0 ≤ x3_1) = true := decide_eq_true c20
  clear c20
  replace H := Option.bind_eq_some_iff.mp H
  obtain ⟨t130, A210, H⟩ := H
  (try dsimp only at H)
  have A21 := Aside0.mk A210
  clear A210
  by_cases c22 : t130 = true
  rotate_left
  · replace c22 := Bool.eq_false_iff.mpr c22
    subst c22
    rw [if_neg (show ¬ (false = true) by decide)] at H
    obtain rfl := Option.some.inj H
    obtain ⟨hcz23_0, hcz23_1, hcz23_2, hcz23_3, hfz23_0, hfz23_1, hfz23_2, hfz23_3⟩ := bc4_ BK128.out
    try go_wp2
    have n0_ := Aside0.mk (blk_drew BK128.out)
    have n1_ := Aside0.mk (below_drew1 HB.out)
    clear BK128
    clear HB
    have BK128 := n0_
    have HB := n1_
    clear n0_ n1_
    have p129 : 0 ≤ (x3_1 : Int) := dt_
    have q129 : x3_1 < (l0_1.length : Int) := dt_
    obtain ⟨ad129, e129, hx129_0⟩ := Kd.at_int HR0_1.out x3_1 p129 q129
    have hw129_0 := hx129_0
    cases e129
    replace hx129_0 := (HB.out.cell (World.block_lt_of_cell? w _ hx129_0)).trans hx129_0
    replace p129 := eq_true p129
    replace q129 := eq_true q129
    refine start_ (n := 33) (S := fun w' => w'.cell? ⟨gb128, 0, none⟩ = some (.slice A0_0 l0_0.length c0_0) ∧ w'.cell? ⟨gb128, 1, none⟩ = some (.slice (some ad129) l0_1.length c0_1) ∧ w'.cell? ⟨gb128, 2, none⟩ = some (.slice A0_2 l0_2.length c0_2) ∧ w'.cell? ⟨gb128, 3, none⟩ = some (.int .i64 a0_3) ∧ w'.cell? (ad129.add (x3_1).toNat) = some (.int .i64 (rd l0_1 x3_1))) (ds := []) #[false, false, false, false, false, false, false, false, false, false, false, false, false, false, false, false, false, false, false, false, false, false, false, false, false, false, false, false, false, false, false, false, false] (by kernel_rfl) rfl rfl ⟨(blk_cell BK128.out 0).trans rfl, (blk_cell BK128.out 1).trans rfl, (blk_cell BK128.out 2).trans rfl, (blk_cell BK128.out 3).trans rfl, ((HB.out.cell (World.block_lt_of_cell? w _ hw129_0)).trans hw129_0)⟩ (fun hHeld => ?_); refine with_tabW spec_IsEndpoint.tab4 spec_IsEndpoint.bits4 (fun HT_ HW_ => ?_)
    generalize wr.drew = w24 at BK128 HB hx129_0 hHeld ⊢
    refine pu_ 0 (some 12) (tf_ 1 33) HT_ ?_
    refine pu_ 2 (some 14) #[true, false, true, false, false, false, false, false, false, false, false, false, false, false, false, false, false, false, false, false, false, false, false, false, false, false, false, false, false, false, false, false, false] HT_ ?_
    refine ta_ 1 (some 13) (tf_ 3 33) HT_ HW_ hHeld ?_
    refine pu_ 3 (some 15) (tf_ 4 33) HT_ ?_
    refine ta_ 4 (some 16) (tf_ 5 33) HT_ HW_ hHeld ?_
    refine on_ 5 (some 17) (tf_ 6 33) HT_ (fun K hK => ?_)
    refine goes_ Try.func49 (by kernel_rfl) rfl #[.int .i64 (rd l0_1 x3_1), .int .i64 0, .int .i64 255] (by rfl) rfl rfl mp_ ?_
    with_reducible refine (spec_l1In.calls (rd l0_1 x3_1) 0 255 false _ A21.out).mono ?_
    rintro e w' ⟨rfl, ⟨nd, rfl⟩⟩
    refine ⟨_, rfl, ?_⟩
    refine hK.out _ _ ⟨(blk_cell BK128.out 0).trans rfl, (blk_cell BK128.out 1).trans rfl, (blk_cell BK128.out 2).trans rfl, (blk_cell BK128.out 3).trans rfl, ((HB.out.cell (World.block_lt_of_cell? w _ hw129_0)).trans hw129_0)⟩ (fun hHeld => ?_)
    clear hK K
    refine no_ (some 17) ?_
    refine pu_ 6 (some 18) (tf_ 7 33) HT_ ?_
    refine pu_ 7 (some 19) (tf_ 8 33) HT_ ?_
    refine pn_ 8 (some 20) (tf_ 9 33) HT_ ?_
    refine pn_ 9 (some 21) (tf_ 10 33) HT_ ?_
    refine pn_ 10 (some 22) (tf_ 11 33) HT_ ?_
    refine pn_ 11 (some 23) (tf_ 12 33) HT_ ?_
    refine pn_ 12 (some 24) (tf_ 13 33) HT_ ?_
    refine pn_ 13 (some 25) (tf_ 14 33) HT_ ?_
    refine pu_ 14 (some 26) (tf_ 15 33) HT_ ?_
    refine pu_ 15 (some 27) (tf_ 16 33) HT_ ?_
    refine pn_ 16 (some 28) (tf_ 17 33) HT_ ?_
    refine pn_ 17 (some 29) (tf_ 18 33) HT_ ?_
    refine pn_ 18 (some 30) (tf_ 19 33) HT_ ?_
    refine pn_ 19 (some 31) (tf_ 20 33) HT_ ?_
    refine pn_ 20 (some 32) (tf_ 21 33) HT_ ?_
    refine pn_ 21 (some 33) (tf_ 22 33) HT_ ?_
    refine pn_ 22 (some 34) (tf_ 23 33) HT_ ?_
    refine pn_ 23 (some 35) (tf_ 24 33) HT_ ?_
    refine pn_ 24 (some 36) (tf_ 25 33) HT_ ?_
    refine pn_ 25 (some 37) (tf_ 26 33) HT_ ?_
    refine pn_ 26 (some 38) (tf_ 27 33) HT_ ?_
    refine pn_ 27 (some 39) (tf_ 28 33) HT_ ?_
    refine pn_ 28 (some 40) (tf_ 29 33) HT_ ?_
    refine pn_ 29 (some 41) (tf_ 30 33) HT_ ?_
    refine pn_ 30 (some 42) (tf_ 31 33) HT_ ?_
    refine pn_ 31 (some 43) (tf_ 32 33) HT_ ?_
    refine pu_ 32 (some 44) (tf_ 33 33) HT_ ?_
    refine done_ (done_of HT_.out (by kernel_rfl)) ?_
    try go_wp2
    go_ret
    exact ⟨er_, pb1_ HB.out GE128.out⟩
  subst c22
  rw [if_pos rfl] at H
  replace H := Option.bind_eq_some_iff.mp H
  obtain ⟨t132, A250, H⟩ := H
  (try dsimp only at H)
  have A25 := Aside0.mk A250
  clear A250
  by_cases c26 : t132 = true
  · subst c26
    rw [if_pos rfl] at H
    obtain rfl := Option.some.inj H
    obtain ⟨hcz27_0, hcz27_1, hcz27_2, hcz27_3, hfz27_0, hfz27_1, hfz27_2, hfz27_3⟩ := bc4_ BK128.out
    try go_wp2
    have n0_ := Aside0.mk (blk_drew BK128.out)
    have n1_ := Aside0.mk (below_drew1 HB.out)
    clear BK128
    clear HB
    have BK128 := n0_
    have HB := n1_
    clear n0_ n1_
    have p129 : 0 ≤ (x3_1 : Int) := dt_
    have q129 : x3_1 < (l0_1.length : Int) := dt_
    obtain ⟨ad129, e129, hx129_0⟩ := Kd.at_int HR0_1.out x3_1 p129 q129
    have hw129_0 := hx129_0
    cases e129
    replace hx129_0 := (HB.out.cell (World.block_lt_of_cell? w _ hx129_0)).trans hx129_0
    replace p129 := eq_true p129
    replace q129 := eq_true q129
    have p131 : 0 ≤ (x3_1 : Int) := dt_
    have q131 : x3_1 < (l0_1.length : Int) := dt_
    obtain ⟨ad131, e131, hx131_0⟩ := Kd.at_int HR0_1.out x3_1 p131 q131
    have hw131_0 := hx131_0
    obtain rfl : ad129 = ad131 := (by injection e131)
    replace hx131_0 := (HB.out.cell (World.block_lt_of_cell? w _ hx131_0)).trans hx131_0
    replace p131 := eq_true p131
    replace q131 := eq_true q131
    refine start_ (n := 33) (S := fun w' => w'.cell? ⟨gb128, 0, none⟩ = some (.slice A0_0 l0_0.length c0_0) ∧ w'.cell? ⟨gb128, 1, none⟩ = some (.slice (some ad129) l0_1.length c0_1) ∧ w'.cell? ⟨gb128, 2, none⟩ = some (.slice A0_2 l0_2.length c0_2) ∧ w'.cell? ⟨gb128, 3, none⟩ = some (.int .i64 a0_3) ∧ w'.cell? (ad129.add (x3_1).toNat) = some (.int .i64 (rd l0_1 x3_1)) ∧ w'.cell? (ad129.add (x3_1).toNat) = some (.int .i64 (rd l0_1 x3_1))) (ds := []) #[false, false, false, false, false, false, false, false, false, false, false, false, false, false, false, false, false, false, false, false, false, false, false, false, false, false, false, false, false, false, false, false, false] (by kernel_rfl) rfl rfl ⟨(blk_cell BK128.out 0).trans rfl, (blk_cell BK128.out 1).trans rfl, (blk_cell BK128.out 2).trans rfl, (blk_cell BK128.out 3).trans rfl, ((HB.out.cell (World.block_lt_of_cell? w _ hw129_0)).trans hw129_0), ((HB.out.cell (World.block_lt_of_cell? w _ hw131_0)).trans hw131_0)⟩ (fun hHeld => ?_); refine with_tabW spec_IsEndpoint.tab4 spec_IsEndpoint.bits4 (fun HT_ HW_ => ?_)
    generalize wr.drew = w28 at BK128 HB hx129_0 hx131_0 hHeld ⊢
    refine pu_ 0 (some 12) (tf_ 1 33) HT_ ?_
    refine pu_ 2 (some 14) #[true, false, true, false, false, false, false, false, false, false, false, false, false, false, false, false, false, false, false, false, false, false, false, false, false, false, false, false, false, false, false, false, false] HT_ ?_
    refine ta_ 1 (some 13) (tf_ 3 33) HT_ HW_ hHeld ?_
    refine pu_ 3 (some 15) (tf_ 4 33) HT_ ?_
    refine ta_ 4 (some 16) (tf_ 5 33) HT_ HW_ hHeld ?_
    refine on_ 5 (some 17) (tf_ 6 33) HT_ (fun K hK => ?_)
    refine goes_ Try.func49 (by kernel_rfl) rfl #[.int .i64 (rd l0_1 x3_1), .int .i64 0, .int .i64 255] (by rfl) rfl rfl mp_ ?_
    with_reducible refine (spec_l1In.calls (rd l0_1 x3_1) 0 255 true _ A21.out).mono ?_
    rintro e w' ⟨rfl, ⟨nd, rfl⟩⟩
    refine ⟨_, rfl, ?_⟩
    refine hK.out _ _ ⟨(blk_cell BK128.out 0).trans rfl, (blk_cell BK128.out 1).trans rfl, (blk_cell BK128.out 2).trans rfl, (blk_cell BK128.out 3).trans rfl, ((HB.out.cell (World.block_lt_of_cell? w _ hw129_0)).trans hw129_0), ((HB.out.cell (World.block_lt_of_cell? w _ hw131_0)).trans hw131_0)⟩ (fun hHeld => ?_)
    clear hK K
    refine no_ (some 17) ?_
    refine pu_ 6 (some 18) (tf_ 7 33) HT_ ?_
    refine pu_ 7 (some 19) (tf_ 8 33) HT_ ?_
    refine pu_ 8 (some 20) (tf_ 9 33) HT_ ?_
    refine pu_ 10 (some 22) #[true, true, true, true, true, true, true, true, true, false, true, false, false, false, false, false, false, false, false, false, false, false, false, false, false, false, false, false, false, false, false, false, false] HT_ ?_
    refine ta_ 9 (some 21) (tf_ 11 33) HT_ HW_ hHeld ?_
    refine pu_ 11 (some 23) (tf_ 12 33) HT_ ?_
    refine ta_ 12 (some 24) (tf_ 13 33) HT_ HW_ hHeld ?_
    refine on_ 13 (some 25) (tf_ 14 33) HT_ (fun K hK => ?_)
    refine goes_ Try.func50 (by kernel_rfl) rfl #[.int .i64 (rd l0_1 x3_1)] (by rfl) rfl rfl mp_ ?_
    with_reducible refine (spec_IsReserved.calls (rd l0_1 x3_1) true _ A25.out).mono ?_
    rintro e w' ⟨rfl, ⟨nd, rfl⟩⟩
    refine ⟨_, rfl, ?_⟩
    refine hK.out _ _ ⟨(blk_cell BK128.out 0).trans rfl, (blk_cell BK128.out 1).trans rfl, (blk_cell BK128.out 2).trans rfl, (blk_cell BK128.out 3).trans rfl, ((HB.out.cell (World.block_lt_of_cell? w _ hw129_0)).trans hw129_0), ((HB.out.cell (World.block_lt_of_cell? w _ hw131_0)).trans hw131_0)⟩ (fun hHeld => ?_)
    clear hK K
    refine no_ (some 25) ?_
    refine pu_ 14 (some 26) (tf_ 15 33) HT_ ?_
    refine pu_ 15 (some 27) (tf_ 16 33) HT_ ?_
    refine pn_ 16 (some 28) (tf_ 17 33) HT_ ?_
    refine pn_ 17 (some 29) (tf_ 18 33) HT_ ?_
    refine pn_ 18 (some 30) (tf_ 19 33) HT_ ?_
    refine pn_ 19 (some 31) (tf_ 20 33) HT_ ?_
    refine pn_ 20 (some 32) (tf_ 21 33) HT_ ?_
    refine pn_ 21 (some 33) (tf_ 22 33) HT_ ?_
    refine pn_ 22 (some 34) (tf_ 23 33) HT_ ?_
    refine pn_ 23 (some 35) (tf_ 24 33) HT_ ?_
    refine pn_ 24 (some 36) (tf_ 25 33) HT_ ?_
    refine pn_ 25 (some 37) (tf_ 26 33) HT_ ?_
    refine pn_ 26 (some 38) (tf_ 27 33) HT_ ?_
    refine pn_ 27 (some 39) (tf_ 28 33) HT_ ?_
    refine pn_ 28 (some 40) (tf_ 29 33) HT_ ?_
    refine pn_ 29 (some 41) (tf_ 30 33) HT_ ?_
    refine pn_ 30 (some 42) (tf_ 31 33) HT_ ?_
    refine pn_ 31 (some 43) (tf_ 32 33) HT_ ?_
    refine pu_ 32 (some 44) (tf_ 33 33) HT_ ?_
    refine done_ (done_of HT_.out (by kernel_rfl)) ?_
    try go_wp2
    go_ret
    exact ⟨er_, pb1_ HB.out GE128.out⟩
  replace c26 := Bool.eq_false_iff.mpr c26
  subst c26
  rw [if_neg (show ¬ (false = true) by decide)] at H
  by_cases c29 : x3_1 > 0
  rotate_left
  · rw [if_neg c29] at H
    have c29b0 : decide (0 < x3_1) = false := decide_eq_false c29
    clear c29
    have H' := Aside0.mk H
    clear H
    obtain ⟨hcz30_0, hcz30_1, hcz30_2, hcz30_3, hfz30_0, hfz30_1, hfz30_2, hfz30_3⟩ := bc4_ BK128.out
    try go_wp2
    have n0_ := Aside0.mk (blk_drew BK128.out)
    have n1_ := Aside0.mk (below_drew1 HB.out)
    clear BK128
    clear HB
    have BK128 := n0_
    have HB := n1_
    clear n0_ n1_
    have p129 : 0 ≤ (x3_1 : Int) := dt_
    have q129 : x3_1 < (l0_1.length : Int) := dt_
    obtain ⟨ad129, e129, hx129_0⟩ := Kd.at_int HR0_1.out x3_1 p129 q129
    have hw129_0 := hx129_0
    cases e129
    replace hx129_0 := (HB.out.cell (World.block_lt_of_cell? w _ hx129_0)).trans hx129_0
    replace p129 := eq_true p129
    replace q129 := eq_true q129
    have p131 : 0 ≤ (x3_1 : Int) := dt_
    have q131 : x3_1 < (l0_1.length : Int) := dt_
    obtain ⟨ad131, e131, hx131_0⟩ := Kd.at_int HR0_1.out x3_1 p131 q131
    have hw131_0 := hx131_0
    obtain rfl : ad129 = ad131 := (by injection e131)
    replace hx131_0 := (HB.out.cell (World.block_lt_of_cell? w _ hx131_0)).trans hx131_0
    replace p131 := eq_true p131
    replace q131 := eq_true q131
    refine start_ (n := 33) (S := fun w' => w'.cell? ⟨gb128, 0, none⟩ = some (.slice A0_0 l0_0.length c0_0) ∧ w'.cell? ⟨gb128, 1, none⟩ = some (.slice (some ad129) l0_1.length c0_1) ∧ w'.cell? ⟨gb128, 2, none⟩ = some (.slice A0_2 l0_2.length c0_2) ∧ w'.cell? ⟨gb128, 3, none⟩ = some (.int .i64 a0_3) ∧ w'.cell? (ad129.add (x3_1).toNat) = some (.int .i64 (rd l0_1 x3_1)) ∧ w'.cell? (ad129.add (x3_1).toNat) = some (.int .i64 (rd l0_1 x3_1))) (ds := []) #[false, false, false, false, false, false, false, false, false, false, false, false, false, false, false, false, false, false, false, false, false, false, false, false, false, false, false, false, false, false, false, false, false] (by kernel_rfl) rfl rfl ⟨(blk_cell BK128.out 0).trans rfl, (blk_cell BK128.out 1).trans rfl, (blk_cell BK128.out 2).trans rfl, (blk_cell BK128.out 3).trans rfl, ((HB.out.cell (World.block_lt_of_cell? w _ hw129_0)).trans hw129_0), ((HB.out.cell (World.block_lt_of_cell? w _ hw131_0)).trans hw131_0)⟩ (fun hHeld => ?_); refine with_tabW spec_IsEndpoint.tab4 spec_IsEndpoint.bits4 (fun HT_ HW_ => ?_)
    generalize wr.drew = w31 at BK128 HB hx129_0 hx131_0 hHeld ⊢
    refine pu_ 0 (some 12) (tf_ 1 33) HT_ ?_
    refine pu_ 2 (some 14) #[true, false, true, false, false, false, false, false, false, false, false, false, false, false, false, false, false, false, false, false, false, false, false, false, false, false, false, false, false, false, false, false, false] HT_ ?_
    refine ta_ 1 (some 13) (tf_ 3 33) HT_ HW_ hHeld ?_
    refine pu_ 3 (some 15) (tf_ 4 33) HT_ ?_
    refine ta_ 4 (some 16) (tf_ 5 33) HT_ HW_ hHeld ?_
    refine on_ 5 (some 17) (tf_ 6 33) HT_ (fun K hK => ?_)
    refine goes_ Try.func49 (by kernel_rfl) rfl #[.int .i64 (rd l0_1 x3_1), .int .i64 0, .int .i64 255] (by rfl) rfl rfl mp_ ?_
    with_reducible refine (spec_l1In.calls (rd l0_1 x3_1) 0 255 true _ A21.out).mono ?_
    rintro e w' ⟨rfl, ⟨nd, rfl⟩⟩
    refine ⟨_, rfl, ?_⟩
    refine hK.out _ _ ⟨(blk_cell BK128.out 0).trans rfl, (blk_cell BK128.out 1).trans rfl, (blk_cell BK128.out 2).trans rfl, (blk_cell BK128.out 3).trans rfl, ((HB.out.cell (World.block_lt_of_cell? w _ hw129_0)).trans hw129_0), ((HB.out.cell (World.block_lt_of_cell? w _ hw131_0)).trans hw131_0)⟩ (fun hHeld => ?_)
    clear hK K
    refine no_ (some 17) ?_
    refine pu_ 6 (some 18) (tf_ 7 33) HT_ ?_
    refine pu_ 7 (some 19) (tf_ 8 33) HT_ ?_
    refine pu_ 8 (some 20) (tf_ 9 33) HT_ ?_
    refine pu_ 10 (some 22) #[true, true, true, true, true, true, true, true, true, false, true, false, false, false, false, false, false, false, false, false, false, false, false, false, false, false, false, false, false, false, false, false, false] HT_ ?_
    refine ta_ 9 (some 21) (tf_ 11 33) HT_ HW_ hHeld ?_
    refine pu_ 11 (some 23) (tf_ 12 33) HT_ ?_
    refine ta_ 12 (some 24) (tf_ 13 33) HT_ HW_ hHeld ?_
    refine on_ 13 (some 25) (tf_ 14 33) HT_ (fun K hK => ?_)
    refine goes_ Try.func50 (by kernel_rfl) rfl #[.int .i64 (rd l0_1 x3_1)] (by rfl) rfl rfl mp_ ?_
    with_reducible refine (spec_IsReserved.calls (rd l0_1 x3_1) false _ A25.out).mono ?_
    rintro e w' ⟨rfl, ⟨nd, rfl⟩⟩
    refine ⟨_, rfl, ?_⟩
    refine hK.out _ _ ⟨(blk_cell BK128.out 0).trans rfl, (blk_cell BK128.out 1).trans rfl, (blk_cell BK128.out 2).trans rfl, (blk_cell BK128.out 3).trans rfl, ((HB.out.cell (World.block_lt_of_cell? w _ hw129_0)).trans hw129_0), ((HB.out.cell (World.block_lt_of_cell? w _ hw131_0)).trans hw131_0)⟩ (fun hHeld => ?_)
    clear hK K
    refine no_ (some 25) ?_
    refine pu_ 14 (some 26) (tf_ 15 33) HT_ ?_
    refine pu_ 15 (some 27) (tf_ 16 33) HT_ ?_
    refine pu_ 16 (some 28) (tf_ 17 33) HT_ ?_
    refine pu_ 17 (some 29) (tf_ 18 33) HT_ ?_
    refine pu_ 18 (some 30) (tf_ 19 33) HT_ ?_
    refine pn_ 19 (some 31) (tf_ 20 33) HT_ ?_
    refine pn_ 20 (some 32) (tf_ 21 33) HT_ ?_
    refine pn_ 21 (some 33) (tf_ 22 33) HT_ ?_
    refine pn_ 22 (some 34) (tf_ 23 33) HT_ ?_
    refine pn_ 23 (some 35) (tf_ 24 33) HT_ ?_
    refine pn_ 24 (some 36) (tf_ 25 33) HT_ ?_
    refine pn_ 25 (some 37) (tf_ 26 33) HT_ ?_
    refine pn_ 26 (some 38) (tf_ 27 33) HT_ ?_
    refine pn_ 27 (some 39) (tf_ 28 33) HT_ ?_
    refine pn_ 28 (some 40) (tf_ 29 33) HT_ ?_
    refine pn_ 29 (some 41) (tf_ 30 33) HT_ ?_
    refine pn_ 30 (some 42) (tf_ 31 33) HT_ ?_
    refine pu_ 31 (some 43) (tf_ 32 33) HT_ ?_
    refine pu_ 32 (some 44) (tf_ 33 33) HT_ ?_
    refine done_ (done_of HT_.out (by kernel_rfl)) ?_
    try go_wp2
    go_roundg k1
    case measure => have := HK1.out; omega
    case rel => exact ⟨(wrap64 (x3_1 + 1)), el_, H', ⟨by have := HK1.out; omega⟩, ⟨pk_ BK128.out⟩, ⟨pb1_ HB.out GE128.out⟩⟩
  rw [if_pos c29] at H
  have c29b0 : decide (0 < x3_1) = true := decide_eq_true c29
  clear c29
  obtain ⟨ji32, hji32⟩ : ∃ j_ : Int, (wrap64 (x3_1 - 1)) = j_ := ⟨_, rfl⟩
  replace H : (if 0 ≤ (ji32) then (if (ji32) < (l0_1.length : Int) then (if (rd l0_1 (ji32)) ≥ (rd l0_1 x3_1) then (some false) else (spec_IsEndpoint.l0 k1 (wrap64 (x3_1 + 1)) l0_0 l0_1 l0_2 a0_3)) else (none)) else (none)) = some r := by first | (rw [hji32] at H; exact H) | (simp only [hji32] at H ⊢; exact H)
  (try rw [hji32] at A21)
  (try rw [hji32] at A25)
  have hji32w : (IntKind.i64.wrap (x3_1 - 1)) = ji32 := (i64_w _).trans hji32
  by_cases c33 : 0 ≤ (ji32)
  rotate_left
  · rw [if_neg c33] at H
    exact absurd H (by simp)
  rw [if_pos c33] at H
  have c33b0 : decide (0 ≤ (ji32)) = true := decide_eq_true c33
  clear c33
  by_cases c34 : (ji32) < (l0_1.length : Int)
  rotate_left
  · rw [if_neg c34] at H
    exact absurd H (by simp)
  rw [if_pos c34] at H
  have c34b0 : decide ((ji32) < (l0_1.length : Int)) = true := decide_eq_true c34
  clear c34
  have HS_ := Aside0.mk H
  clear H
  obtain ⟨hcz35_0, hcz35_1, hcz35_2, hcz35_3, hfz35_0, hfz35_1, hfz35_2, hfz35_3⟩ := bc4_ BK128.out
  try go_wp2
  have n0_ := Aside0.mk (blk_drew BK128.out)
  have n1_ := Aside0.mk (below_drew1 HB.out)
  clear BK128
  clear HB
  have BK128 := n0_
  have HB := n1_
  clear n0_ n1_
  have p129 : 0 ≤ (x3_1 : Int) := dt_
  have q129 : x3_1 < (l0_1.length : Int) := dt_
  obtain ⟨ad129, e129, hx129_0⟩ := Kd.at_int HR0_1.out x3_1 p129 q129
  have hw129_0 := hx129_0
  cases e129
  replace hx129_0 := (HB.out.cell (World.block_lt_of_cell? w _ hx129_0)).trans hx129_0
  replace p129 := eq_true p129
  replace q129 := eq_true q129
  have p131 : 0 ≤ (x3_1 : Int) := dt_
  have q131 : x3_1 < (l0_1.length : Int) := dt_
  obtain ⟨ad131, e131, hx131_0⟩ := Kd.at_int HR0_1.out x3_1 p131 q131
  have hw131_0 := hx131_0
  obtain rfl : ad129 = ad131 := (by injection e131)
  replace hx131_0 := (HB.out.cell (World.block_lt_of_cell? w _ hx131_0)).trans hx131_0
  replace p131 := eq_true p131
  replace q131 := eq_true q131
  have p133 : 0 ≤ ((ji32) : Int) := dt_
  have q133 : (ji32) < (l0_1.length : Int) := dt_
  obtain ⟨ad133, e133, hx133_0⟩ := Kd.at_int HR0_1.out (ji32) p133 q133
  have hw133_0 := hx133_0
  obtain rfl : ad129 = ad133 := (by injection e133)
  replace hx133_0 := (HB.out.cell (World.block_lt_of_cell? w _ hx133_0)).trans hx133_0
  replace p133 := eq_true p133
  replace q133 := eq_true q133
  have p134 : 0 ≤ (x3_1 : Int) := dt_
  have q134 : x3_1 < (l0_1.length : Int) := dt_
  obtain ⟨ad134, e134, hx134_0⟩ := Kd.at_int HR0_1.out x3_1 p134 q134
  have hw134_0 := hx134_0
  obtain rfl : ad129 = ad134 := (by injection e134)
  replace hx134_0 := (HB.out.cell (World.block_lt_of_cell? w _ hx134_0)).trans hx134_0
  replace p134 := eq_true p134
  replace q134 := eq_true q134
  refine start_ (n := 33) (S := fun w' => w'.cell? ⟨gb128, 0, none⟩ = some (.slice A0_0 l0_0.length c0_0) ∧ w'.cell? ⟨gb128, 1, none⟩ = some (.slice (some ad129) l0_1.length c0_1) ∧ w'.cell? ⟨gb128, 2, none⟩ = some (.slice A0_2 l0_2.length c0_2) ∧ w'.cell? ⟨gb128, 3, none⟩ = some (.int .i64 a0_3) ∧ w'.cell? (ad129.add (x3_1).toNat) = some (.int .i64 (rd l0_1 x3_1)) ∧ w'.cell? (ad129.add (x3_1).toNat) = some (.int .i64 (rd l0_1 x3_1)) ∧ w'.cell? (ad129.add ((ji32)).toNat) = some (.int .i64 (rd l0_1 (ji32))) ∧ w'.cell? (ad129.add (x3_1).toNat) = some (.int .i64 (rd l0_1 x3_1))) (ds := []) #[false, false, false, false, false, false, false, false, false, false, false, false, false, false, false, false, false, false, false, false, false, false, false, false, false, false, false, false, false, false, false, false, false] (by kernel_rfl) rfl rfl ⟨(blk_cell BK128.out 0).trans rfl, (blk_cell BK128.out 1).trans rfl, (blk_cell BK128.out 2).trans rfl, (blk_cell BK128.out 3).trans rfl, ((HB.out.cell (World.block_lt_of_cell? w _ hw129_0)).trans hw129_0), ((HB.out.cell (World.block_lt_of_cell? w _ hw131_0)).trans hw131_0), ((HB.out.cell (World.block_lt_of_cell? w _ hw133_0)).trans hw133_0), ((HB.out.cell (World.block_lt_of_cell? w _ hw134_0)).trans hw134_0)⟩ (fun hHeld => ?_); refine with_tabW spec_IsEndpoint.tab4 spec_IsEndpoint.bits4 (fun HT_ HW_ => ?_)
  generalize wr.drew = w36 at BK128 HB hx129_0 hx131_0 hx133_0 hx134_0 hHeld ⊢
  refine pu_ 0 (some 12) (tf_ 1 33) HT_ ?_
  refine pu_ 2 (some 14) #[true, false, true, false, false, false, false, false, false, false, false, false, false, false, false, false, false, false, false, false, false, false, false, false, false, false, false, false, false, false, false, false, false] HT_ ?_
  refine ta_ 1 (some 13) (tf_ 3 33) HT_ HW_ hHeld ?_
  refine pu_ 3 (some 15) (tf_ 4 33) HT_ ?_
  refine ta_ 4 (some 16) (tf_ 5 33) HT_ HW_ hHeld ?_
  refine on_ 5 (some 17) (tf_ 6 33) HT_ (fun K hK => ?_)
  refine goes_ Try.func49 (by kernel_rfl) rfl #[.int .i64 (rd l0_1 x3_1), .int .i64 0, .int .i64 255] (by rfl) rfl rfl mp_ ?_
  with_reducible refine (spec_l1In.calls (rd l0_1 x3_1) 0 255 true _ A21.out).mono ?_
  rintro e w' ⟨rfl, ⟨nd, rfl⟩⟩
  refine ⟨_, rfl, ?_⟩
  refine hK.out _ _ ⟨(blk_cell BK128.out 0).trans rfl, (blk_cell BK128.out 1).trans rfl, (blk_cell BK128.out 2).trans rfl, (blk_cell BK128.out 3).trans rfl, ((HB.out.cell (World.block_lt_of_cell? w _ hw129_0)).trans hw129_0), ((HB.out.cell (World.block_lt_of_cell? w _ hw131_0)).trans hw131_0), ((HB.out.cell (World.block_lt_of_cell? w _ hw133_0)).trans hw133_0), ((HB.out.cell (World.block_lt_of_cell? w _ hw134_0)).trans hw134_0)⟩ (fun hHeld => ?_)
  clear hK K
  refine no_ (some 17) ?_
  refine pu_ 6 (some 18) (tf_ 7 33) HT_ ?_
  refine pu_ 7 (some 19) (tf_ 8 33) HT_ ?_
  refine pu_ 8 (some 20) (tf_ 9 33) HT_ ?_
  refine pu_ 10 (some 22) #[true, true, true, true, true, true, true, true, true, false, true, false, false, false, false, false, false, false, false, false, false, false, false, false, false, false, false, false, false, false, false, false, false] HT_ ?_
  refine ta_ 9 (some 21) (tf_ 11 33) HT_ HW_ hHeld ?_
  refine pu_ 11 (some 23) (tf_ 12 33) HT_ ?_
  refine ta_ 12 (some 24) (tf_ 13 33) HT_ HW_ hHeld ?_
  refine on_ 13 (some 25) (tf_ 14 33) HT_ (fun K hK => ?_)
  refine goes_ Try.func50 (by kernel_rfl) rfl #[.int .i64 (rd l0_1 x3_1)] (by rfl) rfl rfl mp_ ?_
  with_reducible refine (spec_IsReserved.calls (rd l0_1 x3_1) false _ A25.out).mono ?_
  rintro e w' ⟨rfl, ⟨nd, rfl⟩⟩
  refine ⟨_, rfl, ?_⟩
  refine hK.out _ _ ⟨(blk_cell BK128.out 0).trans rfl, (blk_cell BK128.out 1).trans rfl, (blk_cell BK128.out 2).trans rfl, (blk_cell BK128.out 3).trans rfl, ((HB.out.cell (World.block_lt_of_cell? w _ hw129_0)).trans hw129_0), ((HB.out.cell (World.block_lt_of_cell? w _ hw131_0)).trans hw131_0), ((HB.out.cell (World.block_lt_of_cell? w _ hw133_0)).trans hw133_0), ((HB.out.cell (World.block_lt_of_cell? w _ hw134_0)).trans hw134_0)⟩ (fun hHeld => ?_)
  clear hK K
  refine no_ (some 25) ?_
  refine pu_ 14 (some 26) (tf_ 15 33) HT_ ?_
  refine pu_ 15 (some 27) (tf_ 16 33) HT_ ?_
  refine pu_ 16 (some 28) (tf_ 17 33) HT_ ?_
  refine pu_ 17 (some 29) (tf_ 18 33) HT_ ?_
  refine pu_ 18 (some 30) (tf_ 19 33) HT_ ?_
  refine pu_ 19 (some 31) (tf_ 20 33) HT_ ?_
  refine pu_ 21 (some 33) #[true, true, true, true, true, true, true, true, true, true, true, true, true, true, true, true, true, true, true, true, false, true, false, false, false, false, false, false, false, false, false, false, false] HT_ ?_
  refine pu_ 22 (some 34) #[true, true, true, true, true, true, true, true, true, true, true, true, true, true, true, true, true, true, true, true, false, true, true, false, false, false, false, false, false, false, false, false, false] HT_ ?_
  refine pu_ 25 (some 37) #[true, true, true, true, true, true, true, true, true, true, true, true, true, true, true, true, true, true, true, true, false, true, true, false, false, true, false, false, false, false, false, false, false] HT_ ?_
  refine pu_ 27 (some 39) #[true, true, true, true, true, true, true, true, true, true, true, true, true, true, true, true, true, true, true, true, false, true, true, false, false, true, false, true, false, false, false, false, false] HT_ ?_
  refine ta_ 20 (some 32) #[true, true, true, true, true, true, true, true, true, true, true, true, true, true, true, true, true, true, true, true, true, true, true, false, false, true, false, true, false, false, false, false, false] HT_ HW_ hHeld ?_
  refine pu_ 23 (some 35) #[true, true, true, true, true, true, true, true, true, true, true, true, true, true, true, true, true, true, true, true, true, true, true, true, false, true, false, true, false, false, false, false, false] HT_ ?_
  refine ta_ 24 (some 36) #[true, true, true, true, true, true, true, true, true, true, true, true, true, true, true, true, true, true, true, true, true, true, true, true, true, true, false, true, false, false, false, false, false] HT_ HW_ hHeld ?_
  refine ta_ 26 (some 38) (tf_ 28 33) HT_ HW_ hHeld ?_
  refine pu_ 28 (some 40) (tf_ 29 33) HT_ ?_
  refine ta_ 29 (some 41) (tf_ 30 33) HT_ HW_ hHeld ?_
  refine pu_ 30 (some 42) (tf_ 31 33) HT_ ?_
  refine pu_ 31 (some 43) (tf_ 32 33) HT_ ?_
  refine pu_ 32 (some 44) (tf_ 33 33) HT_ ?_
  refine done_ (done_of HT_.out (by kernel_rfl)) ?_
  go_upto_if 44 with (fail)
  have H := HS_.out
  clear HS_
  by_cases c37 : (rd l0_1 (ji32)) ≥ (rd l0_1 x3_1)
  rotate_left
  · rw [if_neg c37] at H
    have c37b0 : decide ((rd l0_1 x3_1) ≤ (rd l0_1 (ji32))) = false := decide_eq_false c37
    clear c37
    (first | rw [c37b0] | (simp only [i64_w, i32_w]; rw [c37b0]) | skip)
    have H' := Aside0.mk H
    clear H
    go_wp2
    go_roundg k1
    case measure => have := HK1.out; omega
    case rel => exact ⟨(wrap64 (x3_1 + 1)), el_, H', ⟨by have := HK1.out; omega⟩, ⟨pk_ BK128.out⟩, ⟨pb1_ HB.out GE128.out⟩⟩
  rw [if_pos c37] at H
  have c37b0 : decide ((rd l0_1 x3_1) ≤ (rd l0_1 (ji32))) = true := decide_eq_true c37
  clear c37
  (first | rw [c37b0] | (simp only [i64_w, i32_w]; rw [c37b0]) | skip)
  obtain rfl := Option.some.inj H
  go_wp2
  go_ret
  exact ⟨by first | rfl | (simp [errW_none, errW_some] <;> rfl) | (simp only [← hji32]; first | rfl | (simp [errW_none, errW_some] <;> rfl)) | (simp [*, errW_none, errW_some] <;> rfl), pb1_ HB.out GE128.out⟩

/-! ### spec_l9Has: function 54 -/
def spec_l9Has.l0 : Nat → List Int → Int → Int → Option (Bool)
  | 0, _, _, _ => none
  | k + 1, x0, x1, x5 => if x5 < (x0.length : Int) then (if 0 ≤ x5 then (if (rd x0 x5) = x1 then (some true) else (spec_l9Has.l0 k x0 x1 (wrap64 (x5 + 1)))) else (none)) else (some false)
def spec_l9Has.f (k : Nat) (l0 : List Int) (a1 : Int) : Option (Bool) := spec_l9Has.l0 k l0 a1 0
theorem spec_l9Has.mono_l : ∀ k, (∀ y0 y1 y2, LeO (spec_l9Has.l0 k y0 y1 y2) (spec_l9Has.l0 (k + 1) y0 y1 y2))
  | 0 => fun _ _ _ r h => by simp [spec_l9Has.l0] at h
  | k + 1 => by
    have ih0 := spec_l9Has.mono_l k
    · intro y0 y1 y2
      unfold spec_l9Has.l0
      repeat' first
      | (with_reducible exact ih0 _ _ _)
      | (with_reducible exact LeO.refl _)
      | (with_reducible exact LeO.none _)
      | (with_reducible refine LeO.ite ?_ ?_)
      | (with_reducible refine LeO.bind ?_ (fun _ => ?_))
      | exact ih0 _ _ _
      | exact LeO.none _
      | refine LeO.ite ?_ ?_
      | refine LeO.bind ?_ (fun _ => ?_)
theorem spec_l9Has.mono : ∀ a0 a1 k, LeO (spec_l9Has.f k a0 a1) (spec_l9Has.f (k + 1) a0 a1) := by
  intro a0 a1 k
  have ih0 := spec_l9Has.mono_l k
  unfold spec_l9Has.f
  repeat' first
      | (with_reducible exact ih0 _ _ _)
      | (with_reducible exact LeO.refl _)
      | (with_reducible exact LeO.none _)
      | (with_reducible refine LeO.ite ?_ ?_)
      | (with_reducible refine LeO.bind ?_ (fun _ => ?_))
      | exact ih0 _ _ _
      | exact LeO.none _
      | refine LeO.ite ?_ ?_
      | refine LeO.bind ?_ (fun _ => ?_)
set_option maxHeartbeats 8000000 in
set_option maxRecDepth 100000 in
theorem spec_l9Has.calls (k : Nat) (A0 : Option Addr) (c0 : Nat) (l0 : List Int) (a1 : Int) (r : Bool) (w : World) (hr0 : Kd.C (Kd.int .i64) w A0 l0.length l0) (hc0 : l0.length ≤ c0) (h : spec_l9Has.f k l0 a1 = some r) :
    Calls Try.prog 54 #[.slice A0 l0.length c0, .int .i64 a1] w fun e w' => e = .returned (.bool r) ∧ Drawn0 w w' := by
  have HR0 := Aside0.mk hr0
  have HC0 := Aside0.mk hc0
  clear hr0 hc0
  have H : (spec_l9Has.l0 k l0 a1 0) = some r := h
  clear h
  have H' := Aside0.mk H
  clear H
  go_enter Try.func54, Try.ntmps54
  go_wp2
  go_loopg [5] k (fun kq v5 w' => ∃ (x5_1 : Int), v5 = .int .i64 x5_1 ∧ Aside0 (spec_l9Has.l0 kq l0 a1 x5_1 = some r) ∧ Aside0 (kq ≤ k) ∧ Drawn0 w w')
  case atStart => exact ⟨(0), el_, H', ⟨Nat.le_refl _⟩, by repeat (first | exact Drawn0.refl _ | apply Drawn0.step)⟩
  clear H'
  try clear p2
  obtain ⟨x5_1, rfl, HA, HK1, ⟨m1, rfl⟩⟩ := hrel
  rcases gk with _ | k1
  · exact absurd HA.out (by simp [spec_l9Has.l0])
  have H := HA.out
  clear HA
  simp only [spec_l9Has.l0] at H
  by_cases c3 : x5_1 < (l0.length : Int)
  rotate_left
  · rw [if_neg c3] at H
    have c3b0 : decide (x5_1 < (l0.length : Int)) = false := decide_eq_false c3
    clear c3
    obtain rfl := Option.some.inj H
    go_wp2
    go_ret
    exact ⟨by first | rfl | (simp; done) | (simp [*]; done), by repeat (first | exact Drawn0.refl _ | apply Drawn0.step)⟩
  rw [if_pos c3] at H
  have c3b0 : decide (x5_1 < (l0.length : Int)) = true := decide_eq_true c3
  clear c3
  by_cases c4 : 0 ≤ x5_1
  rotate_left
  · rw [if_neg c4] at H
    exact absurd H (by simp)
  rw [if_pos c4] at H
  have c4b0 : decide (0 ≤ x5_1) = true := decide_eq_true c4
  clear c4
  by_cases c5 : (rd l0 x5_1) = a1
  rotate_left
  · rw [if_neg c5] at H
    have c5b0 : ((rd l0 x5_1) == a1) = false := beq_eq_false_iff_ne.mpr c5
    have c5b1 : ((rd l0 x5_1) != a1) = true := bne_iff_ne.mpr c5
    have H' := Aside0.mk H
    clear H
    have p139 : 0 ≤ (x5_1 : Int) := dt_
    have q139 : x5_1 < (l0.length : Int) := dt_
    obtain ⟨ad139, e139, hx139_0⟩ := Kd.at_int HR0.out x5_1 p139 q139
    cases e139
    replace p139 := eq_true p139
    replace q139 := eq_true q139
    go_wp2
    go_roundg k1
    case measure => have := HK1.out; omega
    case rel => exact ⟨(wrap64 (x5_1 + 1)), el_, H', ⟨by have := HK1.out; omega⟩, by repeat (first | exact Drawn0.refl _ | apply Drawn0.step)⟩
  rw [if_pos c5] at H
  have c5b0 : ((rd l0 x5_1) == a1) = true := beq_iff_eq.mpr c5
  have c5b1 : ((rd l0 x5_1) != a1) = false := bne_eq_false_iff_eq.mpr c5
  clear c5
  obtain rfl := Option.some.inj H
  have p139 : 0 ≤ (x5_1 : Int) := dt_
  have q139 : x5_1 < (l0.length : Int) := dt_
  obtain ⟨ad139, e139, hx139_0⟩ := Kd.at_int HR0.out x5_1 p139 q139
  cases e139
  replace p139 := eq_true p139
  replace q139 := eq_true q139
  go_wp2
  go_ret
  exact ⟨by first | rfl | (simp; done) | (simp [*]; done), by repeat (first | exact Drawn0.refl _ | apply Drawn0.step)⟩

end Go.Proofs.Ytpoandlbmaljhaa.Print
