-- Written by a program of this session (printx.py) out of the translation; Lean checks it.
import Derived.Test.YtdoefkloanpliaaPrint0
import Derived.Test.YtdoefkloanpliaaPrint3
import Derived.Test.YtdoefkloanpliaaPrint6
import Derived.Test.YtdoefkloanpliaaPrint8
namespace Go.Proofs.Ytdoefkloanpliaa.Print
open Go.RowKit Go.Proofs.YtdoefkloanpliaaW.PrintWords Go.Proofs.YtdoefkloanpliaaW.PrintLast Go.Proofs.YtdoefkloanpliaaW.PrintMore Go.Proofs.Ytdoefkloanpliaa.Short
attribute [local go_sem] max2_int min2_int max_two min_two max_three min_three max_four min_four   -- for this text's walks alone
set_option linter.unusedVariables false
set_option linter.unusedSimpArgs false

/-! ### spec_RefusesGrease: function 51 -/
mutual
def spec_RefusesGrease.l0 : Nat → Int → Int → List Int → List Int → Bool → Option (Bool)
  | 0, _, _, _, _, _ => none
  | k + 1, x3, x304000, x304001, x304002, x304003 => if x3 < 256 then ((spec_IsBox.f k x304000 x304001 x304002 x304003).bind fun t304 => (spec_RefusesGrease.j1 k x3 t304 x304000 x304001 x304002 x304003)) else (spec_RefusesGrease.j1 k x3 false x304000 x304001 x304002 x304003)
def spec_RefusesGrease.j1 : Nat → Int → Bool → Int → List Int → List Int → Bool → Option (Bool)
  | 0, _, _, _, _, _, _ => none
  | k + 1, x3, x12, x304000, x304001, x304002, x304003 => if x12 = true then ((spec_PlainHello.f (([1] : List Int))).bind fun bt308 => ((spec_l29One.f x3).bind fun t315 => ((spec_PassBox.f k x304000 x304001 x304002 x304003 bt308.1 t315).bind fun bt318 => (if bt318.2.2 = true then (if (bt318.2.1.length : Int) = 0 then (some true) else (spec_RefusesGrease.l0 k (wrap64 (x3 + 16)) x304000 x304001 x304002 x304003)) else (some true))))) else (some false)
end
def spec_RefusesGrease.f (k : Nat) (a0_0 : Int) (l0_1 : List Int) (l0_2 : List Int) (a0_3 : Bool) : Option (Bool) := spec_RefusesGrease.l0 k 10 a0_0 l0_1 l0_2 a0_3
theorem spec_RefusesGrease.mono_l : ∀ k, (∀ y0 y1 y2 y3 y4, LeO (spec_RefusesGrease.l0 k y0 y1 y2 y3 y4) (spec_RefusesGrease.l0 (k + 1) y0 y1 y2 y3 y4)) ∧ (∀ y0 y1 y2 y3 y4 y5, LeO (spec_RefusesGrease.j1 k y0 y1 y2 y3 y4 y5) (spec_RefusesGrease.j1 (k + 1) y0 y1 y2 y3 y4 y5))
  | 0 => ⟨fun _ _ _ _ _ r h => by simp [spec_RefusesGrease.l0] at h, fun _ _ _ _ _ _ r h => by simp [spec_RefusesGrease.j1] at h⟩
  | k + 1 => by
    obtain ⟨ih0, ih1⟩ := spec_RefusesGrease.mono_l k
    refine ⟨?_, ?_⟩
    · intro y0 y1 y2 y3 y4
      unfold spec_RefusesGrease.l0
      repeat' first
      | (with_reducible exact ih0 _ _ _ _ _)
      | (with_reducible exact ih1 _ _ _ _ _ _)
      | (with_reducible exact spec_IsBox.mono _ _ _ _ _)
      | (with_reducible exact spec_PassBox.mono _ _ _ _ _ _ _)
      | (with_reducible exact LeO.refl _)
      | (with_reducible exact LeO.none _)
      | (with_reducible refine LeO.ite ?_ ?_)
      | (with_reducible refine LeO.bind ?_ (fun _ => ?_))
      | exact ih0 _ _ _ _ _
      | exact ih1 _ _ _ _ _ _
      | exact spec_IsBox.mono _ _ _ _ _
      | exact spec_PassBox.mono _ _ _ _ _ _ _
      | exact LeO.none _
      | refine LeO.ite ?_ ?_
      | refine LeO.bind ?_ (fun _ => ?_)
    · intro y0 y1 y2 y3 y4 y5
      unfold spec_RefusesGrease.j1
      repeat' first
      | (with_reducible exact ih0 _ _ _ _ _)
      | (with_reducible exact ih1 _ _ _ _ _ _)
      | (with_reducible exact spec_IsBox.mono _ _ _ _ _)
      | (with_reducible exact spec_PassBox.mono _ _ _ _ _ _ _)
      | (with_reducible exact LeO.refl _)
      | (with_reducible exact LeO.none _)
      | (with_reducible refine LeO.ite ?_ ?_)
      | (with_reducible refine LeO.bind ?_ (fun _ => ?_))
      | exact ih0 _ _ _ _ _
      | exact ih1 _ _ _ _ _ _
      | exact spec_IsBox.mono _ _ _ _ _
      | exact spec_PassBox.mono _ _ _ _ _ _ _
      | exact LeO.none _
      | refine LeO.ite ?_ ?_
      | refine LeO.bind ?_ (fun _ => ?_)
theorem spec_RefusesGrease.mono : ∀ a0 a1 a2 a3 k, LeO (spec_RefusesGrease.f k a0 a1 a2 a3) (spec_RefusesGrease.f (k + 1) a0 a1 a2 a3) := by
  intro a0 a1 a2 a3 k
  obtain ⟨ih0, ih1⟩ := spec_RefusesGrease.mono_l k
  unfold spec_RefusesGrease.f
  repeat' first
      | (with_reducible exact ih0 _ _ _ _ _)
      | (with_reducible exact ih1 _ _ _ _ _ _)
      | (with_reducible exact spec_IsBox.mono _ _ _ _ _)
      | (with_reducible exact spec_PassBox.mono _ _ _ _ _ _ _)
      | (with_reducible exact LeO.refl _)
      | (with_reducible exact LeO.none _)
      | (with_reducible refine LeO.ite ?_ ?_)
      | (with_reducible refine LeO.bind ?_ (fun _ => ?_))
      | exact ih0 _ _ _ _ _
      | exact ih1 _ _ _ _ _ _
      | exact spec_IsBox.mono _ _ _ _ _
      | exact spec_PassBox.mono _ _ _ _ _ _ _
      | exact LeO.none _
      | refine LeO.ite ?_ ?_
      | refine LeO.bind ?_ (fun _ => ?_)
set_option maxHeartbeats 8000000 in
set_option maxRecDepth 100000 in
theorem spec_RefusesGrease.calls (k : Nat) (a0_0 : Int) (A0_1 : Option Addr) (c0_1 : Nat) (l0_1 : List Int) (A0_2 : Option Addr) (c0_2 : Nat) (l0_2 : List Int) (a0_3 : Bool) (r : Bool) (w : World) (hr0_1 : Kd.C (Kd.int .i64) w A0_1 l0_1.length l0_1) (hc0_1 : l0_1.length ≤ c0_1) (hr0_2 : Kd.C (Kd.int .i64) w A0_2 l0_2.length l0_2) (hc0_2 : l0_2.length ≤ c0_2) (h : spec_RefusesGrease.f k a0_0 l0_1 l0_2 a0_3 = some r) :
    Calls Try.prog 51 #[.agg #[.int .i64 a0_0, .slice A0_1 l0_1.length c0_1, .slice A0_2 l0_2.length c0_2, .bool a0_3]] w fun e w' => e = .returned (.bool r) ∧ Below w.heap.size w w' := by
  have hu67 := Try.underlying67
  have hu106 := Try.underlying106
  have HR0_1 := Aside0.mk hr0_1
  have HC0_1 := Aside0.mk hc0_1
  clear hr0_1 hc0_1
  have HR0_2 := Aside0.mk hr0_2
  have HC0_2 := Aside0.mk hc0_2
  clear hr0_2 hc0_2
  have HB := Aside0.mk (Below.refl w.heap.size w)
  have H : (spec_RefusesGrease.l0 k 10 a0_0 l0_1 l0_2 a0_3) = some r := h
  clear h
  have H' := Aside0.mk H
  clear H
  go_enter Try.func51, Try.ntmps51
  go_wp2_with (first | ((with_reducible refine gate_dst (N := 1) rfl ?_); (try (refine gate_guard (by rfl) ?_; dsimp only)); refine box_event ?hg (N := 1) ?hd (cs := #[.int .i64 a0_0, .slice A0_1 l0_1.length c0_1, .slice A0_2 l0_2.length c0_2, .bool a0_3]) (t := 67) ?hr ?_; (case hd => rfl); (case hg => rfl); (case hr => first | (go_simp; done) | (go_simp; rfl)); intro gb303 hg w2 hbox hb; have n0_ := Aside0.mk (below_step (pb_ HB.out) hb); have n1_ := Aside0.mk (hbox); have n2_ := Aside0.mk ((by rw [hg]; exact (below_size (pb_ HB.out)) : w.heap.size ≤ gb303)); have n3_ := Aside0.mk ((by rw [hg]; exact (below_size (pb_ HB.out)) : w.heap.size ≤ gb303)); clear HB; have HB := n0_; have BK303 := n1_; have GW303 := n2_; have GE303 := n3_; clear n0_ n1_ n2_ n3_; clear hb hbox hg))
  (try simp only [Act.put, List.setIfInBounds_toArray, List.set_cons_zero, List.set_cons_succ])
  go_loopg [3] k (fun kq v3 w' => ∃ (x3_1 : Int), v3 = .int .i64 x3_1 ∧ Aside0 (spec_RefusesGrease.l0 kq x3_1 a0_0 l0_1 l0_2 a0_3 = some r) ∧ Aside0 (kq ≤ k) ∧ Aside0 (w'.heap[gb303]? = some (.cells #[.int .i64 a0_0, (.slice A0_1 l0_1.length c0_1), (.slice A0_2 l0_2.length c0_2), .bool a0_3] 67 (0, 0))) ∧ Aside0 (Below w.heap.size w w'))
  case atStart => exact ⟨(10), el_, H', ⟨Nat.le_refl _⟩, ⟨pk_ BK303.out⟩, ⟨pb1_ HB.out GE303.out⟩⟩
  clear H'
  try clear p2
  obtain ⟨x3_1, rfl, HA, HK1, BK303, HB⟩ := hrel
  rcases gk with _ | k1
  · exact absurd HA.out (by simp [spec_RefusesGrease.l0])
  have H := HA.out
  clear HA
  simp only [spec_RefusesGrease.l0] at H
  have HC3 := Aside0.mk H
  clear H
  go_upto_region 2 with (fail)
  go_cut [12] (fun v12 wc => ∃ (kq : Nat) (x12_2 : Bool), v12 = .bool x12_2 ∧ Aside0 (spec_RefusesGrease.j1 kq x3_1 x12_2 a0_0 l0_1 l0_2 a0_3 = some r) ∧ Aside0 (kq ≤ k1) ∧ Aside0 (wc.heap[gb303]? = some (.cells #[.int .i64 a0_0, (.slice A0_1 l0_1.length c0_1), (.slice A0_2 l0_2.length c0_2), .bool a0_3] 67 (0, 0))) ∧ Aside0 (Below w.heap.size w wc))
  case first =>
    have H := HC3.out
    clear HC3
    by_cases c4 : x3_1 < 256
    rotate_left
    · rw [if_neg c4] at H
      have c4b0 : decide (x3_1 < 256) = false := decide_eq_false c4
      clear c4
      (first | rw [c4b0] | (simp only [i64_w, i32_w]; rw [c4b0]) | skip)
      have H' := Aside0.mk H
      clear H
      go_wp2
      go_meet
      case rel => exact ⟨_, (false), el_, H', ⟨by have := HK1.out; first | omega | exact Nat.le_refl _⟩, ⟨pk_ BK303.out⟩, ⟨pb1_ HB.out GE303.out⟩⟩
    rw [if_pos c4] at H
    have c4b0 : decide (x3_1 < 256) = true := decide_eq_true c4
    clear c4
    (first | rw [c4b0] | (simp only [i64_w, i32_w]; rw [c4b0]) | skip)
    replace H := Option.bind_eq_some_iff.mp H
    obtain ⟨t304, A50, H⟩ := H
    replace H : (spec_RefusesGrease.j1 k1 x3_1 t304 a0_0 l0_1 l0_2 a0_3) = some r := H
    have A5 := Aside0.mk A50
    clear A50
    have H' := Aside0.mk H
    clear H
    obtain ⟨hcz6_0, hcz6_1, hcz6_2, hcz6_3, hfz6_0, hfz6_1, hfz6_2, hfz6_3⟩ := bc4_ BK303.out
    go_wp2_with (first | (go_at_call 91; (with_reducible refine (spec_IsBox.calls k1 a0_0 _ _ l0_1 _ _ l0_2 a0_3 t304 _ ?side1 ?side2 ?side3 ?side4 A5.out).mono ?_); (case side1 => exact pc_ (Kd.C_below HR0_1.out HB.out)); (case side2 => exact HC0_1.out); (case side3 => exact pc_ (Kd.C_below HR0_2.out HB.out)); (case side4 => exact HC0_2.out); rintro e w7 ⟨rfl, hb⟩; have n0_ := Aside0.mk (bb_ BK303.out hb); have n1_ := Aside0.mk (below_step (pb1_ HB.out GE303.out) hb); clear BK303; clear HB; have BK303 := n0_; have HB := n1_; clear n0_ n1_; (try clear hb); (try clear hb2); (try clear hk); (try clear hi)))
    go_meet
    case rel => exact ⟨_, (t304), el_, H', ⟨by have := HK1.out; first | omega | exact Nat.le_refl _⟩, ⟨pk_ BK303.out⟩, ⟨pb1_ HB.out GE303.out⟩⟩
  clear HC3
  try clear p2
  try clear c4
  try clear c4b0
  try clear c5
  try clear hcz6_0
  try clear hcz6_1
  try clear hcz6_2
  try clear hcz6_3
  try clear hfz6_0
  try clear hfz6_1
  try clear hfz6_2
  try clear hfz6_3
  try clear p2
  obtain ⟨kq, x12_2, rfl, HA, HJ2, BK303, HB⟩ := hcut
  rcases kq with _ | kj2
  · exact absurd HA.out (by simp [spec_RefusesGrease.j1])
  have H := HA.out
  clear HA
  simp only [spec_RefusesGrease.j1] at H
  by_cases c8 : x12_2 = true
  rotate_left
  · replace c8 := Bool.eq_false_iff.mpr c8
    subst c8
    rw [if_neg (show ¬ (false = true) by decide)] at H
    obtain rfl := Option.some.inj H
    go_wp2
    go_ret
    exact ⟨er_, pb1_ HB.out GE303.out⟩
  subst c8
  rw [if_pos rfl] at H
  obtain ⟨y305, hy305⟩ : ∃ y_ : List Int, y_ = (([1] : List Int)) := ⟨_, rfl⟩
  replace H : ((spec_PlainHello.f y305).bind fun bt308 => ((spec_l29One.f x3_1).bind fun t315 => ((spec_PassBox.f kj2 a0_0 l0_1 l0_2 a0_3 bt308.1 t315).bind fun bt318 => (if bt318.2.2 = true then (if (bt318.2.1.length : Int) = 0 then (some true) else (spec_RefusesGrease.l0 kj2 (wrap64 (x3_1 + 16)) a0_0 l0_1 l0_2 a0_3)) else (some true))))) = some r := by first | (rw [hy305]; with_reducible exact H) | (have H2_ := (Option.bind_some _ _).symm.trans H; rw [hy305]; with_reducible exact H2_) | (have H2_ := (Option.bind_some _ _).symm.trans H; with_reducible exact H2_) | with_reducible exact H | (rw [hy305]; exact H) | exact H
  have Ny305 := Aside0.mk hy305
  clear hy305
  replace H := Option.bind_eq_some_iff.mp H
  obtain ⟨⟨t308, t311⟩, A90, H⟩ := H
  (try dsimp only at H)
  have A9 := Aside0.mk A90
  clear A90
  have HS_ := Aside0.mk H
  clear H
  go_upto_region 5 with (first | ((with_reducible refine gate_dst (N := 15) rfl ?_); (try (refine gate_guard (by rfl) ?_; dsimp only)); refine Kd.R_lit (Kd.int .i64) _ 3 ?hg (N := 15) ?hd (xs := ([1] : List Int)) (inner := [.int .i64 1]) (ok := fun _ => True) (okp := fun _ => True) ?hr ?hp (fun _ hk => hk) trivial (Below.refl _ _) (Nat.le_refl _) (by simp) ?_; (case hd => rfl); (case hg => rfl); (case hr => first | (go_simp; done) | (go_simp; rfl)); (case hp => exact (Reps.one (show Kd.M (Kd.int .i64) _ _ _ 1 [.int .i64 1] from rfl) (Reps.none _ _))); intro v306 w10 ho11 hb hg_ hnew_; clear hg_ hnew_; (first | rw [← Ny305.out] at ho11 | (simp only [Int.reduceToNat] at ho11; rw [← Ny305.out] at ho11)); have n0_ := Aside0.mk (Kd.R_lower ho11 (below_size (pb1_ HB.out GE303.out))); have n1_ := Aside0.mk (bb_ BK303.out hb); have n2_ := Aside0.mk (below_step (pb1_ HB.out GE303.out) hb); clear BK303; clear HB; have HO307 := n0_; have BK303 := n1_; have HB := n2_; clear n0_ n1_ n2_; clear hb ho11; obtain ⟨Ao12, co12, eo12⟩ := Kd.R_slice HO307.out; subst eo12) | ((with_reducible refine gate_callee (f := 97) rfl ?_); refine goesL_ (some 16) rfl rfl Try.func97 (by kernel_rfl) rfl #[.slice Ao12 y305.length co12] rfl mp_ ?_; (with_reducible refine (spec_PlainHello.calls _ _ y305 t308 t311 _ ?side1 ?side2 A9.out).mono ?_); (case side1 => exact pc_ ((Kd.R_reads' HO307.out).2.2)); (case side2 => exact (Kd.R_reads' HO307.out).2.1); rintro e w13 ⟨v309, v312, rfl, ho0, ho1, hb⟩; refine ⟨_, rfl, ?_⟩; have n0_ := Aside0.mk (Kd.R_elder' (pr_ HO307.out) (Kd.R_base ho0) hb); have n1_ := Aside0.mk (Kd.R_lower (Kd.R_new' ho0 (Kd.R_lt (pr_ HO307.out))) (below_size (pb1_ HB.out GE303.out))); have n2_ := Aside0.mk (Kd.S_lower (Kd.S_new' ho1 (Kd.R_lt (pr_ HO307.out))) (below_size (pb1_ HB.out GE303.out))); have n3_ := Aside0.mk (bb_ BK303.out hb); have n4_ := Aside0.mk (below_step (pb1_ HB.out GE303.out) hb); clear HO307; clear BK303; clear HB; have HO307 := n0_; have HO310 := n1_; have HO313 := n2_; have BK303 := n3_; have HB := n4_; clear n0_ n1_ n2_ n3_ n4_; (try clear hb); (try clear hb2); (try clear hk); (try clear hi); (try clear ho0); (try clear ho1)) | ((with_reducible refine gate_dst (N := 4) rfl ?_); (try (refine gate_guard (by rfl) ?_; dsimp only)); refine box_event ?hg (N := 4) ?hd (cs := #[.slice none 0 0, .slice none 0 0]) (t := 106) ?hr ?_; (case hd => rfl); (case hg => rfl); (case hr => first | (go_simp; done) | (go_simp; rfl)); intro gb314 hg w14 hbox hb; have n0_ := Aside0.mk (Kd.R_below (pr_ HO307.out) hb); have n1_ := Aside0.mk (Kd.R_below (pr_ HO310.out) hb); have n2_ := Aside0.mk (Kd.S_below (ps_ HO313.out) hb); have n3_ := Aside0.mk (bb_ BK303.out hb); have n4_ := Aside0.mk (below_step (pb1_ HB.out GE303.out) hb); have n5_ := Aside0.mk (hbox); have n6_ := Aside0.mk ((by rw [hg]; exact (below_size (pb1_ HB.out GE303.out)) : w.heap.size ≤ gb314)); have n7_ := Aside0.mk ((by rw [hg]; exact (below_size (pb1_ HB.out GE303.out)) : w.heap.size ≤ gb314)); have n8_ := Aside0.mk ((by rw [hg]; exact Nat.ne_of_lt (blk_lt (pk_ BK303.out)) : gb303 ≠ gb314)); have n9_ := Aside0.mk ((by rw [hg]; exact Nat.ne_of_gt (blk_lt (pk_ BK303.out)) : gb314 ≠ gb303)); clear HO307; clear HO310; clear HO313; clear BK303; clear HB; have HO307 := n0_; have HO310 := n1_; have HO313 := n2_; have BK303 := n3_; have HB := n4_; have BK314 := n5_; have GW314 := n6_; have GE314 := n7_; have NB303_314 := n8_; have NB314_303 := n9_; clear n0_ n1_ n2_ n3_ n4_ n5_ n6_ n7_ n8_ n9_; clear hb hbox hg; obtain ⟨Ao15, co15, eo15⟩ := Kd.R_slice HO310.out; subst eo15; have hnb16 := NB314_303.out; have hnc16 := NB303_314.out; have hcz17_0 : w14.cell? ⟨gb314, 0, none⟩ = some (.slice none 0 0) := (blk_cell BK314.out 0).trans rfl; have hcz17_1 : w14.cell? ⟨gb314, 1, none⟩ = some (.slice none 0 0) := (blk_cell BK314.out 1).trans rfl; have hfz17_0 := blk_frozen BK314.out 0; have hfz17_1 := blk_frozen BK314.out 1; obtain ⟨Ao18, co18, eo18⟩ := Kd.S_slice HO313.out; subst eo18))
  (try simp only [Act.put, List.setIfInBounds_toArray, List.set_cons_zero, List.set_cons_succ])
  have H := HS_.out
  clear HS_
  replace H := Option.bind_eq_some_iff.mp H
  obtain ⟨t315, A190, H⟩ := H
  (try dsimp only at H)
  have A19 := Aside0.mk A190
  clear A190
  have HS_ := Aside0.mk H
  clear H
  go_upto_region 6 with (first | ((with_reducible refine gate_callee (f := 98) rfl ?_); refine goesL_ (some 18) rfl rfl Try.func98 (by kernel_rfl) rfl #[.int .i64 x3_1] rfl mp_ ?_; (with_reducible refine (spec_l29One.calls x3_1 t315 _ A19.out).mono ?_); rintro e w20 ⟨v316, rfl, ho0, hb⟩; refine ⟨_, rfl, ?_⟩; have n0_ := Aside0.mk (Kd.R_below (pr_ (rf2_ HO307.out BK314.out)) hb); have n1_ := Aside0.mk (Kd.R_below (pr_ (rf2_ HO310.out BK314.out)) hb); have n2_ := Aside0.mk (Kd.S_elder' (ps_ (Kd.S_mono (Kd.S_far (p := ⟨gb314, 1, none⟩) (Kd.S_far (p := ⟨gb314, 0, none⟩) (Kd.S_types HO313.out BK314.out (by decide)) (fun _ hk => hk.2) (.slice Ao15 t308.length co15)) (fun _ hk => hk.2) (.slice Ao18 t311.length co18)) (fun _ h_ => h_.1))) (Kd.S_base ho0) hb); have n3_ := Aside0.mk (Kd.S_lower (Kd.S_new' (Kd.S_new' (Kd.S_new' ho0 (Kd.R_lt (pr_ (rf2_ HO307.out BK314.out)))) (Kd.R_lt (pr_ (rf2_ HO310.out BK314.out)))) (Kd.S_lt (ps_ (Kd.S_mono (Kd.S_far (p := ⟨gb314, 1, none⟩) (Kd.S_far (p := ⟨gb314, 0, none⟩) (Kd.S_types HO313.out BK314.out (by decide)) (fun _ hk => hk.2) (.slice Ao15 t308.length co15)) (fun _ hk => hk.2) (.slice Ao18 t311.length co18)) (fun _ h_ => h_.1))))) (below_size (pb2_ HB.out GE303.out GE314.out))); have n4_ := Aside0.mk (blk_below (g := gb303) (o := .cells #[.int .i64 a0_0, .slice A0_1 l0_1.length c0_1, .slice A0_2 l0_2.length c0_2, .bool a0_3] 67 (0, 0)) (pp_ BK303.out) hb); have n5_ := Aside0.mk (blk_below (g := gb314) (o := .cells #[.slice Ao15 t308.length co15, .slice Ao18 t311.length co18] 106 (0, 0)) (pp_ BK314.out) hb); have n6_ := Aside0.mk (below_step (pb2_ HB.out GE303.out GE314.out) hb); clear HO307; clear HO310; clear HO313; clear BK303; clear BK314; clear HB; have HO307 := n0_; have HO310 := n1_; have HO313 := n2_; have HO317 := n3_; have BK303 := n4_; have BK314 := n5_; have HB := n6_; clear n0_ n1_ n2_ n3_ n4_ n5_ n6_; (try clear hb); (try clear hb2); (try clear hk); (try clear hi); (try clear ho0); obtain ⟨Ao21, co21, eo21⟩ := Kd.S_slice HO317.out; subst eo21; have hnb22 := NB314_303.out; have hnc22 := NB303_314.out; have hcz23_0 : w20.cell? ⟨gb314, 0, none⟩ = some (.slice Ao15 t308.length co15) := (blk_cell BK314.out 0).trans rfl; have hcz23_1 : w20.cell? ⟨gb314, 1, none⟩ = some (.slice Ao18 t311.length co18) := (blk_cell BK314.out 1).trans rfl; have hfz23_0 := blk_frozen BK314.out 0; have hfz23_1 := blk_frozen BK314.out 1))
  (try simp only [Act.put, List.setIfInBounds_toArray, List.set_cons_zero, List.set_cons_succ])
  have H := HS_.out
  clear HS_
  replace H := Option.bind_eq_some_iff.mp H
  obtain ⟨⟨t318, t321, t324⟩, A240, H⟩ := H
  (try dsimp only at H)
  have A24 := Aside0.mk A240
  clear A240
  have HS_ := Aside0.mk H
  clear H
  have hnb25 := NB303_314.out
  have hnc25 := NB314_303.out
  obtain ⟨hcz26_0, hcz26_1, hcz26_2, hcz26_3, hfz26_0, hfz26_1, hfz26_2, hfz26_3⟩ := bc4_ BK303.out
  obtain ⟨hcz27_0, hcz27_1, hfz27_0, hfz27_1⟩ := bc2_ BK314.out
  go_upto_region 7 with (first | ((with_reducible refine gate_callee (f := 99) rfl ?_); refine goesL_ (some 23) rfl rfl Try.func99 (by kernel_rfl) rfl #[.agg #[.int .i64 a0_0, .slice A0_1 l0_1.length c0_1, .slice A0_2 l0_2.length c0_2, .bool a0_3], .agg #[.slice Ao15 t308.length co15, .slice Ao21 t315.length co21]] rfl mp_ ?_; (with_reducible refine (spec_PassBox.calls kj2 a0_0 _ _ l0_1 _ _ l0_2 a0_3 _ _ t308 _ _ t315 t318 t321 t324 _ ?side1 ?side2 ?side3 ?side4 ?side5 ?side6 ?side7 ?side8 A24.out).mono ?_); (case side1 => exact Kd.C_below HR0_1.out (pb2_ HB.out GE303.out GE314.out)); (case side2 => exact HC0_1.out); (case side3 => exact Kd.C_below HR0_2.out (pb2_ HB.out GE303.out GE314.out)); (case side4 => exact HC0_2.out); (case side5 => refine (Kd.R_reads' (e := 3) (base := w.heap.size) (ok := fun k_ => (True ∧ some k_ ≠ (.slice Ao12 y305.length co12 : Value).ownBlock)) (n := t308.length) (c := co15) ?_).2.2; exact (pr_ (Kd.R_mono (Kd.R_far (p := ⟨gb314, 1, none⟩) (Kd.R_types HO310.out BK314.out (by decide)) (fun _ hk => hk.2) (.slice Ao21 t315.length co21)) (fun _ h_ => h_.1)))); (case side6 => exact (Kd.R_reads' HO310.out).2.1); (case side7 => refine (Kd.S_reads' (e := 114) (base := w.heap.size) (ok := fun k_ => (((True ∧ some k_ ≠ (.slice Ao12 y305.length co12 : Value).ownBlock) ∧ some k_ ≠ (.slice Ao15 t308.length co15 : Value).ownBlock) ∧ some k_ ≠ (.slice Ao18 t311.length co18 : Value).ownBlock)) (n := t315.length) (c := co21) ?_).2.2; exact (ps_ (Kd.S_mono (Kd.S_far (p := ⟨gb314, 1, none⟩) (Kd.S_types HO317.out BK314.out (by decide)) (fun _ hk => hk.2) (.slice Ao21 t315.length co21)) (fun _ h_ => h_.1)))); (case side8 => exact (Kd.S_reads' HO317.out).2.1); rintro e w28 ⟨v319, v322, rfl, ho0, ho1, hb⟩; refine ⟨_, rfl, ?_⟩; have n0_ := Aside0.mk (Kd.R_elder' (pr_ (Kd.R_mono (Kd.R_far (p := ⟨gb314, 1, none⟩) (Kd.R_types HO307.out BK314.out (by decide)) (fun _ hk => hk.2) (.slice Ao21 t315.length co21)) (fun _ h_ => h_.1))) (Kd.R_base ho0) hb); have n1_ := Aside0.mk (Kd.R_elder' (pr_ (Kd.R_mono (Kd.R_far (p := ⟨gb314, 1, none⟩) (Kd.R_types HO310.out BK314.out (by decide)) (fun _ hk => hk.2) (.slice Ao21 t315.length co21)) (fun _ h_ => h_.1))) (Kd.R_base ho0) hb); have n2_ := Aside0.mk (Kd.S_mono (Kd.S_told (Kd.S_told (Kd.S_old (ps_ (Kd.S_mono (Kd.S_far (p := ⟨gb314, 1, none⟩) (Kd.S_types HO313.out BK314.out (by decide)) (fun _ hk => hk.2) (.slice Ao21 t315.length co21)) (fun _ h_ => h_.1))) hb) (Kd.R_base ho0)) (Kd.S_base ho1)) (fun _ h_ => h_.1)); have n3_ := Aside0.mk (Kd.S_mono (Kd.S_told (Kd.S_told (Kd.S_old (ps_ (Kd.S_mono (Kd.S_far (p := ⟨gb314, 1, none⟩) (Kd.S_types HO317.out BK314.out (by decide)) (fun _ hk => hk.2) (.slice Ao21 t315.length co21)) (fun _ h_ => h_.1))) hb) (Kd.R_base ho0)) (Kd.S_base ho1)) (fun _ h_ => h_.1)); have n4_ := Aside0.mk (Kd.R_lower (Kd.R_new' (Kd.R_new' ho0 (Kd.R_lt (pr_ (Kd.R_mono (Kd.R_far (p := ⟨gb314, 1, none⟩) (Kd.R_types HO307.out BK314.out (by decide)) (fun _ hk => hk.2) (.slice Ao21 t315.length co21)) (fun _ h_ => h_.1))))) (Kd.R_lt (pr_ (Kd.R_mono (Kd.R_far (p := ⟨gb314, 1, none⟩) (Kd.R_types HO310.out BK314.out (by decide)) (fun _ hk => hk.2) (.slice Ao21 t315.length co21)) (fun _ h_ => h_.1))))) (below_size (pb2_ HB.out GE303.out GE314.out))); have n5_ := Aside0.mk (Kd.S_lower (Kd.S_new' (Kd.S_new' (Kd.S_new' (Kd.S_new' ho1 (Kd.R_lt (pr_ (Kd.R_mono (Kd.R_far (p := ⟨gb314, 1, none⟩) (Kd.R_types HO307.out BK314.out (by decide)) (fun _ hk => hk.2) (.slice Ao21 t315.length co21)) (fun _ h_ => h_.1))))) (Kd.R_lt (pr_ (Kd.R_mono (Kd.R_far (p := ⟨gb314, 1, none⟩) (Kd.R_types HO310.out BK314.out (by decide)) (fun _ hk => hk.2) (.slice Ao21 t315.length co21)) (fun _ h_ => h_.1))))) (Kd.S_lt (ps_ (Kd.S_mono (Kd.S_far (p := ⟨gb314, 1, none⟩) (Kd.S_types HO313.out BK314.out (by decide)) (fun _ hk => hk.2) (.slice Ao21 t315.length co21)) (fun _ h_ => h_.1))))) (Kd.S_lt (ps_ (Kd.S_mono (Kd.S_far (p := ⟨gb314, 1, none⟩) (Kd.S_types HO317.out BK314.out (by decide)) (fun _ hk => hk.2) (.slice Ao21 t315.length co21)) (fun _ h_ => h_.1))))) (below_size (pb2_ HB.out GE303.out GE314.out))); have n6_ := Aside0.mk (blk_below (g := gb303) (o := .cells #[.int .i64 a0_0, .slice A0_1 l0_1.length c0_1, .slice A0_2 l0_2.length c0_2, .bool a0_3] 67 (0, 0)) (pp_ BK303.out) hb); have n7_ := Aside0.mk (blk_below (g := gb314) (o := .cells #[.slice Ao15 t308.length co15, .slice Ao21 t315.length co21] 106 (0, 0)) (pp_ BK314.out) hb); have n8_ := Aside0.mk (below_step (pb2_ HB.out GE303.out GE314.out) hb); clear HO307; clear HO310; clear HO313; clear HO317; clear BK303; clear BK314; clear HB; have HO307 := n0_; have HO310 := n1_; have HO313 := n2_; have HO317 := n3_; have HO320 := n4_; have HO323 := n5_; have BK303 := n6_; have BK314 := n7_; have HB := n8_; clear n0_ n1_ n2_ n3_ n4_ n5_ n6_ n7_ n8_; (try clear hb); (try clear hb2); (try clear hk); (try clear hi); (try clear ho0); (try clear ho1)) | ((with_reducible refine gate_dst (N := 5) rfl ?_); (try (refine gate_guard (by rfl) ?_; dsimp only)); refine box_event ?hg (N := 5) ?hd (cs := #[.slice none 0 0, .slice none 0 0]) (t := 106) ?hr ?_; (case hd => rfl); (case hg => rfl); (case hr => first | (go_simp; done) | (go_simp; rfl)); intro gb325 hg w29 hbox hb; have n0_ := Aside0.mk (Kd.R_below (pr_ HO307.out) hb); have n1_ := Aside0.mk (Kd.R_below (pr_ HO310.out) hb); have n2_ := Aside0.mk (Kd.S_below (ps_ HO313.out) hb); have n3_ := Aside0.mk (Kd.S_below (ps_ HO317.out) hb); have n4_ := Aside0.mk (Kd.R_below (pr_ HO320.out) hb); have n5_ := Aside0.mk (Kd.S_below (ps_ HO323.out) hb); have n6_ := Aside0.mk (bb_ BK303.out hb); have n7_ := Aside0.mk (bb_ BK314.out hb); have n8_ := Aside0.mk (below_step (pb2_ HB.out GE303.out GE314.out) hb); have n9_ := Aside0.mk (hbox); have n10_ := Aside0.mk ((by rw [hg]; exact (below_size (pb2_ HB.out GE303.out GE314.out)) : w.heap.size ≤ gb325)); have n11_ := Aside0.mk ((by rw [hg]; exact (below_size (pb2_ HB.out GE303.out GE314.out)) : w.heap.size ≤ gb325)); have n12_ := Aside0.mk ((by rw [hg]; exact Nat.ne_of_lt (blk_lt (pk_ BK303.out)) : gb303 ≠ gb325)); have n13_ := Aside0.mk ((by rw [hg]; exact Nat.ne_of_gt (blk_lt (pk_ BK303.out)) : gb325 ≠ gb303)); have n14_ := Aside0.mk ((by rw [hg]; exact Nat.ne_of_lt (blk_lt (pk_ BK314.out)) : gb314 ≠ gb325)); have n15_ := Aside0.mk ((by rw [hg]; exact Nat.ne_of_gt (blk_lt (pk_ BK314.out)) : gb325 ≠ gb314)); clear HO307; clear HO310; clear HO313; clear HO317; clear HO320; clear HO323; clear BK303; clear BK314; clear HB; have HO307 := n0_; have HO310 := n1_; have HO313 := n2_; have HO317 := n3_; have HO320 := n4_; have HO323 := n5_; have BK303 := n6_; have BK314 := n7_; have HB := n8_; have BK325 := n9_; have GW325 := n10_; have GE325 := n11_; have NB303_325 := n12_; have NB325_303 := n13_; have NB314_325 := n14_; have NB325_314 := n15_; clear n0_ n1_ n2_ n3_ n4_ n5_ n6_ n7_ n8_ n9_ n10_ n11_ n12_ n13_ n14_ n15_; clear hb hbox hg; obtain ⟨Ao30, co30, eo30⟩ := Kd.R_slice HO320.out; subst eo30; have hnb31 := NB325_303.out; have hnc31 := NB303_325.out; have hnb32 := NB325_314.out; have hnc32 := NB314_325.out; have hcz33_0 : w29.cell? ⟨gb325, 0, none⟩ = some (.slice none 0 0) := (blk_cell BK325.out 0).trans rfl; have hcz33_1 : w29.cell? ⟨gb325, 1, none⟩ = some (.slice none 0 0) := (blk_cell BK325.out 1).trans rfl; have hfz33_0 := blk_frozen BK325.out 0; have hfz33_1 := blk_frozen BK325.out 1; obtain ⟨Ao34, co34, eo34⟩ := Kd.S_slice HO323.out; subst eo34))
  (try simp only [Act.put, List.setIfInBounds_toArray, List.set_cons_zero, List.set_cons_succ])
  have H := HS_.out
  clear HS_
  by_cases c35 : t324 = true
  rotate_left
  · replace c35 := Bool.eq_false_iff.mpr c35
    subst c35
    rw [if_neg (show ¬ (false = true) by decide)] at H
    obtain rfl := Option.some.inj H
    go_wp2
    go_ret
    exact ⟨er_, pb3_ HB.out GE303.out GE314.out GE325.out⟩
  subst c35
  rw [if_pos rfl] at H
  by_cases c36 : (t321.length : Int) = 0
  rotate_left
  · rw [if_neg c36] at H
    have c36b0 : ((t321.length : Int) == 0) = false := beq_eq_false_iff_ne.mpr c36
    have c36b1 : ((t321.length : Int) != 0) = true := bne_iff_ne.mpr c36
    have c36b2 : ¬ (t321 = []) := fun h_ => c36 (by rw [h_]; rfl)
    (first | rw [c36b0] | (simp only [i64_w, i32_w]; rw [c36b0]) | rw [c36b1] | (have c_ := c36b1; rw [bne] at c_; rw [c_]; clear c_) | skip)
    have H' := Aside0.mk H
    clear H
    have hnb37 := NB325_303.out
    have hnc37 := NB303_325.out
    have hnb38 := NB325_314.out
    have hnc38 := NB314_325.out
    obtain ⟨hcz39_0, hcz39_1, hfz39_0, hfz39_1⟩ := bc2_ BK325.out
    go_wp2
    go_roundg kj2
    case measure => have := HK1.out; have := HJ2.out; omega
    case rel => exact ⟨(wrap64 (x3_1 + 16)), el_, H', ⟨by have := HK1.out; have := HJ2.out; omega⟩, ⟨pp_ BK303.out⟩, ⟨pb3_ HB.out GE303.out GE314.out GE325.out⟩⟩
  rw [if_pos c36] at H
  have c36b0 : ((t321.length : Int) == 0) = true := beq_iff_eq.mpr c36
  have c36b1 : ((t321.length : Int) != 0) = false := bne_eq_false_iff_eq.mpr c36
  clear c36
  (first | rw [c36b0] | (simp only [i64_w, i32_w]; rw [c36b0]) | rw [c36b1] | (have c_ := c36b1; rw [bne] at c_; rw [c_]; clear c_) | skip)
  obtain rfl := Option.some.inj H
  have hnb40 := NB325_303.out
  have hnc40 := NB303_325.out
  have hnb41 := NB325_314.out
  have hnc41 := NB314_325.out
  obtain ⟨hcz42_0, hcz42_1, hfz42_0, hfz42_1⟩ := bc2_ BK325.out
  go_wp2
  go_ret
  exact ⟨er_, pb3_ HB.out GE303.out GE314.out GE325.out⟩

/-! ### impl_reservedTags: function 101 -/
def impl_reservedTags.l0 : Nat → List Int → Int → Option (List Int)
  | 0, _, _ => none
  | k + 1, x1, x2 => if x2 < 256 then (if x1.length < 17592186044416 then (impl_reservedTags.l0 k (x1 ++ [x2]) (wrap64 (x2 + 16))) else (none)) else (some x1)
def impl_reservedTags.f (k : Nat)  : Option (List Int) := impl_reservedTags.l0 k (([] : List Int)) 10
theorem impl_reservedTags.mono_l : ∀ k, (∀ y0 y1, LeO (impl_reservedTags.l0 k y0 y1) (impl_reservedTags.l0 (k + 1) y0 y1))
  | 0 => fun _ _ r h => by simp [impl_reservedTags.l0] at h
  | k + 1 => by
    have ih0 := impl_reservedTags.mono_l k
    · intro y0 y1
      unfold impl_reservedTags.l0
      repeat' first
      | (with_reducible exact ih0 _ _)
      | (with_reducible exact LeO.refl _)
      | (with_reducible exact LeO.none _)
      | (with_reducible refine LeO.ite ?_ ?_)
      | (with_reducible refine LeO.bind ?_ (fun _ => ?_))
      | exact ih0 _ _
      | exact LeO.none _
      | refine LeO.ite ?_ ?_
      | refine LeO.bind ?_ (fun _ => ?_)
theorem impl_reservedTags.mono : ∀ k, LeO (impl_reservedTags.f k ) (impl_reservedTags.f (k + 1) ) := by
  intro  k
  have ih0 := impl_reservedTags.mono_l k
  unfold impl_reservedTags.f
  repeat' first
      | (with_reducible exact ih0 _ _)
      | (with_reducible exact LeO.refl _)
      | (with_reducible exact LeO.none _)
      | (with_reducible refine LeO.ite ?_ ?_)
      | (with_reducible refine LeO.bind ?_ (fun _ => ?_))
      | exact ih0 _ _
      | exact LeO.none _
      | refine LeO.ite ?_ ?_
      | refine LeO.bind ?_ (fun _ => ?_)
set_option maxHeartbeats 8000000 in
set_option maxRecDepth 100000 in
theorem impl_reservedTags.calls (k : Nat)  (r : List Int) (w : World) (h : impl_reservedTags.f k  = some r) :
    Calls Try.prog 101 #[] w fun e w' => ∃ v0_ : Value, e = .returned (v0_) ∧ Kd.R (Kd.int .i64) 3 w' w.heap.size (fun _ => True) v0_ r ∧ Below w.heap.size w w' := by
  have HB := Aside0.mk (Below.refl w.heap.size w)
  have H : (impl_reservedTags.l0 k (([] : List Int)) 10) = some r := h
  clear h
  obtain ⟨y326, hy326⟩ : ∃ y_ : List Int, y_ = (([] : List Int)) := ⟨_, rfl⟩
  replace H : (impl_reservedTags.l0 k y326 10) = some r := by first | (rw [hy326]; with_reducible exact H) | (have H2_ := (Option.bind_some _ _).symm.trans H; rw [hy326]; with_reducible exact H2_) | (have H2_ := (Option.bind_some _ _).symm.trans H; with_reducible exact H2_) | with_reducible exact H | (rw [hy326]; exact H) | exact H
  have Ny326 := Aside0.mk hy326
  clear hy326
  have H' := Aside0.mk H
  clear H
  go_enter Try.func101, Try.ntmps101
  go_wp2_with (first | ((with_reducible refine gate_dst (N := 3) rfl ?_); refine Kd.R_lit (Kd.int .i64) _ 3 ?hg (N := 3) ?hd (xs := ([] : List Int)) (inner := []) (ok := fun _ => True) (okp := fun _ => True) ?hr ?hp (fun _ hk => hk) trivial (Below.refl _ _) (Nat.le_refl _) (by simp) ?_; (case hd => rfl); (case hg => rfl); (case hr => first | (go_simp; done) | (go_simp; rfl)); (case hp => exact (Reps.none _ _)); intro v327 w1 ho2 hb hg_ hnew_; clear hg_ hnew_; (first | rw [← Ny326.out] at ho2 | (simp only [Int.reduceToNat] at ho2; rw [← Ny326.out] at ho2)); have n0_ := Aside0.mk (Kd.R_lower ho2 (below_size (pb_ HB.out))); have n1_ := Aside0.mk (below_step (pb_ HB.out) hb); clear HB; have HO328 := n0_; have HB := n1_; clear n0_ n1_; clear hb ho2))
  (try simp only [Act.put, List.setIfInBounds_toArray, List.set_cons_zero, List.set_cons_succ])
  go_loopg [1, 2] k (fun kq v1 v2 w' => ∃ (x1_1 : List Int) (x2_1 : Int), v2 = .int .i64 x2_1 ∧ Aside0 (impl_reservedTags.l0 kq x1_1 x2_1 = some r) ∧ Aside0 (kq ≤ k) ∧ Aside0 (Kd.R (Kd.int .i64) 3 w' w.heap.size (fun _ => True) v1 x1_1) ∧ Aside0 (Below w.heap.size w w'))
  case atStart => exact ⟨(y326), (10), el_, H', ⟨Nat.le_refl _⟩, ⟨pr_ HO328.out⟩, ⟨pb_ HB.out⟩⟩
  clear H'
  try clear c1
  try clear p2
  obtain ⟨x1_1, x2_1, rfl, HA, HK1, HO_1, HB⟩ := hrel
  rcases gk with _ | k1
  · exact absurd HA.out (by simp [impl_reservedTags.l0])
  have H := HA.out
  clear HA
  simp only [impl_reservedTags.l0] at H
  by_cases c3 : x2_1 < 256
  rotate_left
  · rw [if_neg c3] at H
    have c3b0 : decide (x2_1 < 256) = false := decide_eq_false c3
    clear c3
    obtain rfl := Option.some.inj H
    go_wp2
    go_ret
    exact ⟨_, er_, pr_ HO_1.out, pb_ HB.out⟩
  rw [if_pos c3] at H
  have c3b0 : decide (x2_1 < 256) = true := decide_eq_true c3
  clear c3
  by_cases c4 : x1_1.length < 17592186044416
  rotate_left
  · rw [if_neg c4] at H
    exact absurd H (by simp)
  rw [if_pos c4] at H
  have LMc4 := Aside0.mk c4
  clear c4
  obtain ⟨y329, hy329⟩ : ∃ y_ : List Int, y_ = (x1_1 ++ [x2_1]) := ⟨_, rfl⟩
  replace H : (impl_reservedTags.l0 k1 y329 (wrap64 (x2_1 + 16))) = some r := by first | (rw [hy329]; with_reducible exact H) | (have H2_ := (Option.bind_some _ _).symm.trans H; rw [hy329]; with_reducible exact H2_) | (have H2_ := (Option.bind_some _ _).symm.trans H; with_reducible exact H2_) | with_reducible exact H | (rw [hy329]; exact H) | exact H
  have Ny329 := Aside0.mk hy329
  clear hy329
  have H' := Aside0.mk H
  clear H
  go_wp2_with (first | ((with_reducible refine gate_builtin (b := .append) (xs := #[.tmp 8, .tmp 10]) rfl ?_); at_builtin; refine Kd.R_append (Kd.int .i64) (w0 := w) w.heap.size rfl (.tmp 8) (.tmp 10) 22 3 (.int .i64 0) 8 rfl Try.underlying22 info3 rfl (by decide) (by omega) u1 x1_1 x2_1 [.int .i64 x2_1] (fun _ => True) (fun _ => False) rfl rfl ?aP (fun _ hk => hk.elim) ?aF ?aO ?aB ?aS ?aL ?_; (case aP => exact rfl); (case aB => exact (pb_ HB.out)); (case aF => exact (fun _ _ => trivial)); (case aO => exact (pr_ HO_1.out)); (case aS => exact (below_size (pb_ HB.out))); (case aL => have := LMc4.out; omega); intro v330 w5 ho hb hg hat; rw [← Ny329.out] at ho; have n0_ := Aside0.mk (hb); have n1_ := Aside0.mk (ho); clear HB; clear HO_1; have HB := n0_; have HO331 := n1_; clear n0_ n1_; clear ho hb hg hat))
  go_roundg k1
  case measure => have := HK1.out; omega
  case rel => exact ⟨(y329), (wrap64 (x2_1 + 16)), el_, H', ⟨by have := HK1.out; omega⟩, ⟨pr_ HO331.out⟩, ⟨pb_ HB.out⟩⟩

/-! ### impl_ExtOf_1: function 100009 -/
def impl_ExtOf_1.f (a0_0 : Int) (l0_1 : List Int) (a1_0 : Int) : Option (Bool) := some (a0_0 == a1_0)
set_option maxHeartbeats 8000000 in
set_option maxRecDepth 100000 in
theorem impl_ExtOf_1.calls (a0_0 : Int) (A0_1 : Option Addr) (c0_1 : Nat) (l0_1 : List Int) (B1 : Nat) (a1_0 : Int) (r : Bool) (w : World) (hr0_1 : Kd.C (Kd.int .i64) w A0_1 l0_1.length l0_1) (hc0_1 : l0_1.length ≤ c0_1) (hbv1 : w.heap[B1]? = some (.cells #[.int .i64 a1_0] 3 (0, 0))) (h : impl_ExtOf_1.f a0_0 l0_1 a1_0 = some r) :
    Calls Try.prog 158 #[.agg #[.int .i64 a0_0, .slice A0_1 l0_1.length c0_1], .pointer (some ⟨B1, 0, none⟩)] w fun e w' => e = .returned (.bool r) ∧ Below w.heap.size w w' := by
  have hu114 := Try.underlying114
  have HR0_1 := Aside0.mk hr0_1
  have HC0_1 := Aside0.mk hc0_1
  clear hr0_1 hc0_1
  have BK1 := Aside0.mk hbv1
  clear hbv1
  have HB := Aside0.mk (Below.refl w.heap.size w)
  have H : (some (a0_0 == a1_0)) = some r := h
  clear h
  obtain rfl := Option.some.inj H
  go_enter Try.func158, Try.ntmps158
  go_wp2_with (first | ((with_reducible refine gate_dst (N := 2) rfl ?_); refine box_event ?hg (N := 2) ?hd (cs := #[.int .i64 a0_0, .slice A0_1 l0_1.length c0_1]) (t := 114) ?hr ?_; (case hd => rfl); (case hg => rfl); (case hr => first | (go_simp; done) | (go_simp; rfl)); intro gb332 hg w3 hbox hb; have n0_ := Aside0.mk (bb_ BK1.out hb); have n1_ := Aside0.mk (below_step (pb_ HB.out) hb); have n2_ := Aside0.mk (hbox); have n3_ := Aside0.mk ((by rw [hg]; exact (below_size (pb_ HB.out)) : w.heap.size ≤ gb332)); have n4_ := Aside0.mk ((by rw [hg]; exact (below_size (pb_ HB.out)) : w.heap.size ≤ gb332)); have n5_ := Aside0.mk ((by rw [hg]; exact Nat.ne_of_lt (blk_lt (pk_ BK1.out)) : B1 ≠ gb332)); have n6_ := Aside0.mk ((by rw [hg]; exact Nat.ne_of_gt (blk_lt (pk_ BK1.out)) : gb332 ≠ B1)); clear BK1; clear HB; have BK1 := n0_; have HB := n1_; have BK332 := n2_; have GW332 := n3_; have GE332 := n4_; have NB1_332 := n5_; have NB332_1 := n6_; clear n0_ n1_ n2_ n3_ n4_ n5_ n6_; clear hb hbox hg; have hnb4 := NB332_1.out; have hnc4 := NB1_332.out; have hcz5_0 : w3.cell? ⟨gb332, 0, none⟩ = some (.int .i64 a0_0) := (blk_cell BK332.out 0).trans rfl; have hcz5_1 : w3.cell? ⟨gb332, 1, none⟩ = some (.slice A0_1 l0_1.length c0_1) := (blk_cell BK332.out 1).trans rfl; have hfz5_0 := blk_frozen BK332.out 0; have hfz5_1 := blk_frozen BK332.out 1; have hcz6_0 : w3.cell? ⟨B1, 0, none⟩ = some (.int .i64 a1_0) := (blk_cell BK1.out 0).trans rfl; have hfz6_0 := blk_frozen BK1.out 0))
  go_ret
  exact ⟨er_, pb1_ HB.out GE332.out⟩

/-! ### slices_IndexFunc_impl_Ext_impl_Ext_with_impl_ExtOf_1: function 100008 -/
def slices_IndexFunc_impl_Ext_impl_Ext_with_impl_ExtOf_1.l0 : Nat → List (S114) → Int → Int → Int → Option (Int)
  | 0, _, _, _, _ => none
  | k + 1, x0, x7, x8, x2000 => if x8 < x7 then (if 0 ≤ x8 then (if x8 < (x0.length : Int) then ((impl_ExtOf_1.f ((rd_T114 x0 x8).f0) ((rd_T114 x0 x8).f1) x2000).bind fun t334 => (if t334 = true then (some x8) else (slices_IndexFunc_impl_Ext_impl_Ext_with_impl_ExtOf_1.l0 k x0 x7 (wrap64 (x8 + 1)) x2000))) else (none)) else (none)) else (some (-1))
def slices_IndexFunc_impl_Ext_impl_Ext_with_impl_ExtOf_1.f (k : Nat) (l0 : List (S114)) (a1_0 : Int) : Option (Int) := slices_IndexFunc_impl_Ext_impl_Ext_with_impl_ExtOf_1.l0 k l0 (l0.length : Int) 0 a1_0
theorem slices_IndexFunc_impl_Ext_impl_Ext_with_impl_ExtOf_1.mono_l : ∀ k, (∀ y0 y1 y2 y3, LeO (slices_IndexFunc_impl_Ext_impl_Ext_with_impl_ExtOf_1.l0 k y0 y1 y2 y3) (slices_IndexFunc_impl_Ext_impl_Ext_with_impl_ExtOf_1.l0 (k + 1) y0 y1 y2 y3))
  | 0 => fun _ _ _ _ r h => by simp [slices_IndexFunc_impl_Ext_impl_Ext_with_impl_ExtOf_1.l0] at h
  | k + 1 => by
    have ih0 := slices_IndexFunc_impl_Ext_impl_Ext_with_impl_ExtOf_1.mono_l k
    · intro y0 y1 y2 y3
      unfold slices_IndexFunc_impl_Ext_impl_Ext_with_impl_ExtOf_1.l0
      repeat' first
      | (with_reducible exact ih0 _ _ _ _)
      | (with_reducible exact LeO.refl _)
      | (with_reducible exact LeO.none _)
      | (with_reducible refine LeO.ite ?_ ?_)
      | (with_reducible refine LeO.bind ?_ (fun _ => ?_))
      | exact ih0 _ _ _ _
      | exact LeO.none _
      | refine LeO.ite ?_ ?_
      | refine LeO.bind ?_ (fun _ => ?_)
theorem slices_IndexFunc_impl_Ext_impl_Ext_with_impl_ExtOf_1.mono : ∀ a0 a1 k, LeO (slices_IndexFunc_impl_Ext_impl_Ext_with_impl_ExtOf_1.f k a0 a1) (slices_IndexFunc_impl_Ext_impl_Ext_with_impl_ExtOf_1.f (k + 1) a0 a1) := by
  intro a0 a1 k
  have ih0 := slices_IndexFunc_impl_Ext_impl_Ext_with_impl_ExtOf_1.mono_l k
  unfold slices_IndexFunc_impl_Ext_impl_Ext_with_impl_ExtOf_1.f
  repeat' first
      | (with_reducible exact ih0 _ _ _ _)
      | (with_reducible exact LeO.refl _)
      | (with_reducible exact LeO.none _)
      | (with_reducible refine LeO.ite ?_ ?_)
      | (with_reducible refine LeO.bind ?_ (fun _ => ?_))
      | exact ih0 _ _ _ _
      | exact LeO.none _
      | refine LeO.ite ?_ ?_
      | refine LeO.bind ?_ (fun _ => ?_)
set_option maxHeartbeats 8000000 in
set_option maxRecDepth 100000 in
theorem slices_IndexFunc_impl_Ext_impl_Ext_with_impl_ExtOf_1.calls (k : Nat) (A0 : Option Addr) (c0 : Nat) (l0 : List (S114)) (B1 : Nat) (a1_0 : Int) (r : Int) (w : World) (hr0 : Kd.C k114 w A0 l0.length l0) (hc0 : l0.length ≤ c0) (hbv1 : w.heap[B1]? = some (.cells #[.int .i64 a1_0] 3 (0, 0))) (h : slices_IndexFunc_impl_Ext_impl_Ext_with_impl_ExtOf_1.f k l0 a1_0 = some r) :
    Calls Try.prog 153 #[.slice A0 l0.length c0, .func (.func 158) #[] #[.pointer (some ⟨B1, 0, none⟩)]] w fun e w' => e = .returned (.int .i64 r) ∧ Below w.heap.size w w' := by
  have hu114 := Try.underlying114
  have HR0 := Aside0.mk hr0
  have HC0 := Aside0.mk hc0
  clear hr0 hc0
  have BK1 := Aside0.mk hbv1
  clear hbv1
  have HB := Aside0.mk (Below.refl w.heap.size w)
  have H : (slices_IndexFunc_impl_Ext_impl_Ext_with_impl_ExtOf_1.l0 k l0 (l0.length : Int) 0 a1_0) = some r := h
  clear h
  have H' := Aside0.mk H
  clear H
  go_enter Try.func153, Try.ntmps153
  go_wp2
  go_loopg [8] k (fun kq v8 w' => ∃ (x8_1 : Int), v8 = .int .i64 x8_1 ∧ Aside0 (slices_IndexFunc_impl_Ext_impl_Ext_with_impl_ExtOf_1.l0 kq l0 (l0.length : Int) x8_1 a1_0 = some r) ∧ Aside0 (kq ≤ k) ∧ Aside0 (w'.heap[B1]? = some (.cells #[.int .i64 a1_0] 3 (0, 0))) ∧ Aside0 (Below w.heap.size w w'))
  case atStart => exact ⟨(0), el_, H', ⟨Nat.le_refl _⟩, ⟨pk_ BK1.out⟩, ⟨pb_ HB.out⟩⟩
  clear H'
  try clear c1
  try clear p2
  obtain ⟨x8_1, rfl, HA, HK1, BK1, HB⟩ := hrel
  rcases gk with _ | k1
  · exact absurd HA.out (by simp [slices_IndexFunc_impl_Ext_impl_Ext_with_impl_ExtOf_1.l0])
  have H := HA.out
  clear HA
  simp only [slices_IndexFunc_impl_Ext_impl_Ext_with_impl_ExtOf_1.l0] at H
  by_cases c3 : x8_1 < (l0.length : Int)
  rotate_left
  · rw [if_neg c3] at H
    have c3b0 : decide (x8_1 < (l0.length : Int)) = false := decide_eq_false c3
    clear c3
    obtain rfl := Option.some.inj H
    go_wp2
    go_ret
    exact ⟨er_, pb_ HB.out⟩
  rw [if_pos c3] at H
  have c3b0 : decide (x8_1 < (l0.length : Int)) = true := decide_eq_true c3
  clear c3
  by_cases c4 : 0 ≤ x8_1
  rotate_left
  · rw [if_neg c4] at H
    exact absurd H (by simp)
  rw [if_pos c4] at H
  have c4b0 : decide (0 ≤ x8_1) = true := decide_eq_true c4
  clear c4
  by_cases c5 : x8_1 < (l0.length : Int)
  rotate_left
  · rw [if_neg c5] at H
    exact absurd H (by simp)
  rw [if_pos c5] at H
  have c5b0 : decide (x8_1 < (l0.length : Int)) = true := decide_eq_true c5
  clear c5
  replace H := Option.bind_eq_some_iff.mp H
  obtain ⟨t334, A60, H⟩ := H
  (try dsimp only at H)
  have A6 := Aside0.mk A60
  clear A60
  have HS_ := Aside0.mk H
  clear H
  have p333 : 0 ≤ (x8_1 : Int) := dt_
  have q333 : x8_1 < (l0.length : Int) := dt_
  obtain ⟨ad333, A333_1, c333_1, e333, hx333_0, hx333_1, hl333_1, hi333_1⟩ := at_T114 HR0.out x8_1 p333 q333
  cases e333
  replace hx333_0 := (HB.out.cell (World.block_lt_of_cell? w _ hx333_0)).trans hx333_0
  replace hx333_1 := (HB.out.cell (World.block_lt_of_cell? w _ hx333_1)).trans hx333_1
  have HR333_1 := Aside0.mk hi333_1
  have HC333_1 := Aside0.mk hl333_1
  clear hi333_1 hl333_1
  replace p333 := eq_true p333
  replace q333 := eq_true q333
  go_upto_if 16 with (first | (go_at_call 158; (with_reducible refine (impl_ExtOf_1.calls ((rd_T114 l0 x8_1).f0) _ _ ((rd_T114 l0 x8_1).f1) _ a1_0 t334 _ ?side1 ?side2 ?side3 A6.out).mono ?_); (case side1 => exact pc_ (Kd.C_below HR333_1.out HB.out)); (case side2 => exact HC333_1.out); (case side3 => exact pk_ BK1.out); rintro e w7 ⟨rfl, hb⟩; have n0_ := Aside0.mk (bb_ BK1.out hb); have n1_ := Aside0.mk (below_step (pb_ HB.out) hb); clear BK1; clear HB; have BK1 := n0_; have HB := n1_; clear n0_ n1_; (try clear hb); (try clear hb2); (try clear hk); (try clear hi)))
  (try simp only [Act.put, List.setIfInBounds_toArray, List.set_cons_zero, List.set_cons_succ])
  have H := HS_.out
  clear HS_
  by_cases c8 : t334 = true
  rotate_left
  · replace c8 := Bool.eq_false_iff.mpr c8
    subst c8
    rw [if_neg (show ¬ (false = true) by decide)] at H
    have H' := Aside0.mk H
    clear H
    go_wp2
    go_roundg k1
    case measure => have := HK1.out; omega
    case rel => exact ⟨(wrap64 (x8_1 + 1)), el_, H', ⟨by have := HK1.out; omega⟩, ⟨pk_ BK1.out⟩, ⟨pb_ HB.out⟩⟩
  subst c8
  rw [if_pos rfl] at H
  obtain rfl := Option.some.inj H
  go_wp2
  go_ret
  exact ⟨er_, pb_ HB.out⟩

/-! ### impl_ExtOf: function 152 -/
def impl_ExtOf.f (k : Nat) (l0 : List (S114)) (a1 : Int) : Option (Int) := (slices_IndexFunc_impl_Ext_impl_Ext_with_impl_ExtOf_1.f k l0 a1).bind fun t336 => (some t336)
theorem impl_ExtOf.mono : ∀ a0 a1 k, LeO (impl_ExtOf.f k a0 a1) (impl_ExtOf.f (k + 1) a0 a1) := by
  intro a0 a1 k
  unfold impl_ExtOf.f
  repeat' first
      | (with_reducible exact slices_IndexFunc_impl_Ext_impl_Ext_with_impl_ExtOf_1.mono _ _ _)
      | (with_reducible exact LeO.refl _)
      | (with_reducible exact LeO.none _)
      | (with_reducible refine LeO.ite ?_ ?_)
      | (with_reducible refine LeO.bind ?_ (fun _ => ?_))
      | exact slices_IndexFunc_impl_Ext_impl_Ext_with_impl_ExtOf_1.mono _ _ _
      | exact LeO.none _
      | refine LeO.ite ?_ ?_
      | refine LeO.bind ?_ (fun _ => ?_)
set_option maxHeartbeats 8000000 in
set_option maxRecDepth 100000 in
theorem impl_ExtOf.calls (k : Nat) (A0 : Option Addr) (c0 : Nat) (l0 : List (S114)) (a1 : Int) (r : Int) (w : World) (hr0 : Kd.C k114 w A0 l0.length l0) (hc0 : l0.length ≤ c0) (h : impl_ExtOf.f k l0 a1 = some r) :
    Calls Try.prog 152 #[.slice A0 l0.length c0, .int .i64 a1] w fun e w' => e = .returned (.int .i64 r) ∧ Below w.heap.size w w' := by
  have HR0 := Aside0.mk hr0
  have HC0 := Aside0.mk hc0
  clear hr0 hc0
  have HB := Aside0.mk (Below.refl w.heap.size w)
  have H : ((slices_IndexFunc_impl_Ext_impl_Ext_with_impl_ExtOf_1.f k l0 a1).bind fun t336 => (some t336)) = some r := h
  clear h
  replace H := Option.bind_eq_some_iff.mp H
  obtain ⟨t336, A30, H⟩ := H
  replace H : (some t336) = some r := H
  have A3 := Aside0.mk A30
  clear A30
  obtain rfl := Option.some.inj H
  go_enter Try.func152, Try.ntmps152
  go_wp2_with (first | ((with_reducible refine gate_dst (N := 3) rfl ?_); refine box_event ?hg (N := 3) ?hd (cs := #[.int .i64 a1]) (t := 3) ?hr ?_; (case hd => rfl); (case hg => rfl); (case hr => first | (go_simp; done) | (go_simp; rfl)); intro gb335 hg w4 hbox hb; have n0_ := Aside0.mk (below_step (pb_ HB.out) hb); have n1_ := Aside0.mk (hbox); have n2_ := Aside0.mk ((by rw [hg]; exact (below_size (pb_ HB.out)) : w.heap.size ≤ gb335)); have n3_ := Aside0.mk ((by rw [hg]; exact (below_size (pb_ HB.out)) : w.heap.size ≤ gb335)); clear HB; have HB := n0_; have BK335 := n1_; have GW335 := n2_; have GE335 := n3_; clear n0_ n1_ n2_ n3_; clear hb hbox hg) | (go_at_call 153; (with_reducible refine (slices_IndexFunc_impl_Ext_impl_Ext_with_impl_ExtOf_1.calls k _ _ l0 _ a1 t336 _ ?side1 ?side2 ?side3 A3.out).mono ?_); (case side1 => exact pc_ (Kd.C_below HR0.out HB.out)); (case side2 => exact HC0.out); (case side3 => exact pk_ BK335.out); rintro e w5 ⟨rfl, hb⟩; have n0_ := Aside0.mk (bb_ BK335.out hb); have n1_ := Aside0.mk (below_step (pb1_ HB.out GE335.out) hb); clear BK335; clear HB; have BK335 := n0_; have HB := n1_; clear n0_ n1_; (try clear hb); (try clear hb2); (try clear hk); (try clear hi)))
  go_ret
  exact ⟨er_, pb1_ HB.out GE335.out⟩

end Go.Proofs.Ytdoefkloanpliaa.Print
