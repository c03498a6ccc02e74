-- Written by a program of this session (printx.py) out of the translation; Lean checks it.
import Derived.Test.YtlcmkgbabffmeaaPrint0
import Derived.Test.YtlcmkgbabffmeaaPrint1
import Derived.Test.YtlcmkgbabffmeaaPrint2
import Derived.Test.YtlcmkgbabffmeaaPrint4
import Derived.Test.YtlcmkgbabffmeaaPrint5
namespace Go.Proofs.Ytlcmkgbabffmeaa.Print
open Go.RowKit Go.Proofs.YtlcmkgbabffmeaaW.PrintWords Go.Proofs.YtlcmkgbabffmeaaW.PrintLast Go.Proofs.YtlcmkgbabffmeaaW.PrintMore
attribute [local go_sem] max2_int min2_int max_two min_two max_three min_three max_four min_four   -- for this text's walks alone
set_option linter.unusedVariables false
set_option linter.unusedSimpArgs false

/-! ### laws_FnExactNextStage: function 7 -/
mutual
def laws_FnExactNextStage.j0 : Nat → Bool → Bool → Bool → Int → List Int → Int → Bool → Int → List Int → Int → Bool → Int → List Int → Int → Bool → Int → List Int → Int → Bool → Option (Bool)
  | 0, _, _, _, _, _, _, _, _, _, _, _, _, _, _, _, _, _, _, _ => none
  | k + 1, x5, x8, x40, x326000, x326001, x326002, x326003, x341000, x341001, x341002, x341003, x348000, x348001, x348002, x348003, x356000, x356001, x356002, x356003 => if x40 = true then (some false) else ((laws_toRollout.f k x326000 x326001 x326002 x326003).bind fun bt357 => ((laws_eqRollout.f k x348000 x348001 x348002 x348003 bt357.1 bt357.2.1 bt357.2.2.1 bt357.2.2.2).bind fun t363 => (if t363 = true then ((laws_markRollout.f k x348000 x348001 x348002 x348003 1).bind fun bt364 => (if bt364.1 < 0 then (laws_FnExactNextStage.j1 k x5 true x326000 x326001 x326002 x326003 x341000 x341001 x341002 x341003 x356000 x356001 x356002 x356003) else ((laws_eqRollout.f k x356000 x356001 x356002 x356003 x341000 x341001 x341002 x341003).bind fun t366 => (if t366 = true then (laws_FnExactNextStage.j1 k x5 (x8 != x5) x326000 x326001 x326002 x326003 x341000 x341001 x341002 x341003 x356000 x356001 x356002 x356003) else (laws_FnExactNextStage.j1 k x5 true x326000 x326001 x326002 x326003 x341000 x341001 x341002 x341003 x356000 x356001 x356002 x356003))))) else (some false))))
def laws_FnExactNextStage.j1 : Nat → Bool → Bool → Int → List Int → Int → Bool → Int → List Int → Int → Bool → Int → List Int → Int → Bool → Option (Bool)
  | 0, _, _, _, _, _, _, _, _, _, _, _, _, _, _ => none
  | k + 1, x5, x61, x326000, x326001, x326002, x326003, x341000, x341001, x341002, x341003, x356000, x356001, x356002, x356003 => if x61 = true then (some false) else ((laws_markRollout.f k x356000 x356001 x356002 x356003 1).bind fun bt367 => ((laws_heldRollout.f k x356000 bt367.2 x356002 x356003 1).bind fun t369 => (if t369 < 0 then (some false) else (if t369 = bt367.1 then ((laws_toRollout.f k x326000 x326001 x326002 x326003).bind fun bt370 => ((impl_NextStage.f k bt370.1 bt370.2.1 bt370.2.2.1 bt370.2.2.2).bind fun bt376 => ((laws_eqRollout.f k bt376.1 bt376.2.1 bt376.2.2.1 bt376.2.2.2.1 x341000 x341001 x341002 x341003).bind fun t384 => (if t384 = true then (laws_FnExactNextStage.j2 k bt367.1 (bt376.2.2.2.2 != x5) x356000 bt367.2 x356002 x356003) else (laws_FnExactNextStage.j2 k bt367.1 true x356000 bt367.2 x356002 x356003))))) else (some false)))))
def laws_FnExactNextStage.j2 : Nat → Int → Bool → Int → List Int → Int → Bool → Option (Bool)
  | 0, _, _, _, _, _, _ => none
  | k + 1, x10, x87, x356000, x356001, x356002, x356003 => if x87 = true then (some false) else ((laws_heldRollout.f k x356000 x356001 x356002 x356003 1).bind fun t385 => (if t385 < 0 then (some false) else (if t385 = x10 then (some true) else (some false))))
end
def laws_FnExactNextStage.f (k : Nat) (a0_0 : Int) (l0_1 : List Int) (a0_2 : Int) (a0_3 : Bool) : Option (Bool) := (laws_szRollout.f a0_0 l0_1 a0_2 a0_3 1048576).bind fun t326 => (if t326 < 0 then (some true) else ((laws_toRollout.f k a0_0 l0_1 a0_2 a0_3).bind fun bt327 => ((spec_NextStage.f k bt327.1 bt327.2.1 bt327.2.2.1 bt327.2.2.2).bind fun bt333 => ((laws_toRollout.f k a0_0 l0_1 a0_2 a0_3).bind fun bt341 => ((impl_NextStage.f k bt341.1 bt341.2.1 bt341.2.2.1 bt341.2.2.2).bind fun bt348 => ((laws_eqRollout.f k bt348.1 bt348.2.1 bt348.2.2.1 bt348.2.2.2.1 bt333.1 bt333.2.1 bt333.2.2.1 bt333.2.2.2.1).bind fun t356 => (if t356 = true then (laws_FnExactNextStage.j0 k bt333.2.2.2.2 bt348.2.2.2.2 (bt348.2.2.2.2 != bt333.2.2.2.2) a0_0 l0_1 a0_2 a0_3 bt333.1 bt333.2.1 bt333.2.2.1 bt333.2.2.2.1 bt341.1 bt341.2.1 bt341.2.2.1 bt341.2.2.2 bt348.1 bt348.2.1 bt348.2.2.1 bt348.2.2.2.1) else (laws_FnExactNextStage.j0 k bt333.2.2.2.2 bt348.2.2.2.2 true a0_0 l0_1 a0_2 a0_3 bt333.1 bt333.2.1 bt333.2.2.1 bt333.2.2.2.1 bt341.1 bt341.2.1 bt341.2.2.1 bt341.2.2.2 bt348.1 bt348.2.1 bt348.2.2.1 bt348.2.2.2.1))))))))
theorem laws_FnExactNextStage.mono_l : ∀ k, (∀ y0 y1 y2 y3 y4 y5 y6 y7 y8 y9 y10 y11 y12 y13 y14 y15 y16 y17 y18, LeO (laws_FnExactNextStage.j0 k y0 y1 y2 y3 y4 y5 y6 y7 y8 y9 y10 y11 y12 y13 y14 y15 y16 y17 y18) (laws_FnExactNextStage.j0 (k + 1) y0 y1 y2 y3 y4 y5 y6 y7 y8 y9 y10 y11 y12 y13 y14 y15 y16 y17 y18)) ∧ (∀ y0 y1 y2 y3 y4 y5 y6 y7 y8 y9 y10 y11 y12 y13, LeO (laws_FnExactNextStage.j1 k y0 y1 y2 y3 y4 y5 y6 y7 y8 y9 y10 y11 y12 y13) (laws_FnExactNextStage.j1 (k + 1) y0 y1 y2 y3 y4 y5 y6 y7 y8 y9 y10 y11 y12 y13)) ∧ (∀ y0 y1 y2 y3 y4 y5, LeO (laws_FnExactNextStage.j2 k y0 y1 y2 y3 y4 y5) (laws_FnExactNextStage.j2 (k + 1) y0 y1 y2 y3 y4 y5))
  | 0 => ⟨fun _ _ _ _ _ _ _ _ _ _ _ _ _ _ _ _ _ _ _ r h => by simp [laws_FnExactNextStage.j0] at h, fun _ _ _ _ _ _ _ _ _ _ _ _ _ _ r h => by simp [laws_FnExactNextStage.j1] at h, fun _ _ _ _ _ _ r h => by simp [laws_FnExactNextStage.j2] at h⟩
  | k + 1 => by
    obtain ⟨ih0, ih1, ih2⟩ := laws_FnExactNextStage.mono_l k
    refine ⟨?_, ?_, ?_⟩
    · intro y0 y1 y2 y3 y4 y5 y6 y7 y8 y9 y10 y11 y12 y13 y14 y15 y16 y17 y18
      unfold laws_FnExactNextStage.j0
      repeat' first
      | (with_reducible exact ih0 _ _ _ _ _ _ _ _ _ _ _ _ _ _ _ _ _ _ _)
      | (with_reducible exact ih1 _ _ _ _ _ _ _ _ _ _ _ _ _ _)
      | (with_reducible exact ih2 _ _ _ _ _ _)
      | (with_reducible exact impl_NextStage.mono _ _ _ _ _)
      | (with_reducible exact laws_eqRollout.mono _ _ _ _ _ _ _ _ _)
      | (with_reducible exact laws_heldRollout.mono _ _ _ _ _ _)
      | (with_reducible exact laws_markRollout.mono _ _ _ _ _ _)
      | (with_reducible exact laws_toRollout.mono _ _ _ _ _)
      | (with_reducible exact spec_NextStage.mono _ _ _ _ _)
      | (with_reducible exact LeO.refl _)
      | (with_reducible exact LeO.none _)
      | (with_reducible refine LeO.ite ?_ ?_)
      | (with_reducible refine LeO.bind ?_ (fun _ => ?_))
      | exact ih0 _ _ _ _ _ _ _ _ _ _ _ _ _ _ _ _ _ _ _
      | exact ih1 _ _ _ _ _ _ _ _ _ _ _ _ _ _
      | exact ih2 _ _ _ _ _ _
      | exact impl_NextStage.mono _ _ _ _ _
      | exact laws_eqRollout.mono _ _ _ _ _ _ _ _ _
      | exact laws_heldRollout.mono _ _ _ _ _ _
      | exact laws_markRollout.mono _ _ _ _ _ _
      | exact laws_toRollout.mono _ _ _ _ _
      | exact spec_NextStage.mono _ _ _ _ _
      | exact LeO.none _
      | refine LeO.ite ?_ ?_
      | refine LeO.bind ?_ (fun _ => ?_)
    · intro y0 y1 y2 y3 y4 y5 y6 y7 y8 y9 y10 y11 y12 y13
      unfold laws_FnExactNextStage.j1
      repeat' first
      | (with_reducible exact ih0 _ _ _ _ _ _ _ _ _ _ _ _ _ _ _ _ _ _ _)
      | (with_reducible exact ih1 _ _ _ _ _ _ _ _ _ _ _ _ _ _)
      | (with_reducible exact ih2 _ _ _ _ _ _)
      | (with_reducible exact impl_NextStage.mono _ _ _ _ _)
      | (with_reducible exact laws_eqRollout.mono _ _ _ _ _ _ _ _ _)
      | (with_reducible exact laws_heldRollout.mono _ _ _ _ _ _)
      | (with_reducible exact laws_markRollout.mono _ _ _ _ _ _)
      | (with_reducible exact laws_toRollout.mono _ _ _ _ _)
      | (with_reducible exact spec_NextStage.mono _ _ _ _ _)
      | (with_reducible exact LeO.refl _)
      | (with_reducible exact LeO.none _)
      | (with_reducible refine LeO.ite ?_ ?_)
      | (with_reducible refine LeO.bind ?_ (fun _ => ?_))
      | exact ih0 _ _ _ _ _ _ _ _ _ _ _ _ _ _ _ _ _ _ _
      | exact ih1 _ _ _ _ _ _ _ _ _ _ _ _ _ _
      | exact ih2 _ _ _ _ _ _
      | exact impl_NextStage.mono _ _ _ _ _
      | exact laws_eqRollout.mono _ _ _ _ _ _ _ _ _
      | exact laws_heldRollout.mono _ _ _ _ _ _
      | exact laws_markRollout.mono _ _ _ _ _ _
      | exact laws_toRollout.mono _ _ _ _ _
      | exact spec_NextStage.mono _ _ _ _ _
      | exact LeO.none _
      | refine LeO.ite ?_ ?_
      | refine LeO.bind ?_ (fun _ => ?_)
    · intro y0 y1 y2 y3 y4 y5
      unfold laws_FnExactNextStage.j2
      repeat' first
      | (with_reducible exact ih0 _ _ _ _ _ _ _ _ _ _ _ _ _ _ _ _ _ _ _)
      | (with_reducible exact ih1 _ _ _ _ _ _ _ _ _ _ _ _ _ _)
      | (with_reducible exact ih2 _ _ _ _ _ _)
      | (with_reducible exact impl_NextStage.mono _ _ _ _ _)
      | (with_reducible exact laws_eqRollout.mono _ _ _ _ _ _ _ _ _)
      | (with_reducible exact laws_heldRollout.mono _ _ _ _ _ _)
      | (with_reducible exact laws_markRollout.mono _ _ _ _ _ _)
      | (with_reducible exact laws_toRollout.mono _ _ _ _ _)
      | (with_reducible exact spec_NextStage.mono _ _ _ _ _)
      | (with_reducible exact LeO.refl _)
      | (with_reducible exact LeO.none _)
      | (with_reducible refine LeO.ite ?_ ?_)
      | (with_reducible refine LeO.bind ?_ (fun _ => ?_))
      | exact ih0 _ _ _ _ _ _ _ _ _ _ _ _ _ _ _ _ _ _ _
      | exact ih1 _ _ _ _ _ _ _ _ _ _ _ _ _ _
      | exact ih2 _ _ _ _ _ _
      | exact impl_NextStage.mono _ _ _ _ _
      | exact laws_eqRollout.mono _ _ _ _ _ _ _ _ _
      | exact laws_heldRollout.mono _ _ _ _ _ _
      | exact laws_markRollout.mono _ _ _ _ _ _
      | exact laws_toRollout.mono _ _ _ _ _
      | exact spec_NextStage.mono _ _ _ _ _
      | exact LeO.none _
      | refine LeO.ite ?_ ?_
      | refine LeO.bind ?_ (fun _ => ?_)
theorem laws_FnExactNextStage.mono : ∀ a0 a1 a2 a3 k, LeO (laws_FnExactNextStage.f k a0 a1 a2 a3) (laws_FnExactNextStage.f (k + 1) a0 a1 a2 a3) := by
  intro a0 a1 a2 a3 k
  obtain ⟨ih0, ih1, ih2⟩ := laws_FnExactNextStage.mono_l k
  unfold laws_FnExactNextStage.f
  repeat' first
      | (with_reducible exact ih0 _ _ _ _ _ _ _ _ _ _ _ _ _ _ _ _ _ _ _)
      | (with_reducible exact ih1 _ _ _ _ _ _ _ _ _ _ _ _ _ _)
      | (with_reducible exact ih2 _ _ _ _ _ _)
      | (with_reducible exact impl_NextStage.mono _ _ _ _ _)
      | (with_reducible exact laws_eqRollout.mono _ _ _ _ _ _ _ _ _)
      | (with_reducible exact laws_heldRollout.mono _ _ _ _ _ _)
      | (with_reducible exact laws_markRollout.mono _ _ _ _ _ _)
      | (with_reducible exact laws_toRollout.mono _ _ _ _ _)
      | (with_reducible exact spec_NextStage.mono _ _ _ _ _)
      | (with_reducible exact LeO.refl _)
      | (with_reducible exact LeO.none _)
      | (with_reducible refine LeO.ite ?_ ?_)
      | (with_reducible refine LeO.bind ?_ (fun _ => ?_))
      | exact ih0 _ _ _ _ _ _ _ _ _ _ _ _ _ _ _ _ _ _ _
      | exact ih1 _ _ _ _ _ _ _ _ _ _ _ _ _ _
      | exact ih2 _ _ _ _ _ _
      | exact impl_NextStage.mono _ _ _ _ _
      | exact laws_eqRollout.mono _ _ _ _ _ _ _ _ _
      | exact laws_heldRollout.mono _ _ _ _ _ _
      | exact laws_markRollout.mono _ _ _ _ _ _
      | exact laws_toRollout.mono _ _ _ _ _
      | exact spec_NextStage.mono _ _ _ _ _
      | exact LeO.none _
      | refine LeO.ite ?_ ?_
      | refine LeO.bind ?_ (fun _ => ?_)
set_option maxHeartbeats 8000000 in
set_option maxRecDepth 100000 in
theorem laws_FnExactNextStage.calls (k : Nat) (a0_0 : Int) (A0_1 : Option Addr) (c0_1 : Nat) (l0_1 : List Int) (a0_2 : Int) (a0_3 : Bool) (r : Bool) (w : World) (hr0_1 : Kd.C (Kd.int .i64) w A0_1 l0_1.length l0_1) (hc0_1 : l0_1.length ≤ c0_1) (h : laws_FnExactNextStage.f k a0_0 l0_1 a0_2 a0_3 = some r) :
    Calls Try.prog 7 #[.agg #[.int .i64 a0_0, .slice A0_1 l0_1.length c0_1, .int .i64 a0_2, .bool a0_3]] w fun e w' => e = .returned (.bool r) ∧ Below w.heap.size w w' := by
  have hu24 := Try.underlying24
  have hu27 := Try.underlying27
  have HR0_1 := Aside0.mk hr0_1
  have HC0_1 := Aside0.mk hc0_1
  clear hr0_1 hc0_1
  have HB := Aside0.mk (Below.refl w.heap.size w)
  have H : ((laws_szRollout.f a0_0 l0_1 a0_2 a0_3 1048576).bind fun t326 => (if t326 < 0 then (some true) else ((laws_toRollout.f k a0_0 l0_1 a0_2 a0_3).bind fun bt327 => ((spec_NextStage.f k bt327.1 bt327.2.1 bt327.2.2.1 bt327.2.2.2).bind fun bt333 => ((laws_toRollout.f k a0_0 l0_1 a0_2 a0_3).bind fun bt341 => ((impl_NextStage.f k bt341.1 bt341.2.1 bt341.2.2.1 bt341.2.2.2).bind fun bt348 => ((laws_eqRollout.f k bt348.1 bt348.2.1 bt348.2.2.1 bt348.2.2.2.1 bt333.1 bt333.2.1 bt333.2.2.1 bt333.2.2.2.1).bind fun t356 => (if t356 = true then (laws_FnExactNextStage.j0 k bt333.2.2.2.2 bt348.2.2.2.2 (bt348.2.2.2.2 != bt333.2.2.2.2) a0_0 l0_1 a0_2 a0_3 bt333.1 bt333.2.1 bt333.2.2.1 bt333.2.2.2.1 bt341.1 bt341.2.1 bt341.2.2.1 bt341.2.2.2 bt348.1 bt348.2.1 bt348.2.2.1 bt348.2.2.2.1) else (laws_FnExactNextStage.j0 k bt333.2.2.2.2 bt348.2.2.2.2 true a0_0 l0_1 a0_2 a0_3 bt333.1 bt333.2.1 bt333.2.2.1 bt333.2.2.2.1 bt341.1 bt341.2.1 bt341.2.2.1 bt341.2.2.2 bt348.1 bt348.2.1 bt348.2.2.1 bt348.2.2.2.1))))))))) = some r := h
  clear h
  have HS_ := Aside0.mk H
  clear H
  go_enter Try.func7, Try.ntmps7
  go_upto_region 2 with (first | ((with_reducible refine gate_dst (N := 1) rfl ?_); refine box_event ?hg (N := 1) ?hd (cs := #[.int .i64 a0_0, .slice A0_1 l0_1.length c0_1, .int .i64 a0_2, .bool a0_3]) (t := 24) ?hr ?_; (case hd => rfl); (case hg => rfl); (case hr => first | (go_simp; done) | (go_simp; rfl)); intro gb325 hg w2 hbox hb; have n0_ := Aside0.mk (below_step (by repeat (first | (with_reducible first | exact HB.out | apply below_alloc | apply pw_below_drewN | apply below_drew1) | exact HB.out)) hb); have n1_ := Aside0.mk (hbox); have n2_ := Aside0.mk ((by rw [hg]; exact (below_size (by repeat (first | (with_reducible first | exact HB.out | apply below_alloc | apply pw_below_drewN | apply below_drew1) | exact HB.out))) : w.heap.size ≤ gb325)); have n3_ := Aside0.mk ((by rw [hg]; exact (below_size (by repeat (first | (with_reducible first | exact HB.out | apply below_alloc | apply pw_below_drewN | apply below_drew1) | exact HB.out))) : w.heap.size ≤ gb325)); clear HB; have HB := n0_; have BK325 := n1_; have GW325 := n2_; have GE325 := n3_; clear n0_ n1_ n2_ n3_; clear hb hbox hg))
  (try simp only [Act.put, List.setIfInBounds_toArray, List.set_cons_zero, List.set_cons_succ])
  have H := HS_.out
  clear HS_
  replace H := Option.bind_eq_some_iff.mp H
  obtain ⟨t326, A30, H⟩ := H
  replace H : (if t326 < 0 then (some true) else ((laws_toRollout.f k a0_0 l0_1 a0_2 a0_3).bind fun bt327 => ((spec_NextStage.f k bt327.1 bt327.2.1 bt327.2.2.1 bt327.2.2.2).bind fun bt333 => ((laws_toRollout.f k a0_0 l0_1 a0_2 a0_3).bind fun bt341 => ((impl_NextStage.f k bt341.1 bt341.2.1 bt341.2.2.1 bt341.2.2.2).bind fun bt348 => ((laws_eqRollout.f k bt348.1 bt348.2.1 bt348.2.2.1 bt348.2.2.2.1 bt333.1 bt333.2.1 bt333.2.2.1 bt333.2.2.2.1).bind fun t356 => (if t356 = true then (laws_FnExactNextStage.j0 k bt333.2.2.2.2 bt348.2.2.2.2 (bt348.2.2.2.2 != bt333.2.2.2.2) a0_0 l0_1 a0_2 a0_3 bt333.1 bt333.2.1 bt333.2.2.1 bt333.2.2.2.1 bt341.1 bt341.2.1 bt341.2.2.1 bt341.2.2.2 bt348.1 bt348.2.1 bt348.2.2.1 bt348.2.2.2.1) else (laws_FnExactNextStage.j0 k bt333.2.2.2.2 bt348.2.2.2.2 true a0_0 l0_1 a0_2 a0_3 bt333.1 bt333.2.1 bt333.2.2.1 bt333.2.2.2.1 bt341.1 bt341.2.1 bt341.2.2.1 bt341.2.2.2 bt348.1 bt348.2.1 bt348.2.2.1 bt348.2.2.2.1)))))))) = some r := H
  have A3 := Aside0.mk A30
  clear A30
  have HS_ := Aside0.mk H
  clear H
  have hcz4_0 : w2.cell? ⟨gb325, 0, none⟩ = some (.int .i64 a0_0) := (blk_cell BK325.out 0).trans rfl
  have hcz4_1 : w2.cell? ⟨gb325, 1, none⟩ = some (.slice A0_1 l0_1.length c0_1) := (blk_cell BK325.out 1).trans rfl
  have hcz4_2 : w2.cell? ⟨gb325, 2, none⟩ = some (.int .i64 a0_2) := (blk_cell BK325.out 2).trans rfl
  have hcz4_3 : w2.cell? ⟨gb325, 3, none⟩ = some (.bool a0_3) := (blk_cell BK325.out 3).trans rfl
  have hfz4_0 := blk_frozen BK325.out 0
  have hfz4_1 := blk_frozen BK325.out 1
  have hfz4_2 := blk_frozen BK325.out 2
  have hfz4_3 := blk_frozen BK325.out 3
  go_upto_if 18 with (first | ((with_reducible refine gate_callee (f := 15) rfl ?_); refine goesL_ (some 16) rfl rfl Try.func15 (by kernel_rfl) rfl #[.agg #[.int .i64 a0_0, .slice A0_1 l0_1.length c0_1, .int .i64 a0_2, .bool a0_3], .int .i64 1048576] rfl (by (try simp only [List.map_toArray, List.map_cons, List.map_nil]); first | done | rfl | (simp only [List.length_drop, List.length_take]; rfl)) ?_; (with_reducible refine (laws_szRollout.calls a0_0 _ _ l0_1 a0_2 a0_3 1048576 t326 _ ?side1 ?side2 A3.out).mono ?_); (case side1 => repeat (first | exact (Kd.C_below HR0_1.out HB.out) | (with_reducible refine Kd.C_alloc ?_ _) | (with_reducible refine Kd.C_drewN ?_ _) | (with_reducible refine Kd.C_drew ?_))); (case side2 => exact HC0_1.out); rintro e w5 ⟨rfl, hb⟩; refine ⟨_, rfl, ?_⟩; have n0_ := Aside0.mk (blk_below (g := gb325) (o := .cells #[.int .i64 a0_0, .slice A0_1 l0_1.length c0_1, .int .i64 a0_2, .bool a0_3] 24 (0, 0)) (by (with_reducible repeat (first | refine blk_drewN ?_ _ | refine blk_drew ?_ | refine blk_alloc ?_ _)); exact BK325.out) hb); have n1_ := Aside0.mk (below_step (by repeat (first | (with_reducible first | exact HB.out | apply below_alloc | apply pw_below_drewN | apply below_drew1 | refine below_set ?_ GE325.out) | exact HB.out)) hb); clear BK325; clear HB; have BK325 := n0_; have HB := n1_; clear n0_ n1_; (try clear hb); (try clear hb2); (try clear hk); (try clear hi)))
  (try simp only [Act.put, List.setIfInBounds_toArray, List.set_cons_zero, List.set_cons_succ])
  have H := HS_.out
  clear HS_
  by_cases c6 : t326 < 0
  · rw [if_pos c6] at H
    have c6b0 : decide (t326 < 0) = true := decide_eq_true c6
    clear c6
    (first | rw [c6b0] | (simp only [i64_w, i32_w]; rw [c6b0]) | skip)
    obtain rfl := Option.some.inj H
    go_wp2
    go_ret
    exact ⟨by first | rfl | (simp [errW_none, errW_some] <;> rfl) | (simp [*, errW_none, errW_some] <;> rfl), by repeat (first | (with_reducible first | exact HB.out | apply below_alloc | apply pw_below_drewN | apply below_drew1 | refine below_set ?_ GE325.out) | exact HB.out)⟩
  rw [if_neg c6] at H
  have c6b0 : decide (t326 < 0) = false := decide_eq_false c6
  clear c6
  (first | rw [c6b0] | (simp only [i64_w, i32_w]; rw [c6b0]) | skip)
  replace H := Option.bind_eq_some_iff.mp H
  obtain ⟨⟨t327, t328, t331, t332⟩, A70, H⟩ := H
  replace H : ((spec_NextStage.f k t327 t328 t331 t332).bind fun bt333 => ((laws_toRollout.f k a0_0 l0_1 a0_2 a0_3).bind fun bt341 => ((impl_NextStage.f k bt341.1 bt341.2.1 bt341.2.2.1 bt341.2.2.2).bind fun bt348 => ((laws_eqRollout.f k bt348.1 bt348.2.1 bt348.2.2.1 bt348.2.2.2.1 bt333.1 bt333.2.1 bt333.2.2.1 bt333.2.2.2.1).bind fun t356 => (if t356 = true then (laws_FnExactNextStage.j0 k bt333.2.2.2.2 bt348.2.2.2.2 (bt348.2.2.2.2 != bt333.2.2.2.2) a0_0 l0_1 a0_2 a0_3 bt333.1 bt333.2.1 bt333.2.2.1 bt333.2.2.2.1 bt341.1 bt341.2.1 bt341.2.2.1 bt341.2.2.2 bt348.1 bt348.2.1 bt348.2.2.1 bt348.2.2.2.1) else (laws_FnExactNextStage.j0 k bt333.2.2.2.2 bt348.2.2.2.2 true a0_0 l0_1 a0_2 a0_3 bt333.1 bt333.2.1 bt333.2.2.1 bt333.2.2.2.1 bt341.1 bt341.2.1 bt341.2.2.1 bt341.2.2.2 bt348.1 bt348.2.1 bt348.2.2.1 bt348.2.2.2.1)))))) = some r := H
  have A7 := Aside0.mk A70
  clear A70
  replace H := Option.bind_eq_some_iff.mp H
  obtain ⟨⟨t333, t334, t337, t338, t339⟩, A80, H⟩ := H
  replace H : ((laws_toRollout.f k a0_0 l0_1 a0_2 a0_3).bind fun bt341 => ((impl_NextStage.f k bt341.1 bt341.2.1 bt341.2.2.1 bt341.2.2.2).bind fun bt348 => ((laws_eqRollout.f k bt348.1 bt348.2.1 bt348.2.2.1 bt348.2.2.2.1 t333 t334 t337 t338).bind fun t356 => (if t356 = true then (laws_FnExactNextStage.j0 k t339 bt348.2.2.2.2 (bt348.2.2.2.2 != t339) a0_0 l0_1 a0_2 a0_3 t333 t334 t337 t338 bt341.1 bt341.2.1 bt341.2.2.1 bt341.2.2.2 bt348.1 bt348.2.1 bt348.2.2.1 bt348.2.2.2.1) else (laws_FnExactNextStage.j0 k t339 bt348.2.2.2.2 true a0_0 l0_1 a0_2 a0_3 t333 t334 t337 t338 bt341.1 bt341.2.1 bt341.2.2.1 bt341.2.2.2 bt348.1 bt348.2.1 bt348.2.2.1 bt348.2.2.2.1))))) = some r := H
  have A8 := Aside0.mk A80
  clear A80
  replace H := Option.bind_eq_some_iff.mp H
  obtain ⟨⟨t341, t342, t345, t346⟩, A90, H⟩ := H
  replace H : ((impl_NextStage.f k t341 t342 t345 t346).bind fun bt348 => ((laws_eqRollout.f k bt348.1 bt348.2.1 bt348.2.2.1 bt348.2.2.2.1 t333 t334 t337 t338).bind fun t356 => (if t356 = true then (laws_FnExactNextStage.j0 k t339 bt348.2.2.2.2 (bt348.2.2.2.2 != t339) a0_0 l0_1 a0_2 a0_3 t333 t334 t337 t338 t341 t342 t345 t346 bt348.1 bt348.2.1 bt348.2.2.1 bt348.2.2.2.1) else (laws_FnExactNextStage.j0 k t339 bt348.2.2.2.2 true a0_0 l0_1 a0_2 a0_3 t333 t334 t337 t338 t341 t342 t345 t346 bt348.1 bt348.2.1 bt348.2.2.1 bt348.2.2.2.1)))) = some r := H
  have A9 := Aside0.mk A90
  clear A90
  replace H := Option.bind_eq_some_iff.mp H
  obtain ⟨⟨t348, t349, t352, t353, t354⟩, A100, H⟩ := H
  replace H : ((laws_eqRollout.f k t348 t349 t352 t353 t333 t334 t337 t338).bind fun t356 => (if t356 = true then (laws_FnExactNextStage.j0 k t339 t354 (t354 != t339) a0_0 l0_1 a0_2 a0_3 t333 t334 t337 t338 t341 t342 t345 t346 t348 t349 t352 t353) else (laws_FnExactNextStage.j0 k t339 t354 true a0_0 l0_1 a0_2 a0_3 t333 t334 t337 t338 t341 t342 t345 t346 t348 t349 t352 t353))) = some r := H
  have A10 := Aside0.mk A100
  clear A100
  have HC11 := Aside0.mk H
  clear H
  have hcz12_0 : w5.cell? ⟨gb325, 0, none⟩ = some (.int .i64 a0_0) := (blk_cell BK325.out 0).trans rfl
  have hcz12_1 : w5.cell? ⟨gb325, 1, none⟩ = some (.slice A0_1 l0_1.length c0_1) := (blk_cell BK325.out 1).trans rfl
  have hcz12_2 : w5.cell? ⟨gb325, 2, none⟩ = some (.int .i64 a0_2) := (blk_cell BK325.out 2).trans rfl
  have hcz12_3 : w5.cell? ⟨gb325, 3, none⟩ = some (.bool a0_3) := (blk_cell BK325.out 3).trans rfl
  have hfz12_0 := blk_frozen BK325.out 0
  have hfz12_1 := blk_frozen BK325.out 1
  have hfz12_2 := blk_frozen BK325.out 2
  have hfz12_3 := blk_frozen BK325.out 3
  go_upto_region 8 with (first | ((with_reducible refine gate_callee (f := 17) rfl ?_); refine goesL_ (some 21) rfl rfl Try.func17 (by kernel_rfl) rfl #[.agg #[.int .i64 a0_0, .slice A0_1 l0_1.length c0_1, .int .i64 a0_2, .bool a0_3]] rfl (by (try simp only [List.map_toArray, List.map_cons, List.map_nil]); first | done | rfl | (simp only [List.length_drop, List.length_take]; rfl)) ?_; (with_reducible refine (laws_toRollout.calls k a0_0 _ _ l0_1 a0_2 a0_3 t327 t328 t331 t332 _ ?side1 ?side2 A7.out).mono ?_); (case side1 => repeat (first | exact (Kd.C_below HR0_1.out HB.out) | (with_reducible refine Kd.C_alloc ?_ _) | (with_reducible refine Kd.C_drewN ?_ _) | (with_reducible refine Kd.C_drew ?_))); (case side2 => exact HC0_1.out); rintro e w13 ⟨v329, rfl, ho0, hb⟩; refine ⟨_, rfl, ?_⟩; have n0_ := Aside0.mk (Kd.R_lower ho0 (below_size (by repeat (first | (with_reducible first | exact HB.out | apply below_alloc | apply pw_below_drewN | apply below_drew1 | refine below_set ?_ GE325.out) | exact HB.out)))); have n1_ := Aside0.mk (blk_below (g := gb325) (o := .cells #[.int .i64 a0_0, .slice A0_1 l0_1.length c0_1, .int .i64 a0_2, .bool a0_3] 24 (0, 0)) (by (with_reducible repeat (first | refine blk_drewN ?_ _ | refine blk_drew ?_ | refine blk_alloc ?_ _)); exact BK325.out) hb); have n2_ := Aside0.mk (below_step (by repeat (first | (with_reducible first | exact HB.out | apply below_alloc | apply pw_below_drewN | apply below_drew1 | refine below_set ?_ GE325.out) | exact HB.out)) hb); clear BK325; clear HB; have HO330 := n0_; have BK325 := n1_; have HB := n2_; clear n0_ n1_ n2_; (try clear hb); (try clear hb2); (try clear hk); (try clear hi); (try clear ho0); obtain ⟨Ao14, co14, eo14⟩ := Kd.R_slice HO330.out; subst eo14) | ((with_reducible refine gate_callee (f := 26) rfl ?_); refine goesL_ (some 22) rfl rfl Try.func26 (by kernel_rfl) rfl #[.agg #[.int .i64 t327, .slice Ao14 t328.length co14, .int .i64 t331, .bool t332]] rfl (by (try simp only [List.map_toArray, List.map_cons, List.map_nil]); first | done | rfl | (simp only [List.length_drop, List.length_take]; rfl)) ?_; (with_reducible refine (spec_NextStage.calls k t327 _ _ t328 t331 t332 t333 t334 t337 t338 t339 _ ?side1 ?side2 A8.out).mono ?_); (case side1 => repeat (first | exact (Kd.R_reads' HO330.out).2.2 | (with_reducible refine Kd.C_alloc ?_ _) | (with_reducible refine Kd.C_drewN ?_ _) | (with_reducible refine Kd.C_drew ?_))); (case side2 => exact (Kd.R_reads' HO330.out).2.1); rintro e w15 ⟨v335, rfl, ho0, hb⟩; refine ⟨_, rfl, ?_⟩; have n0_ := Aside0.mk (Kd.R_elder' (by (with_reducible repeat (first | apply Kd.R_alloc | apply Kd.R_drewN | apply Kd.R_drew)); exact HO330.out) (Kd.R_base ho0) hb); have n1_ := Aside0.mk (Kd.R_lower (Kd.R_new' ho0 (Kd.R_lt (by (with_reducible repeat (first | apply Kd.R_alloc | apply Kd.R_drewN | apply Kd.R_drew)); exact HO330.out))) (below_size (by repeat (first | (with_reducible first | exact HB.out | apply below_alloc | apply pw_below_drewN | apply below_drew1 | refine below_set ?_ GE325.out) | exact HB.out)))); have n2_ := Aside0.mk (blk_below (g := gb325) (o := .cells #[.int .i64 a0_0, .slice A0_1 l0_1.length c0_1, .int .i64 a0_2, .bool a0_3] 24 (0, 0)) (by (with_reducible repeat (first | refine blk_drewN ?_ _ | refine blk_drew ?_ | refine blk_alloc ?_ _)); exact BK325.out) hb); have n3_ := Aside0.mk (below_step (by repeat (first | (with_reducible first | exact HB.out | apply below_alloc | apply pw_below_drewN | apply below_drew1 | refine below_set ?_ GE325.out) | exact HB.out)) hb); clear HO330; clear BK325; clear HB; have HO330 := n0_; have HO336 := n1_; have BK325 := n2_; have HB := n3_; clear n0_ n1_ n2_ n3_; (try clear hb); (try clear hb2); (try clear hk); (try clear hi); (try clear ho0)) | ((with_reducible refine gate_dst (N := 4) rfl ?_); refine box_event ?hg (N := 4) ?hd (cs := #[.int .i64 0, .slice none 0 0, .int .i64 0, .bool false]) (t := 27) ?hr ?_; (case hd => rfl); (case hg => rfl); (case hr => first | (go_simp; done) | (go_simp; rfl)); intro gb340 hg w16 hbox hb; have n0_ := Aside0.mk (Kd.R_below (by (with_reducible repeat (first | apply Kd.R_alloc | apply Kd.R_drewN | apply Kd.R_drew)); exact HO330.out) hb); have n1_ := Aside0.mk (Kd.R_below (by (with_reducible repeat (first | apply Kd.R_alloc | apply Kd.R_drewN | apply Kd.R_drew)); exact HO336.out) hb); have n2_ := Aside0.mk (blk_below (g := gb325) (o := .cells #[.int .i64 a0_0, .slice A0_1 l0_1.length c0_1, .int .i64 a0_2, .bool a0_3] 24 (0, 0)) (by (with_reducible repeat (first | refine blk_drewN ?_ _ | refine blk_drew ?_ | refine blk_alloc ?_ _)); exact BK325.out) hb); have n3_ := Aside0.mk (below_step (by repeat (first | (with_reducible first | exact HB.out | apply below_alloc | apply pw_below_drewN | apply below_drew1 | refine below_set ?_ GE325.out) | exact HB.out)) hb); have n4_ := Aside0.mk (hbox); have n5_ := Aside0.mk ((by rw [hg]; exact (below_size (by repeat (first | (with_reducible first | exact HB.out | apply below_alloc | apply pw_below_drewN | apply below_drew1 | refine below_set ?_ GE325.out) | exact HB.out))) : w.heap.size ≤ gb340)); have n6_ := Aside0.mk ((by rw [hg]; exact (below_size (by repeat (first | (with_reducible first | exact HB.out | apply below_alloc | apply pw_below_drewN | apply below_drew1 | refine below_set ?_ GE325.out) | exact HB.out))) : w.heap.size ≤ gb340)); have n7_ := Aside0.mk ((by rw [hg]; exact Nat.ne_of_lt (blk_lt (g := gb325) (o := .cells #[.int .i64 a0_0, .slice A0_1 l0_1.length c0_1, .int .i64 a0_2, .bool a0_3] 24 (0, 0)) (by (with_reducible repeat (first | refine blk_drewN ?_ _ | refine blk_drew ?_ | refine blk_alloc ?_ _)); exact BK325.out)) : gb325 ≠ gb340)); have n8_ := Aside0.mk ((by rw [hg]; exact Nat.ne_of_gt (blk_lt (g := gb325) (o := .cells #[.int .i64 a0_0, .slice A0_1 l0_1.length c0_1, .int .i64 a0_2, .bool a0_3] 24 (0, 0)) (by (with_reducible repeat (first | refine blk_drewN ?_ _ | refine blk_drew ?_ | refine blk_alloc ?_ _)); exact BK325.out)) : gb340 ≠ gb325)); clear HO330; clear HO336; clear BK325; clear HB; have HO330 := n0_; have HO336 := n1_; have BK325 := n2_; have HB := n3_; have BK340 := n4_; have GW340 := n5_; have GE340 := n6_; have NB325_340 := n7_; have NB340_325 := n8_; clear n0_ n1_ n2_ n3_ n4_ n5_ n6_ n7_ n8_; clear hb hbox hg; have hnb17 := NB340_325.out; have hnc17 := NB325_340.out; have hcz18_0 : w16.cell? ⟨gb340, 0, none⟩ = some (.int .i64 0) := (blk_cell BK340.out 0).trans rfl; have hcz18_1 : w16.cell? ⟨gb340, 1, none⟩ = some (.slice none 0 0) := (blk_cell BK340.out 1).trans rfl; have hcz18_2 : w16.cell? ⟨gb340, 2, none⟩ = some (.int .i64 0) := (blk_cell BK340.out 2).trans rfl; have hcz18_3 : w16.cell? ⟨gb340, 3, none⟩ = some (.bool false) := (blk_cell BK340.out 3).trans rfl; have hfz18_0 := blk_frozen BK340.out 0; have hfz18_1 := blk_frozen BK340.out 1; have hfz18_2 := blk_frozen BK340.out 2; have hfz18_3 := blk_frozen BK340.out 3; obtain ⟨Ao19, co19, eo19⟩ := Kd.R_slice HO336.out; subst eo19; have hcz20_0 : w16.cell? ⟨gb325, 0, none⟩ = some (.int .i64 a0_0) := (blk_cell BK325.out 0).trans rfl; have hcz20_1 : w16.cell? ⟨gb325, 1, none⟩ = some (.slice A0_1 l0_1.length c0_1) := (blk_cell BK325.out 1).trans rfl; have hcz20_2 : w16.cell? ⟨gb325, 2, none⟩ = some (.int .i64 a0_2) := (blk_cell BK325.out 2).trans rfl; have hcz20_3 : w16.cell? ⟨gb325, 3, none⟩ = some (.bool a0_3) := (blk_cell BK325.out 3).trans rfl; have hfz20_0 := blk_frozen BK325.out 0; have hfz20_1 := blk_frozen BK325.out 1; have hfz20_2 := blk_frozen BK325.out 2; have hfz20_3 := blk_frozen BK325.out 3) | ((with_reducible refine gate_callee (f := 17) rfl ?_); refine goesL_ (some 26) rfl rfl Try.func17 (by kernel_rfl) rfl #[.agg #[.int .i64 a0_0, .slice A0_1 l0_1.length c0_1, .int .i64 a0_2, .bool a0_3]] rfl (by (try simp only [List.map_toArray, List.map_cons, List.map_nil]); first | done | rfl | (simp only [List.length_drop, List.length_take]; rfl)) ?_; (with_reducible refine (laws_toRollout.calls k a0_0 _ _ l0_1 a0_2 a0_3 t341 t342 t345 t346 _ ?side1 ?side2 A9.out).mono ?_); (case side1 => exact Kd.C_below HR0_1.out (by repeat (first | (with_reducible first | exact HB.out | apply below_alloc | apply pw_below_drewN | apply below_drew1 | refine below_set ?_ GE325.out | refine below_set ?_ GE340.out) | exact HB.out))); (case side2 => exact HC0_1.out); rintro e w21 ⟨v343, rfl, ho0, hb⟩; refine ⟨_, rfl, ?_⟩; have n0_ := Aside0.mk (Kd.R_elder' (by (with_reducible repeat (first | apply Kd.R_alloc | apply Kd.R_drewN | apply Kd.R_drew)); exact (Kd.R_mono (Kd.R_far (p := ⟨gb340, 3, none⟩) (Kd.R_far (p := ⟨gb340, 2, none⟩) (Kd.R_far (p := ⟨gb340, 1, none⟩) (Kd.R_far (p := ⟨gb340, 0, none⟩) (Kd.R_types HO330.out BK340.out (by decide)) (fun _ hk => hk.2) (.int .i64 t333)) (fun _ hk => hk.2) (.slice Ao19 t334.length co19)) (fun _ hk => hk.2) (.int .i64 t337)) (fun _ hk => hk.2) (.bool t338)) (fun _ h_ => h_.1))) (Kd.R_base ho0) hb); have n1_ := Aside0.mk (Kd.R_elder' (by (with_reducible repeat (first | apply Kd.R_alloc | apply Kd.R_drewN | apply Kd.R_drew)); exact (Kd.R_mono (Kd.R_far (p := ⟨gb340, 3, none⟩) (Kd.R_far (p := ⟨gb340, 2, none⟩) (Kd.R_far (p := ⟨gb340, 1, none⟩) (Kd.R_far (p := ⟨gb340, 0, none⟩) (Kd.R_types HO336.out BK340.out (by decide)) (fun _ hk => hk.2) (.int .i64 t333)) (fun _ hk => hk.2) (.slice Ao19 t334.length co19)) (fun _ hk => hk.2) (.int .i64 t337)) (fun _ hk => hk.2) (.bool t338)) (fun _ h_ => h_.1))) (Kd.R_base ho0) hb); have n2_ := Aside0.mk (Kd.R_lower (Kd.R_new' (Kd.R_new' ho0 (Kd.R_lt (by (with_reducible repeat (first | apply Kd.R_alloc | apply Kd.R_drewN | apply Kd.R_drew)); exact (Kd.R_mono (Kd.R_far (p := ⟨gb340, 3, none⟩) (Kd.R_far (p := ⟨gb340, 2, none⟩) (Kd.R_far (p := ⟨gb340, 1, none⟩) (Kd.R_far (p := ⟨gb340, 0, none⟩) (Kd.R_types HO330.out BK340.out (by decide)) (fun _ hk => hk.2) (.int .i64 t333)) (fun _ hk => hk.2) (.slice Ao19 t334.length co19)) (fun _ hk => hk.2) (.int .i64 t337)) (fun _ hk => hk.2) (.bool t338)) (fun _ h_ => h_.1))))) (Kd.R_lt (by (with_reducible repeat (first | apply Kd.R_alloc | apply Kd.R_drewN | apply Kd.R_drew)); exact (Kd.R_mono (Kd.R_far (p := ⟨gb340, 3, none⟩) (Kd.R_far (p := ⟨gb340, 2, none⟩) (Kd.R_far (p := ⟨gb340, 1, none⟩) (Kd.R_far (p := ⟨gb340, 0, none⟩) (Kd.R_types HO336.out BK340.out (by decide)) (fun _ hk => hk.2) (.int .i64 t333)) (fun _ hk => hk.2) (.slice Ao19 t334.length co19)) (fun _ hk => hk.2) (.int .i64 t337)) (fun _ hk => hk.2) (.bool t338)) (fun _ h_ => h_.1))))) (below_size (by repeat (first | (with_reducible first | exact HB.out | apply below_alloc | apply pw_below_drewN | apply below_drew1 | refine below_set ?_ GE325.out | refine below_set ?_ GE340.out) | exact HB.out)))); have n3_ := Aside0.mk (blk_below (g := gb325) (o := .cells #[.int .i64 a0_0, .slice A0_1 l0_1.length c0_1, .int .i64 a0_2, .bool a0_3] 24 (0, 0)) (by (with_reducible repeat (first | refine blk_drewN ?_ _ | refine blk_drew ?_ | refine blk_alloc ?_ _)); refine blk_far ?_ NB325_340.out _; (with_reducible repeat (first | refine blk_drewN ?_ _ | refine blk_drew ?_ | refine blk_alloc ?_ _)); refine blk_far ?_ NB325_340.out _; (with_reducible repeat (first | refine blk_drewN ?_ _ | refine blk_drew ?_ | refine blk_alloc ?_ _)); refine blk_far ?_ NB325_340.out _; (with_reducible repeat (first | refine blk_drewN ?_ _ | refine blk_drew ?_ | refine blk_alloc ?_ _)); refine blk_far ?_ NB325_340.out _; (with_reducible repeat (first | refine blk_drewN ?_ _ | refine blk_drew ?_ | refine blk_alloc ?_ _)); exact BK325.out) hb); have n4_ := Aside0.mk (blk_below (g := gb340) (o := .cells #[.int .i64 t333, .slice Ao19 t334.length co19, .int .i64 t337, .bool t338] 27 (0, 0)) (by (with_reducible repeat (first | refine blk_drewN ?_ _ | refine blk_drew ?_ | refine blk_alloc ?_ _)); refine blk_put (cs := #[.int .i64 t333, .slice Ao19 t334.length co19, .int .i64 t337, .bool false]) ?_ 3 _ rfl; (with_reducible repeat (first | refine blk_drewN ?_ _ | refine blk_drew ?_ | refine blk_alloc ?_ _)); refine blk_put (cs := #[.int .i64 t333, .slice Ao19 t334.length co19, .int .i64 0, .bool false]) ?_ 2 _ rfl; (with_reducible repeat (first | refine blk_drewN ?_ _ | refine blk_drew ?_ | refine blk_alloc ?_ _)); refine blk_put (cs := #[.int .i64 t333, .slice none 0 0, .int .i64 0, .bool false]) ?_ 1 _ rfl; (with_reducible repeat (first | refine blk_drewN ?_ _ | refine blk_drew ?_ | refine blk_alloc ?_ _)); refine blk_put (cs := #[.int .i64 0, .slice none 0 0, .int .i64 0, .bool false]) ?_ 0 _ rfl; (with_reducible repeat (first | refine blk_drewN ?_ _ | refine blk_drew ?_ | refine blk_alloc ?_ _)); exact BK340.out) hb); have n5_ := Aside0.mk (below_step (by repeat (first | (with_reducible first | exact HB.out | apply below_alloc | apply pw_below_drewN | apply below_drew1 | refine below_set ?_ GE325.out | refine below_set ?_ GE340.out) | exact HB.out)) hb); clear HO330; clear HO336; clear BK325; clear BK340; clear HB; have HO330 := n0_; have HO336 := n1_; have HO344 := n2_; have BK325 := n3_; have BK340 := n4_; have HB := n5_; clear n0_ n1_ n2_ n3_ n4_ n5_; (try clear hb); (try clear hb2); (try clear hk); (try clear hi); (try clear ho0)) | ((with_reducible refine gate_dst (N := 6) rfl ?_); refine box_event ?hg (N := 6) ?hd (cs := #[.int .i64 0, .slice none 0 0, .int .i64 0, .bool false]) (t := 27) ?hr ?_; (case hd => rfl); (case hg => rfl); (case hr => first | (go_simp; done) | (go_simp; rfl)); intro gb347 hg w22 hbox hb; have n0_ := Aside0.mk (Kd.R_below (by (with_reducible repeat (first | apply Kd.R_alloc | apply Kd.R_drewN | apply Kd.R_drew)); exact HO330.out) hb); have n1_ := Aside0.mk (Kd.R_below (by (with_reducible repeat (first | apply Kd.R_alloc | apply Kd.R_drewN | apply Kd.R_drew)); exact HO336.out) hb); have n2_ := Aside0.mk (Kd.R_below (by (with_reducible repeat (first | apply Kd.R_alloc | apply Kd.R_drewN | apply Kd.R_drew)); exact HO344.out) hb); have n3_ := Aside0.mk (blk_below (g := gb325) (o := .cells #[.int .i64 a0_0, .slice A0_1 l0_1.length c0_1, .int .i64 a0_2, .bool a0_3] 24 (0, 0)) (by (with_reducible repeat (first | refine blk_drewN ?_ _ | refine blk_drew ?_ | refine blk_alloc ?_ _)); exact BK325.out) hb); have n4_ := Aside0.mk (blk_below (g := gb340) (o := .cells #[.int .i64 t333, .slice Ao19 t334.length co19, .int .i64 t337, .bool t338] 27 (0, 0)) (by (with_reducible repeat (first | refine blk_drewN ?_ _ | refine blk_drew ?_ | refine blk_alloc ?_ _)); exact BK340.out) hb); have n5_ := Aside0.mk (below_step (by repeat (first | (with_reducible first | exact HB.out | apply below_alloc | apply pw_below_drewN | apply below_drew1 | refine below_set ?_ GE325.out | refine below_set ?_ GE340.out) | exact HB.out)) hb); have n6_ := Aside0.mk (hbox); have n7_ := Aside0.mk ((by rw [hg]; exact (below_size (by repeat (first | (with_reducible first | exact HB.out | apply below_alloc | apply pw_below_drewN | apply below_drew1 | refine below_set ?_ GE325.out | refine below_set ?_ GE340.out) | exact HB.out))) : w.heap.size ≤ gb347)); have n8_ := Aside0.mk ((by rw [hg]; exact (below_size (by repeat (first | (with_reducible first | exact HB.out | apply below_alloc | apply pw_below_drewN | apply below_drew1 | refine below_set ?_ GE325.out | refine below_set ?_ GE340.out) | exact HB.out))) : w.heap.size ≤ gb347)); have n9_ := Aside0.mk ((by rw [hg]; exact Nat.ne_of_lt (blk_lt (g := gb325) (o := .cells #[.int .i64 a0_0, .slice A0_1 l0_1.length c0_1, .int .i64 a0_2, .bool a0_3] 24 (0, 0)) (by (with_reducible repeat (first | refine blk_drewN ?_ _ | refine blk_drew ?_ | refine blk_alloc ?_ _)); exact BK325.out)) : gb325 ≠ gb347)); have n10_ := Aside0.mk ((by rw [hg]; exact Nat.ne_of_gt (blk_lt (g := gb325) (o := .cells #[.int .i64 a0_0, .slice A0_1 l0_1.length c0_1, .int .i64 a0_2, .bool a0_3] 24 (0, 0)) (by (with_reducible repeat (first | refine blk_drewN ?_ _ | refine blk_drew ?_ | refine blk_alloc ?_ _)); exact BK325.out)) : gb347 ≠ gb325)); have n11_ := Aside0.mk ((by rw [hg]; exact Nat.ne_of_lt (blk_lt (g := gb340) (o := .cells #[.int .i64 t333, .slice Ao19 t334.length co19, .int .i64 t337, .bool t338] 27 (0, 0)) (by (with_reducible repeat (first | refine blk_drewN ?_ _ | refine blk_drew ?_ | refine blk_alloc ?_ _)); exact BK340.out)) : gb340 ≠ gb347)); have n12_ := Aside0.mk ((by rw [hg]; exact Nat.ne_of_gt (blk_lt (g := gb340) (o := .cells #[.int .i64 t333, .slice Ao19 t334.length co19, .int .i64 t337, .bool t338] 27 (0, 0)) (by (with_reducible repeat (first | refine blk_drewN ?_ _ | refine blk_drew ?_ | refine blk_alloc ?_ _)); exact BK340.out)) : gb347 ≠ gb340)); clear HO330; clear HO336; clear HO344; clear BK325; clear BK340; clear HB; have HO330 := n0_; have HO336 := n1_; have HO344 := n2_; have BK325 := n3_; have BK340 := n4_; have HB := n5_; have BK347 := n6_; have GW347 := n7_; have GE347 := n8_; have NB325_347 := n9_; have NB347_325 := n10_; have NB340_347 := n11_; have NB347_340 := n12_; clear n0_ n1_ n2_ n3_ n4_ n5_ n6_ n7_ n8_ n9_ n10_ n11_ n12_; clear hb hbox hg; have hnb23 := NB347_325.out; have hnc23 := NB325_347.out; have hnb24 := NB347_340.out; have hnc24 := NB340_347.out; have hcz25_0 : w22.cell? ⟨gb347, 0, none⟩ = some (.int .i64 0) := (blk_cell BK347.out 0).trans rfl; have hcz25_1 : w22.cell? ⟨gb347, 1, none⟩ = some (.slice none 0 0) := (blk_cell BK347.out 1).trans rfl; have hcz25_2 : w22.cell? ⟨gb347, 2, none⟩ = some (.int .i64 0) := (blk_cell BK347.out 2).trans rfl; have hcz25_3 : w22.cell? ⟨gb347, 3, none⟩ = some (.bool false) := (blk_cell BK347.out 3).trans rfl; have hfz25_0 := blk_frozen BK347.out 0; have hfz25_1 := blk_frozen BK347.out 1; have hfz25_2 := blk_frozen BK347.out 2; have hfz25_3 := blk_frozen BK347.out 3; obtain ⟨Ao26, co26, eo26⟩ := Kd.R_slice HO344.out; subst eo26) | ((with_reducible refine gate_callee (f := 27) rfl ?_); refine goesL_ (some 29) rfl rfl Try.func27 (by kernel_rfl) rfl #[.agg #[.int .i64 t341, .slice Ao26 t342.length co26, .int .i64 t345, .bool t346]] rfl (by (try simp only [List.map_toArray, List.map_cons, List.map_nil]); first | done | rfl | (simp only [List.length_drop, List.length_take]; rfl)) ?_; (with_reducible refine (impl_NextStage.calls k t341 _ _ t342 t345 t346 t348 t349 t352 t353 t354 _ ?side1 ?side2 A10.out).mono ?_); (case side1 => refine (Kd.R_reads' (e := 3) (base := w.heap.size) (ok := fun k_ => ((True ∧ some k_ ≠ (.slice Ao14 t328.length co14 : Value).ownBlock) ∧ some k_ ≠ (.slice Ao19 t334.length co19 : Value).ownBlock)) (n := t342.length) (c := co26) ?_).2.2; exact (by (with_reducible repeat (first | apply Kd.R_alloc | apply Kd.R_drewN | apply Kd.R_drew)); exact (Kd.R_mono (Kd.R_far (p := ⟨gb347, 3, none⟩) (Kd.R_far (p := ⟨gb347, 2, none⟩) (Kd.R_far (p := ⟨gb347, 1, none⟩) (Kd.R_far (p := ⟨gb347, 0, none⟩) (Kd.R_types HO344.out BK347.out (by decide)) (fun _ hk => hk.2) (.int .i64 t341)) (fun _ hk => hk.2) (.slice Ao26 t342.length co26)) (fun _ hk => hk.2) (.int .i64 t345)) (fun _ hk => hk.2) (.bool t346)) (fun _ h_ => h_.1)))); (case side2 => exact (Kd.R_reads' HO344.out).2.1); rintro e w27 ⟨v350, rfl, ho0, hb⟩; refine ⟨_, rfl, ?_⟩; have n0_ := Aside0.mk (Kd.R_elder' (by (with_reducible repeat (first | apply Kd.R_alloc | apply Kd.R_drewN | apply Kd.R_drew)); exact (Kd.R_mono (Kd.R_far (p := ⟨gb347, 3, none⟩) (Kd.R_far (p := ⟨gb347, 2, none⟩) (Kd.R_far (p := ⟨gb347, 1, none⟩) (Kd.R_far (p := ⟨gb347, 0, none⟩) (Kd.R_types HO330.out BK347.out (by decide)) (fun _ hk => hk.2) (.int .i64 t341)) (fun _ hk => hk.2) (.slice Ao26 t342.length co26)) (fun _ hk => hk.2) (.int .i64 t345)) (fun _ hk => hk.2) (.bool t346)) (fun _ h_ => h_.1))) (Kd.R_base ho0) hb); have n1_ := Aside0.mk (Kd.R_elder' (by (with_reducible repeat (first | apply Kd.R_alloc | apply Kd.R_drewN | apply Kd.R_drew)); exact (Kd.R_mono (Kd.R_far (p := ⟨gb347, 3, none⟩) (Kd.R_far (p := ⟨gb347, 2, none⟩) (Kd.R_far (p := ⟨gb347, 1, none⟩) (Kd.R_far (p := ⟨gb347, 0, none⟩) (Kd.R_types HO336.out BK347.out (by decide)) (fun _ hk => hk.2) (.int .i64 t341)) (fun _ hk => hk.2) (.slice Ao26 t342.length co26)) (fun _ hk => hk.2) (.int .i64 t345)) (fun _ hk => hk.2) (.bool t346)) (fun _ h_ => h_.1))) (Kd.R_base ho0) hb); have n2_ := Aside0.mk (Kd.R_elder' (by (with_reducible repeat (first | apply Kd.R_alloc | apply Kd.R_drewN | apply Kd.R_drew)); exact (Kd.R_mono (Kd.R_far (p := ⟨gb347, 3, none⟩) (Kd.R_far (p := ⟨gb347, 2, none⟩) (Kd.R_far (p := ⟨gb347, 1, none⟩) (Kd.R_far (p := ⟨gb347, 0, none⟩) (Kd.R_types HO344.out BK347.out (by decide)) (fun _ hk => hk.2) (.int .i64 t341)) (fun _ hk => hk.2) (.slice Ao26 t342.length co26)) (fun _ hk => hk.2) (.int .i64 t345)) (fun _ hk => hk.2) (.bool t346)) (fun _ h_ => h_.1))) (Kd.R_base ho0) hb); have n3_ := Aside0.mk (Kd.R_lower (Kd.R_new' (Kd.R_new' (Kd.R_new' ho0 (Kd.R_lt (by (with_reducible repeat (first | apply Kd.R_alloc | apply Kd.R_drewN | apply Kd.R_drew)); exact (Kd.R_mono (Kd.R_far (p := ⟨gb347, 3, none⟩) (Kd.R_far (p := ⟨gb347, 2, none⟩) (Kd.R_far (p := ⟨gb347, 1, none⟩) (Kd.R_far (p := ⟨gb347, 0, none⟩) (Kd.R_types HO330.out BK347.out (by decide)) (fun _ hk => hk.2) (.int .i64 t341)) (fun _ hk => hk.2) (.slice Ao26 t342.length co26)) (fun _ hk => hk.2) (.int .i64 t345)) (fun _ hk => hk.2) (.bool t346)) (fun _ h_ => h_.1))))) (Kd.R_lt (by (with_reducible repeat (first | apply Kd.R_alloc | apply Kd.R_drewN | apply Kd.R_drew)); exact (Kd.R_mono (Kd.R_far (p := ⟨gb347, 3, none⟩) (Kd.R_far (p := ⟨gb347, 2, none⟩) (Kd.R_far (p := ⟨gb347, 1, none⟩) (Kd.R_far (p := ⟨gb347, 0, none⟩) (Kd.R_types HO336.out BK347.out (by decide)) (fun _ hk => hk.2) (.int .i64 t341)) (fun _ hk => hk.2) (.slice Ao26 t342.length co26)) (fun _ hk => hk.2) (.int .i64 t345)) (fun _ hk => hk.2) (.bool t346)) (fun _ h_ => h_.1))))) (Kd.R_lt (by (with_reducible repeat (first | apply Kd.R_alloc | apply Kd.R_drewN | apply Kd.R_drew)); exact (Kd.R_mono (Kd.R_far (p := ⟨gb347, 3, none⟩) (Kd.R_far (p := ⟨gb347, 2, none⟩) (Kd.R_far (p := ⟨gb347, 1, none⟩) (Kd.R_far (p := ⟨gb347, 0, none⟩) (Kd.R_types HO344.out BK347.out (by decide)) (fun _ hk => hk.2) (.int .i64 t341)) (fun _ hk => hk.2) (.slice Ao26 t342.length co26)) (fun _ hk => hk.2) (.int .i64 t345)) (fun _ hk => hk.2) (.bool t346)) (fun _ h_ => h_.1))))) (below_size (by repeat (first | (with_reducible first | exact HB.out | apply below_alloc | apply pw_below_drewN | apply below_drew1 | refine below_set ?_ GE325.out | refine below_set ?_ GE340.out | refine below_set ?_ GE347.out) | exact HB.out)))); have n4_ := Aside0.mk (blk_below (g := gb325) (o := .cells #[.int .i64 a0_0, .slice A0_1 l0_1.length c0_1, .int .i64 a0_2, .bool a0_3] 24 (0, 0)) (by (with_reducible repeat (first | refine blk_drewN ?_ _ | refine blk_drew ?_ | refine blk_alloc ?_ _)); refine blk_far ?_ NB325_347.out _; (with_reducible repeat (first | refine blk_drewN ?_ _ | refine blk_drew ?_ | refine blk_alloc ?_ _)); refine blk_far ?_ NB325_347.out _; (with_reducible repeat (first | refine blk_drewN ?_ _ | refine blk_drew ?_ | refine blk_alloc ?_ _)); refine blk_far ?_ NB325_347.out _; (with_reducible repeat (first | refine blk_drewN ?_ _ | refine blk_drew ?_ | refine blk_alloc ?_ _)); refine blk_far ?_ NB325_347.out _; (with_reducible repeat (first | refine blk_drewN ?_ _ | refine blk_drew ?_ | refine blk_alloc ?_ _)); exact BK325.out) hb); have n5_ := Aside0.mk (blk_below (g := gb340) (o := .cells #[.int .i64 t333, .slice Ao19 t334.length co19, .int .i64 t337, .bool t338] 27 (0, 0)) (by (with_reducible repeat (first | refine blk_drewN ?_ _ | refine blk_drew ?_ | refine blk_alloc ?_ _)); refine blk_far ?_ NB340_347.out _; (with_reducible repeat (first | refine blk_drewN ?_ _ | refine blk_drew ?_ | refine blk_alloc ?_ _)); refine blk_far ?_ NB340_347.out _; (with_reducible repeat (first | refine blk_drewN ?_ _ | refine blk_drew ?_ | refine blk_alloc ?_ _)); refine blk_far ?_ NB340_347.out _; (with_reducible repeat (first | refine blk_drewN ?_ _ | refine blk_drew ?_ | refine blk_alloc ?_ _)); refine blk_far ?_ NB340_347.out _; (with_reducible repeat (first | refine blk_drewN ?_ _ | refine blk_drew ?_ | refine blk_alloc ?_ _)); exact BK340.out) hb); have n6_ := Aside0.mk (blk_below (g := gb347) (o := .cells #[.int .i64 t341, .slice Ao26 t342.length co26, .int .i64 t345, .bool t346] 27 (0, 0)) (by (with_reducible repeat (first | refine blk_drewN ?_ _ | refine blk_drew ?_ | refine blk_alloc ?_ _)); refine blk_put (cs := #[.int .i64 t341, .slice Ao26 t342.length co26, .int .i64 t345, .bool false]) ?_ 3 _ rfl; (with_reducible repeat (first | refine blk_drewN ?_ _ | refine blk_drew ?_ | refine blk_alloc ?_ _)); refine blk_put (cs := #[.int .i64 t341, .slice Ao26 t342.length co26, .int .i64 0, .bool false]) ?_ 2 _ rfl; (with_reducible repeat (first | refine blk_drewN ?_ _ | refine blk_drew ?_ | refine blk_alloc ?_ _)); refine blk_put (cs := #[.int .i64 t341, .slice none 0 0, .int .i64 0, .bool false]) ?_ 1 _ rfl; (with_reducible repeat (first | refine blk_drewN ?_ _ | refine blk_drew ?_ | refine blk_alloc ?_ _)); refine blk_put (cs := #[.int .i64 0, .slice none 0 0, .int .i64 0, .bool false]) ?_ 0 _ rfl; (with_reducible repeat (first | refine blk_drewN ?_ _ | refine blk_drew ?_ | refine blk_alloc ?_ _)); exact BK347.out) hb); have n7_ := Aside0.mk (below_step (by repeat (first | (with_reducible first | exact HB.out | apply below_alloc | apply pw_below_drewN | apply below_drew1 | refine below_set ?_ GE325.out | refine below_set ?_ GE340.out | refine below_set ?_ GE347.out) | exact HB.out)) hb); clear HO330; clear HO336; clear HO344; clear BK325; clear BK340; clear BK347; clear HB; have HO330 := n0_; have HO336 := n1_; have HO344 := n2_; have HO351 := n3_; have BK325 := n4_; have BK340 := n5_; have BK347 := n6_; have HB := n7_; clear n0_ n1_ n2_ n3_ n4_ n5_ n6_ n7_; (try clear hb); (try clear hb2); (try clear hk); (try clear hi); (try clear ho0)) | ((with_reducible refine gate_dst (N := 7) rfl ?_); refine box_event ?hg (N := 7) ?hd (cs := #[.int .i64 0, .slice none 0 0, .int .i64 0, .bool false]) (t := 27) ?hr ?_; (case hd => rfl); (case hg => rfl); (case hr => first | (go_simp; done) | (go_simp; rfl)); intro gb355 hg w28 hbox hb; have n0_ := Aside0.mk (Kd.R_below (by (with_reducible repeat (first | apply Kd.R_alloc | apply Kd.R_drewN | apply Kd.R_drew)); exact HO330.out) hb); have n1_ := Aside0.mk (Kd.R_below (by (with_reducible repeat (first | apply Kd.R_alloc | apply Kd.R_drewN | apply Kd.R_drew)); exact HO336.out) hb); have n2_ := Aside0.mk (Kd.R_below (by (with_reducible repeat (first | apply Kd.R_alloc | apply Kd.R_drewN | apply Kd.R_drew)); exact HO344.out) hb); have n3_ := Aside0.mk (Kd.R_below (by (with_reducible repeat (first | apply Kd.R_alloc | apply Kd.R_drewN | apply Kd.R_drew)); exact HO351.out) hb); have n4_ := Aside0.mk (blk_below (g := gb325) (o := .cells #[.int .i64 a0_0, .slice A0_1 l0_1.length c0_1, .int .i64 a0_2, .bool a0_3] 24 (0, 0)) (by (with_reducible repeat (first | refine blk_drewN ?_ _ | refine blk_drew ?_ | refine blk_alloc ?_ _)); exact BK325.out) hb); have n5_ := Aside0.mk (blk_below (g := gb340) (o := .cells #[.int .i64 t333, .slice Ao19 t334.length co19, .int .i64 t337, .bool t338] 27 (0, 0)) (by (with_reducible repeat (first | refine blk_drewN ?_ _ | refine blk_drew ?_ | refine blk_alloc ?_ _)); exact BK340.out) hb); have n6_ := Aside0.mk (blk_below (g := gb347) (o := .cells #[.int .i64 t341, .slice Ao26 t342.length co26, .int .i64 t345, .bool t346] 27 (0, 0)) (by (with_reducible repeat (first | refine blk_drewN ?_ _ | refine blk_drew ?_ | refine blk_alloc ?_ _)); exact BK347.out) hb); have n7_ := Aside0.mk (below_step (by repeat (first | (with_reducible first | exact HB.out | apply below_alloc | apply pw_below_drewN | apply below_drew1 | refine below_set ?_ GE325.out | refine below_set ?_ GE340.out | refine below_set ?_ GE347.out) | exact HB.out)) hb); have n8_ := Aside0.mk (hbox); have n9_ := Aside0.mk ((by rw [hg]; exact (below_size (by repeat (first | (with_reducible first | exact HB.out | apply below_alloc | apply pw_below_drewN | apply below_drew1 | refine below_set ?_ GE325.out | refine below_set ?_ GE340.out | refine below_set ?_ GE347.out) | exact HB.out))) : w.heap.size ≤ gb355)); have n10_ := Aside0.mk ((by rw [hg]; exact (below_size (by repeat (first | (with_reducible first | exact HB.out | apply below_alloc | apply pw_below_drewN | apply below_drew1 | refine below_set ?_ GE325.out | refine below_set ?_ GE340.out | refine below_set ?_ GE347.out) | exact HB.out))) : w.heap.size ≤ gb355)); have n11_ := Aside0.mk ((by rw [hg]; exact Nat.ne_of_lt (blk_lt (g := gb325) (o := .cells #[.int .i64 a0_0, .slice A0_1 l0_1.length c0_1, .int .i64 a0_2, .bool a0_3] 24 (0, 0)) (by (with_reducible repeat (first | refine blk_drewN ?_ _ | refine blk_drew ?_ | refine blk_alloc ?_ _)); exact BK325.out)) : gb325 ≠ gb355)); have n12_ := Aside0.mk ((by rw [hg]; exact Nat.ne_of_gt (blk_lt (g := gb325) (o := .cells #[.int .i64 a0_0, .slice A0_1 l0_1.length c0_1, .int .i64 a0_2, .bool a0_3] 24 (0, 0)) (by (with_reducible repeat (first | refine blk_drewN ?_ _ | refine blk_drew ?_ | refine blk_alloc ?_ _)); exact BK325.out)) : gb355 ≠ gb325)); have n13_ := Aside0.mk ((by rw [hg]; exact Nat.ne_of_lt (blk_lt (g := gb340) (o := .cells #[.int .i64 t333, .slice Ao19 t334.length co19, .int .i64 t337, .bool t338] 27 (0, 0)) (by (with_reducible repeat (first | refine blk_drewN ?_ _ | refine blk_drew ?_ | refine blk_alloc ?_ _)); exact BK340.out)) : gb340 ≠ gb355)); have n14_ := Aside0.mk ((by rw [hg]; exact Nat.ne_of_gt (blk_lt (g := gb340) (o := .cells #[.int .i64 t333, .slice Ao19 t334.length co19, .int .i64 t337, .bool t338] 27 (0, 0)) (by (with_reducible repeat (first | refine blk_drewN ?_ _ | refine blk_drew ?_ | refine blk_alloc ?_ _)); exact BK340.out)) : gb355 ≠ gb340)); have n15_ := Aside0.mk ((by rw [hg]; exact Nat.ne_of_lt (blk_lt (g := gb347) (o := .cells #[.int .i64 t341, .slice Ao26 t342.length co26, .int .i64 t345, .bool t346] 27 (0, 0)) (by (with_reducible repeat (first | refine blk_drewN ?_ _ | refine blk_drew ?_ | refine blk_alloc ?_ _)); exact BK347.out)) : gb347 ≠ gb355)); have n16_ := Aside0.mk ((by rw [hg]; exact Nat.ne_of_gt (blk_lt (g := gb347) (o := .cells #[.int .i64 t341, .slice Ao26 t342.length co26, .int .i64 t345, .bool t346] 27 (0, 0)) (by (with_reducible repeat (first | refine blk_drewN ?_ _ | refine blk_drew ?_ | refine blk_alloc ?_ _)); exact BK347.out)) : gb355 ≠ gb347)); clear HO330; clear HO336; clear HO344; clear HO351; clear BK325; clear BK340; clear BK347; clear HB; have HO330 := n0_; have HO336 := n1_; have HO344 := n2_; have HO351 := n3_; have BK325 := n4_; have BK340 := n5_; have BK347 := n6_; have HB := n7_; have BK355 := n8_; have GW355 := n9_; have GE355 := n10_; have NB325_355 := n11_; have NB355_325 := n12_; have NB340_355 := n13_; have NB355_340 := n14_; have NB347_355 := n15_; have NB355_347 := n16_; clear n0_ n1_ n2_ n3_ n4_ n5_ n6_ n7_ n8_ n9_ n10_ n11_ n12_ n13_ n14_ n15_ n16_; clear hb hbox hg; have hnb29 := NB355_325.out; have hnc29 := NB325_355.out; have hnb30 := NB355_340.out; have hnc30 := NB340_355.out; have hnb31 := NB355_347.out; have hnc31 := NB347_355.out; have hcz32_0 : w28.cell? ⟨gb355, 0, none⟩ = some (.int .i64 0) := (blk_cell BK355.out 0).trans rfl; have hcz32_1 : w28.cell? ⟨gb355, 1, none⟩ = some (.slice none 0 0) := (blk_cell BK355.out 1).trans rfl; have hcz32_2 : w28.cell? ⟨gb355, 2, none⟩ = some (.int .i64 0) := (blk_cell BK355.out 2).trans rfl; have hcz32_3 : w28.cell? ⟨gb355, 3, none⟩ = some (.bool false) := (blk_cell BK355.out 3).trans rfl; have hfz32_0 := blk_frozen BK355.out 0; have hfz32_1 := blk_frozen BK355.out 1; have hfz32_2 := blk_frozen BK355.out 2; have hfz32_3 := blk_frozen BK355.out 3; obtain ⟨Ao33, co33, eo33⟩ := Kd.R_slice HO351.out; subst eo33))
  (try simp only [Act.put, List.setIfInBounds_toArray, List.set_cons_zero, List.set_cons_succ])
  go_cut [40] (fun v40 wc => ∃ (kq : Nat) (x40_10 : Bool), v40 = .bool x40_10 ∧ Aside0 (laws_FnExactNextStage.j0 kq t339 t354 x40_10 a0_0 l0_1 a0_2 a0_3 t333 t334 t337 t338 t341 t342 t345 t346 t348 t349 t352 t353 = some r) ∧ Aside0 (kq ≤ k) ∧ Aside0 (Kd.R (Kd.int .i64) 3 wc w.heap.size (fun k_ => some k_ ≠ ((.slice Ao26 t342.length co26) : Value).ownBlock ∧ some k_ ≠ ((.slice Ao33 t349.length co33) : Value).ownBlock) (.slice Ao19 t334.length co19) t334) ∧ Aside0 (Kd.R (Kd.int .i64) 3 wc w.heap.size (fun k_ => some k_ ≠ ((.slice Ao19 t334.length co19) : Value).ownBlock ∧ some k_ ≠ ((.slice Ao33 t349.length co33) : Value).ownBlock) (.slice Ao26 t342.length co26) t342) ∧ Aside0 (Kd.R (Kd.int .i64) 3 wc w.heap.size (fun k_ => some k_ ≠ ((.slice Ao19 t334.length co19) : Value).ownBlock ∧ some k_ ≠ ((.slice Ao26 t342.length co26) : Value).ownBlock) (.slice Ao33 t349.length co33) t349) ∧ Aside0 (wc.heap[gb325]? = some (.cells #[.int .i64 a0_0, (.slice A0_1 l0_1.length c0_1), .int .i64 a0_2, .bool a0_3] 24 (0, 0))) ∧ Aside0 (wc.heap[gb340]? = some (.cells #[.int .i64 t333, (.slice Ao19 t334.length co19), .int .i64 t337, .bool t338] 27 (0, 0))) ∧ Aside0 (wc.heap[gb347]? = some (.cells #[.int .i64 t341, (.slice Ao26 t342.length co26), .int .i64 t345, .bool t346] 27 (0, 0))) ∧ Aside0 (wc.heap[gb355]? = some (.cells #[.int .i64 t348, (.slice Ao33 t349.length co33), .int .i64 t352, .bool t353] 27 (0, 0))) ∧ Aside0 (Below w.heap.size w wc))
  case first =>
    have H := HC11.out
    clear HC11
    replace H := Option.bind_eq_some_iff.mp H
    obtain ⟨t356, A340, H⟩ := H
    replace H : (if t356 = true then (laws_FnExactNextStage.j0 k t339 t354 (t354 != t339) a0_0 l0_1 a0_2 a0_3 t333 t334 t337 t338 t341 t342 t345 t346 t348 t349 t352 t353) else (laws_FnExactNextStage.j0 k t339 t354 true a0_0 l0_1 a0_2 a0_3 t333 t334 t337 t338 t341 t342 t345 t346 t348 t349 t352 t353)) = some r := H
    have A34 := Aside0.mk A340
    clear A340
    by_cases c35 : t356 = true
    rotate_left
    · replace c35 := Bool.eq_false_iff.mpr c35
      subst c35
      have H1 : (laws_FnExactNextStage.j0 k t339 t354 true a0_0 l0_1 a0_2 a0_3 t333 t334 t337 t338 t341 t342 t345 t346 t348 t349 t352 t353) = some r := by rw [if_neg (show ¬ (false = true) by decide)] at H; exact H
      clear H
      have H := H1
      clear H1
      have H' := Aside0.mk H
      clear H
      have hnb36 := NB355_325.out
      have hnc36 := NB325_355.out
      have hnb37 := NB355_340.out
      have hnc37 := NB340_355.out
      have hnb38 := NB355_347.out
      have hnc38 := NB347_355.out
      have hcz39_0 : w28.cell? ⟨gb355, 0, none⟩ = some (.int .i64 0) := (blk_cell BK355.out 0).trans rfl
      have hcz39_1 : w28.cell? ⟨gb355, 1, none⟩ = some (.slice none 0 0) := (blk_cell BK355.out 1).trans rfl
      have hcz39_2 : w28.cell? ⟨gb355, 2, none⟩ = some (.int .i64 0) := (blk_cell BK355.out 2).trans rfl
      have hcz39_3 : w28.cell? ⟨gb355, 3, none⟩ = some (.bool false) := (blk_cell BK355.out 3).trans rfl
      have hfz39_0 := blk_frozen BK355.out 0
      have hfz39_1 := blk_frozen BK355.out 1
      have hfz39_2 := blk_frozen BK355.out 2
      have hfz39_3 := blk_frozen BK355.out 3
      have hnb40 := NB340_325.out
      have hnc40 := NB325_340.out
      have hnb41 := NB340_347.out
      have hnc41 := NB347_340.out
      have hcz42_0 : w28.cell? ⟨gb340, 0, none⟩ = some (.int .i64 t333) := (blk_cell BK340.out 0).trans rfl
      have hcz42_1 : w28.cell? ⟨gb340, 1, none⟩ = some (.slice Ao19 t334.length co19) := (blk_cell BK340.out 1).trans rfl
      have hcz42_2 : w28.cell? ⟨gb340, 2, none⟩ = some (.int .i64 t337) := (blk_cell BK340.out 2).trans rfl
      have hcz42_3 : w28.cell? ⟨gb340, 3, none⟩ = some (.bool t338) := (blk_cell BK340.out 3).trans rfl
      have hfz42_0 := blk_frozen BK340.out 0
      have hfz42_1 := blk_frozen BK340.out 1
      have hfz42_2 := blk_frozen BK340.out 2
      have hfz42_3 := blk_frozen BK340.out 3
      go_wp2_with (first | ((with_reducible refine gate_callee (f := 19) rfl ?_); refine goesL_ (some 34) rfl rfl Try.func19 (by kernel_rfl) rfl #[.agg #[.int .i64 t348, .slice Ao33 t349.length co33, .int .i64 t352, .bool t353], .agg #[.int .i64 t333, .slice Ao19 t334.length co19, .int .i64 t337, .bool t338]] rfl (by (try simp only [List.map_toArray, List.map_cons, List.map_nil]); first | done | rfl | (simp only [List.length_drop, List.length_take]; rfl)) ?_; (with_reducible refine (laws_eqRollout.calls k t348 _ _ t349 t352 t353 t333 _ _ t334 t337 t338 false _ ?side1 ?side2 ?side3 ?side4 A34.out).mono ?_); (case side1 => refine (Kd.R_reads' (e := 3) (base := w.heap.size) (ok := fun k_ => (((True ∧ some k_ ≠ (.slice Ao14 t328.length co14 : Value).ownBlock) ∧ some k_ ≠ (.slice Ao19 t334.length co19 : Value).ownBlock) ∧ some k_ ≠ (.slice Ao26 t342.length co26 : Value).ownBlock)) (n := t349.length) (c := co33) ?_).2.2; exact (by (with_reducible repeat (first | apply Kd.R_alloc | apply Kd.R_drewN | apply Kd.R_drew)); exact (Kd.R_mono (Kd.R_far (p := ⟨gb355, 3, none⟩) (Kd.R_far (p := ⟨gb355, 2, none⟩) (Kd.R_far (p := ⟨gb355, 1, none⟩) (Kd.R_far (p := ⟨gb355, 0, none⟩) (Kd.R_types HO351.out BK355.out (by decide)) (fun _ hk => hk.2) (.int .i64 t348)) (fun _ hk => hk.2) (.slice Ao33 t349.length co33)) (fun _ hk => hk.2) (.int .i64 t352)) (fun _ hk => hk.2) (.bool t353)) (fun _ h_ => h_.1)))); (case side2 => exact (Kd.R_reads' HO351.out).2.1); (case side3 => refine (Kd.R_reads' (e := 3) (base := w.heap.size) (ok := fun k_ => (((True ∧ some k_ ≠ (.slice Ao14 t328.length co14 : Value).ownBlock) ∧ some k_ ≠ (.slice Ao26 t342.length co26 : Value).ownBlock) ∧ some k_ ≠ (.slice Ao33 t349.length co33 : Value).ownBlock)) (n := t334.length) (c := co19) ?_).2.2; exact (by (with_reducible repeat (first | apply Kd.R_alloc | apply Kd.R_drewN | apply Kd.R_drew)); exact (Kd.R_mono (Kd.R_far (p := ⟨gb355, 3, none⟩) (Kd.R_far (p := ⟨gb355, 2, none⟩) (Kd.R_far (p := ⟨gb355, 1, none⟩) (Kd.R_far (p := ⟨gb355, 0, none⟩) (Kd.R_types HO336.out BK355.out (by decide)) (fun _ hk => hk.2) (.int .i64 t348)) (fun _ hk => hk.2) (.slice Ao33 t349.length co33)) (fun _ hk => hk.2) (.int .i64 t352)) (fun _ hk => hk.2) (.bool t353)) (fun _ h_ => h_.1)))); (case side4 => exact (Kd.R_reads' HO336.out).2.1); rintro e w43 ⟨rfl, hb⟩; refine ⟨_, rfl, ?_⟩; have n0_ := Aside0.mk (Kd.R_below (by (with_reducible repeat (first | apply Kd.R_alloc | apply Kd.R_drewN | apply Kd.R_drew)); exact (Kd.R_mono (Kd.R_far (p := ⟨gb355, 3, none⟩) (Kd.R_far (p := ⟨gb355, 2, none⟩) (Kd.R_far (p := ⟨gb355, 1, none⟩) (Kd.R_far (p := ⟨gb355, 0, none⟩) (Kd.R_types HO330.out BK355.out (by decide)) (fun _ hk => hk.2) (.int .i64 t348)) (fun _ hk => hk.2) (.slice Ao33 t349.length co33)) (fun _ hk => hk.2) (.int .i64 t352)) (fun _ hk => hk.2) (.bool t353)) (fun _ h_ => h_.1))) hb); have n1_ := Aside0.mk (Kd.R_below (by (with_reducible repeat (first | apply Kd.R_alloc | apply Kd.R_drewN | apply Kd.R_drew)); exact (Kd.R_mono (Kd.R_far (p := ⟨gb355, 3, none⟩) (Kd.R_far (p := ⟨gb355, 2, none⟩) (Kd.R_far (p := ⟨gb355, 1, none⟩) (Kd.R_far (p := ⟨gb355, 0, none⟩) (Kd.R_types HO336.out BK355.out (by decide)) (fun _ hk => hk.2) (.int .i64 t348)) (fun _ hk => hk.2) (.slice Ao33 t349.length co33)) (fun _ hk => hk.2) (.int .i64 t352)) (fun _ hk => hk.2) (.bool t353)) (fun _ h_ => h_.1))) hb); have n2_ := Aside0.mk (Kd.R_below (by (with_reducible repeat (first | apply Kd.R_alloc | apply Kd.R_drewN | apply Kd.R_drew)); exact (Kd.R_mono (Kd.R_far (p := ⟨gb355, 3, none⟩) (Kd.R_far (p := ⟨gb355, 2, none⟩) (Kd.R_far (p := ⟨gb355, 1, none⟩) (Kd.R_far (p := ⟨gb355, 0, none⟩) (Kd.R_types HO344.out BK355.out (by decide)) (fun _ hk => hk.2) (.int .i64 t348)) (fun _ hk => hk.2) (.slice Ao33 t349.length co33)) (fun _ hk => hk.2) (.int .i64 t352)) (fun _ hk => hk.2) (.bool t353)) (fun _ h_ => h_.1))) hb); have n3_ := Aside0.mk (Kd.R_below (by (with_reducible repeat (first | apply Kd.R_alloc | apply Kd.R_drewN | apply Kd.R_drew)); exact (Kd.R_mono (Kd.R_far (p := ⟨gb355, 3, none⟩) (Kd.R_far (p := ⟨gb355, 2, none⟩) (Kd.R_far (p := ⟨gb355, 1, none⟩) (Kd.R_far (p := ⟨gb355, 0, none⟩) (Kd.R_types HO351.out BK355.out (by decide)) (fun _ hk => hk.2) (.int .i64 t348)) (fun _ hk => hk.2) (.slice Ao33 t349.length co33)) (fun _ hk => hk.2) (.int .i64 t352)) (fun _ hk => hk.2) (.bool t353)) (fun _ h_ => h_.1))) hb); have n4_ := Aside0.mk (blk_below (g := gb325) (o := .cells #[.int .i64 a0_0, .slice A0_1 l0_1.length c0_1, .int .i64 a0_2, .bool a0_3] 24 (0, 0)) (by (with_reducible repeat (first | refine blk_drewN ?_ _ | refine blk_drew ?_ | refine blk_alloc ?_ _)); refine blk_far ?_ NB325_355.out _; (with_reducible repeat (first | refine blk_drewN ?_ _ | refine blk_drew ?_ | refine blk_alloc ?_ _)); refine blk_far ?_ NB325_355.out _; (with_reducible repeat (first | refine blk_drewN ?_ _ | refine blk_drew ?_ | refine blk_alloc ?_ _)); refine blk_far ?_ NB325_355.out _; (with_reducible repeat (first | refine blk_drewN ?_ _ | refine blk_drew ?_ | refine blk_alloc ?_ _)); refine blk_far ?_ NB325_355.out _; (with_reducible repeat (first | refine blk_drewN ?_ _ | refine blk_drew ?_ | refine blk_alloc ?_ _)); exact BK325.out) hb); have n5_ := Aside0.mk (blk_below (g := gb340) (o := .cells #[.int .i64 t333, .slice Ao19 t334.length co19, .int .i64 t337, .bool t338] 27 (0, 0)) (by (with_reducible repeat (first | refine blk_drewN ?_ _ | refine blk_drew ?_ | refine blk_alloc ?_ _)); refine blk_far ?_ NB340_355.out _; (with_reducible repeat (first | refine blk_drewN ?_ _ | refine blk_drew ?_ | refine blk_alloc ?_ _)); refine blk_far ?_ NB340_355.out _; (with_reducible repeat (first | refine blk_drewN ?_ _ | refine blk_drew ?_ | refine blk_alloc ?_ _)); refine blk_far ?_ NB340_355.out _; (with_reducible repeat (first | refine blk_drewN ?_ _ | refine blk_drew ?_ | refine blk_alloc ?_ _)); refine blk_far ?_ NB340_355.out _; (with_reducible repeat (first | refine blk_drewN ?_ _ | refine blk_drew ?_ | refine blk_alloc ?_ _)); exact BK340.out) hb); have n6_ := Aside0.mk (blk_below (g := gb347) (o := .cells #[.int .i64 t341, .slice Ao26 t342.length co26, .int .i64 t345, .bool t346] 27 (0, 0)) (by (with_reducible repeat (first | refine blk_drewN ?_ _ | refine blk_drew ?_ | refine blk_alloc ?_ _)); refine blk_far ?_ NB347_355.out _; (with_reducible repeat (first | refine blk_drewN ?_ _ | refine blk_drew ?_ | refine blk_alloc ?_ _)); refine blk_far ?_ NB347_355.out _; (with_reducible repeat (first | refine blk_drewN ?_ _ | refine blk_drew ?_ | refine blk_alloc ?_ _)); refine blk_far ?_ NB347_355.out _; (with_reducible repeat (first | refine blk_drewN ?_ _ | refine blk_drew ?_ | refine blk_alloc ?_ _)); refine blk_far ?_ NB347_355.out _; (with_reducible repeat (first | refine blk_drewN ?_ _ | refine blk_drew ?_ | refine blk_alloc ?_ _)); exact BK347.out) hb); have n7_ := Aside0.mk (blk_below (g := gb355) (o := .cells #[.int .i64 t348, .slice Ao33 t349.length co33, .int .i64 t352, .bool t353] 27 (0, 0)) (by (with_reducible repeat (first | refine blk_drewN ?_ _ | refine blk_drew ?_ | refine blk_alloc ?_ _)); refine blk_put (cs := #[.int .i64 t348, .slice Ao33 t349.length co33, .int .i64 t352, .bool false]) ?_ 3 _ rfl; (with_reducible repeat (first | refine blk_drewN ?_ _ | refine blk_drew ?_ | refine blk_alloc ?_ _)); refine blk_put (cs := #[.int .i64 t348, .slice Ao33 t349.length co33, .int .i64 0, .bool false]) ?_ 2 _ rfl; (with_reducible repeat (first | refine blk_drewN ?_ _ | refine blk_drew ?_ | refine blk_alloc ?_ _)); refine blk_put (cs := #[.int .i64 t348, .slice none 0 0, .int .i64 0, .bool false]) ?_ 1 _ rfl; (with_reducible repeat (first | refine blk_drewN ?_ _ | refine blk_drew ?_ | refine blk_alloc ?_ _)); refine blk_put (cs := #[.int .i64 0, .slice none 0 0, .int .i64 0, .bool false]) ?_ 0 _ rfl; (with_reducible repeat (first | refine blk_drewN ?_ _ | refine blk_drew ?_ | refine blk_alloc ?_ _)); exact BK355.out) hb); have n8_ := Aside0.mk (below_step (by repeat (first | (with_reducible first | exact HB.out | apply below_alloc | apply pw_below_drewN | apply below_drew1 | refine below_set ?_ GE325.out | refine below_set ?_ GE340.out | refine below_set ?_ GE347.out | refine below_set ?_ GE355.out) | exact HB.out)) hb); clear HO330; clear HO336; clear HO344; clear HO351; clear BK325; clear BK340; clear BK347; clear BK355; clear HB; have HO330 := n0_; have HO336 := n1_; have HO344 := n2_; have HO351 := n3_; have BK325 := n4_; have BK340 := n5_; have BK347 := n6_; have BK355 := n7_; have HB := n8_; clear n0_ n1_ n2_ n3_ n4_ n5_ n6_ n7_ n8_; (try clear hb); (try clear hb2); (try clear hk); (try clear hi)))
      go_meet
      case rel => exact ⟨_, (true), (by first | rfl | (simp; done) | (simp [*]; done)), H', ⟨by first | omega | exact Nat.le_refl _⟩, ⟨by (with_reducible repeat (first | apply Kd.R_alloc | apply Kd.R_drewN | apply Kd.R_drew)); exact Kd.R_mono HO336.out (fun _ hk => ⟨hk.1.2, hk.2⟩)⟩, ⟨by (with_reducible repeat (first | apply Kd.R_alloc | apply Kd.R_drewN | apply Kd.R_drew)); exact Kd.R_mono HO344.out (fun _ hk => ⟨hk.1.2, hk.2⟩)⟩, ⟨by (with_reducible repeat (first | apply Kd.R_alloc | apply Kd.R_drewN | apply Kd.R_drew)); exact Kd.R_mono HO351.out (fun _ hk => ⟨hk.1.2, hk.2⟩)⟩, ⟨by (with_reducible repeat (first | refine blk_drewN ?_ _ | refine blk_drew ?_ | refine blk_alloc ?_ _)); exact BK325.out⟩, ⟨by (with_reducible repeat (first | refine blk_drewN ?_ _ | refine blk_drew ?_ | refine blk_alloc ?_ _)); exact BK340.out⟩, ⟨by (with_reducible repeat (first | refine blk_drewN ?_ _ | refine blk_drew ?_ | refine blk_alloc ?_ _)); exact BK347.out⟩, ⟨by (with_reducible repeat (first | refine blk_drewN ?_ _ | refine blk_drew ?_ | refine blk_alloc ?_ _)); exact BK355.out⟩, ⟨by repeat (first | (with_reducible first | exact HB.out | apply below_alloc | apply pw_below_drewN | apply below_drew1 | refine below_set ?_ GE325.out | refine below_set ?_ GE340.out | refine below_set ?_ GE347.out | refine below_set ?_ GE355.out) | exact HB.out)⟩⟩
    subst c35
    have H1 : (laws_FnExactNextStage.j0 k t339 t354 (t354 != t339) a0_0 l0_1 a0_2 a0_3 t333 t334 t337 t338 t341 t342 t345 t346 t348 t349 t352 t353) = some r := by rw [if_pos rfl] at H; exact H
    clear H
    have H := H1
    clear H1
    have H' := Aside0.mk H
    clear H
    have hnb44 := NB355_325.out
    have hnc44 := NB325_355.out
    have hnb45 := NB355_340.out
    have hnc45 := NB340_355.out
    have hnb46 := NB355_347.out
    have hnc46 := NB347_355.out
    have hcz47_0 : w28.cell? ⟨gb355, 0, none⟩ = some (.int .i64 0) := (blk_cell BK355.out 0).trans rfl
    have hcz47_1 : w28.cell? ⟨gb355, 1, none⟩ = some (.slice none 0 0) := (blk_cell BK355.out 1).trans rfl
    have hcz47_2 : w28.cell? ⟨gb355, 2, none⟩ = some (.int .i64 0) := (blk_cell BK355.out 2).trans rfl
    have hcz47_3 : w28.cell? ⟨gb355, 3, none⟩ = some (.bool false) := (blk_cell BK355.out 3).trans rfl
    have hfz47_0 := blk_frozen BK355.out 0
    have hfz47_1 := blk_frozen BK355.out 1
    have hfz47_2 := blk_frozen BK355.out 2
    have hfz47_3 := blk_frozen BK355.out 3
    have hnb48 := NB340_325.out
    have hnc48 := NB325_340.out
    have hnb49 := NB340_347.out
    have hnc49 := NB347_340.out
    have hcz50_0 : w28.cell? ⟨gb340, 0, none⟩ = some (.int .i64 t333) := (blk_cell BK340.out 0).trans rfl
    have hcz50_1 : w28.cell? ⟨gb340, 1, none⟩ = some (.slice Ao19 t334.length co19) := (blk_cell BK340.out 1).trans rfl
    have hcz50_2 : w28.cell? ⟨gb340, 2, none⟩ = some (.int .i64 t337) := (blk_cell BK340.out 2).trans rfl
    have hcz50_3 : w28.cell? ⟨gb340, 3, none⟩ = some (.bool t338) := (blk_cell BK340.out 3).trans rfl
    have hfz50_0 := blk_frozen BK340.out 0
    have hfz50_1 := blk_frozen BK340.out 1
    have hfz50_2 := blk_frozen BK340.out 2
    have hfz50_3 := blk_frozen BK340.out 3
    go_wp2_with (first | ((with_reducible refine gate_callee (f := 19) rfl ?_); refine goesL_ (some 34) rfl rfl Try.func19 (by kernel_rfl) rfl #[.agg #[.int .i64 t348, .slice Ao33 t349.length co33, .int .i64 t352, .bool t353], .agg #[.int .i64 t333, .slice Ao19 t334.length co19, .int .i64 t337, .bool t338]] rfl (by (try simp only [List.map_toArray, List.map_cons, List.map_nil]); first | done | rfl | (simp only [List.length_drop, List.length_take]; rfl)) ?_; (with_reducible refine (laws_eqRollout.calls k t348 _ _ t349 t352 t353 t333 _ _ t334 t337 t338 true _ ?side1 ?side2 ?side3 ?side4 A34.out).mono ?_); (case side1 => refine (Kd.R_reads' (e := 3) (base := w.heap.size) (ok := fun k_ => (((True ∧ some k_ ≠ (.slice Ao14 t328.length co14 : Value).ownBlock) ∧ some k_ ≠ (.slice Ao19 t334.length co19 : Value).ownBlock) ∧ some k_ ≠ (.slice Ao26 t342.length co26 : Value).ownBlock)) (n := t349.length) (c := co33) ?_).2.2; exact (by (with_reducible repeat (first | apply Kd.R_alloc | apply Kd.R_drewN | apply Kd.R_drew)); exact (Kd.R_mono (Kd.R_far (p := ⟨gb355, 3, none⟩) (Kd.R_far (p := ⟨gb355, 2, none⟩) (Kd.R_far (p := ⟨gb355, 1, none⟩) (Kd.R_far (p := ⟨gb355, 0, none⟩) (Kd.R_types HO351.out BK355.out (by decide)) (fun _ hk => hk.2) (.int .i64 t348)) (fun _ hk => hk.2) (.slice Ao33 t349.length co33)) (fun _ hk => hk.2) (.int .i64 t352)) (fun _ hk => hk.2) (.bool t353)) (fun _ h_ => h_.1)))); (case side2 => exact (Kd.R_reads' HO351.out).2.1); (case side3 => refine (Kd.R_reads' (e := 3) (base := w.heap.size) (ok := fun k_ => (((True ∧ some k_ ≠ (.slice Ao14 t328.length co14 : Value).ownBlock) ∧ some k_ ≠ (.slice Ao26 t342.length co26 : Value).ownBlock) ∧ some k_ ≠ (.slice Ao33 t349.length co33 : Value).ownBlock)) (n := t334.length) (c := co19) ?_).2.2; exact (by (with_reducible repeat (first | apply Kd.R_alloc | apply Kd.R_drewN | apply Kd.R_drew)); exact (Kd.R_mono (Kd.R_far (p := ⟨gb355, 3, none⟩) (Kd.R_far (p := ⟨gb355, 2, none⟩) (Kd.R_far (p := ⟨gb355, 1, none⟩) (Kd.R_far (p := ⟨gb355, 0, none⟩) (Kd.R_types HO336.out BK355.out (by decide)) (fun _ hk => hk.2) (.int .i64 t348)) (fun _ hk => hk.2) (.slice Ao33 t349.length co33)) (fun _ hk => hk.2) (.int .i64 t352)) (fun _ hk => hk.2) (.bool t353)) (fun _ h_ => h_.1)))); (case side4 => exact (Kd.R_reads' HO336.out).2.1); rintro e w51 ⟨rfl, hb⟩; refine ⟨_, rfl, ?_⟩; have n0_ := Aside0.mk (Kd.R_below (by (with_reducible repeat (first | apply Kd.R_alloc | apply Kd.R_drewN | apply Kd.R_drew)); exact (Kd.R_mono (Kd.R_far (p := ⟨gb355, 3, none⟩) (Kd.R_far (p := ⟨gb355, 2, none⟩) (Kd.R_far (p := ⟨gb355, 1, none⟩) (Kd.R_far (p := ⟨gb355, 0, none⟩) (Kd.R_types HO330.out BK355.out (by decide)) (fun _ hk => hk.2) (.int .i64 t348)) (fun _ hk => hk.2) (.slice Ao33 t349.length co33)) (fun _ hk => hk.2) (.int .i64 t352)) (fun _ hk => hk.2) (.bool t353)) (fun _ h_ => h_.1))) hb); have n1_ := Aside0.mk (Kd.R_below (by (with_reducible repeat (first | apply Kd.R_alloc | apply Kd.R_drewN | apply Kd.R_drew)); exact (Kd.R_mono (Kd.R_far (p := ⟨gb355, 3, none⟩) (Kd.R_far (p := ⟨gb355, 2, none⟩) (Kd.R_far (p := ⟨gb355, 1, none⟩) (Kd.R_far (p := ⟨gb355, 0, none⟩) (Kd.R_types HO336.out BK355.out (by decide)) (fun _ hk => hk.2) (.int .i64 t348)) (fun _ hk => hk.2) (.slice Ao33 t349.length co33)) (fun _ hk => hk.2) (.int .i64 t352)) (fun _ hk => hk.2) (.bool t353)) (fun _ h_ => h_.1))) hb); have n2_ := Aside0.mk (Kd.R_below (by (with_reducible repeat (first | apply Kd.R_alloc | apply Kd.R_drewN | apply Kd.R_drew)); exact (Kd.R_mono (Kd.R_far (p := ⟨gb355, 3, none⟩) (Kd.R_far (p := ⟨gb355, 2, none⟩) (Kd.R_far (p := ⟨gb355, 1, none⟩) (Kd.R_far (p := ⟨gb355, 0, none⟩) (Kd.R_types HO344.out BK355.out (by decide)) (fun _ hk => hk.2) (.int .i64 t348)) (fun _ hk => hk.2) (.slice Ao33 t349.length co33)) (fun _ hk => hk.2) (.int .i64 t352)) (fun _ hk => hk.2) (.bool t353)) (fun _ h_ => h_.1))) hb); have n3_ := Aside0.mk (Kd.R_below (by (with_reducible repeat (first | apply Kd.R_alloc | apply Kd.R_drewN | apply Kd.R_drew)); exact (Kd.R_mono (Kd.R_far (p := ⟨gb355, 3, none⟩) (Kd.R_far (p := ⟨gb355, 2, none⟩) (Kd.R_far (p := ⟨gb355, 1, none⟩) (Kd.R_far (p := ⟨gb355, 0, none⟩) (Kd.R_types HO351.out BK355.out (by decide)) (fun _ hk => hk.2) (.int .i64 t348)) (fun _ hk => hk.2) (.slice Ao33 t349.length co33)) (fun _ hk => hk.2) (.int .i64 t352)) (fun _ hk => hk.2) (.bool t353)) (fun _ h_ => h_.1))) hb); have n4_ := Aside0.mk (blk_below (g := gb325) (o := .cells #[.int .i64 a0_0, .slice A0_1 l0_1.length c0_1, .int .i64 a0_2, .bool a0_3] 24 (0, 0)) (by (with_reducible repeat (first | refine blk_drewN ?_ _ | refine blk_drew ?_ | refine blk_alloc ?_ _)); refine blk_far ?_ NB325_355.out _; (with_reducible repeat (first | refine blk_drewN ?_ _ | refine blk_drew ?_ | refine blk_alloc ?_ _)); refine blk_far ?_ NB325_355.out _; (with_reducible repeat (first | refine blk_drewN ?_ _ | refine blk_drew ?_ | refine blk_alloc ?_ _)); refine blk_far ?_ NB325_355.out _; (with_reducible repeat (first | refine blk_drewN ?_ _ | refine blk_drew ?_ | refine blk_alloc ?_ _)); refine blk_far ?_ NB325_355.out _; (with_reducible repeat (first | refine blk_drewN ?_ _ | refine blk_drew ?_ | refine blk_alloc ?_ _)); exact BK325.out) hb); have n5_ := Aside0.mk (blk_below (g := gb340) (o := .cells #[.int .i64 t333, .slice Ao19 t334.length co19, .int .i64 t337, .bool t338] 27 (0, 0)) (by (with_reducible repeat (first | refine blk_drewN ?_ _ | refine blk_drew ?_ | refine blk_alloc ?_ _)); refine blk_far ?_ NB340_355.out _; (with_reducible repeat (first | refine blk_drewN ?_ _ | refine blk_drew ?_ | refine blk_alloc ?_ _)); refine blk_far ?_ NB340_355.out _; (with_reducible repeat (first | refine blk_drewN ?_ _ | refine blk_drew ?_ | refine blk_alloc ?_ _)); refine blk_far ?_ NB340_355.out _; (with_reducible repeat (first | refine blk_drewN ?_ _ | refine blk_drew ?_ | refine blk_alloc ?_ _)); refine blk_far ?_ NB340_355.out _; (with_reducible repeat (first | refine blk_drewN ?_ _ | refine blk_drew ?_ | refine blk_alloc ?_ _)); exact BK340.out) hb); have n6_ := Aside0.mk (blk_below (g := gb347) (o := .cells #[.int .i64 t341, .slice Ao26 t342.length co26, .int .i64 t345, .bool t346] 27 (0, 0)) (by (with_reducible repeat (first | refine blk_drewN ?_ _ | refine blk_drew ?_ | refine blk_alloc ?_ _)); refine blk_far ?_ NB347_355.out _; (with_reducible repeat (first | refine blk_drewN ?_ _ | refine blk_drew ?_ | refine blk_alloc ?_ _)); refine blk_far ?_ NB347_355.out _; (with_reducible repeat (first | refine blk_drewN ?_ _ | refine blk_drew ?_ | refine blk_alloc ?_ _)); refine blk_far ?_ NB347_355.out _; (with_reducible repeat (first | refine blk_drewN ?_ _ | refine blk_drew ?_ | refine blk_alloc ?_ _)); refine blk_far ?_ NB347_355.out _; (with_reducible repeat (first | refine blk_drewN ?_ _ | refine blk_drew ?_ | refine blk_alloc ?_ _)); exact BK347.out) hb); have n7_ := Aside0.mk (blk_below (g := gb355) (o := .cells #[.int .i64 t348, .slice Ao33 t349.length co33, .int .i64 t352, .bool t353] 27 (0, 0)) (by (with_reducible repeat (first | refine blk_drewN ?_ _ | refine blk_drew ?_ | refine blk_alloc ?_ _)); refine blk_put (cs := #[.int .i64 t348, .slice Ao33 t349.length co33, .int .i64 t352, .bool false]) ?_ 3 _ rfl; (with_reducible repeat (first | refine blk_drewN ?_ _ | refine blk_drew ?_ | refine blk_alloc ?_ _)); refine blk_put (cs := #[.int .i64 t348, .slice Ao33 t349.length co33, .int .i64 0, .bool false]) ?_ 2 _ rfl; (with_reducible repeat (first | refine blk_drewN ?_ _ | refine blk_drew ?_ | refine blk_alloc ?_ _)); refine blk_put (cs := #[.int .i64 t348, .slice none 0 0, .int .i64 0, .bool false]) ?_ 1 _ rfl; (with_reducible repeat (first | refine blk_drewN ?_ _ | refine blk_drew ?_ | refine blk_alloc ?_ _)); refine blk_put (cs := #[.int .i64 0, .slice none 0 0, .int .i64 0, .bool false]) ?_ 0 _ rfl; (with_reducible repeat (first | refine blk_drewN ?_ _ | refine blk_drew ?_ | refine blk_alloc ?_ _)); exact BK355.out) hb); have n8_ := Aside0.mk (below_step (by repeat (first | (with_reducible first | exact HB.out | apply below_alloc | apply pw_below_drewN | apply below_drew1 | refine below_set ?_ GE325.out | refine below_set ?_ GE340.out | refine below_set ?_ GE347.out | refine below_set ?_ GE355.out) | exact HB.out)) hb); clear HO330; clear HO336; clear HO344; clear HO351; clear BK325; clear BK340; clear BK347; clear BK355; clear HB; have HO330 := n0_; have HO336 := n1_; have HO344 := n2_; have HO351 := n3_; have BK325 := n4_; have BK340 := n5_; have BK347 := n6_; have BK355 := n7_; have HB := n8_; clear n0_ n1_ n2_ n3_ n4_ n5_ n6_ n7_ n8_; (try clear hb); (try clear hb2); (try clear hk); (try clear hi)))
    go_meet
    case rel => exact ⟨_, ((t354 != t339)), (by first | rfl | (simp; done) | (simp [*]; done)), H', ⟨by first | omega | exact Nat.le_refl _⟩, ⟨by (with_reducible repeat (first | apply Kd.R_alloc | apply Kd.R_drewN | apply Kd.R_drew)); exact Kd.R_mono HO336.out (fun _ hk => ⟨hk.1.2, hk.2⟩)⟩, ⟨by (with_reducible repeat (first | apply Kd.R_alloc | apply Kd.R_drewN | apply Kd.R_drew)); exact Kd.R_mono HO344.out (fun _ hk => ⟨hk.1.2, hk.2⟩)⟩, ⟨by (with_reducible repeat (first | apply Kd.R_alloc | apply Kd.R_drewN | apply Kd.R_drew)); exact Kd.R_mono HO351.out (fun _ hk => ⟨hk.1.2, hk.2⟩)⟩, ⟨by (with_reducible repeat (first | refine blk_drewN ?_ _ | refine blk_drew ?_ | refine blk_alloc ?_ _)); exact BK325.out⟩, ⟨by (with_reducible repeat (first | refine blk_drewN ?_ _ | refine blk_drew ?_ | refine blk_alloc ?_ _)); exact BK340.out⟩, ⟨by (with_reducible repeat (first | refine blk_drewN ?_ _ | refine blk_drew ?_ | refine blk_alloc ?_ _)); exact BK347.out⟩, ⟨by (with_reducible repeat (first | refine blk_drewN ?_ _ | refine blk_drew ?_ | refine blk_alloc ?_ _)); exact BK355.out⟩, ⟨by repeat (first | (with_reducible first | exact HB.out | apply below_alloc | apply pw_below_drewN | apply below_drew1 | refine below_set ?_ GE325.out | refine below_set ?_ GE340.out | refine below_set ?_ GE347.out | refine below_set ?_ GE355.out) | exact HB.out)⟩⟩
  clear HC11
  try clear c1
  try clear c2
  try clear p2
  try clear c3
  try clear c4
  try clear c6
  try clear c6b0
  try clear c7
  try clear c15
  try clear c17
  try clear c19
  try clear c23
  try clear c24
  try clear c26
  try clear c27
  try clear c29
  try clear c30
  try clear c31
  try clear c35
  try clear c36
  try clear c37
  try clear c38
  try clear c40
  try clear c41
  try clear c44
  try clear c45
  try clear c46
  try clear c48
  try clear c49
  try clear hcz12_0
  try clear hcz12_1
  try clear hcz12_2
  try clear hcz12_3
  try clear hcz18_0
  try clear hcz18_1
  try clear hcz18_2
  try clear hcz18_3
  try clear hcz20_0
  try clear hcz20_1
  try clear hcz20_2
  try clear hcz20_3
  try clear hcz25_0
  try clear hcz25_1
  try clear hcz25_2
  try clear hcz25_3
  try clear hcz32_0
  try clear hcz32_1
  try clear hcz32_2
  try clear hcz32_3
  try clear hcz39_0
  try clear hcz39_1
  try clear hcz39_2
  try clear hcz39_3
  try clear hcz42_0
  try clear hcz42_1
  try clear hcz42_2
  try clear hcz42_3
  try clear hcz47_0
  try clear hcz47_1
  try clear hcz47_2
  try clear hcz47_3
  try clear hcz4_0
  try clear hcz4_1
  try clear hcz4_2
  try clear hcz4_3
  try clear hcz50_0
  try clear hcz50_1
  try clear hcz50_2
  try clear hcz50_3
  try clear hfz12_0
  try clear hfz12_1
  try clear hfz12_2
  try clear hfz12_3
  try clear hfz18_0
  try clear hfz18_1
  try clear hfz18_2
  try clear hfz18_3
  try clear hfz20_0
  try clear hfz20_1
  try clear hfz20_2
  try clear hfz20_3
  try clear hfz25_0
  try clear hfz25_1
  try clear hfz25_2
  try clear hfz25_3
  try clear hfz32_0
  try clear hfz32_1
  try clear hfz32_2
  try clear hfz32_3
  try clear hfz39_0
  try clear hfz39_1
  try clear hfz39_2
  try clear hfz39_3
  try clear hfz42_0
  try clear hfz42_1
  try clear hfz42_2
  try clear hfz42_3
  try clear hfz47_0
  try clear hfz47_1
  try clear hfz47_2
  try clear hfz47_3
  try clear hfz4_0
  try clear hfz4_1
  try clear hfz4_2
  try clear hfz4_3
  try clear hfz50_0
  try clear hfz50_1
  try clear hfz50_2
  try clear hfz50_3
  obtain ⟨kq, x40_10, rfl, HA, HJ10, HO_341001, HO_348001, HO_356001, BK325, BK340, BK347, BK355, HB⟩ := hcut
  rcases kq with _ | kj10
  · exact absurd HA.out (by simp [laws_FnExactNextStage.j0])
  have H := HA.out
  clear HA
  simp only [laws_FnExactNextStage.j0] at H
  by_cases c52 : x40_10 = true
  · subst c52
    have H1 : (some false) = some r := by rw [if_pos rfl] at H; exact H
    clear H
    have H := H1
    clear H1
    obtain rfl := Option.some.inj H
    go_wp2
    go_ret
    exact ⟨by first | rfl | (simp [errW_none, errW_some] <;> rfl) | (simp [*, errW_none, errW_some] <;> rfl), by repeat (first | (with_reducible first | exact HB.out | apply below_alloc | apply pw_below_drewN | apply below_drew1 | refine below_set ?_ GE325.out | refine below_set ?_ GE340.out | refine below_set ?_ GE347.out | refine below_set ?_ GE355.out) | exact HB.out)⟩
  replace c52 := Bool.eq_false_iff.mpr c52
  subst c52
  have H1 : ((laws_toRollout.f kj10 a0_0 l0_1 a0_2 a0_3).bind fun bt357 => ((laws_eqRollout.f kj10 t341 t342 t345 t346 bt357.1 bt357.2.1 bt357.2.2.1 bt357.2.2.2).bind fun t363 => (if t363 = true then ((laws_markRollout.f kj10 t341 t342 t345 t346 1).bind fun bt364 => (if bt364.1 < 0 then (laws_FnExactNextStage.j1 kj10 t339 true a0_0 l0_1 a0_2 a0_3 t333 t334 t337 t338 t348 t349 t352 t353) else ((laws_eqRollout.f kj10 t348 t349 t352 t353 t333 t334 t337 t338).bind fun t366 => (if t366 = true then (laws_FnExactNextStage.j1 kj10 t339 (t354 != t339) a0_0 l0_1 a0_2 a0_3 t333 t334 t337 t338 t348 t349 t352 t353) else (laws_FnExactNextStage.j1 kj10 t339 true a0_0 l0_1 a0_2 a0_3 t333 t334 t337 t338 t348 t349 t352 t353))))) else (some false)))) = some r := by rw [if_neg (show ¬ (false = true) by decide)] at H; exact H
  clear H
  have H := H1
  clear H1
  replace H := Option.bind_eq_some_iff.mp H
  obtain ⟨⟨t357, t358, t361, t362⟩, A530, H⟩ := H
  replace H : ((laws_eqRollout.f kj10 t341 t342 t345 t346 t357 t358 t361 t362).bind fun t363 => (if t363 = true then ((laws_markRollout.f kj10 t341 t342 t345 t346 1).bind fun bt364 => (if bt364.1 < 0 then (laws_FnExactNextStage.j1 kj10 t339 true a0_0 l0_1 a0_2 a0_3 t333 t334 t337 t338 t348 t349 t352 t353) else ((laws_eqRollout.f kj10 t348 t349 t352 t353 t333 t334 t337 t338).bind fun t366 => (if t366 = true then (laws_FnExactNextStage.j1 kj10 t339 (t354 != t339) a0_0 l0_1 a0_2 a0_3 t333 t334 t337 t338 t348 t349 t352 t353) else (laws_FnExactNextStage.j1 kj10 t339 true a0_0 l0_1 a0_2 a0_3 t333 t334 t337 t338 t348 t349 t352 t353))))) else (some false))) = some r := H
  have A53 := Aside0.mk A530
  clear A530
  replace H := Option.bind_eq_some_iff.mp H
  obtain ⟨t363, A540, H⟩ := H
  replace H : (if t363 = true then ((laws_markRollout.f kj10 t341 t342 t345 t346 1).bind fun bt364 => (if bt364.1 < 0 then (laws_FnExactNextStage.j1 kj10 t339 true a0_0 l0_1 a0_2 a0_3 t333 t334 t337 t338 t348 t349 t352 t353) else ((laws_eqRollout.f kj10 t348 t349 t352 t353 t333 t334 t337 t338).bind fun t366 => (if t366 = true then (laws_FnExactNextStage.j1 kj10 t339 (t354 != t339) a0_0 l0_1 a0_2 a0_3 t333 t334 t337 t338 t348 t349 t352 t353) else (laws_FnExactNextStage.j1 kj10 t339 true a0_0 l0_1 a0_2 a0_3 t333 t334 t337 t338 t348 t349 t352 t353))))) else (some false)) = some r := H
  have A54 := Aside0.mk A540
  clear A540
  have HS_ := Aside0.mk H
  clear H
  try go_wp2
  have n0_ := Aside0.mk (Kd.R_drew HO_341001.out)
  have n1_ := Aside0.mk (Kd.R_drew HO_348001.out)
  have n2_ := Aside0.mk (Kd.R_drew HO_356001.out)
  have n3_ := Aside0.mk (blk_drew BK325.out)
  have n4_ := Aside0.mk (blk_drew BK340.out)
  have n5_ := Aside0.mk (blk_drew BK347.out)
  have n6_ := Aside0.mk (blk_drew BK355.out)
  have n7_ := Aside0.mk (below_drew1 HB.out)
  clear HO_341001
  clear HO_348001
  clear HO_356001
  clear BK325
  clear BK340
  clear BK347
  clear BK355
  clear HB
  have HO_341001 := n0_
  have HO_348001 := n1_
  have HO_356001 := n2_
  have BK325 := n3_
  have BK340 := n4_
  have BK347 := n5_
  have BK355 := n6_
  have HB := n7_
  clear n0_ n1_ n2_ n3_ n4_ n5_ n6_ n7_
  refine start_ (n := 5) (S := fun w' => w'.cell? ⟨gb347, 0, none⟩ = some (.int .i64 t341) ∧ w'.cell? ⟨gb347, 1, none⟩ = some (.slice Ao26 t342.length co26) ∧ w'.cell? ⟨gb347, 2, none⟩ = some (.int .i64 t345) ∧ w'.cell? ⟨gb347, 3, none⟩ = some (.bool t346) ∧ w'.cell? ⟨gb325, 0, none⟩ = some (.int .i64 a0_0) ∧ w'.cell? ⟨gb325, 1, none⟩ = some (.slice A0_1 l0_1.length c0_1) ∧ w'.cell? ⟨gb325, 2, none⟩ = some (.int .i64 a0_2) ∧ w'.cell? ⟨gb325, 3, none⟩ = some (.bool a0_3)) (ds := []) #[false, false, false, false, false] (by kernel_rfl) rfl rfl ⟨(blk_cell BK347.out 0).trans rfl, (blk_cell BK347.out 1).trans rfl, (blk_cell BK347.out 2).trans rfl, (blk_cell BK347.out 3).trans rfl, (blk_cell BK325.out 0).trans rfl, (blk_cell BK325.out 1).trans rfl, (blk_cell BK325.out 2).trans rfl, (blk_cell BK325.out 3).trans rfl⟩ (fun hHeld => ?_)
  generalize wc.drew = w55 at HO_341001 HO_348001 HO_356001 BK325 BK340 BK347 BK355 HB hHeld ⊢
  refine take_ (i := 0) (N := some 41) (v := ?_) (a' := ?_) #[true, false, false, false, false] rfl rfl (by kernel_rfl) (fun _ _ _ h => h) (Or.inl ⟨by rfl, ?_⟩) hHeld ?_ ?_
  rotate_left
  · rintro w' ⟨s0, s1, s2, s3, s4, s5, s6, s7⟩
    go_simp
    (try (simp only [Instr.field]; simp only [underlying, hu24, hu27]; go_simp; simp only [asAgg]; go_simp))
    with_reducible rfl
  rotate_left
  · simp only [Act.put, List.setIfInBounds_toArray, List.set_cons_zero, List.set_cons_succ, i64_w, i32_w]
    rfl
  refine take_ (i := 1) (N := some 42) (v := ?_) (a' := ?_) #[true, true, false, false, false] rfl rfl (by kernel_rfl) (fun _ _ _ h => h) (Or.inl ⟨by rfl, ?_⟩) hHeld ?_ ?_
  rotate_left
  · rintro w' ⟨s0, s1, s2, s3, s4, s5, s6, s7⟩
    go_simp
    (try (simp only [Instr.field]; simp only [underlying, hu24, hu27]; go_simp; simp only [asAgg]; go_simp))
    with_reducible rfl
  rotate_left
  · simp only [Act.put, List.setIfInBounds_toArray, List.set_cons_zero, List.set_cons_succ, i64_w, i32_w]
    rfl
  refine one_ (i := 2) (N := some 43) #[true, true, true, false, false] rfl rfl (by kernel_rfl) (by decide) (fun K hK => ?_)
  refine goes_ Try.func17 (by kernel_rfl) rfl #[.agg #[.int .i64 a0_0, .slice A0_1 l0_1.length c0_1, .int .i64 a0_2, .bool a0_3]] (by rfl) rfl rfl (by (try simp only [List.map_toArray, List.map_cons, List.map_nil]); first | done | rfl | (simp only [List.length_drop, List.length_take]; rfl)) ?_
  with_reducible refine (laws_toRollout.calls kj10 a0_0 _ _ l0_1 a0_2 a0_3 t357 t358 t361 t362 _ ?side1 ?side2 A53.out).mono ?_
  (case side1 => repeat (first | exact (Kd.C_below HR0_1.out HB.out) | (with_reducible refine Kd.C_alloc ?_ _) | (with_reducible refine Kd.C_drewN ?_ _) | (with_reducible refine Kd.C_drew ?_)))
  (case side2 => exact HC0_1.out)
  rintro e w56 ⟨v359, rfl, ho0, hb⟩
  refine ⟨_, rfl, ?_⟩
  have n0_ := Aside0.mk (Kd.R_elder' (by (with_reducible repeat (first | apply Kd.R_alloc | apply Kd.R_drewN | apply Kd.R_drew)); exact HO_341001.out) (Kd.R_base ho0) hb)
  have n1_ := Aside0.mk (Kd.R_elder' (by (with_reducible repeat (first | apply Kd.R_alloc | apply Kd.R_drewN | apply Kd.R_drew)); exact HO_348001.out) (Kd.R_base ho0) hb)
  have n2_ := Aside0.mk (Kd.R_elder' (by (with_reducible repeat (first | apply Kd.R_alloc | apply Kd.R_drewN | apply Kd.R_drew)); exact HO_356001.out) (Kd.R_base ho0) hb)
  have n3_ := Aside0.mk (Kd.R_lower (Kd.R_new' (Kd.R_new' (Kd.R_new' ho0 (Kd.R_lt (by (with_reducible repeat (first | apply Kd.R_alloc | apply Kd.R_drewN | apply Kd.R_drew)); exact HO_341001.out))) (Kd.R_lt (by (with_reducible repeat (first | apply Kd.R_alloc | apply Kd.R_drewN | apply Kd.R_drew)); exact HO_348001.out))) (Kd.R_lt (by (with_reducible repeat (first | apply Kd.R_alloc | apply Kd.R_drewN | apply Kd.R_drew)); exact HO_356001.out))) (below_size (by repeat (first | (with_reducible first | exact HB.out | apply below_alloc | apply pw_below_drewN | apply below_drew1 | refine below_set ?_ GE325.out | refine below_set ?_ GE340.out | refine below_set ?_ GE347.out | refine below_set ?_ GE355.out) | exact HB.out))))
  have n4_ := Aside0.mk (blk_below (g := gb325) (o := .cells #[.int .i64 a0_0, .slice A0_1 l0_1.length c0_1, .int .i64 a0_2, .bool a0_3] 24 (0, 0)) (by (with_reducible repeat (first | refine blk_drewN ?_ _ | refine blk_drew ?_ | refine blk_alloc ?_ _)); exact BK325.out) hb)
  have n5_ := Aside0.mk (blk_below (g := gb340) (o := .cells #[.int .i64 t333, .slice Ao19 t334.length co19, .int .i64 t337, .bool t338] 27 (0, 0)) (by (with_reducible repeat (first | refine blk_drewN ?_ _ | refine blk_drew ?_ | refine blk_alloc ?_ _)); exact BK340.out) hb)
  have n6_ := Aside0.mk (blk_below (g := gb347) (o := .cells #[.int .i64 t341, .slice Ao26 t342.length co26, .int .i64 t345, .bool t346] 27 (0, 0)) (by (with_reducible repeat (first | refine blk_drewN ?_ _ | refine blk_drew ?_ | refine blk_alloc ?_ _)); exact BK347.out) hb)
  have n7_ := Aside0.mk (blk_below (g := gb355) (o := .cells #[.int .i64 t348, .slice Ao33 t349.length co33, .int .i64 t352, .bool t353] 27 (0, 0)) (by (with_reducible repeat (first | refine blk_drewN ?_ _ | refine blk_drew ?_ | refine blk_alloc ?_ _)); exact BK355.out) hb)
  have n8_ := Aside0.mk (below_step (by repeat (first | (with_reducible first | exact HB.out | apply below_alloc | apply pw_below_drewN | apply below_drew1 | refine below_set ?_ GE325.out | refine below_set ?_ GE340.out | refine below_set ?_ GE347.out | refine below_set ?_ GE355.out) | exact HB.out)) hb)
  clear HO_341001
  clear HO_348001
  clear HO_356001
  clear BK325
  clear BK340
  clear BK347
  clear BK355
  clear HB
  have HO_341001 := n0_
  have HO_348001 := n1_
  have HO_356001 := n2_
  have HO360 := n3_
  have BK325 := n4_
  have BK340 := n5_
  have BK347 := n6_
  have BK355 := n7_
  have HB := n8_
  clear n0_ n1_ n2_ n3_ n4_ n5_ n6_ n7_ n8_
  (try clear hb)
  (try clear hb2)
  (try clear hk)
  (try clear hi)
  (try clear ho0)
  obtain ⟨Ao57, co57, eo57⟩ := Kd.R_slice HO360.out
  (first | subst eo57 | (injection eo57 with f1_ f2_ f3_; have f4_ := f1_.symm; have f5_ := f3_.symm; clear f1_ f2_ f3_; subst f4_; subst f5_))
  refine hK.out _ _ ⟨(blk_cell BK347.out 0).trans rfl, (blk_cell BK347.out 1).trans rfl, (blk_cell BK347.out 2).trans rfl, (blk_cell BK347.out 3).trans rfl, (blk_cell BK325.out 0).trans rfl, (blk_cell BK325.out 1).trans rfl, (blk_cell BK325.out 2).trans rfl, (blk_cell BK325.out 3).trans rfl⟩ (fun hHeld => ?_)
  clear hK K
  refine norm_ (a' := ?_) ?_ ?_
  rotate_left
  · show Act.put _ (some 43) _ = _
    simp only [Act.put, List.setIfInBounds_toArray, List.set_cons_zero, List.set_cons_succ, i64_w, i32_w]
    rfl
  refine one_ (i := 3) (N := some 44) #[true, true, true, true, false] rfl rfl (by kernel_rfl) (by decide) (fun K hK => ?_)
  refine goes_ Try.func19 (by kernel_rfl) rfl #[.agg #[.int .i64 t341, .slice Ao26 t342.length co26, .int .i64 t345, .bool t346], .agg #[.int .i64 t357, .slice Ao57 t358.length co57, .int .i64 t361, .bool t362]] (by rfl) rfl rfl (by (try simp only [List.map_toArray, List.map_cons, List.map_nil]); first | done | rfl | (simp only [List.length_drop, List.length_take]; rfl)) ?_
  with_reducible refine (laws_eqRollout.calls kj10 t341 _ _ t342 t345 t346 t357 _ _ t358 t361 t362 t363 _ ?side1 ?side2 ?side3 ?side4 A54.out).mono ?_
  (case side1 => repeat (first | exact (Kd.R_reads' HO_348001.out).2.2 | (with_reducible refine Kd.C_alloc ?_ _) | (with_reducible refine Kd.C_drewN ?_ _) | (with_reducible refine Kd.C_drew ?_)))
  (case side2 => exact (Kd.R_reads' HO_348001.out).2.1)
  (case side3 => repeat (first | exact (Kd.R_reads' HO360.out).2.2 | (with_reducible refine Kd.C_alloc ?_ _) | (with_reducible refine Kd.C_drewN ?_ _) | (with_reducible refine Kd.C_drew ?_)))
  (case side4 => exact (Kd.R_reads' HO360.out).2.1)
  rintro e w58 ⟨rfl, hb⟩
  refine ⟨_, rfl, ?_⟩
  have n0_ := Aside0.mk (Kd.R_below (by (with_reducible repeat (first | apply Kd.R_alloc | apply Kd.R_drewN | apply Kd.R_drew)); exact HO_341001.out) hb)
  have n1_ := Aside0.mk (Kd.R_below (by (with_reducible repeat (first | apply Kd.R_alloc | apply Kd.R_drewN | apply Kd.R_drew)); exact HO_348001.out) hb)
  have n2_ := Aside0.mk (Kd.R_below (by (with_reducible repeat (first | apply Kd.R_alloc | apply Kd.R_drewN | apply Kd.R_drew)); exact HO_356001.out) hb)
  have n3_ := Aside0.mk (Kd.R_below (by (with_reducible repeat (first | apply Kd.R_alloc | apply Kd.R_drewN | apply Kd.R_drew)); exact HO360.out) hb)
  have n4_ := Aside0.mk (blk_below (g := gb325) (o := .cells #[.int .i64 a0_0, .slice A0_1 l0_1.length c0_1, .int .i64 a0_2, .bool a0_3] 24 (0, 0)) (by (with_reducible repeat (first | refine blk_drewN ?_ _ | refine blk_drew ?_ | refine blk_alloc ?_ _)); exact BK325.out) hb)
  have n5_ := Aside0.mk (blk_below (g := gb340) (o := .cells #[.int .i64 t333, .slice Ao19 t334.length co19, .int .i64 t337, .bool t338] 27 (0, 0)) (by (with_reducible repeat (first | refine blk_drewN ?_ _ | refine blk_drew ?_ | refine blk_alloc ?_ _)); exact BK340.out) hb)
  have n6_ := Aside0.mk (blk_below (g := gb347) (o := .cells #[.int .i64 t341, .slice Ao26 t342.length co26, .int .i64 t345, .bool t346] 27 (0, 0)) (by (with_reducible repeat (first | refine blk_drewN ?_ _ | refine blk_drew ?_ | refine blk_alloc ?_ _)); exact BK347.out) hb)
  have n7_ := Aside0.mk (blk_below (g := gb355) (o := .cells #[.int .i64 t348, .slice Ao33 t349.length co33, .int .i64 t352, .bool t353] 27 (0, 0)) (by (with_reducible repeat (first | refine blk_drewN ?_ _ | refine blk_drew ?_ | refine blk_alloc ?_ _)); exact BK355.out) hb)
  have n8_ := Aside0.mk (below_step (by repeat (first | (with_reducible first | exact HB.out | apply below_alloc | apply pw_below_drewN | apply below_drew1 | refine below_set ?_ GE325.out | refine below_set ?_ GE340.out | refine below_set ?_ GE347.out | refine below_set ?_ GE355.out) | exact HB.out)) hb)
  clear HO_341001
  clear HO_348001
  clear HO_356001
  clear HO360
  clear BK325
  clear BK340
  clear BK347
  clear BK355
  clear HB
  have HO_341001 := n0_
  have HO_348001 := n1_
  have HO_356001 := n2_
  have HO360 := n3_
  have BK325 := n4_
  have BK340 := n5_
  have BK347 := n6_
  have BK355 := n7_
  have HB := n8_
  clear n0_ n1_ n2_ n3_ n4_ n5_ n6_ n7_ n8_
  (try clear hb)
  (try clear hb2)
  (try clear hk)
  (try clear hi)
  refine hK.out _ _ ⟨(blk_cell BK347.out 0).trans rfl, (blk_cell BK347.out 1).trans rfl, (blk_cell BK347.out 2).trans rfl, (blk_cell BK347.out 3).trans rfl, (blk_cell BK325.out 0).trans rfl, (blk_cell BK325.out 1).trans rfl, (blk_cell BK325.out 2).trans rfl, (blk_cell BK325.out 3).trans rfl⟩ (fun hHeld => ?_)
  clear hK K
  refine norm_ (a' := ?_) ?_ ?_
  rotate_left
  · show Act.put _ (some 44) _ = _
    simp only [Act.put, List.setIfInBounds_toArray, List.set_cons_zero, List.set_cons_succ, i64_w, i32_w]
    rfl
  refine pure_ (i := 4) (N := some 45) (v := ?_) (a' := ?_) #[true, true, true, true, true] rfl rfl (by kernel_rfl) (fun _ _ _ h => h) (Or.inl ⟨by rfl, ?_⟩) ?_ ?_
  rotate_left
  · intro w'
    go_simp
    (try (simp only [Instr.field]; simp only [underlying, hu24, hu27]; go_simp; simp only [asAgg]; go_simp))
    with_reducible rfl
  rotate_left
  · simp only [Act.put, List.setIfInBounds_toArray, List.set_cons_zero, List.set_cons_succ, i64_w, i32_w]
    rfl
  refine done_ (by kernel_rfl) ?_
  go_upto_if 45 with (fail)
  have H := HS_.out
  clear HS_
  by_cases c59 : t363 = true
  rotate_left
  · replace c59 := Bool.eq_false_iff.mpr c59
    subst c59
    have H1 : (some false) = some r := by rw [if_neg (show ¬ (false = true) by decide)] at H; exact H
    clear H
    have H := H1
    clear H1
    obtain rfl := Option.some.inj H
    go_wp2
    go_ret
    exact ⟨by first | rfl | (simp [errW_none, errW_some] <;> rfl) | (simp [*, errW_none, errW_some] <;> rfl), by repeat (first | (with_reducible first | exact HB.out | apply below_alloc | apply pw_below_drewN | apply below_drew1 | refine below_set ?_ GE325.out | refine below_set ?_ GE340.out | refine below_set ?_ GE347.out | refine below_set ?_ GE355.out) | exact HB.out)⟩
  subst c59
  have H1 : ((laws_markRollout.f kj10 t341 t342 t345 t346 1).bind fun bt364 => (if bt364.1 < 0 then (laws_FnExactNextStage.j1 kj10 t339 true a0_0 l0_1 a0_2 a0_3 t333 t334 t337 t338 t348 t349 t352 t353) else ((laws_eqRollout.f kj10 t348 t349 t352 t353 t333 t334 t337 t338).bind fun t366 => (if t366 = true then (laws_FnExactNextStage.j1 kj10 t339 (t354 != t339) a0_0 l0_1 a0_2 a0_3 t333 t334 t337 t338 t348 t349 t352 t353) else (laws_FnExactNextStage.j1 kj10 t339 true a0_0 l0_1 a0_2 a0_3 t333 t334 t337 t338 t348 t349 t352 t353))))) = some r := by rw [if_pos rfl] at H; exact H
  clear H
  have H := H1
  clear H1
  replace H := Option.bind_eq_some_iff.mp H
  obtain ⟨⟨t364, t365⟩, A600, H⟩ := H
  replace H : (if t364 < 0 then (laws_FnExactNextStage.j1 kj10 t339 true a0_0 l0_1 a0_2 a0_3 t333 t334 t337 t338 t348 t349 t352 t353) else ((laws_eqRollout.f kj10 t348 t349 t352 t353 t333 t334 t337 t338).bind fun t366 => (if t366 = true then (laws_FnExactNextStage.j1 kj10 t339 (t354 != t339) a0_0 l0_1 a0_2 a0_3 t333 t334 t337 t338 t348 t349 t352 t353) else (laws_FnExactNextStage.j1 kj10 t339 true a0_0 l0_1 a0_2 a0_3 t333 t334 t337 t338 t348 t349 t352 t353)))) = some r := H
  have A60 := Aside0.mk A600
  clear A600
  have HC61 := Aside0.mk H
  clear H
  have hnb62 := NB347_325.out
  have hnc62 := NB325_347.out
  have hnb63 := NB347_340.out
  have hnc63 := NB340_347.out
  have hnb64 := NB347_355.out
  have hnc64 := NB355_347.out
  have hcz65_0 : w58.cell? ⟨gb347, 0, none⟩ = some (.int .i64 t341) := (blk_cell BK347.out 0).trans rfl
  have hcz65_1 : w58.cell? ⟨gb347, 1, none⟩ = some (.slice Ao26 t342.length co26) := (blk_cell BK347.out 1).trans rfl
  have hcz65_2 : w58.cell? ⟨gb347, 2, none⟩ = some (.int .i64 t345) := (blk_cell BK347.out 2).trans rfl
  have hcz65_3 : w58.cell? ⟨gb347, 3, none⟩ = some (.bool t346) := (blk_cell BK347.out 3).trans rfl
  have hfz65_0 := blk_frozen BK347.out 0
  have hfz65_1 := blk_frozen BK347.out 1
  have hfz65_2 := blk_frozen BK347.out 2
  have hfz65_3 := blk_frozen BK347.out 3
  go_upto_region 14 with (first | ((with_reducible refine gate_callee (f := 28) rfl ?_); refine goesL_ (some 48) rfl rfl Try.func28 (by kernel_rfl) rfl #[.agg #[.int .i64 t341, .slice Ao26 t342.length co26, .int .i64 t345, .bool t346], .int .i64 1] rfl (by (try simp only [List.map_toArray, List.map_cons, List.map_nil]); first | done | rfl | (simp only [List.length_drop, List.length_take]; rfl)) ?_; (with_reducible refine (laws_markRollout.calls kj10 t341 (fun k_ => some k_ = (.slice Ao26 t342.length co26 : Value).ownBlock) (.slice Ao26 t342.length co26) t342 t345 t346 1 t364 t365 w _ ?side1 ?side2 A60.out).mono ?_); (case side1 => repeat (first | (with_reducible first | exact HB.out | apply below_alloc | apply pw_below_drewN | apply below_drew1 | refine below_set ?_ GE325.out | refine below_set ?_ GE340.out | refine below_set ?_ GE347.out | refine below_set ?_ GE355.out) | exact HB.out)); (case side2 => exact Kd.R_tight rfl HO_348001.out); rintro e w66 ⟨rfl, hy0, hb, hkp⟩; refine ⟨_, rfl, ?_⟩; have n0_ := Aside0.mk (Kd.R_mono (ok' := fun k_ => some k_ ≠ (.slice Ao26 t342.length co26 : Value).ownBlock ∧ some k_ ≠ (.slice Ao33 t349.length co33 : Value).ownBlock ∧ some k_ ≠ (.slice Ao57 t358.length co57 : Value).ownBlock) (Kd.R_keptB (HO_341001.out) hkp (fun k_ hk_ hs_ => (hk_.1.1) hs_)) (fun k_ hk_ => ⟨hk_.1.1.1, hk_.1.1.2, hk_.1.2⟩)); have n1_ := Aside0.mk (Kd.R_reok rfl hy0 (fun k_ e_ => HO_348001.out.1 k_ e_)); have n2_ := Aside0.mk (Kd.R_mono (ok' := fun k_ => some k_ ≠ (.slice Ao19 t334.length co19 : Value).ownBlock ∧ some k_ ≠ (.slice Ao26 t342.length co26 : Value).ownBlock ∧ some k_ ≠ (.slice Ao57 t358.length co57 : Value).ownBlock) (Kd.R_keptB (HO_356001.out) hkp (fun k_ hk_ hs_ => (hk_.1.2) hs_)) (fun k_ hk_ => ⟨hk_.1.1.1, hk_.1.1.2, hk_.1.2⟩)); have n3_ := Aside0.mk (blk_kept (by (with_reducible repeat (first | refine blk_drewN ?_ _ | refine blk_drew ?_ | refine blk_alloc ?_ _)); exact BK325.out) hkp (fun hs_ => (fun e_ => (Kd.R_ne HO_348001.out BK325.out (by decide)) e_) hs_)); have n4_ := Aside0.mk (blk_kept (by (with_reducible repeat (first | refine blk_drewN ?_ _ | refine blk_drew ?_ | refine blk_alloc ?_ _)); exact BK340.out) hkp (fun hs_ => (fun e_ => (Kd.R_ne HO_348001.out BK340.out (by decide)) e_) hs_)); have n5_ := Aside0.mk (blk_kept (by (with_reducible repeat (first | refine blk_drewN ?_ _ | refine blk_drew ?_ | refine blk_alloc ?_ _)); exact BK347.out) hkp (fun hs_ => (fun e_ => (Kd.R_ne HO_348001.out BK347.out (by decide)) e_) hs_)); have n6_ := Aside0.mk (blk_kept (by (with_reducible repeat (first | refine blk_drewN ?_ _ | refine blk_drew ?_ | refine blk_alloc ?_ _)); exact BK355.out) hkp (fun hs_ => (fun e_ => (Kd.R_ne HO_348001.out BK355.out (by decide)) e_) hs_)); have n7_ := Aside0.mk (Kd.R_mono (ok' := fun k_ => some k_ ≠ (.slice Ao19 t334.length co19 : Value).ownBlock ∧ some k_ ≠ (.slice Ao26 t342.length co26 : Value).ownBlock ∧ some k_ ≠ (.slice Ao33 t349.length co33 : Value).ownBlock) (Kd.R_keptB (HO360.out) hkp (fun k_ hk_ hs_ => (hk_.1.2) hs_)) (fun k_ hk_ => ⟨hk_.1.1.1.2, hk_.1.1.2, hk_.1.2⟩)); have n8_ := Aside0.mk (hb); clear HO_341001; clear HO_348001; clear HO_356001; clear BK325; clear BK340; clear BK347; clear BK355; clear HO360; clear HB; have HO_341001 := n0_; have HO_348001 := n1_; have HO_356001 := n2_; have BK325 := n3_; have BK340 := n4_; have BK347 := n5_; have BK355 := n6_; have HO360 := n7_; have HB := n8_; clear n0_ n1_ n2_ n3_ n4_ n5_ n6_ n7_ n8_; (try clear hb); (try clear hkp); (try clear hy0)))
  (try simp only [Act.put, List.setIfInBounds_toArray, List.set_cons_zero, List.set_cons_succ])
  go_cut [61] (fun v61 wc => ∃ (kq : Nat) (x61_60 : Bool), v61 = .bool x61_60 ∧ Aside0 (laws_FnExactNextStage.j1 kq t339 x61_60 a0_0 l0_1 a0_2 a0_3 t333 t334 t337 t338 t348 t349 t352 t353 = some r) ∧ Aside0 (kq ≤ kj10) ∧ Aside0 (Kd.R (Kd.int .i64) 3 wc w.heap.size (fun k_ => some k_ ≠ ((.slice Ao26 t342.length co26) : Value).ownBlock ∧ some k_ ≠ ((.slice Ao33 t349.length co33) : Value).ownBlock) (.slice Ao19 t334.length co19) t334) ∧ Aside0 (Kd.R (Kd.int .i64) 3 wc w.heap.size (fun k_ => some k_ ≠ ((.slice Ao19 t334.length co19) : Value).ownBlock ∧ some k_ ≠ ((.slice Ao33 t349.length co33) : Value).ownBlock) (.slice Ao26 t342.length co26) t365) ∧ Aside0 (Kd.R (Kd.int .i64) 3 wc w.heap.size (fun k_ => some k_ ≠ ((.slice Ao19 t334.length co19) : Value).ownBlock ∧ some k_ ≠ ((.slice Ao26 t342.length co26) : Value).ownBlock) (.slice Ao33 t349.length co33) t349) ∧ Aside0 (wc.heap[gb325]? = some (.cells #[.int .i64 a0_0, (.slice A0_1 l0_1.length c0_1), .int .i64 a0_2, .bool a0_3] 24 (0, 0))) ∧ Aside0 (wc.heap[gb340]? = some (.cells #[.int .i64 t333, (.slice Ao19 t334.length co19), .int .i64 t337, .bool t338] 27 (0, 0))) ∧ Aside0 (wc.heap[gb347]? = some (.cells #[.int .i64 t341, (.slice Ao26 t342.length co26), .int .i64 t345, .bool t346] 27 (0, 0))) ∧ Aside0 (wc.heap[gb355]? = some (.cells #[.int .i64 t348, (.slice Ao33 t349.length co33), .int .i64 t352, .bool t353] 27 (0, 0))) ∧ Aside0 (Below w.heap.size w wc))
  case first =>
    have H := HC61.out
    clear HC61
    by_cases c67 : t364 < 0
    · rw [if_pos c67] at H
      have c67b0 : decide (t364 < 0) = true := decide_eq_true c67
      clear c67
      (first | rw [c67b0] | (simp only [i64_w, i32_w]; rw [c67b0]) | skip)
      have H' := Aside0.mk H
      clear H
      go_wp2
      go_meet
      case rel => exact ⟨_, (true), (by first | rfl | (simp; done) | (simp [*]; done)), H', ⟨by have := HJ10.out; first | omega | exact Nat.le_refl _⟩, ⟨by (with_reducible repeat (first | apply Kd.R_alloc | apply Kd.R_drewN | apply Kd.R_drew)); exact Kd.R_mono HO_341001.out (fun _ hk => ⟨hk.1, hk.2.1⟩)⟩, ⟨by (with_reducible repeat (first | apply Kd.R_alloc | apply Kd.R_drewN | apply Kd.R_drew)); exact Kd.R_mono HO_348001.out (fun _ hk => ⟨hk.1.1, hk.1.2⟩)⟩, ⟨by (with_reducible repeat (first | apply Kd.R_alloc | apply Kd.R_drewN | apply Kd.R_drew)); exact Kd.R_mono HO_356001.out (fun _ hk => ⟨hk.1, hk.2.1⟩)⟩, ⟨by (with_reducible repeat (first | refine blk_drewN ?_ _ | refine blk_drew ?_ | refine blk_alloc ?_ _)); exact BK325.out⟩, ⟨by (with_reducible repeat (first | refine blk_drewN ?_ _ | refine blk_drew ?_ | refine blk_alloc ?_ _)); exact BK340.out⟩, ⟨by (with_reducible repeat (first | refine blk_drewN ?_ _ | refine blk_drew ?_ | refine blk_alloc ?_ _)); exact BK347.out⟩, ⟨by (with_reducible repeat (first | refine blk_drewN ?_ _ | refine blk_drew ?_ | refine blk_alloc ?_ _)); exact BK355.out⟩, ⟨by repeat (first | (with_reducible first | exact HB.out | apply below_alloc | apply pw_below_drewN | apply below_drew1 | refine below_set ?_ GE325.out | refine below_set ?_ GE340.out | refine below_set ?_ GE347.out | refine below_set ?_ GE355.out) | exact HB.out)⟩⟩
    rw [if_neg c67] at H
    have c67b0 : decide (t364 < 0) = false := decide_eq_false c67
    clear c67
    (first | rw [c67b0] | (simp only [i64_w, i32_w]; rw [c67b0]) | skip)
    replace H := Option.bind_eq_some_iff.mp H
    obtain ⟨t366, A680, H⟩ := H
    replace H : (if t366 = true then (laws_FnExactNextStage.j1 kj10 t339 (t354 != t339) a0_0 l0_1 a0_2 a0_3 t333 t334 t337 t338 t348 t349 t352 t353) else (laws_FnExactNextStage.j1 kj10 t339 true a0_0 l0_1 a0_2 a0_3 t333 t334 t337 t338 t348 t349 t352 t353)) = some r := H
    have A68 := Aside0.mk A680
    clear A680
    by_cases c69 : t366 = true
    rotate_left
    · replace c69 := Bool.eq_false_iff.mpr c69
      subst c69
      have H1 : (laws_FnExactNextStage.j1 kj10 t339 true a0_0 l0_1 a0_2 a0_3 t333 t334 t337 t338 t348 t349 t352 t353) = some r := by rw [if_neg (show ¬ (false = true) by decide)] at H; exact H
      clear H
      have H := H1
      clear H1
      have H' := Aside0.mk H
      clear H
      have hnb70 := NB355_325.out
      have hnc70 := NB325_355.out
      have hnb71 := NB355_340.out
      have hnc71 := NB340_355.out
      have hnb72 := NB355_347.out
      have hnc72 := NB347_355.out
      have hcz73_0 : w66.cell? ⟨gb355, 0, none⟩ = some (.int .i64 t348) := (blk_cell BK355.out 0).trans rfl
      have hcz73_1 : w66.cell? ⟨gb355, 1, none⟩ = some (.slice Ao33 t349.length co33) := (blk_cell BK355.out 1).trans rfl
      have hcz73_2 : w66.cell? ⟨gb355, 2, none⟩ = some (.int .i64 t352) := (blk_cell BK355.out 2).trans rfl
      have hcz73_3 : w66.cell? ⟨gb355, 3, none⟩ = some (.bool t353) := (blk_cell BK355.out 3).trans rfl
      have hfz73_0 := blk_frozen BK355.out 0
      have hfz73_1 := blk_frozen BK355.out 1
      have hfz73_2 := blk_frozen BK355.out 2
      have hfz73_3 := blk_frozen BK355.out 3
      have hnb74 := NB340_325.out
      have hnc74 := NB325_340.out
      have hnb75 := NB340_347.out
      have hnc75 := NB347_340.out
      have hcz76_0 : w66.cell? ⟨gb340, 0, none⟩ = some (.int .i64 t333) := (blk_cell BK340.out 0).trans rfl
      have hcz76_1 : w66.cell? ⟨gb340, 1, none⟩ = some (.slice Ao19 t334.length co19) := (blk_cell BK340.out 1).trans rfl
      have hcz76_2 : w66.cell? ⟨gb340, 2, none⟩ = some (.int .i64 t337) := (blk_cell BK340.out 2).trans rfl
      have hcz76_3 : w66.cell? ⟨gb340, 3, none⟩ = some (.bool t338) := (blk_cell BK340.out 3).trans rfl
      have hfz76_0 := blk_frozen BK340.out 0
      have hfz76_1 := blk_frozen BK340.out 1
      have hfz76_2 := blk_frozen BK340.out 2
      have hfz76_3 := blk_frozen BK340.out 3
      go_wp2_with (first | (go_at_call 19; (with_reducible refine (laws_eqRollout.calls kj10 t348 _ _ t349 t352 t353 t333 _ _ t334 t337 t338 false _ ?side1 ?side2 ?side3 ?side4 A68.out).mono ?_); (case side1 => repeat (first | exact (Kd.R_reads' HO_356001.out).2.2 | (with_reducible refine Kd.C_alloc ?_ _) | (with_reducible refine Kd.C_drewN ?_ _) | (with_reducible refine Kd.C_drew ?_))); (case side2 => exact (Kd.R_reads' HO_356001.out).2.1); (case side3 => repeat (first | exact (Kd.R_reads' HO_341001.out).2.2 | (with_reducible refine Kd.C_alloc ?_ _) | (with_reducible refine Kd.C_drewN ?_ _) | (with_reducible refine Kd.C_drew ?_))); (case side4 => exact (Kd.R_reads' HO_341001.out).2.1); rintro e w77 ⟨rfl, hb⟩; have n0_ := Aside0.mk (Kd.R_below (by (with_reducible repeat (first | apply Kd.R_alloc | apply Kd.R_drewN | apply Kd.R_drew)); exact HO_341001.out) hb); have n1_ := Aside0.mk (Kd.R_below (by (with_reducible repeat (first | apply Kd.R_alloc | apply Kd.R_drewN | apply Kd.R_drew)); exact HO_348001.out) hb); have n2_ := Aside0.mk (Kd.R_below (by (with_reducible repeat (first | apply Kd.R_alloc | apply Kd.R_drewN | apply Kd.R_drew)); exact HO_356001.out) hb); have n3_ := Aside0.mk (Kd.R_below (by (with_reducible repeat (first | apply Kd.R_alloc | apply Kd.R_drewN | apply Kd.R_drew)); exact HO360.out) hb); have n4_ := Aside0.mk (blk_below (g := gb325) (o := .cells #[.int .i64 a0_0, .slice A0_1 l0_1.length c0_1, .int .i64 a0_2, .bool a0_3] 24 (0, 0)) (by (with_reducible repeat (first | refine blk_drewN ?_ _ | refine blk_drew ?_ | refine blk_alloc ?_ _)); exact BK325.out) hb); have n5_ := Aside0.mk (blk_below (g := gb340) (o := .cells #[.int .i64 t333, .slice Ao19 t334.length co19, .int .i64 t337, .bool t338] 27 (0, 0)) (by (with_reducible repeat (first | refine blk_drewN ?_ _ | refine blk_drew ?_ | refine blk_alloc ?_ _)); exact BK340.out) hb); have n6_ := Aside0.mk (blk_below (g := gb347) (o := .cells #[.int .i64 t341, .slice Ao26 t342.length co26, .int .i64 t345, .bool t346] 27 (0, 0)) (by (with_reducible repeat (first | refine blk_drewN ?_ _ | refine blk_drew ?_ | refine blk_alloc ?_ _)); exact BK347.out) hb); have n7_ := Aside0.mk (blk_below (g := gb355) (o := .cells #[.int .i64 t348, .slice Ao33 t349.length co33, .int .i64 t352, .bool t353] 27 (0, 0)) (by (with_reducible repeat (first | refine blk_drewN ?_ _ | refine blk_drew ?_ | refine blk_alloc ?_ _)); exact BK355.out) hb); have n8_ := Aside0.mk (below_step (by repeat (first | (with_reducible first | exact HB.out | apply below_alloc | apply pw_below_drewN | apply below_drew1 | refine below_set ?_ GE325.out | refine below_set ?_ GE340.out | refine below_set ?_ GE347.out | refine below_set ?_ GE355.out) | exact HB.out)) hb); clear HO_341001; clear HO_348001; clear HO_356001; clear HO360; clear BK325; clear BK340; clear BK347; clear BK355; clear HB; have HO_341001 := n0_; have HO_348001 := n1_; have HO_356001 := n2_; have HO360 := n3_; have BK325 := n4_; have BK340 := n5_; have BK347 := n6_; have BK355 := n7_; have HB := n8_; clear n0_ n1_ n2_ n3_ n4_ n5_ n6_ n7_ n8_; (try clear hb); (try clear hb2); (try clear hk); (try clear hi)))
      go_meet
      case rel => exact ⟨_, (true), (by first | rfl | (simp; done) | (simp [*]; done)), H', ⟨by have := HJ10.out; first | omega | exact Nat.le_refl _⟩, ⟨by (with_reducible repeat (first | apply Kd.R_alloc | apply Kd.R_drewN | apply Kd.R_drew)); exact Kd.R_mono HO_341001.out (fun _ hk => ⟨hk.1, hk.2.1⟩)⟩, ⟨by (with_reducible repeat (first | apply Kd.R_alloc | apply Kd.R_drewN | apply Kd.R_drew)); exact Kd.R_mono HO_348001.out (fun _ hk => ⟨hk.1.1, hk.1.2⟩)⟩, ⟨by (with_reducible repeat (first | apply Kd.R_alloc | apply Kd.R_drewN | apply Kd.R_drew)); exact Kd.R_mono HO_356001.out (fun _ hk => ⟨hk.1, hk.2.1⟩)⟩, ⟨by (with_reducible repeat (first | refine blk_drewN ?_ _ | refine blk_drew ?_ | refine blk_alloc ?_ _)); exact BK325.out⟩, ⟨by (with_reducible repeat (first | refine blk_drewN ?_ _ | refine blk_drew ?_ | refine blk_alloc ?_ _)); exact BK340.out⟩, ⟨by (with_reducible repeat (first | refine blk_drewN ?_ _ | refine blk_drew ?_ | refine blk_alloc ?_ _)); exact BK347.out⟩, ⟨by (with_reducible repeat (first | refine blk_drewN ?_ _ | refine blk_drew ?_ | refine blk_alloc ?_ _)); exact BK355.out⟩, ⟨by repeat (first | (with_reducible first | exact HB.out | apply below_alloc | apply pw_below_drewN | apply below_drew1 | refine below_set ?_ GE325.out | refine below_set ?_ GE340.out | refine below_set ?_ GE347.out | refine below_set ?_ GE355.out) | exact HB.out)⟩⟩
    subst c69
    have H1 : (laws_FnExactNextStage.j1 kj10 t339 (t354 != t339) a0_0 l0_1 a0_2 a0_3 t333 t334 t337 t338 t348 t349 t352 t353) = some r := by rw [if_pos rfl] at H; exact H
    clear H
    have H := H1
    clear H1
    have H' := Aside0.mk H
    clear H
    have hnb78 := NB355_325.out
    have hnc78 := NB325_355.out
    have hnb79 := NB355_340.out
    have hnc79 := NB340_355.out
    have hnb80 := NB355_347.out
    have hnc80 := NB347_355.out
    have hcz81_0 : w66.cell? ⟨gb355, 0, none⟩ = some (.int .i64 t348) := (blk_cell BK355.out 0).trans rfl
    have hcz81_1 : w66.cell? ⟨gb355, 1, none⟩ = some (.slice Ao33 t349.length co33) := (blk_cell BK355.out 1).trans rfl
    have hcz81_2 : w66.cell? ⟨gb355, 2, none⟩ = some (.int .i64 t352) := (blk_cell BK355.out 2).trans rfl
    have hcz81_3 : w66.cell? ⟨gb355, 3, none⟩ = some (.bool t353) := (blk_cell BK355.out 3).trans rfl
    have hfz81_0 := blk_frozen BK355.out 0
    have hfz81_1 := blk_frozen BK355.out 1
    have hfz81_2 := blk_frozen BK355.out 2
    have hfz81_3 := blk_frozen BK355.out 3
    have hnb82 := NB340_325.out
    have hnc82 := NB325_340.out
    have hnb83 := NB340_347.out
    have hnc83 := NB347_340.out
    have hcz84_0 : w66.cell? ⟨gb340, 0, none⟩ = some (.int .i64 t333) := (blk_cell BK340.out 0).trans rfl
    have hcz84_1 : w66.cell? ⟨gb340, 1, none⟩ = some (.slice Ao19 t334.length co19) := (blk_cell BK340.out 1).trans rfl
    have hcz84_2 : w66.cell? ⟨gb340, 2, none⟩ = some (.int .i64 t337) := (blk_cell BK340.out 2).trans rfl
    have hcz84_3 : w66.cell? ⟨gb340, 3, none⟩ = some (.bool t338) := (blk_cell BK340.out 3).trans rfl
    have hfz84_0 := blk_frozen BK340.out 0
    have hfz84_1 := blk_frozen BK340.out 1
    have hfz84_2 := blk_frozen BK340.out 2
    have hfz84_3 := blk_frozen BK340.out 3
    go_wp2_with (first | (go_at_call 19; (with_reducible refine (laws_eqRollout.calls kj10 t348 _ _ t349 t352 t353 t333 _ _ t334 t337 t338 true _ ?side1 ?side2 ?side3 ?side4 A68.out).mono ?_); (case side1 => repeat (first | exact (Kd.R_reads' HO_356001.out).2.2 | (with_reducible refine Kd.C_alloc ?_ _) | (with_reducible refine Kd.C_drewN ?_ _) | (with_reducible refine Kd.C_drew ?_))); (case side2 => exact (Kd.R_reads' HO_356001.out).2.1); (case side3 => repeat (first | exact (Kd.R_reads' HO_341001.out).2.2 | (with_reducible refine Kd.C_alloc ?_ _) | (with_reducible refine Kd.C_drewN ?_ _) | (with_reducible refine Kd.C_drew ?_))); (case side4 => exact (Kd.R_reads' HO_341001.out).2.1); rintro e w85 ⟨rfl, hb⟩; have n0_ := Aside0.mk (Kd.R_below (by (with_reducible repeat (first | apply Kd.R_alloc | apply Kd.R_drewN | apply Kd.R_drew)); exact HO_341001.out) hb); have n1_ := Aside0.mk (Kd.R_below (by (with_reducible repeat (first | apply Kd.R_alloc | apply Kd.R_drewN | apply Kd.R_drew)); exact HO_348001.out) hb); have n2_ := Aside0.mk (Kd.R_below (by (with_reducible repeat (first | apply Kd.R_alloc | apply Kd.R_drewN | apply Kd.R_drew)); exact HO_356001.out) hb); have n3_ := Aside0.mk (Kd.R_below (by (with_reducible repeat (first | apply Kd.R_alloc | apply Kd.R_drewN | apply Kd.R_drew)); exact HO360.out) hb); have n4_ := Aside0.mk (blk_below (g := gb325) (o := .cells #[.int .i64 a0_0, .slice A0_1 l0_1.length c0_1, .int .i64 a0_2, .bool a0_3] 24 (0, 0)) (by (with_reducible repeat (first | refine blk_drewN ?_ _ | refine blk_drew ?_ | refine blk_alloc ?_ _)); exact BK325.out) hb); have n5_ := Aside0.mk (blk_below (g := gb340) (o := .cells #[.int .i64 t333, .slice Ao19 t334.length co19, .int .i64 t337, .bool t338] 27 (0, 0)) (by (with_reducible repeat (first | refine blk_drewN ?_ _ | refine blk_drew ?_ | refine blk_alloc ?_ _)); exact BK340.out) hb); have n6_ := Aside0.mk (blk_below (g := gb347) (o := .cells #[.int .i64 t341, .slice Ao26 t342.length co26, .int .i64 t345, .bool t346] 27 (0, 0)) (by (with_reducible repeat (first | refine blk_drewN ?_ _ | refine blk_drew ?_ | refine blk_alloc ?_ _)); exact BK347.out) hb); have n7_ := Aside0.mk (blk_below (g := gb355) (o := .cells #[.int .i64 t348, .slice Ao33 t349.length co33, .int .i64 t352, .bool t353] 27 (0, 0)) (by (with_reducible repeat (first | refine blk_drewN ?_ _ | refine blk_drew ?_ | refine blk_alloc ?_ _)); exact BK355.out) hb); have n8_ := Aside0.mk (below_step (by repeat (first | (with_reducible first | exact HB.out | apply below_alloc | apply pw_below_drewN | apply below_drew1 | refine below_set ?_ GE325.out | refine below_set ?_ GE340.out | refine below_set ?_ GE347.out | refine below_set ?_ GE355.out) | exact HB.out)) hb); clear HO_341001; clear HO_348001; clear HO_356001; clear HO360; clear BK325; clear BK340; clear BK347; clear BK355; clear HB; have HO_341001 := n0_; have HO_348001 := n1_; have HO_356001 := n2_; have HO360 := n3_; have BK325 := n4_; have BK340 := n5_; have BK347 := n6_; have BK355 := n7_; have HB := n8_; clear n0_ n1_ n2_ n3_ n4_ n5_ n6_ n7_ n8_; (try clear hb); (try clear hb2); (try clear hk); (try clear hi)))
    go_meet
    case rel => exact ⟨_, ((t354 != t339)), (by first | rfl | (simp; done) | (simp [*]; done)), H', ⟨by have := HJ10.out; first | omega | exact Nat.le_refl _⟩, ⟨by (with_reducible repeat (first | apply Kd.R_alloc | apply Kd.R_drewN | apply Kd.R_drew)); exact Kd.R_mono HO_341001.out (fun _ hk => ⟨hk.1, hk.2.1⟩)⟩, ⟨by (with_reducible repeat (first | apply Kd.R_alloc | apply Kd.R_drewN | apply Kd.R_drew)); exact Kd.R_mono HO_348001.out (fun _ hk => ⟨hk.1.1, hk.1.2⟩)⟩, ⟨by (with_reducible repeat (first | apply Kd.R_alloc | apply Kd.R_drewN | apply Kd.R_drew)); exact Kd.R_mono HO_356001.out (fun _ hk => ⟨hk.1, hk.2.1⟩)⟩, ⟨by (with_reducible repeat (first | refine blk_drewN ?_ _ | refine blk_drew ?_ | refine blk_alloc ?_ _)); exact BK325.out⟩, ⟨by (with_reducible repeat (first | refine blk_drewN ?_ _ | refine blk_drew ?_ | refine blk_alloc ?_ _)); exact BK340.out⟩, ⟨by (with_reducible repeat (first | refine blk_drewN ?_ _ | refine blk_drew ?_ | refine blk_alloc ?_ _)); exact BK347.out⟩, ⟨by (with_reducible repeat (first | refine blk_drewN ?_ _ | refine blk_drew ?_ | refine blk_alloc ?_ _)); exact BK355.out⟩, ⟨by repeat (first | (with_reducible first | exact HB.out | apply below_alloc | apply pw_below_drewN | apply below_drew1 | refine below_set ?_ GE325.out | refine below_set ?_ GE340.out | refine below_set ?_ GE347.out | refine below_set ?_ GE355.out) | exact HB.out)⟩⟩
  clear HC61
  try clear c1
  try clear c2
  try clear p2
  try clear c3
  try clear c4
  try clear c5
  try clear c6
  try clear c6b0
  try clear c7
  try clear c8
  try clear c15
  try clear c17
  try clear c19
  try clear c23
  try clear c24
  try clear c26
  try clear c27
  try clear c28
  try clear c29
  try clear c30
  try clear c31
  try clear c35
  try clear c36
  try clear c37
  try clear c38
  try clear c40
  try clear c41
  try clear c44
  try clear c45
  try clear c46
  try clear c48
  try clear c49
  try clear c52
  try clear c59
  try clear c62
  try clear c63
  try clear c64
  try clear c67
  try clear c67b0
  try clear c69
  try clear c70
  try clear c71
  try clear c72
  try clear c74
  try clear c75
  try clear c78
  try clear c79
  try clear c80
  try clear c82
  try clear c83
  try clear hcz12_0
  try clear hcz12_1
  try clear hcz12_2
  try clear hcz12_3
  try clear hcz18_0
  try clear hcz18_1
  try clear hcz18_2
  try clear hcz18_3
  try clear hcz20_0
  try clear hcz20_1
  try clear hcz20_2
  try clear hcz20_3
  try clear hcz25_0
  try clear hcz25_1
  try clear hcz25_2
  try clear hcz25_3
  try clear hcz32_0
  try clear hcz32_1
  try clear hcz32_2
  try clear hcz32_3
  try clear hcz39_0
  try clear hcz39_1
  try clear hcz39_2
  try clear hcz39_3
  try clear hcz42_0
  try clear hcz42_1
  try clear hcz42_2
  try clear hcz42_3
  try clear hcz47_0
  try clear hcz47_1
  try clear hcz47_2
  try clear hcz47_3
  try clear hcz4_0
  try clear hcz4_1
  try clear hcz4_2
  try clear hcz4_3
  try clear hcz50_0
  try clear hcz50_1
  try clear hcz50_2
  try clear hcz50_3
  try clear hcz65_0
  try clear hcz65_1
  try clear hcz65_2
  try clear hcz65_3
  try clear hcz73_0
  try clear hcz73_1
  try clear hcz73_2
  try clear hcz73_3
  try clear hcz76_0
  try clear hcz76_1
  try clear hcz76_2
  try clear hcz76_3
  try clear hcz81_0
  try clear hcz81_1
  try clear hcz81_2
  try clear hcz81_3
  try clear hcz84_0
  try clear hcz84_1
  try clear hcz84_2
  try clear hcz84_3
  try clear hfz12_0
  try clear hfz12_1
  try clear hfz12_2
  try clear hfz12_3
  try clear hfz18_0
  try clear hfz18_1
  try clear hfz18_2
  try clear hfz18_3
  try clear hfz20_0
  try clear hfz20_1
  try clear hfz20_2
  try clear hfz20_3
  try clear hfz25_0
  try clear hfz25_1
  try clear hfz25_2
  try clear hfz25_3
  try clear hfz32_0
  try clear hfz32_1
  try clear hfz32_2
  try clear hfz32_3
  try clear hfz39_0
  try clear hfz39_1
  try clear hfz39_2
  try clear hfz39_3
  try clear hfz42_0
  try clear hfz42_1
  try clear hfz42_2
  try clear hfz42_3
  try clear hfz47_0
  try clear hfz47_1
  try clear hfz47_2
  try clear hfz47_3
  try clear hfz4_0
  try clear hfz4_1
  try clear hfz4_2
  try clear hfz4_3
  try clear hfz50_0
  try clear hfz50_1
  try clear hfz50_2
  try clear hfz50_3
  try clear hfz65_0
  try clear hfz65_1
  try clear hfz65_2
  try clear hfz65_3
  try clear hfz73_0
  try clear hfz73_1
  try clear hfz73_2
  try clear hfz73_3
  try clear hfz76_0
  try clear hfz76_1
  try clear hfz76_2
  try clear hfz76_3
  try clear hfz81_0
  try clear hfz81_1
  try clear hfz81_2
  try clear hfz81_3
  try clear hfz84_0
  try clear hfz84_1
  try clear hfz84_2
  try clear hfz84_3
  try clear p2
  obtain ⟨kq, x61_60, rfl, HA, HJ60, HO_341001, HO_348001, HO_356001, BK325, BK340, BK347, BK355, HB⟩ := hcut
  have hl348001_60 := (Kd.R_reads' HO_348001.out).1
  rw [hl348001_60] at HO_348001
  (try simp only [hl348001_60])
  (try simp only [hl348001_60] at BK325)
  (try simp only [hl348001_60] at BK340)
  (try simp only [hl348001_60] at BK347)
  (try simp only [hl348001_60] at BK355)
  (try simp only [hl348001_60] at HO_341001)
  (try simp only [hl348001_60] at HO_356001)
  rcases kq with _ | kj60
  · exact absurd HA.out (by simp [laws_FnExactNextStage.j1])
  have H := HA.out
  clear HA
  simp only [laws_FnExactNextStage.j1] at H
  by_cases c86 : x61_60 = true
  · subst c86
    have H1 : (some false) = some r := by rw [if_pos rfl] at H; exact H
    clear H
    have H := H1
    clear H1
    obtain rfl := Option.some.inj H
    go_wp2
    go_ret
    exact ⟨by first | rfl | (simp [errW_none, errW_some] <;> rfl) | (simp [*, errW_none, errW_some] <;> rfl), by repeat (first | (with_reducible first | exact HB.out | apply below_alloc | apply pw_below_drewN | apply below_drew1 | refine below_set ?_ GE325.out | refine below_set ?_ GE340.out | refine below_set ?_ GE347.out | refine below_set ?_ GE355.out) | exact HB.out)⟩
  replace c86 := Bool.eq_false_iff.mpr c86
  subst c86
  have H1 : ((laws_markRollout.f kj60 t348 t349 t352 t353 1).bind fun bt367 => ((laws_heldRollout.f kj60 t348 bt367.2 t352 t353 1).bind fun t369 => (if t369 < 0 then (some false) else (if t369 = bt367.1 then ((laws_toRollout.f kj60 a0_0 l0_1 a0_2 a0_3).bind fun bt370 => ((impl_NextStage.f kj60 bt370.1 bt370.2.1 bt370.2.2.1 bt370.2.2.2).bind fun bt376 => ((laws_eqRollout.f kj60 bt376.1 bt376.2.1 bt376.2.2.1 bt376.2.2.2.1 t333 t334 t337 t338).bind fun t384 => (if t384 = true then (laws_FnExactNextStage.j2 kj60 bt367.1 (bt376.2.2.2.2 != t339) t348 bt367.2 t352 t353) else (laws_FnExactNextStage.j2 kj60 bt367.1 true t348 bt367.2 t352 t353))))) else (some false))))) = some r := by rw [if_neg (show ¬ (false = true) by decide)] at H; exact H
  clear H
  have H := H1
  clear H1
  replace H := Option.bind_eq_some_iff.mp H
  obtain ⟨⟨t367, t368⟩, A870, H⟩ := H
  replace H : ((laws_heldRollout.f kj60 t348 t368 t352 t353 1).bind fun t369 => (if t369 < 0 then (some false) else (if t369 = t367 then ((laws_toRollout.f kj60 a0_0 l0_1 a0_2 a0_3).bind fun bt370 => ((impl_NextStage.f kj60 bt370.1 bt370.2.1 bt370.2.2.1 bt370.2.2.2).bind fun bt376 => ((laws_eqRollout.f kj60 bt376.1 bt376.2.1 bt376.2.2.1 bt376.2.2.2.1 t333 t334 t337 t338).bind fun t384 => (if t384 = true then (laws_FnExactNextStage.j2 kj60 t367 (bt376.2.2.2.2 != t339) t348 t368 t352 t353) else (laws_FnExactNextStage.j2 kj60 t367 true t348 t368 t352 t353))))) else (some false)))) = some r := H
  have A87 := Aside0.mk A870
  clear A870
  have HS_ := Aside0.mk H
  clear H
  have hnb88 := NB355_325.out
  have hnc88 := NB325_355.out
  have hnb89 := NB355_340.out
  have hnc89 := NB340_355.out
  have hnb90 := NB355_347.out
  have hnc90 := NB347_355.out
  have hcz91_0 : wc.cell? ⟨gb355, 0, none⟩ = some (.int .i64 t348) := (blk_cell BK355.out 0).trans rfl
  have hcz91_1 : wc.cell? ⟨gb355, 1, none⟩ = some (.slice Ao33 t349.length co33) := (blk_cell BK355.out 1).trans rfl
  have hcz91_2 : wc.cell? ⟨gb355, 2, none⟩ = some (.int .i64 t352) := (blk_cell BK355.out 2).trans rfl
  have hcz91_3 : wc.cell? ⟨gb355, 3, none⟩ = some (.bool t353) := (blk_cell BK355.out 3).trans rfl
  have hfz91_0 := blk_frozen BK355.out 0
  have hfz91_1 := blk_frozen BK355.out 1
  have hfz91_2 := blk_frozen BK355.out 2
  have hfz91_3 := blk_frozen BK355.out 3
  go_upto_region 19 with (first | ((with_reducible refine gate_callee (f := 28) rfl ?_); refine goesL_ (some 64) rfl rfl Try.func28 (by kernel_rfl) rfl #[.agg #[.int .i64 t348, .slice Ao33 t349.length co33, .int .i64 t352, .bool t353], .int .i64 1] rfl (by (try simp only [List.map_toArray, List.map_cons, List.map_nil]); first | done | rfl | (simp only [List.length_drop, List.length_take]; rfl)) ?_; (with_reducible refine (laws_markRollout.calls kj60 t348 (fun k_ => some k_ = (.slice Ao33 t349.length co33 : Value).ownBlock) (.slice Ao33 t349.length co33) t349 t352 t353 1 t367 t368 w _ ?side1 ?side2 A87.out).mono ?_); (case side1 => repeat (first | (with_reducible first | exact HB.out | apply below_alloc | apply pw_below_drewN | apply below_drew1 | refine below_set ?_ GE325.out | refine below_set ?_ GE340.out | refine below_set ?_ GE347.out | refine below_set ?_ GE355.out) | exact HB.out)); (case side2 => exact Kd.R_tight rfl HO_356001.out); rintro e w92 ⟨rfl, hy0, hb, hkp⟩; refine ⟨_, rfl, ?_⟩; have n0_ := Aside0.mk (Kd.R_mono (ok' := fun k_ => some k_ ≠ (.slice Ao26 t365.length co26 : Value).ownBlock ∧ some k_ ≠ (.slice Ao33 t349.length co33 : Value).ownBlock) (Kd.R_keptB (HO_341001.out) hkp (fun k_ hk_ hs_ => (hk_.2) hs_)) (fun k_ hk_ => ⟨hk_.1.1, hk_.1.2⟩)); have n1_ := Aside0.mk (Kd.R_mono (ok' := fun k_ => some k_ ≠ (.slice Ao19 t334.length co19 : Value).ownBlock ∧ some k_ ≠ (.slice Ao33 t349.length co33 : Value).ownBlock) (Kd.R_keptB (HO_348001.out) hkp (fun k_ hk_ hs_ => (hk_.2) hs_)) (fun k_ hk_ => ⟨hk_.1.1, hk_.1.2⟩)); have n2_ := Aside0.mk (Kd.R_reok rfl hy0 (fun k_ e_ => HO_356001.out.1 k_ e_)); have n3_ := Aside0.mk (blk_kept (by (with_reducible repeat (first | refine blk_drewN ?_ _ | refine blk_drew ?_ | refine blk_alloc ?_ _)); exact BK325.out) hkp (fun hs_ => (fun e_ => (Kd.R_ne HO_356001.out BK325.out (by decide)) e_) hs_)); have n4_ := Aside0.mk (blk_kept (by (with_reducible repeat (first | refine blk_drewN ?_ _ | refine blk_drew ?_ | refine blk_alloc ?_ _)); exact BK340.out) hkp (fun hs_ => (fun e_ => (Kd.R_ne HO_356001.out BK340.out (by decide)) e_) hs_)); have n5_ := Aside0.mk (blk_kept (by (with_reducible repeat (first | refine blk_drewN ?_ _ | refine blk_drew ?_ | refine blk_alloc ?_ _)); exact BK347.out) hkp (fun hs_ => (fun e_ => (Kd.R_ne HO_356001.out BK347.out (by decide)) e_) hs_)); have n6_ := Aside0.mk (blk_kept (by (with_reducible repeat (first | refine blk_drewN ?_ _ | refine blk_drew ?_ | refine blk_alloc ?_ _)); exact BK355.out) hkp (fun hs_ => (fun e_ => (Kd.R_ne HO_356001.out BK355.out (by decide)) e_) hs_)); have n7_ := Aside0.mk (hb); clear HO_341001; clear HO_348001; clear HO_356001; clear BK325; clear BK340; clear BK347; clear BK355; clear HB; have HO_341001 := n0_; have HO_348001 := n1_; have HO_356001 := n2_; have BK325 := n3_; have BK340 := n4_; have BK347 := n5_; have BK355 := n6_; have HB := n7_; clear n0_ n1_ n2_ n3_ n4_ n5_ n6_ n7_; (try clear hb); (try clear hkp); (try clear hy0)))
  (try simp only [Act.put, List.setIfInBounds_toArray, List.set_cons_zero, List.set_cons_succ])
  have H := HS_.out
  clear HS_
  replace H := Option.bind_eq_some_iff.mp H
  obtain ⟨t369, A930, H⟩ := H
  replace H : (if t369 < 0 then (some false) else (if t369 = t367 then ((laws_toRollout.f kj60 a0_0 l0_1 a0_2 a0_3).bind fun bt370 => ((impl_NextStage.f kj60 bt370.1 bt370.2.1 bt370.2.2.1 bt370.2.2.2).bind fun bt376 => ((laws_eqRollout.f kj60 bt376.1 bt376.2.1 bt376.2.2.1 bt376.2.2.2.1 t333 t334 t337 t338).bind fun t384 => (if t384 = true then (laws_FnExactNextStage.j2 kj60 t367 (bt376.2.2.2.2 != t339) t348 t368 t352 t353) else (laws_FnExactNextStage.j2 kj60 t367 true t348 t368 t352 t353))))) else (some false))) = some r := H
  have A93 := Aside0.mk A930
  clear A930
  have HS_ := Aside0.mk H
  clear H
  have hnb94 := NB355_325.out
  have hnc94 := NB325_355.out
  have hnb95 := NB355_340.out
  have hnc95 := NB340_355.out
  have hnb96 := NB355_347.out
  have hnc96 := NB347_355.out
  have hcz97_0 : w92.cell? ⟨gb355, 0, none⟩ = some (.int .i64 t348) := (blk_cell BK355.out 0).trans rfl
  have hcz97_1 : w92.cell? ⟨gb355, 1, none⟩ = some (.slice Ao33 t349.length co33) := (blk_cell BK355.out 1).trans rfl
  have hcz97_2 : w92.cell? ⟨gb355, 2, none⟩ = some (.int .i64 t352) := (blk_cell BK355.out 2).trans rfl
  have hcz97_3 : w92.cell? ⟨gb355, 3, none⟩ = some (.bool t353) := (blk_cell BK355.out 3).trans rfl
  have hfz97_0 := blk_frozen BK355.out 0
  have hfz97_1 := blk_frozen BK355.out 1
  have hfz97_2 := blk_frozen BK355.out 2
  have hfz97_3 := blk_frozen BK355.out 3
  go_upto_if 69 with (first | ((with_reducible refine gate_callee (f := 29) rfl ?_); refine goesL_ (some 67) rfl rfl Try.func29 (by kernel_rfl) rfl #[.agg #[.int .i64 t348, .slice Ao33 t368.length co33, .int .i64 t352, .bool t353], .int .i64 1] rfl (by (try simp only [List.map_toArray, List.map_cons, List.map_nil]); first | done | (rw [show t368.length = t349.length from (Kd.R_reads' HO_356001.out).1.symm] <;> rfl) | rfl | (simp only [List.length_drop, List.length_take]; rfl)) ?_; (with_reducible refine (laws_heldRollout.calls kj60 t348 _ _ t368 t352 t353 1 t369 _ ?side1 ?side2 A93.out).mono ?_); (case side1 => repeat (first | exact (Kd.R_reads' HO_356001.out).2.2 | (with_reducible refine Kd.C_alloc ?_ _) | (with_reducible refine Kd.C_drewN ?_ _) | (with_reducible refine Kd.C_drew ?_))); (case side2 => rw [show t368.length = t349.length from (Kd.R_reads' HO_356001.out).1.symm]; exact (Kd.R_reads' HO_356001.out).2.1); rintro e w98 ⟨rfl, hb⟩; refine ⟨_, rfl, ?_⟩; have n0_ := Aside0.mk (Kd.R_below (by (with_reducible repeat (first | apply Kd.R_alloc | apply Kd.R_drewN | apply Kd.R_drew)); exact HO_341001.out) hb); have n1_ := Aside0.mk (Kd.R_below (by (with_reducible repeat (first | apply Kd.R_alloc | apply Kd.R_drewN | apply Kd.R_drew)); exact HO_348001.out) hb); have n2_ := Aside0.mk (Kd.R_below (by (with_reducible repeat (first | apply Kd.R_alloc | apply Kd.R_drewN | apply Kd.R_drew)); exact HO_356001.out) hb); have n3_ := Aside0.mk (blk_below (g := gb325) (o := .cells #[.int .i64 a0_0, .slice A0_1 l0_1.length c0_1, .int .i64 a0_2, .bool a0_3] 24 (0, 0)) (by (with_reducible repeat (first | refine blk_drewN ?_ _ | refine blk_drew ?_ | refine blk_alloc ?_ _)); exact BK325.out) hb); have n4_ := Aside0.mk (blk_below (g := gb340) (o := .cells #[.int .i64 t333, .slice Ao19 t334.length co19, .int .i64 t337, .bool t338] 27 (0, 0)) (by (with_reducible repeat (first | refine blk_drewN ?_ _ | refine blk_drew ?_ | refine blk_alloc ?_ _)); exact BK340.out) hb); have n5_ := Aside0.mk (blk_below (g := gb347) (o := .cells #[.int .i64 t341, .slice Ao26 t365.length co26, .int .i64 t345, .bool t346] 27 (0, 0)) (by (with_reducible repeat (first | refine blk_drewN ?_ _ | refine blk_drew ?_ | refine blk_alloc ?_ _)); exact BK347.out) hb); have n6_ := Aside0.mk (blk_below (g := gb355) (o := .cells #[.int .i64 t348, .slice Ao33 t349.length co33, .int .i64 t352, .bool t353] 27 (0, 0)) (by (with_reducible repeat (first | refine blk_drewN ?_ _ | refine blk_drew ?_ | refine blk_alloc ?_ _)); exact BK355.out) hb); have n7_ := Aside0.mk (below_step (by repeat (first | (with_reducible first | exact HB.out | apply below_alloc | apply pw_below_drewN | apply below_drew1 | refine below_set ?_ GE325.out | refine below_set ?_ GE340.out | refine below_set ?_ GE347.out | refine below_set ?_ GE355.out) | exact HB.out)) hb); clear HO_341001; clear HO_348001; clear HO_356001; clear BK325; clear BK340; clear BK347; clear BK355; clear HB; have HO_341001 := n0_; have HO_348001 := n1_; have HO_356001 := n2_; have BK325 := n3_; have BK340 := n4_; have BK347 := n5_; have BK355 := n6_; have HB := n7_; clear n0_ n1_ n2_ n3_ n4_ n5_ n6_ n7_; (try clear hb); (try clear hb2); (try clear hk); (try clear hi)))
  (try simp only [Act.put, List.setIfInBounds_toArray, List.set_cons_zero, List.set_cons_succ])
  have H := HS_.out
  clear HS_
  by_cases c99 : t369 < 0
  · rw [if_pos c99] at H
    have c99b0 : decide (t369 < 0) = true := decide_eq_true c99
    clear c99
    (first | rw [c99b0] | (simp only [i64_w, i32_w]; rw [c99b0]) | skip)
    obtain rfl := Option.some.inj H
    go_wp2
    go_ret
    exact ⟨by first | rfl | (simp [errW_none, errW_some] <;> rfl) | (simp [*, errW_none, errW_some] <;> rfl), by repeat (first | (with_reducible first | exact HB.out | apply below_alloc | apply pw_below_drewN | apply below_drew1 | refine below_set ?_ GE325.out | refine below_set ?_ GE340.out | refine below_set ?_ GE347.out | refine below_set ?_ GE355.out) | exact HB.out)⟩
  rw [if_neg c99] at H
  have c99b0 : decide (t369 < 0) = false := decide_eq_false c99
  clear c99
  (first | rw [c99b0] | (simp only [i64_w, i32_w]; rw [c99b0]) | skip)
  by_cases c100 : t369 = t367
  rotate_left
  · rw [if_neg c100] at H
    have c100b0 : (t369 == t367) = false := beq_eq_false_iff_ne.mpr c100
    have c100b1 : (t369 != t367) = true := bne_iff_ne.mpr c100
    obtain rfl := Option.some.inj H
    go_wp2
    go_ret
    exact ⟨by first | rfl | (simp [errW_none, errW_some] <;> rfl) | (simp [*, errW_none, errW_some] <;> rfl), by repeat (first | (with_reducible first | exact HB.out | apply below_alloc | apply pw_below_drewN | apply below_drew1 | refine below_set ?_ GE325.out | refine below_set ?_ GE340.out | refine below_set ?_ GE347.out | refine below_set ?_ GE355.out) | exact HB.out)⟩
  rw [if_pos c100] at H
  have c100b0 : (t369 == t367) = true := beq_iff_eq.mpr c100
  have c100b1 : (t369 != t367) = false := bne_eq_false_iff_eq.mpr c100
  clear c100
  replace H := Option.bind_eq_some_iff.mp H
  obtain ⟨⟨t370, t371, t374, t375⟩, A1010, H⟩ := H
  replace H : ((impl_NextStage.f kj60 t370 t371 t374 t375).bind fun bt376 => ((laws_eqRollout.f kj60 bt376.1 bt376.2.1 bt376.2.2.1 bt376.2.2.2.1 t333 t334 t337 t338).bind fun t384 => (if t384 = true then (laws_FnExactNextStage.j2 kj60 t367 (bt376.2.2.2.2 != t339) t348 t368 t352 t353) else (laws_FnExactNextStage.j2 kj60 t367 true t348 t368 t352 t353)))) = some r := H
  have A101 := Aside0.mk A1010
  clear A1010
  replace H := Option.bind_eq_some_iff.mp H
  obtain ⟨⟨t376, t377, t380, t381, t382⟩, A1020, H⟩ := H
  replace H : ((laws_eqRollout.f kj60 t376 t377 t380 t381 t333 t334 t337 t338).bind fun t384 => (if t384 = true then (laws_FnExactNextStage.j2 kj60 t367 (t382 != t339) t348 t368 t352 t353) else (laws_FnExactNextStage.j2 kj60 t367 true t348 t368 t352 t353))) = some r := H
  have A102 := Aside0.mk A1020
  clear A1020
  have HC103 := Aside0.mk H
  clear H
  have hnb104 := NB325_340.out
  have hnc104 := NB340_325.out
  have hnb105 := NB325_347.out
  have hnc105 := NB347_325.out
  have hnb106 := NB325_355.out
  have hnc106 := NB355_325.out
  have hcz107_0 : w98.cell? ⟨gb325, 0, none⟩ = some (.int .i64 a0_0) := (blk_cell BK325.out 0).trans rfl
  have hcz107_1 : w98.cell? ⟨gb325, 1, none⟩ = some (.slice A0_1 l0_1.length c0_1) := (blk_cell BK325.out 1).trans rfl
  have hcz107_2 : w98.cell? ⟨gb325, 2, none⟩ = some (.int .i64 a0_2) := (blk_cell BK325.out 2).trans rfl
  have hcz107_3 : w98.cell? ⟨gb325, 3, none⟩ = some (.bool a0_3) := (blk_cell BK325.out 3).trans rfl
  have hfz107_0 := blk_frozen BK325.out 0
  have hfz107_1 := blk_frozen BK325.out 1
  have hfz107_2 := blk_frozen BK325.out 2
  have hfz107_3 := blk_frozen BK325.out 3
  go_upto_region 25 with (first | ((with_reducible refine gate_callee (f := 17) rfl ?_); refine goesL_ (some 75) rfl rfl Try.func17 (by kernel_rfl) rfl #[.agg #[.int .i64 a0_0, .slice A0_1 l0_1.length c0_1, .int .i64 a0_2, .bool a0_3]] rfl (by (try simp only [List.map_toArray, List.map_cons, List.map_nil]); first | done | rfl | (simp only [List.length_drop, List.length_take]; rfl)) ?_; (with_reducible refine (laws_toRollout.calls kj60 a0_0 _ _ l0_1 a0_2 a0_3 t370 t371 t374 t375 _ ?side1 ?side2 A101.out).mono ?_); (case side1 => repeat (first | exact (Kd.C_below HR0_1.out HB.out) | (with_reducible refine Kd.C_alloc ?_ _) | (with_reducible refine Kd.C_drewN ?_ _) | (with_reducible refine Kd.C_drew ?_))); (case side2 => exact HC0_1.out); rintro e w108 ⟨v372, rfl, ho0, hb⟩; refine ⟨_, rfl, ?_⟩; have n0_ := Aside0.mk (Kd.R_elder' (by (with_reducible repeat (first | apply Kd.R_alloc | apply Kd.R_drewN | apply Kd.R_drew)); exact HO_341001.out) (Kd.R_base ho0) hb); have n1_ := Aside0.mk (Kd.R_elder' (by (with_reducible repeat (first | apply Kd.R_alloc | apply Kd.R_drewN | apply Kd.R_drew)); exact HO_348001.out) (Kd.R_base ho0) hb); have n2_ := Aside0.mk (Kd.R_elder' (by (with_reducible repeat (first | apply Kd.R_alloc | apply Kd.R_drewN | apply Kd.R_drew)); exact HO_356001.out) (Kd.R_base ho0) hb); have n3_ := Aside0.mk (Kd.R_lower (Kd.R_new' (Kd.R_new' (Kd.R_new' ho0 (Kd.R_lt (by (with_reducible repeat (first | apply Kd.R_alloc | apply Kd.R_drewN | apply Kd.R_drew)); exact HO_341001.out))) (Kd.R_lt (by (with_reducible repeat (first | apply Kd.R_alloc | apply Kd.R_drewN | apply Kd.R_drew)); exact HO_348001.out))) (Kd.R_lt (by (with_reducible repeat (first | apply Kd.R_alloc | apply Kd.R_drewN | apply Kd.R_drew)); exact HO_356001.out))) (below_size (by repeat (first | (with_reducible first | exact HB.out | apply below_alloc | apply pw_below_drewN | apply below_drew1 | refine below_set ?_ GE325.out | refine below_set ?_ GE340.out | refine below_set ?_ GE347.out | refine below_set ?_ GE355.out) | exact HB.out)))); have n4_ := Aside0.mk (blk_below (g := gb325) (o := .cells #[.int .i64 a0_0, .slice A0_1 l0_1.length c0_1, .int .i64 a0_2, .bool a0_3] 24 (0, 0)) (by (with_reducible repeat (first | refine blk_drewN ?_ _ | refine blk_drew ?_ | refine blk_alloc ?_ _)); exact BK325.out) hb); have n5_ := Aside0.mk (blk_below (g := gb340) (o := .cells #[.int .i64 t333, .slice Ao19 t334.length co19, .int .i64 t337, .bool t338] 27 (0, 0)) (by (with_reducible repeat (first | refine blk_drewN ?_ _ | refine blk_drew ?_ | refine blk_alloc ?_ _)); exact BK340.out) hb); have n6_ := Aside0.mk (blk_below (g := gb347) (o := .cells #[.int .i64 t341, .slice Ao26 t365.length co26, .int .i64 t345, .bool t346] 27 (0, 0)) (by (with_reducible repeat (first | refine blk_drewN ?_ _ | refine blk_drew ?_ | refine blk_alloc ?_ _)); exact BK347.out) hb); have n7_ := Aside0.mk (blk_below (g := gb355) (o := .cells #[.int .i64 t348, .slice Ao33 t349.length co33, .int .i64 t352, .bool t353] 27 (0, 0)) (by (with_reducible repeat (first | refine blk_drewN ?_ _ | refine blk_drew ?_ | refine blk_alloc ?_ _)); exact BK355.out) hb); have n8_ := Aside0.mk (below_step (by repeat (first | (with_reducible first | exact HB.out | apply below_alloc | apply pw_below_drewN | apply below_drew1 | refine below_set ?_ GE325.out | refine below_set ?_ GE340.out | refine below_set ?_ GE347.out | refine below_set ?_ GE355.out) | exact HB.out)) hb); clear HO_341001; clear HO_348001; clear HO_356001; clear BK325; clear BK340; clear BK347; clear BK355; clear HB; have HO_341001 := n0_; have HO_348001 := n1_; have HO_356001 := n2_; have HO373 := n3_; have BK325 := n4_; have BK340 := n5_; have BK347 := n6_; have BK355 := n7_; have HB := n8_; clear n0_ n1_ n2_ n3_ n4_ n5_ n6_ n7_ n8_; (try clear hb); (try clear hb2); (try clear hk); (try clear hi); (try clear ho0); obtain ⟨Ao109, co109, eo109⟩ := Kd.R_slice HO373.out; subst eo109) | ((with_reducible refine gate_callee (f := 27) rfl ?_); refine goesL_ (some 76) rfl rfl Try.func27 (by kernel_rfl) rfl #[.agg #[.int .i64 t370, .slice Ao109 t371.length co109, .int .i64 t374, .bool t375]] rfl (by (try simp only [List.map_toArray, List.map_cons, List.map_nil]); first | done | rfl | (simp only [List.length_drop, List.length_take]; rfl)) ?_; (with_reducible refine (impl_NextStage.calls kj60 t370 _ _ t371 t374 t375 t376 t377 t380 t381 t382 _ ?side1 ?side2 A102.out).mono ?_); (case side1 => repeat (first | exact (Kd.R_reads' HO373.out).2.2 | (with_reducible refine Kd.C_alloc ?_ _) | (with_reducible refine Kd.C_drewN ?_ _) | (with_reducible refine Kd.C_drew ?_))); (case side2 => exact (Kd.R_reads' HO373.out).2.1); rintro e w110 ⟨v378, rfl, ho0, hb⟩; refine ⟨_, rfl, ?_⟩; have n0_ := Aside0.mk (Kd.R_elder' (by (with_reducible repeat (first | apply Kd.R_alloc | apply Kd.R_drewN | apply Kd.R_drew)); exact HO_341001.out) (Kd.R_base ho0) hb); have n1_ := Aside0.mk (Kd.R_elder' (by (with_reducible repeat (first | apply Kd.R_alloc | apply Kd.R_drewN | apply Kd.R_drew)); exact HO_348001.out) (Kd.R_base ho0) hb); have n2_ := Aside0.mk (Kd.R_elder' (by (with_reducible repeat (first | apply Kd.R_alloc | apply Kd.R_drewN | apply Kd.R_drew)); exact HO_356001.out) (Kd.R_base ho0) hb); have n3_ := Aside0.mk (Kd.R_elder' (by (with_reducible repeat (first | apply Kd.R_alloc | apply Kd.R_drewN | apply Kd.R_drew)); exact HO373.out) (Kd.R_base ho0) hb); have n4_ := Aside0.mk (Kd.R_lower (Kd.R_new' (Kd.R_new' (Kd.R_new' (Kd.R_new' ho0 (Kd.R_lt (by (with_reducible repeat (first | apply Kd.R_alloc | apply Kd.R_drewN | apply Kd.R_drew)); exact HO_341001.out))) (Kd.R_lt (by (with_reducible repeat (first | apply Kd.R_alloc | apply Kd.R_drewN | apply Kd.R_drew)); exact HO_348001.out))) (Kd.R_lt (by (with_reducible repeat (first | apply Kd.R_alloc | apply Kd.R_drewN | apply Kd.R_drew)); exact HO_356001.out))) (Kd.R_lt (by (with_reducible repeat (first | apply Kd.R_alloc | apply Kd.R_drewN | apply Kd.R_drew)); exact HO373.out))) (below_size (by repeat (first | (with_reducible first | exact HB.out | apply below_alloc | apply pw_below_drewN | apply below_drew1 | refine below_set ?_ GE325.out | refine below_set ?_ GE340.out | refine below_set ?_ GE347.out | refine below_set ?_ GE355.out) | exact HB.out)))); have n5_ := Aside0.mk (blk_below (g := gb325) (o := .cells #[.int .i64 a0_0, .slice A0_1 l0_1.length c0_1, .int .i64 a0_2, .bool a0_3] 24 (0, 0)) (by (with_reducible repeat (first | refine blk_drewN ?_ _ | refine blk_drew ?_ | refine blk_alloc ?_ _)); exact BK325.out) hb); have n6_ := Aside0.mk (blk_below (g := gb340) (o := .cells #[.int .i64 t333, .slice Ao19 t334.length co19, .int .i64 t337, .bool t338] 27 (0, 0)) (by (with_reducible repeat (first | refine blk_drewN ?_ _ | refine blk_drew ?_ | refine blk_alloc ?_ _)); exact BK340.out) hb); have n7_ := Aside0.mk (blk_below (g := gb347) (o := .cells #[.int .i64 t341, .slice Ao26 t365.length co26, .int .i64 t345, .bool t346] 27 (0, 0)) (by (with_reducible repeat (first | refine blk_drewN ?_ _ | refine blk_drew ?_ | refine blk_alloc ?_ _)); exact BK347.out) hb); have n8_ := Aside0.mk (blk_below (g := gb355) (o := .cells #[.int .i64 t348, .slice Ao33 t349.length co33, .int .i64 t352, .bool t353] 27 (0, 0)) (by (with_reducible repeat (first | refine blk_drewN ?_ _ | refine blk_drew ?_ | refine blk_alloc ?_ _)); exact BK355.out) hb); have n9_ := Aside0.mk (below_step (by repeat (first | (with_reducible first | exact HB.out | apply below_alloc | apply pw_below_drewN | apply below_drew1 | refine below_set ?_ GE325.out | refine below_set ?_ GE340.out | refine below_set ?_ GE347.out | refine below_set ?_ GE355.out) | exact HB.out)) hb); clear HO_341001; clear HO_348001; clear HO_356001; clear HO373; clear BK325; clear BK340; clear BK347; clear BK355; clear HB; have HO_341001 := n0_; have HO_348001 := n1_; have HO_356001 := n2_; have HO373 := n3_; have HO379 := n4_; have BK325 := n5_; have BK340 := n6_; have BK347 := n7_; have BK355 := n8_; have HB := n9_; clear n0_ n1_ n2_ n3_ n4_ n5_ n6_ n7_ n8_ n9_; (try clear hb); (try clear hb2); (try clear hk); (try clear hi); (try clear ho0)) | ((with_reducible refine gate_dst (N := 12) rfl ?_); refine box_event ?hg (N := 12) ?hd (cs := #[.int .i64 0, .slice none 0 0, .int .i64 0, .bool false]) (t := 27) ?hr ?_; (case hd => rfl); (case hg => rfl); (case hr => first | (go_simp; done) | (go_simp; rfl)); intro gb383 hg w111 hbox hb; have n0_ := Aside0.mk (Kd.R_below (by (with_reducible repeat (first | apply Kd.R_alloc | apply Kd.R_drewN | apply Kd.R_drew)); exact HO_341001.out) hb); have n1_ := Aside0.mk (Kd.R_below (by (with_reducible repeat (first | apply Kd.R_alloc | apply Kd.R_drewN | apply Kd.R_drew)); exact HO_348001.out) hb); have n2_ := Aside0.mk (Kd.R_below (by (with_reducible repeat (first | apply Kd.R_alloc | apply Kd.R_drewN | apply Kd.R_drew)); exact HO_356001.out) hb); have n3_ := Aside0.mk (Kd.R_below (by (with_reducible repeat (first | apply Kd.R_alloc | apply Kd.R_drewN | apply Kd.R_drew)); exact HO373.out) hb); have n4_ := Aside0.mk (Kd.R_below (by (with_reducible repeat (first | apply Kd.R_alloc | apply Kd.R_drewN | apply Kd.R_drew)); exact HO379.out) hb); have n5_ := Aside0.mk (blk_below (g := gb325) (o := .cells #[.int .i64 a0_0, .slice A0_1 l0_1.length c0_1, .int .i64 a0_2, .bool a0_3] 24 (0, 0)) (by (with_reducible repeat (first | refine blk_drewN ?_ _ | refine blk_drew ?_ | refine blk_alloc ?_ _)); exact BK325.out) hb); have n6_ := Aside0.mk (blk_below (g := gb340) (o := .cells #[.int .i64 t333, .slice Ao19 t334.length co19, .int .i64 t337, .bool t338] 27 (0, 0)) (by (with_reducible repeat (first | refine blk_drewN ?_ _ | refine blk_drew ?_ | refine blk_alloc ?_ _)); exact BK340.out) hb); have n7_ := Aside0.mk (blk_below (g := gb347) (o := .cells #[.int .i64 t341, .slice Ao26 t365.length co26, .int .i64 t345, .bool t346] 27 (0, 0)) (by (with_reducible repeat (first | refine blk_drewN ?_ _ | refine blk_drew ?_ | refine blk_alloc ?_ _)); exact BK347.out) hb); have n8_ := Aside0.mk (blk_below (g := gb355) (o := .cells #[.int .i64 t348, .slice Ao33 t349.length co33, .int .i64 t352, .bool t353] 27 (0, 0)) (by (with_reducible repeat (first | refine blk_drewN ?_ _ | refine blk_drew ?_ | refine blk_alloc ?_ _)); exact BK355.out) hb); have n9_ := Aside0.mk (below_step (by repeat (first | (with_reducible first | exact HB.out | apply below_alloc | apply pw_below_drewN | apply below_drew1 | refine below_set ?_ GE325.out | refine below_set ?_ GE340.out | refine below_set ?_ GE347.out | refine below_set ?_ GE355.out) | exact HB.out)) hb); have n10_ := Aside0.mk (hbox); have n11_ := Aside0.mk ((by rw [hg]; exact (below_size (by repeat (first | (with_reducible first | exact HB.out | apply below_alloc | apply pw_below_drewN | apply below_drew1 | refine below_set ?_ GE325.out | refine below_set ?_ GE340.out | refine below_set ?_ GE347.out | refine below_set ?_ GE355.out) | exact HB.out))) : w.heap.size ≤ gb383)); have n12_ := Aside0.mk ((by rw [hg]; exact (below_size (by repeat (first | (with_reducible first | exact HB.out | apply below_alloc | apply pw_below_drewN | apply below_drew1 | refine below_set ?_ GE325.out | refine below_set ?_ GE340.out | refine below_set ?_ GE347.out | refine below_set ?_ GE355.out) | exact HB.out))) : w.heap.size ≤ gb383)); have n13_ := Aside0.mk ((by rw [hg]; exact Nat.ne_of_lt (blk_lt (g := gb325) (o := .cells #[.int .i64 a0_0, .slice A0_1 l0_1.length c0_1, .int .i64 a0_2, .bool a0_3] 24 (0, 0)) (by (with_reducible repeat (first | refine blk_drewN ?_ _ | refine blk_drew ?_ | refine blk_alloc ?_ _)); exact BK325.out)) : gb325 ≠ gb383)); have n14_ := Aside0.mk ((by rw [hg]; exact Nat.ne_of_gt (blk_lt (g := gb325) (o := .cells #[.int .i64 a0_0, .slice A0_1 l0_1.length c0_1, .int .i64 a0_2, .bool a0_3] 24 (0, 0)) (by (with_reducible repeat (first | refine blk_drewN ?_ _ | refine blk_drew ?_ | refine blk_alloc ?_ _)); exact BK325.out)) : gb383 ≠ gb325)); have n15_ := Aside0.mk ((by rw [hg]; exact Nat.ne_of_lt (blk_lt (g := gb340) (o := .cells #[.int .i64 t333, .slice Ao19 t334.length co19, .int .i64 t337, .bool t338] 27 (0, 0)) (by (with_reducible repeat (first | refine blk_drewN ?_ _ | refine blk_drew ?_ | refine blk_alloc ?_ _)); exact BK340.out)) : gb340 ≠ gb383)); have n16_ := Aside0.mk ((by rw [hg]; exact Nat.ne_of_gt (blk_lt (g := gb340) (o := .cells #[.int .i64 t333, .slice Ao19 t334.length co19, .int .i64 t337, .bool t338] 27 (0, 0)) (by (with_reducible repeat (first | refine blk_drewN ?_ _ | refine blk_drew ?_ | refine blk_alloc ?_ _)); exact BK340.out)) : gb383 ≠ gb340)); have n17_ := Aside0.mk ((by rw [hg]; exact Nat.ne_of_lt (blk_lt (g := gb347) (o := .cells #[.int .i64 t341, .slice Ao26 t365.length co26, .int .i64 t345, .bool t346] 27 (0, 0)) (by (with_reducible repeat (first | refine blk_drewN ?_ _ | refine blk_drew ?_ | refine blk_alloc ?_ _)); exact BK347.out)) : gb347 ≠ gb383)); have n18_ := Aside0.mk ((by rw [hg]; exact Nat.ne_of_gt (blk_lt (g := gb347) (o := .cells #[.int .i64 t341, .slice Ao26 t365.length co26, .int .i64 t345, .bool t346] 27 (0, 0)) (by (with_reducible repeat (first | refine blk_drewN ?_ _ | refine blk_drew ?_ | refine blk_alloc ?_ _)); exact BK347.out)) : gb383 ≠ gb347)); have n19_ := Aside0.mk ((by rw [hg]; exact Nat.ne_of_lt (blk_lt (g := gb355) (o := .cells #[.int .i64 t348, .slice Ao33 t349.length co33, .int .i64 t352, .bool t353] 27 (0, 0)) (by (with_reducible repeat (first | refine blk_drewN ?_ _ | refine blk_drew ?_ | refine blk_alloc ?_ _)); exact BK355.out)) : gb355 ≠ gb383)); have n20_ := Aside0.mk ((by rw [hg]; exact Nat.ne_of_gt (blk_lt (g := gb355) (o := .cells #[.int .i64 t348, .slice Ao33 t349.length co33, .int .i64 t352, .bool t353] 27 (0, 0)) (by (with_reducible repeat (first | refine blk_drewN ?_ _ | refine blk_drew ?_ | refine blk_alloc ?_ _)); exact BK355.out)) : gb383 ≠ gb355)); clear HO_341001; clear HO_348001; clear HO_356001; clear HO373; clear HO379; clear BK325; clear BK340; clear BK347; clear BK355; clear HB; have HO_341001 := n0_; have HO_348001 := n1_; have HO_356001 := n2_; have HO373 := n3_; have HO379 := n4_; have BK325 := n5_; have BK340 := n6_; have BK347 := n7_; have BK355 := n8_; have HB := n9_; have BK383 := n10_; have GW383 := n11_; have GE383 := n12_; have NB325_383 := n13_; have NB383_325 := n14_; have NB340_383 := n15_; have NB383_340 := n16_; have NB347_383 := n17_; have NB383_347 := n18_; have NB355_383 := n19_; have NB383_355 := n20_; clear n0_ n1_ n2_ n3_ n4_ n5_ n6_ n7_ n8_ n9_ n10_ n11_ n12_ n13_ n14_ n15_ n16_ n17_ n18_ n19_ n20_; clear hb hbox hg; have hnb112 := NB383_325.out; have hnc112 := NB325_383.out; have hnb113 := NB383_340.out; have hnc113 := NB340_383.out; have hnb114 := NB383_347.out; have hnc114 := NB347_383.out; have hnb115 := NB383_355.out; have hnc115 := NB355_383.out; have hcz116_0 : w111.cell? ⟨gb383, 0, none⟩ = some (.int .i64 0) := (blk_cell BK383.out 0).trans rfl; have hcz116_1 : w111.cell? ⟨gb383, 1, none⟩ = some (.slice none 0 0) := (blk_cell BK383.out 1).trans rfl; have hcz116_2 : w111.cell? ⟨gb383, 2, none⟩ = some (.int .i64 0) := (blk_cell BK383.out 2).trans rfl; have hcz116_3 : w111.cell? ⟨gb383, 3, none⟩ = some (.bool false) := (blk_cell BK383.out 3).trans rfl; have hfz116_0 := blk_frozen BK383.out 0; have hfz116_1 := blk_frozen BK383.out 1; have hfz116_2 := blk_frozen BK383.out 2; have hfz116_3 := blk_frozen BK383.out 3; obtain ⟨Ao117, co117, eo117⟩ := Kd.R_slice HO379.out; subst eo117))
  (try simp only [Act.put, List.setIfInBounds_toArray, List.set_cons_zero, List.set_cons_succ])
  go_cut [87] (fun v87 wc => ∃ (kq : Nat) (x87_102 : Bool), v87 = .bool x87_102 ∧ Aside0 (laws_FnExactNextStage.j2 kq t367 x87_102 t348 t368 t352 t353 = some r) ∧ Aside0 (kq ≤ kj60) ∧ Aside0 (Kd.R (Kd.int .i64) 3 wc w.heap.size (fun k_ => some k_ ≠ ((.slice Ao26 t365.length co26) : Value).ownBlock ∧ some k_ ≠ ((.slice Ao33 t349.length co33) : Value).ownBlock ∧ some k_ ≠ ((.slice Ao117 t377.length co117) : Value).ownBlock) (.slice Ao19 t334.length co19) t334) ∧ Aside0 (Kd.R (Kd.int .i64) 3 wc w.heap.size (fun k_ => some k_ ≠ ((.slice Ao19 t334.length co19) : Value).ownBlock ∧ some k_ ≠ ((.slice Ao33 t349.length co33) : Value).ownBlock ∧ some k_ ≠ ((.slice Ao117 t377.length co117) : Value).ownBlock) (.slice Ao26 t365.length co26) t365) ∧ Aside0 (Kd.R (Kd.int .i64) 3 wc w.heap.size (fun k_ => some k_ ≠ ((.slice Ao19 t334.length co19) : Value).ownBlock ∧ some k_ ≠ ((.slice Ao26 t365.length co26) : Value).ownBlock ∧ some k_ ≠ ((.slice Ao117 t377.length co117) : Value).ownBlock) (.slice Ao33 t349.length co33) t368) ∧ Aside0 (Kd.R (Kd.int .i64) 3 wc w.heap.size (fun k_ => some k_ ≠ ((.slice Ao19 t334.length co19) : Value).ownBlock ∧ some k_ ≠ ((.slice Ao26 t365.length co26) : Value).ownBlock ∧ some k_ ≠ ((.slice Ao33 t349.length co33) : Value).ownBlock) (.slice Ao117 t377.length co117) t377) ∧ Aside0 (wc.heap[gb325]? = some (.cells #[.int .i64 a0_0, (.slice A0_1 l0_1.length c0_1), .int .i64 a0_2, .bool a0_3] 24 (0, 0))) ∧ Aside0 (wc.heap[gb340]? = some (.cells #[.int .i64 t333, (.slice Ao19 t334.length co19), .int .i64 t337, .bool t338] 27 (0, 0))) ∧ Aside0 (wc.heap[gb347]? = some (.cells #[.int .i64 t341, (.slice Ao26 t365.length co26), .int .i64 t345, .bool t346] 27 (0, 0))) ∧ Aside0 (wc.heap[gb355]? = some (.cells #[.int .i64 t348, (.slice Ao33 t349.length co33), .int .i64 t352, .bool t353] 27 (0, 0))) ∧ Aside0 (wc.heap[gb383]? = some (.cells #[.int .i64 t376, (.slice Ao117 t377.length co117), .int .i64 t380, .bool t381] 27 (0, 0))) ∧ Aside0 (Below w.heap.size w wc))
  case first =>
    have H := HC103.out
    clear HC103
    replace H := Option.bind_eq_some_iff.mp H
    obtain ⟨t384, A1180, H⟩ := H
    replace H : (if t384 = true then (laws_FnExactNextStage.j2 kj60 t367 (t382 != t339) t348 t368 t352 t353) else (laws_FnExactNextStage.j2 kj60 t367 true t348 t368 t352 t353)) = some r := H
    have A118 := Aside0.mk A1180
    clear A1180
    by_cases c119 : t384 = true
    rotate_left
    · replace c119 := Bool.eq_false_iff.mpr c119
      subst c119
      have H1 : (laws_FnExactNextStage.j2 kj60 t367 true t348 t368 t352 t353) = some r := by rw [if_neg (show ¬ (false = true) by decide)] at H; exact H
      clear H
      have H := H1
      clear H1
      have H' := Aside0.mk H
      clear H
      have hnb120 := NB383_325.out
      have hnc120 := NB325_383.out
      have hnb121 := NB383_340.out
      have hnc121 := NB340_383.out
      have hnb122 := NB383_347.out
      have hnc122 := NB347_383.out
      have hnb123 := NB383_355.out
      have hnc123 := NB355_383.out
      have hcz124_0 : w111.cell? ⟨gb383, 0, none⟩ = some (.int .i64 0) := (blk_cell BK383.out 0).trans rfl
      have hcz124_1 : w111.cell? ⟨gb383, 1, none⟩ = some (.slice none 0 0) := (blk_cell BK383.out 1).trans rfl
      have hcz124_2 : w111.cell? ⟨gb383, 2, none⟩ = some (.int .i64 0) := (blk_cell BK383.out 2).trans rfl
      have hcz124_3 : w111.cell? ⟨gb383, 3, none⟩ = some (.bool false) := (blk_cell BK383.out 3).trans rfl
      have hfz124_0 := blk_frozen BK383.out 0
      have hfz124_1 := blk_frozen BK383.out 1
      have hfz124_2 := blk_frozen BK383.out 2
      have hfz124_3 := blk_frozen BK383.out 3
      have hnb125 := NB340_325.out
      have hnc125 := NB325_340.out
      have hnb126 := NB340_347.out
      have hnc126 := NB347_340.out
      have hnb127 := NB340_355.out
      have hnc127 := NB355_340.out
      have hcz128_0 : w111.cell? ⟨gb340, 0, none⟩ = some (.int .i64 t333) := (blk_cell BK340.out 0).trans rfl
      have hcz128_1 : w111.cell? ⟨gb340, 1, none⟩ = some (.slice Ao19 t334.length co19) := (blk_cell BK340.out 1).trans rfl
      have hcz128_2 : w111.cell? ⟨gb340, 2, none⟩ = some (.int .i64 t337) := (blk_cell BK340.out 2).trans rfl
      have hcz128_3 : w111.cell? ⟨gb340, 3, none⟩ = some (.bool t338) := (blk_cell BK340.out 3).trans rfl
      have hfz128_0 := blk_frozen BK340.out 0
      have hfz128_1 := blk_frozen BK340.out 1
      have hfz128_2 := blk_frozen BK340.out 2
      have hfz128_3 := blk_frozen BK340.out 3
      go_wp2_with (first | ((with_reducible refine gate_callee (f := 19) rfl ?_); refine goesL_ (some 81) rfl rfl Try.func19 (by kernel_rfl) rfl #[.agg #[.int .i64 t376, .slice Ao117 t377.length co117, .int .i64 t380, .bool t381], .agg #[.int .i64 t333, .slice Ao19 t334.length co19, .int .i64 t337, .bool t338]] rfl (by (try simp only [List.map_toArray, List.map_cons, List.map_nil]); first | done | rfl | (simp only [List.length_drop, List.length_take]; rfl)) ?_; (with_reducible refine (laws_eqRollout.calls kj60 t376 _ _ t377 t380 t381 t333 _ _ t334 t337 t338 false _ ?side1 ?side2 ?side3 ?side4 A118.out).mono ?_); (case side1 => refine (Kd.R_reads' (e := 3) (base := w.heap.size) (ok := fun k_ => ((((True ∧ some k_ ≠ (.slice Ao19 t334.length co19 : Value).ownBlock) ∧ some k_ ≠ (.slice Ao26 t365.length co26 : Value).ownBlock) ∧ some k_ ≠ (.slice Ao33 t349.length co33 : Value).ownBlock) ∧ some k_ ≠ (.slice Ao109 t371.length co109 : Value).ownBlock)) (n := t377.length) (c := co117) ?_).2.2; exact (by (with_reducible repeat (first | apply Kd.R_alloc | apply Kd.R_drewN | apply Kd.R_drew)); exact (Kd.R_mono (Kd.R_far (p := ⟨gb383, 3, none⟩) (Kd.R_far (p := ⟨gb383, 2, none⟩) (Kd.R_far (p := ⟨gb383, 1, none⟩) (Kd.R_far (p := ⟨gb383, 0, none⟩) (Kd.R_types HO379.out BK383.out (by decide)) (fun _ hk => hk.2) (.int .i64 t376)) (fun _ hk => hk.2) (.slice Ao117 t377.length co117)) (fun _ hk => hk.2) (.int .i64 t380)) (fun _ hk => hk.2) (.bool t381)) (fun _ h_ => h_.1)))); (case side2 => exact (Kd.R_reads' HO379.out).2.1); (case side3 => refine (Kd.R_reads' (e := 3) (base := w.heap.size) (ok := fun k_ => (((some k_ ≠ (.slice Ao26 t365.length co26 : Value).ownBlock ∧ some k_ ≠ (.slice Ao33 t349.length co33 : Value).ownBlock) ∧ some k_ ≠ (.slice Ao109 t371.length co109 : Value).ownBlock) ∧ some k_ ≠ (.slice Ao117 t377.length co117 : Value).ownBlock)) (n := t334.length) (c := co19) ?_).2.2; exact (by (with_reducible repeat (first | apply Kd.R_alloc | apply Kd.R_drewN | apply Kd.R_drew)); exact (Kd.R_mono (Kd.R_far (p := ⟨gb383, 3, none⟩) (Kd.R_far (p := ⟨gb383, 2, none⟩) (Kd.R_far (p := ⟨gb383, 1, none⟩) (Kd.R_far (p := ⟨gb383, 0, none⟩) (Kd.R_types HO_341001.out BK383.out (by decide)) (fun _ hk => hk.2) (.int .i64 t376)) (fun _ hk => hk.2) (.slice Ao117 t377.length co117)) (fun _ hk => hk.2) (.int .i64 t380)) (fun _ hk => hk.2) (.bool t381)) (fun _ h_ => h_.1)))); (case side4 => exact (Kd.R_reads' HO_341001.out).2.1); rintro e w129 ⟨rfl, hb⟩; refine ⟨_, rfl, ?_⟩; have n0_ := Aside0.mk (Kd.R_below (by (with_reducible repeat (first | apply Kd.R_alloc | apply Kd.R_drewN | apply Kd.R_drew)); exact (Kd.R_mono (Kd.R_far (p := ⟨gb383, 3, none⟩) (Kd.R_far (p := ⟨gb383, 2, none⟩) (Kd.R_far (p := ⟨gb383, 1, none⟩) (Kd.R_far (p := ⟨gb383, 0, none⟩) (Kd.R_types HO_341001.out BK383.out (by decide)) (fun _ hk => hk.2) (.int .i64 t376)) (fun _ hk => hk.2) (.slice Ao117 t377.length co117)) (fun _ hk => hk.2) (.int .i64 t380)) (fun _ hk => hk.2) (.bool t381)) (fun _ h_ => h_.1))) hb); have n1_ := Aside0.mk (Kd.R_below (by (with_reducible repeat (first | apply Kd.R_alloc | apply Kd.R_drewN | apply Kd.R_drew)); exact (Kd.R_mono (Kd.R_far (p := ⟨gb383, 3, none⟩) (Kd.R_far (p := ⟨gb383, 2, none⟩) (Kd.R_far (p := ⟨gb383, 1, none⟩) (Kd.R_far (p := ⟨gb383, 0, none⟩) (Kd.R_types HO_348001.out BK383.out (by decide)) (fun _ hk => hk.2) (.int .i64 t376)) (fun _ hk => hk.2) (.slice Ao117 t377.length co117)) (fun _ hk => hk.2) (.int .i64 t380)) (fun _ hk => hk.2) (.bool t381)) (fun _ h_ => h_.1))) hb); have n2_ := Aside0.mk (Kd.R_below (by (with_reducible repeat (first | apply Kd.R_alloc | apply Kd.R_drewN | apply Kd.R_drew)); exact (Kd.R_mono (Kd.R_far (p := ⟨gb383, 3, none⟩) (Kd.R_far (p := ⟨gb383, 2, none⟩) (Kd.R_far (p := ⟨gb383, 1, none⟩) (Kd.R_far (p := ⟨gb383, 0, none⟩) (Kd.R_types HO_356001.out BK383.out (by decide)) (fun _ hk => hk.2) (.int .i64 t376)) (fun _ hk => hk.2) (.slice Ao117 t377.length co117)) (fun _ hk => hk.2) (.int .i64 t380)) (fun _ hk => hk.2) (.bool t381)) (fun _ h_ => h_.1))) hb); have n3_ := Aside0.mk (Kd.R_below (by (with_reducible repeat (first | apply Kd.R_alloc | apply Kd.R_drewN | apply Kd.R_drew)); exact (Kd.R_mono (Kd.R_far (p := ⟨gb383, 3, none⟩) (Kd.R_far (p := ⟨gb383, 2, none⟩) (Kd.R_far (p := ⟨gb383, 1, none⟩) (Kd.R_far (p := ⟨gb383, 0, none⟩) (Kd.R_types HO373.out BK383.out (by decide)) (fun _ hk => hk.2) (.int .i64 t376)) (fun _ hk => hk.2) (.slice Ao117 t377.length co117)) (fun _ hk => hk.2) (.int .i64 t380)) (fun _ hk => hk.2) (.bool t381)) (fun _ h_ => h_.1))) hb); have n4_ := Aside0.mk (Kd.R_below (by (with_reducible repeat (first | apply Kd.R_alloc | apply Kd.R_drewN | apply Kd.R_drew)); exact (Kd.R_mono (Kd.R_far (p := ⟨gb383, 3, none⟩) (Kd.R_far (p := ⟨gb383, 2, none⟩) (Kd.R_far (p := ⟨gb383, 1, none⟩) (Kd.R_far (p := ⟨gb383, 0, none⟩) (Kd.R_types HO379.out BK383.out (by decide)) (fun _ hk => hk.2) (.int .i64 t376)) (fun _ hk => hk.2) (.slice Ao117 t377.length co117)) (fun _ hk => hk.2) (.int .i64 t380)) (fun _ hk => hk.2) (.bool t381)) (fun _ h_ => h_.1))) hb); have n5_ := Aside0.mk (blk_below (g := gb325) (o := .cells #[.int .i64 a0_0, .slice A0_1 l0_1.length c0_1, .int .i64 a0_2, .bool a0_3] 24 (0, 0)) (by (with_reducible repeat (first | refine blk_drewN ?_ _ | refine blk_drew ?_ | refine blk_alloc ?_ _)); refine blk_far ?_ NB325_383.out _; (with_reducible repeat (first | refine blk_drewN ?_ _ | refine blk_drew ?_ | refine blk_alloc ?_ _)); refine blk_far ?_ NB325_383.out _; (with_reducible repeat (first | refine blk_drewN ?_ _ | refine blk_drew ?_ | refine blk_alloc ?_ _)); refine blk_far ?_ NB325_383.out _; (with_reducible repeat (first | refine blk_drewN ?_ _ | refine blk_drew ?_ | refine blk_alloc ?_ _)); refine blk_far ?_ NB325_383.out _; (with_reducible repeat (first | refine blk_drewN ?_ _ | refine blk_drew ?_ | refine blk_alloc ?_ _)); exact BK325.out) hb); have n6_ := Aside0.mk (blk_below (g := gb340) (o := .cells #[.int .i64 t333, .slice Ao19 t334.length co19, .int .i64 t337, .bool t338] 27 (0, 0)) (by (with_reducible repeat (first | refine blk_drewN ?_ _ | refine blk_drew ?_ | refine blk_alloc ?_ _)); refine blk_far ?_ NB340_383.out _; (with_reducible repeat (first | refine blk_drewN ?_ _ | refine blk_drew ?_ | refine blk_alloc ?_ _)); refine blk_far ?_ NB340_383.out _; (with_reducible repeat (first | refine blk_drewN ?_ _ | refine blk_drew ?_ | refine blk_alloc ?_ _)); refine blk_far ?_ NB340_383.out _; (with_reducible repeat (first | refine blk_drewN ?_ _ | refine blk_drew ?_ | refine blk_alloc ?_ _)); refine blk_far ?_ NB340_383.out _; (with_reducible repeat (first | refine blk_drewN ?_ _ | refine blk_drew ?_ | refine blk_alloc ?_ _)); exact BK340.out) hb); have n7_ := Aside0.mk (blk_below (g := gb347) (o := .cells #[.int .i64 t341, .slice Ao26 t365.length co26, .int .i64 t345, .bool t346] 27 (0, 0)) (by (with_reducible repeat (first | refine blk_drewN ?_ _ | refine blk_drew ?_ | refine blk_alloc ?_ _)); refine blk_far ?_ NB347_383.out _; (with_reducible repeat (first | refine blk_drewN ?_ _ | refine blk_drew ?_ | refine blk_alloc ?_ _)); refine blk_far ?_ NB347_383.out _; (with_reducible repeat (first | refine blk_drewN ?_ _ | refine blk_drew ?_ | refine blk_alloc ?_ _)); refine blk_far ?_ NB347_383.out _; (with_reducible repeat (first | refine blk_drewN ?_ _ | refine blk_drew ?_ | refine blk_alloc ?_ _)); refine blk_far ?_ NB347_383.out _; (with_reducible repeat (first | refine blk_drewN ?_ _ | refine blk_drew ?_ | refine blk_alloc ?_ _)); exact BK347.out) hb); have n8_ := Aside0.mk (blk_below (g := gb355) (o := .cells #[.int .i64 t348, .slice Ao33 t349.length co33, .int .i64 t352, .bool t353] 27 (0, 0)) (by (with_reducible repeat (first | refine blk_drewN ?_ _ | refine blk_drew ?_ | refine blk_alloc ?_ _)); refine blk_far ?_ NB355_383.out _; (with_reducible repeat (first | refine blk_drewN ?_ _ | refine blk_drew ?_ | refine blk_alloc ?_ _)); refine blk_far ?_ NB355_383.out _; (with_reducible repeat (first | refine blk_drewN ?_ _ | refine blk_drew ?_ | refine blk_alloc ?_ _)); refine blk_far ?_ NB355_383.out _; (with_reducible repeat (first | refine blk_drewN ?_ _ | refine blk_drew ?_ | refine blk_alloc ?_ _)); refine blk_far ?_ NB355_383.out _; (with_reducible repeat (first | refine blk_drewN ?_ _ | refine blk_drew ?_ | refine blk_alloc ?_ _)); exact BK355.out) hb); have n9_ := Aside0.mk (blk_below (g := gb383) (o := .cells #[.int .i64 t376, .slice Ao117 t377.length co117, .int .i64 t380, .bool t381] 27 (0, 0)) (by (with_reducible repeat (first | refine blk_drewN ?_ _ | refine blk_drew ?_ | refine blk_alloc ?_ _)); refine blk_put (cs := #[.int .i64 t376, .slice Ao117 t377.length co117, .int .i64 t380, .bool false]) ?_ 3 _ rfl; (with_reducible repeat (first | refine blk_drewN ?_ _ | refine blk_drew ?_ | refine blk_alloc ?_ _)); refine blk_put (cs := #[.int .i64 t376, .slice Ao117 t377.length co117, .int .i64 0, .bool false]) ?_ 2 _ rfl; (with_reducible repeat (first | refine blk_drewN ?_ _ | refine blk_drew ?_ | refine blk_alloc ?_ _)); refine blk_put (cs := #[.int .i64 t376, .slice none 0 0, .int .i64 0, .bool false]) ?_ 1 _ rfl; (with_reducible repeat (first | refine blk_drewN ?_ _ | refine blk_drew ?_ | refine blk_alloc ?_ _)); refine blk_put (cs := #[.int .i64 0, .slice none 0 0, .int .i64 0, .bool false]) ?_ 0 _ rfl; (with_reducible repeat (first | refine blk_drewN ?_ _ | refine blk_drew ?_ | refine blk_alloc ?_ _)); exact BK383.out) hb); have n10_ := Aside0.mk (below_step (by repeat (first | (with_reducible first | exact HB.out | apply below_alloc | apply pw_below_drewN | apply below_drew1 | refine below_set ?_ GE325.out | refine below_set ?_ GE340.out | refine below_set ?_ GE347.out | refine below_set ?_ GE355.out | refine below_set ?_ GE383.out) | exact HB.out)) hb); clear HO_341001; clear HO_348001; clear HO_356001; clear HO373; clear HO379; clear BK325; clear BK340; clear BK347; clear BK355; clear BK383; clear HB; have HO_341001 := n0_; have HO_348001 := n1_; have HO_356001 := n2_; have HO373 := n3_; have HO379 := n4_; have BK325 := n5_; have BK340 := n6_; have BK347 := n7_; have BK355 := n8_; have BK383 := n9_; have HB := n10_; clear n0_ n1_ n2_ n3_ n4_ n5_ n6_ n7_ n8_ n9_ n10_; (try clear hb); (try clear hb2); (try clear hk); (try clear hi)))
      go_meet
      case rel => exact ⟨_, (true), (by first | rfl | (simp; done) | (simp [*]; done)), H', ⟨by have := HJ10.out; have := HJ60.out; first | omega | exact Nat.le_refl _⟩, ⟨by (try simp only [hl348001_60]); (with_reducible repeat (first | apply Kd.R_alloc | apply Kd.R_drewN | apply Kd.R_drew)); exact Kd.R_mono HO_341001.out (fun _ hk => ⟨hk.1.1.1, ⟨hk.1.1.2, hk.2⟩⟩)⟩, ⟨by (try simp only [hl348001_60]); (with_reducible repeat (first | apply Kd.R_alloc | apply Kd.R_drewN | apply Kd.R_drew)); exact Kd.R_mono HO_348001.out (fun _ hk => ⟨hk.1.1.1, ⟨hk.1.1.2, hk.2⟩⟩)⟩, ⟨by (try simp only [hl348001_60]); (with_reducible repeat (first | apply Kd.R_alloc | apply Kd.R_drewN | apply Kd.R_drew)); exact Kd.R_mono HO_356001.out (fun _ hk => ⟨hk.1.1.1, ⟨hk.1.1.2, hk.2⟩⟩)⟩, ⟨by (try simp only [hl348001_60]); (with_reducible repeat (first | apply Kd.R_alloc | apply Kd.R_drewN | apply Kd.R_drew)); exact Kd.R_mono HO379.out (fun _ hk => ⟨hk.1.1.1.2, ⟨hk.1.1.2, hk.1.2⟩⟩)⟩, ⟨by (try simp only [hl348001_60]); (with_reducible repeat (first | refine blk_drewN ?_ _ | refine blk_drew ?_ | refine blk_alloc ?_ _)); exact BK325.out⟩, ⟨by (try simp only [hl348001_60]); (with_reducible repeat (first | refine blk_drewN ?_ _ | refine blk_drew ?_ | refine blk_alloc ?_ _)); exact BK340.out⟩, ⟨by (try simp only [hl348001_60]); (with_reducible repeat (first | refine blk_drewN ?_ _ | refine blk_drew ?_ | refine blk_alloc ?_ _)); exact BK347.out⟩, ⟨by (try simp only [hl348001_60]); (with_reducible repeat (first | refine blk_drewN ?_ _ | refine blk_drew ?_ | refine blk_alloc ?_ _)); exact BK355.out⟩, ⟨by (try simp only [hl348001_60]); (with_reducible repeat (first | refine blk_drewN ?_ _ | refine blk_drew ?_ | refine blk_alloc ?_ _)); exact BK383.out⟩, ⟨by repeat (first | (with_reducible first | exact HB.out | apply below_alloc | apply pw_below_drewN | apply below_drew1 | refine below_set ?_ GE325.out | refine below_set ?_ GE340.out | refine below_set ?_ GE347.out | refine below_set ?_ GE355.out | refine below_set ?_ GE383.out) | exact HB.out)⟩⟩
    subst c119
    have H1 : (laws_FnExactNextStage.j2 kj60 t367 (t382 != t339) t348 t368 t352 t353) = some r := by rw [if_pos rfl] at H; exact H
    clear H
    have H := H1
    clear H1
    have H' := Aside0.mk H
    clear H
    have hnb130 := NB383_325.out
    have hnc130 := NB325_383.out
    have hnb131 := NB383_340.out
    have hnc131 := NB340_383.out
    have hnb132 := NB383_347.out
    have hnc132 := NB347_383.out
    have hnb133 := NB383_355.out
    have hnc133 := NB355_383.out
    have hcz134_0 : w111.cell? ⟨gb383, 0, none⟩ = some (.int .i64 0) := (blk_cell BK383.out 0).trans rfl
    have hcz134_1 : w111.cell? ⟨gb383, 1, none⟩ = some (.slice none 0 0) := (blk_cell BK383.out 1).trans rfl
    have hcz134_2 : w111.cell? ⟨gb383, 2, none⟩ = some (.int .i64 0) := (blk_cell BK383.out 2).trans rfl
    have hcz134_3 : w111.cell? ⟨gb383, 3, none⟩ = some (.bool false) := (blk_cell BK383.out 3).trans rfl
    have hfz134_0 := blk_frozen BK383.out 0
    have hfz134_1 := blk_frozen BK383.out 1
    have hfz134_2 := blk_frozen BK383.out 2
    have hfz134_3 := blk_frozen BK383.out 3
    have hnb135 := NB340_325.out
    have hnc135 := NB325_340.out
    have hnb136 := NB340_347.out
    have hnc136 := NB347_340.out
    have hnb137 := NB340_355.out
    have hnc137 := NB355_340.out
    have hcz138_0 : w111.cell? ⟨gb340, 0, none⟩ = some (.int .i64 t333) := (blk_cell BK340.out 0).trans rfl
    have hcz138_1 : w111.cell? ⟨gb340, 1, none⟩ = some (.slice Ao19 t334.length co19) := (blk_cell BK340.out 1).trans rfl
    have hcz138_2 : w111.cell? ⟨gb340, 2, none⟩ = some (.int .i64 t337) := (blk_cell BK340.out 2).trans rfl
    have hcz138_3 : w111.cell? ⟨gb340, 3, none⟩ = some (.bool t338) := (blk_cell BK340.out 3).trans rfl
    have hfz138_0 := blk_frozen BK340.out 0
    have hfz138_1 := blk_frozen BK340.out 1
    have hfz138_2 := blk_frozen BK340.out 2
    have hfz138_3 := blk_frozen BK340.out 3
    go_wp2_with (first | ((with_reducible refine gate_callee (f := 19) rfl ?_); refine goesL_ (some 81) rfl rfl Try.func19 (by kernel_rfl) rfl #[.agg #[.int .i64 t376, .slice Ao117 t377.length co117, .int .i64 t380, .bool t381], .agg #[.int .i64 t333, .slice Ao19 t334.length co19, .int .i64 t337, .bool t338]] rfl (by (try simp only [List.map_toArray, List.map_cons, List.map_nil]); first | done | rfl | (simp only [List.length_drop, List.length_take]; rfl)) ?_; (with_reducible refine (laws_eqRollout.calls kj60 t376 _ _ t377 t380 t381 t333 _ _ t334 t337 t338 true _ ?side1 ?side2 ?side3 ?side4 A118.out).mono ?_); (case side1 => refine (Kd.R_reads' (e := 3) (base := w.heap.size) (ok := fun k_ => ((((True ∧ some k_ ≠ (.slice Ao19 t334.length co19 : Value).ownBlock) ∧ some k_ ≠ (.slice Ao26 t365.length co26 : Value).ownBlock) ∧ some k_ ≠ (.slice Ao33 t349.length co33 : Value).ownBlock) ∧ some k_ ≠ (.slice Ao109 t371.length co109 : Value).ownBlock)) (n := t377.length) (c := co117) ?_).2.2; exact (by (with_reducible repeat (first | apply Kd.R_alloc | apply Kd.R_drewN | apply Kd.R_drew)); exact (Kd.R_mono (Kd.R_far (p := ⟨gb383, 3, none⟩) (Kd.R_far (p := ⟨gb383, 2, none⟩) (Kd.R_far (p := ⟨gb383, 1, none⟩) (Kd.R_far (p := ⟨gb383, 0, none⟩) (Kd.R_types HO379.out BK383.out (by decide)) (fun _ hk => hk.2) (.int .i64 t376)) (fun _ hk => hk.2) (.slice Ao117 t377.length co117)) (fun _ hk => hk.2) (.int .i64 t380)) (fun _ hk => hk.2) (.bool t381)) (fun _ h_ => h_.1)))); (case side2 => exact (Kd.R_reads' HO379.out).2.1); (case side3 => refine (Kd.R_reads' (e := 3) (base := w.heap.size) (ok := fun k_ => (((some k_ ≠ (.slice Ao26 t365.length co26 : Value).ownBlock ∧ some k_ ≠ (.slice Ao33 t349.length co33 : Value).ownBlock) ∧ some k_ ≠ (.slice Ao109 t371.length co109 : Value).ownBlock) ∧ some k_ ≠ (.slice Ao117 t377.length co117 : Value).ownBlock)) (n := t334.length) (c := co19) ?_).2.2; exact (by (with_reducible repeat (first | apply Kd.R_alloc | apply Kd.R_drewN | apply Kd.R_drew)); exact (Kd.R_mono (Kd.R_far (p := ⟨gb383, 3, none⟩) (Kd.R_far (p := ⟨gb383, 2, none⟩) (Kd.R_far (p := ⟨gb383, 1, none⟩) (Kd.R_far (p := ⟨gb383, 0, none⟩) (Kd.R_types HO_341001.out BK383.out (by decide)) (fun _ hk => hk.2) (.int .i64 t376)) (fun _ hk => hk.2) (.slice Ao117 t377.length co117)) (fun _ hk => hk.2) (.int .i64 t380)) (fun _ hk => hk.2) (.bool t381)) (fun _ h_ => h_.1)))); (case side4 => exact (Kd.R_reads' HO_341001.out).2.1); rintro e w139 ⟨rfl, hb⟩; refine ⟨_, rfl, ?_⟩; have n0_ := Aside0.mk (Kd.R_below (by (with_reducible repeat (first | apply Kd.R_alloc | apply Kd.R_drewN | apply Kd.R_drew)); exact (Kd.R_mono (Kd.R_far (p := ⟨gb383, 3, none⟩) (Kd.R_far (p := ⟨gb383, 2, none⟩) (Kd.R_far (p := ⟨gb383, 1, none⟩) (Kd.R_far (p := ⟨gb383, 0, none⟩) (Kd.R_types HO_341001.out BK383.out (by decide)) (fun _ hk => hk.2) (.int .i64 t376)) (fun _ hk => hk.2) (.slice Ao117 t377.length co117)) (fun _ hk => hk.2) (.int .i64 t380)) (fun _ hk => hk.2) (.bool t381)) (fun _ h_ => h_.1))) hb); have n1_ := Aside0.mk (Kd.R_below (by (with_reducible repeat (first | apply Kd.R_alloc | apply Kd.R_drewN | apply Kd.R_drew)); exact (Kd.R_mono (Kd.R_far (p := ⟨gb383, 3, none⟩) (Kd.R_far (p := ⟨gb383, 2, none⟩) (Kd.R_far (p := ⟨gb383, 1, none⟩) (Kd.R_far (p := ⟨gb383, 0, none⟩) (Kd.R_types HO_348001.out BK383.out (by decide)) (fun _ hk => hk.2) (.int .i64 t376)) (fun _ hk => hk.2) (.slice Ao117 t377.length co117)) (fun _ hk => hk.2) (.int .i64 t380)) (fun _ hk => hk.2) (.bool t381)) (fun _ h_ => h_.1))) hb); have n2_ := Aside0.mk (Kd.R_below (by (with_reducible repeat (first | apply Kd.R_alloc | apply Kd.R_drewN | apply Kd.R_drew)); exact (Kd.R_mono (Kd.R_far (p := ⟨gb383, 3, none⟩) (Kd.R_far (p := ⟨gb383, 2, none⟩) (Kd.R_far (p := ⟨gb383, 1, none⟩) (Kd.R_far (p := ⟨gb383, 0, none⟩) (Kd.R_types HO_356001.out BK383.out (by decide)) (fun _ hk => hk.2) (.int .i64 t376)) (fun _ hk => hk.2) (.slice Ao117 t377.length co117)) (fun _ hk => hk.2) (.int .i64 t380)) (fun _ hk => hk.2) (.bool t381)) (fun _ h_ => h_.1))) hb); have n3_ := Aside0.mk (Kd.R_below (by (with_reducible repeat (first | apply Kd.R_alloc | apply Kd.R_drewN | apply Kd.R_drew)); exact (Kd.R_mono (Kd.R_far (p := ⟨gb383, 3, none⟩) (Kd.R_far (p := ⟨gb383, 2, none⟩) (Kd.R_far (p := ⟨gb383, 1, none⟩) (Kd.R_far (p := ⟨gb383, 0, none⟩) (Kd.R_types HO373.out BK383.out (by decide)) (fun _ hk => hk.2) (.int .i64 t376)) (fun _ hk => hk.2) (.slice Ao117 t377.length co117)) (fun _ hk => hk.2) (.int .i64 t380)) (fun _ hk => hk.2) (.bool t381)) (fun _ h_ => h_.1))) hb); have n4_ := Aside0.mk (Kd.R_below (by (with_reducible repeat (first | apply Kd.R_alloc | apply Kd.R_drewN | apply Kd.R_drew)); exact (Kd.R_mono (Kd.R_far (p := ⟨gb383, 3, none⟩) (Kd.R_far (p := ⟨gb383, 2, none⟩) (Kd.R_far (p := ⟨gb383, 1, none⟩) (Kd.R_far (p := ⟨gb383, 0, none⟩) (Kd.R_types HO379.out BK383.out (by decide)) (fun _ hk => hk.2) (.int .i64 t376)) (fun _ hk => hk.2) (.slice Ao117 t377.length co117)) (fun _ hk => hk.2) (.int .i64 t380)) (fun _ hk => hk.2) (.bool t381)) (fun _ h_ => h_.1))) hb); have n5_ := Aside0.mk (blk_below (g := gb325) (o := .cells #[.int .i64 a0_0, .slice A0_1 l0_1.length c0_1, .int .i64 a0_2, .bool a0_3] 24 (0, 0)) (by (with_reducible repeat (first | refine blk_drewN ?_ _ | refine blk_drew ?_ | refine blk_alloc ?_ _)); refine blk_far ?_ NB325_383.out _; (with_reducible repeat (first | refine blk_drewN ?_ _ | refine blk_drew ?_ | refine blk_alloc ?_ _)); refine blk_far ?_ NB325_383.out _; (with_reducible repeat (first | refine blk_drewN ?_ _ | refine blk_drew ?_ | refine blk_alloc ?_ _)); refine blk_far ?_ NB325_383.out _; (with_reducible repeat (first | refine blk_drewN ?_ _ | refine blk_drew ?_ | refine blk_alloc ?_ _)); refine blk_far ?_ NB325_383.out _; (with_reducible repeat (first | refine blk_drewN ?_ _ | refine blk_drew ?_ | refine blk_alloc ?_ _)); exact BK325.out) hb); have n6_ := Aside0.mk (blk_below (g := gb340) (o := .cells #[.int .i64 t333, .slice Ao19 t334.length co19, .int .i64 t337, .bool t338] 27 (0, 0)) (by (with_reducible repeat (first | refine blk_drewN ?_ _ | refine blk_drew ?_ | refine blk_alloc ?_ _)); refine blk_far ?_ NB340_383.out _; (with_reducible repeat (first | refine blk_drewN ?_ _ | refine blk_drew ?_ | refine blk_alloc ?_ _)); refine blk_far ?_ NB340_383.out _; (with_reducible repeat (first | refine blk_drewN ?_ _ | refine blk_drew ?_ | refine blk_alloc ?_ _)); refine blk_far ?_ NB340_383.out _; (with_reducible repeat (first | refine blk_drewN ?_ _ | refine blk_drew ?_ | refine blk_alloc ?_ _)); refine blk_far ?_ NB340_383.out _; (with_reducible repeat (first | refine blk_drewN ?_ _ | refine blk_drew ?_ | refine blk_alloc ?_ _)); exact BK340.out) hb); have n7_ := Aside0.mk (blk_below (g := gb347) (o := .cells #[.int .i64 t341, .slice Ao26 t365.length co26, .int .i64 t345, .bool t346] 27 (0, 0)) (by (with_reducible repeat (first | refine blk_drewN ?_ _ | refine blk_drew ?_ | refine blk_alloc ?_ _)); refine blk_far ?_ NB347_383.out _; (with_reducible repeat (first | refine blk_drewN ?_ _ | refine blk_drew ?_ | refine blk_alloc ?_ _)); refine blk_far ?_ NB347_383.out _; (with_reducible repeat (first | refine blk_drewN ?_ _ | refine blk_drew ?_ | refine blk_alloc ?_ _)); refine blk_far ?_ NB347_383.out _; (with_reducible repeat (first | refine blk_drewN ?_ _ | refine blk_drew ?_ | refine blk_alloc ?_ _)); refine blk_far ?_ NB347_383.out _; (with_reducible repeat (first | refine blk_drewN ?_ _ | refine blk_drew ?_ | refine blk_alloc ?_ _)); exact BK347.out) hb); have n8_ := Aside0.mk (blk_below (g := gb355) (o := .cells #[.int .i64 t348, .slice Ao33 t349.length co33, .int .i64 t352, .bool t353] 27 (0, 0)) (by (with_reducible repeat (first | refine blk_drewN ?_ _ | refine blk_drew ?_ | refine blk_alloc ?_ _)); refine blk_far ?_ NB355_383.out _; (with_reducible repeat (first | refine blk_drewN ?_ _ | refine blk_drew ?_ | refine blk_alloc ?_ _)); refine blk_far ?_ NB355_383.out _; (with_reducible repeat (first | refine blk_drewN ?_ _ | refine blk_drew ?_ | refine blk_alloc ?_ _)); refine blk_far ?_ NB355_383.out _; (with_reducible repeat (first | refine blk_drewN ?_ _ | refine blk_drew ?_ | refine blk_alloc ?_ _)); refine blk_far ?_ NB355_383.out _; (with_reducible repeat (first | refine blk_drewN ?_ _ | refine blk_drew ?_ | refine blk_alloc ?_ _)); exact BK355.out) hb); have n9_ := Aside0.mk (blk_below (g := gb383) (o := .cells #[.int .i64 t376, .slice Ao117 t377.length co117, .int .i64 t380, .bool t381] 27 (0, 0)) (by (with_reducible repeat (first | refine blk_drewN ?_ _ | refine blk_drew ?_ | refine blk_alloc ?_ _)); refine blk_put (cs := #[.int .i64 t376, .slice Ao117 t377.length co117, .int .i64 t380, .bool false]) ?_ 3 _ rfl; (with_reducible repeat (first | refine blk_drewN ?_ _ | refine blk_drew ?_ | refine blk_alloc ?_ _)); refine blk_put (cs := #[.int .i64 t376, .slice Ao117 t377.length co117, .int .i64 0, .bool false]) ?_ 2 _ rfl; (with_reducible repeat (first | refine blk_drewN ?_ _ | refine blk_drew ?_ | refine blk_alloc ?_ _)); refine blk_put (cs := #[.int .i64 t376, .slice none 0 0, .int .i64 0, .bool false]) ?_ 1 _ rfl; (with_reducible repeat (first | refine blk_drewN ?_ _ | refine blk_drew ?_ | refine blk_alloc ?_ _)); refine blk_put (cs := #[.int .i64 0, .slice none 0 0, .int .i64 0, .bool false]) ?_ 0 _ rfl; (with_reducible repeat (first | refine blk_drewN ?_ _ | refine blk_drew ?_ | refine blk_alloc ?_ _)); exact BK383.out) hb); have n10_ := Aside0.mk (below_step (by repeat (first | (with_reducible first | exact HB.out | apply below_alloc | apply pw_below_drewN | apply below_drew1 | refine below_set ?_ GE325.out | refine below_set ?_ GE340.out | refine below_set ?_ GE347.out | refine below_set ?_ GE355.out | refine below_set ?_ GE383.out) | exact HB.out)) hb); clear HO_341001; clear HO_348001; clear HO_356001; clear HO373; clear HO379; clear BK325; clear BK340; clear BK347; clear BK355; clear BK383; clear HB; have HO_341001 := n0_; have HO_348001 := n1_; have HO_356001 := n2_; have HO373 := n3_; have HO379 := n4_; have BK325 := n5_; have BK340 := n6_; have BK347 := n7_; have BK355 := n8_; have BK383 := n9_; have HB := n10_; clear n0_ n1_ n2_ n3_ n4_ n5_ n6_ n7_ n8_ n9_ n10_; (try clear hb); (try clear hb2); (try clear hk); (try clear hi)))
    go_meet
    case rel => exact ⟨_, ((t382 != t339)), (by first | rfl | (simp; done) | (simp [*]; done)), H', ⟨by have := HJ10.out; have := HJ60.out; first | omega | exact Nat.le_refl _⟩, ⟨by (try simp only [hl348001_60]); (with_reducible repeat (first | apply Kd.R_alloc | apply Kd.R_drewN | apply Kd.R_drew)); exact Kd.R_mono HO_341001.out (fun _ hk => ⟨hk.1.1.1, ⟨hk.1.1.2, hk.2⟩⟩)⟩, ⟨by (try simp only [hl348001_60]); (with_reducible repeat (first | apply Kd.R_alloc | apply Kd.R_drewN | apply Kd.R_drew)); exact Kd.R_mono HO_348001.out (fun _ hk => ⟨hk.1.1.1, ⟨hk.1.1.2, hk.2⟩⟩)⟩, ⟨by (try simp only [hl348001_60]); (with_reducible repeat (first | apply Kd.R_alloc | apply Kd.R_drewN | apply Kd.R_drew)); exact Kd.R_mono HO_356001.out (fun _ hk => ⟨hk.1.1.1, ⟨hk.1.1.2, hk.2⟩⟩)⟩, ⟨by (try simp only [hl348001_60]); (with_reducible repeat (first | apply Kd.R_alloc | apply Kd.R_drewN | apply Kd.R_drew)); exact Kd.R_mono HO379.out (fun _ hk => ⟨hk.1.1.1.2, ⟨hk.1.1.2, hk.1.2⟩⟩)⟩, ⟨by (try simp only [hl348001_60]); (with_reducible repeat (first | refine blk_drewN ?_ _ | refine blk_drew ?_ | refine blk_alloc ?_ _)); exact BK325.out⟩, ⟨by (try simp only [hl348001_60]); (with_reducible repeat (first | refine blk_drewN ?_ _ | refine blk_drew ?_ | refine blk_alloc ?_ _)); exact BK340.out⟩, ⟨by (try simp only [hl348001_60]); (with_reducible repeat (first | refine blk_drewN ?_ _ | refine blk_drew ?_ | refine blk_alloc ?_ _)); exact BK347.out⟩, ⟨by (try simp only [hl348001_60]); (with_reducible repeat (first | refine blk_drewN ?_ _ | refine blk_drew ?_ | refine blk_alloc ?_ _)); exact BK355.out⟩, ⟨by (try simp only [hl348001_60]); (with_reducible repeat (first | refine blk_drewN ?_ _ | refine blk_drew ?_ | refine blk_alloc ?_ _)); exact BK383.out⟩, ⟨by repeat (first | (with_reducible first | exact HB.out | apply below_alloc | apply pw_below_drewN | apply below_drew1 | refine below_set ?_ GE325.out | refine below_set ?_ GE340.out | refine below_set ?_ GE347.out | refine below_set ?_ GE355.out | refine below_set ?_ GE383.out) | exact HB.out)⟩⟩
  clear HC103
  try clear c1
  try clear c2
  try clear p2
  try clear c3
  try clear c4
  try clear c5
  try clear c6
  try clear c6b0
  try clear c7
  try clear c8
  try clear c9
  try clear c10
  try clear c11
  try clear c12
  try clear c13
  try clear c15
  try clear c17
  try clear c19
  try clear c23
  try clear c24
  try clear c26
  try clear c27
  try clear c28
  try clear c29
  try clear c30
  try clear c31
  try clear c35
  try clear c36
  try clear c37
  try clear c38
  try clear c40
  try clear c41
  try clear c44
  try clear c45
  try clear c46
  try clear c48
  try clear c49
  try clear c52
  try clear c59
  try clear c62
  try clear c63
  try clear c64
  try clear c67
  try clear c67b0
  try clear c69
  try clear c70
  try clear c71
  try clear c72
  try clear c74
  try clear c75
  try clear c78
  try clear c79
  try clear c80
  try clear c82
  try clear c83
  try clear c86
  try clear c88
  try clear c89
  try clear c90
  try clear c94
  try clear c95
  try clear c96
  try clear c99
  try clear c99b0
  try clear c100
  try clear c100b0
  try clear c100b1
  try clear c104
  try clear c105
  try clear c106
  try clear c112
  try clear c113
  try clear c114
  try clear c115
  try clear c119
  try clear c120
  try clear c121
  try clear c122
  try clear c123
  try clear c125
  try clear c126
  try clear c127
  try clear c130
  try clear c131
  try clear c132
  try clear c133
  try clear c135
  try clear c136
  try clear c137
  try clear hcz107_0
  try clear hcz107_1
  try clear hcz107_2
  try clear hcz107_3
  try clear hcz116_0
  try clear hcz116_1
  try clear hcz116_2
  try clear hcz116_3
  try clear hcz124_0
  try clear hcz124_1
  try clear hcz124_2
  try clear hcz124_3
  try clear hcz128_0
  try clear hcz128_1
  try clear hcz128_2
  try clear hcz128_3
  try clear hcz12_0
  try clear hcz12_1
  try clear hcz12_2
  try clear hcz12_3
  try clear hcz134_0
  try clear hcz134_1
  try clear hcz134_2
  try clear hcz134_3
  try clear hcz138_0
  try clear hcz138_1
  try clear hcz138_2
  try clear hcz138_3
  try clear hcz18_0
  try clear hcz18_1
  try clear hcz18_2
  try clear hcz18_3
  try clear hcz20_0
  try clear hcz20_1
  try clear hcz20_2
  try clear hcz20_3
  try clear hcz25_0
  try clear hcz25_1
  try clear hcz25_2
  try clear hcz25_3
  try clear hcz32_0
  try clear hcz32_1
  try clear hcz32_2
  try clear hcz32_3
  try clear hcz39_0
  try clear hcz39_1
  try clear hcz39_2
  try clear hcz39_3
  try clear hcz42_0
  try clear hcz42_1
  try clear hcz42_2
  try clear hcz42_3
  try clear hcz47_0
  try clear hcz47_1
  try clear hcz47_2
  try clear hcz47_3
  try clear hcz4_0
  try clear hcz4_1
  try clear hcz4_2
  try clear hcz4_3
  try clear hcz50_0
  try clear hcz50_1
  try clear hcz50_2
  try clear hcz50_3
  try clear hcz65_0
  try clear hcz65_1
  try clear hcz65_2
  try clear hcz65_3
  try clear hcz73_0
  try clear hcz73_1
  try clear hcz73_2
  try clear hcz73_3
  try clear hcz76_0
  try clear hcz76_1
  try clear hcz76_2
  try clear hcz76_3
  try clear hcz81_0
  try clear hcz81_1
  try clear hcz81_2
  try clear hcz81_3
  try clear hcz84_0
  try clear hcz84_1
  try clear hcz84_2
  try clear hcz84_3
  try clear hcz91_0
  try clear hcz91_1
  try clear hcz91_2
  try clear hcz91_3
  try clear hcz97_0
  try clear hcz97_1
  try clear hcz97_2
  try clear hcz97_3
  try clear hfz107_0
  try clear hfz107_1
  try clear hfz107_2
  try clear hfz107_3
  try clear hfz116_0
  try clear hfz116_1
  try clear hfz116_2
  try clear hfz116_3
  try clear hfz124_0
  try clear hfz124_1
  try clear hfz124_2
  try clear hfz124_3
  try clear hfz128_0
  try clear hfz128_1
  try clear hfz128_2
  try clear hfz128_3
  try clear hfz12_0
  try clear hfz12_1
  try clear hfz12_2
  try clear hfz12_3
  try clear hfz134_0
  try clear hfz134_1
  try clear hfz134_2
  try clear hfz134_3
  try clear hfz138_0
  try clear hfz138_1
  try clear hfz138_2
  try clear hfz138_3
  try clear hfz18_0
  try clear hfz18_1
  try clear hfz18_2
  try clear hfz18_3
  try clear hfz20_0
  try clear hfz20_1
  try clear hfz20_2
  try clear hfz20_3
  try clear hfz25_0
  try clear hfz25_1
  try clear hfz25_2
  try clear hfz25_3
  try clear hfz32_0
  try clear hfz32_1
  try clear hfz32_2
  try clear hfz32_3
  try clear hfz39_0
  try clear hfz39_1
  try clear hfz39_2
  try clear hfz39_3
  try clear hfz42_0
  try clear hfz42_1
  try clear hfz42_2
  try clear hfz42_3
  try clear hfz47_0
  try clear hfz47_1
  try clear hfz47_2
  try clear hfz47_3
  try clear hfz4_0
  try clear hfz4_1
  try clear hfz4_2
  try clear hfz4_3
  try clear hfz50_0
  try clear hfz50_1
  try clear hfz50_2
  try clear hfz50_3
  try clear hfz65_0
  try clear hfz65_1
  try clear hfz65_2
  try clear hfz65_3
  try clear hfz73_0
  try clear hfz73_1
  try clear hfz73_2
  try clear hfz73_3
  try clear hfz76_0
  try clear hfz76_1
  try clear hfz76_2
  try clear hfz76_3
  try clear hfz81_0
  try clear hfz81_1
  try clear hfz81_2
  try clear hfz81_3
  try clear hfz84_0
  try clear hfz84_1
  try clear hfz84_2
  try clear hfz84_3
  try clear hfz91_0
  try clear hfz91_1
  try clear hfz91_2
  try clear hfz91_3
  try clear hfz97_0
  try clear hfz97_1
  try clear hfz97_2
  try clear hfz97_3
  try clear p2
  obtain ⟨kq, x87_102, rfl, HA, HJ102, HO_341001, HO_348001, HO_356001, HO_384001, BK325, BK340, BK347, BK355, BK383, HB⟩ := hcut
  have hl356001_102 := (Kd.R_reads' HO_356001.out).1
  rw [hl356001_102] at HO_356001
  (try simp only [hl356001_102])
  (try simp only [hl356001_102] at BK325)
  (try simp only [hl356001_102] at BK340)
  (try simp only [hl356001_102] at BK347)
  (try simp only [hl356001_102] at BK355)
  (try simp only [hl356001_102] at BK383)
  (try simp only [hl356001_102] at HO_341001)
  (try simp only [hl356001_102] at HO_348001)
  (try simp only [hl356001_102] at HO_384001)
  rcases kq with _ | kj102
  · exact absurd HA.out (by simp [laws_FnExactNextStage.j2])
  have H := HA.out
  clear HA
  simp only [laws_FnExactNextStage.j2] at H
  by_cases c140 : x87_102 = true
  · subst c140
    have H1 : (some false) = some r := by rw [if_pos rfl] at H; exact H
    clear H
    have H := H1
    clear H1
    obtain rfl := Option.some.inj H
    go_wp2
    go_ret
    exact ⟨by first | rfl | (simp [errW_none, errW_some] <;> rfl) | (simp [*, errW_none, errW_some] <;> rfl), by repeat (first | (with_reducible first | exact HB.out | apply below_alloc | apply pw_below_drewN | apply below_drew1 | refine below_set ?_ GE325.out | refine below_set ?_ GE340.out | refine below_set ?_ GE347.out | refine below_set ?_ GE355.out | refine below_set ?_ GE383.out) | exact HB.out)⟩
  replace c140 := Bool.eq_false_iff.mpr c140
  subst c140
  have H1 : ((laws_heldRollout.f kj102 t348 t368 t352 t353 1).bind fun t385 => (if t385 < 0 then (some false) else (if t385 = t367 then (some true) else (some false)))) = some r := by rw [if_neg (show ¬ (false = true) by decide)] at H; exact H
  clear H
  have H := H1
  clear H1
  replace H := Option.bind_eq_some_iff.mp H
  obtain ⟨t385, A1410, H⟩ := H
  replace H : (if t385 < 0 then (some false) else (if t385 = t367 then (some true) else (some false))) = some r := H
  have A141 := Aside0.mk A1410
  clear A1410
  have HS_ := Aside0.mk H
  clear H
  have hnb142 := NB355_325.out
  have hnc142 := NB325_355.out
  have hnb143 := NB355_340.out
  have hnc143 := NB340_355.out
  have hnb144 := NB355_347.out
  have hnc144 := NB347_355.out
  have hnb145 := NB355_383.out
  have hnc145 := NB383_355.out
  have hcz146_0 : wc.cell? ⟨gb355, 0, none⟩ = some (.int .i64 t348) := (blk_cell BK355.out 0).trans rfl
  have hcz146_1 : wc.cell? ⟨gb355, 1, none⟩ = some (.slice Ao33 t368.length co33) := (blk_cell BK355.out 1).trans rfl
  have hcz146_2 : wc.cell? ⟨gb355, 2, none⟩ = some (.int .i64 t352) := (blk_cell BK355.out 2).trans rfl
  have hcz146_3 : wc.cell? ⟨gb355, 3, none⟩ = some (.bool t353) := (blk_cell BK355.out 3).trans rfl
  have hfz146_0 := blk_frozen BK355.out 0
  have hfz146_1 := blk_frozen BK355.out 1
  have hfz146_2 := blk_frozen BK355.out 2
  have hfz146_3 := blk_frozen BK355.out 3
  go_upto_if 92 with (first | ((with_reducible refine gate_callee (f := 29) rfl ?_); refine goesL_ (some 90) rfl rfl Try.func29 (by kernel_rfl) rfl #[.agg #[.int .i64 t348, .slice Ao33 t368.length co33, .int .i64 t352, .bool t353], .int .i64 1] rfl (by (try simp only [List.map_toArray, List.map_cons, List.map_nil]); first | done | rfl | (simp only [List.length_drop, List.length_take]; rfl)) ?_; (with_reducible refine (laws_heldRollout.calls kj102 t348 _ _ t368 t352 t353 1 t385 _ ?side1 ?side2 A141.out).mono ?_); (case side1 => repeat (first | exact (Kd.R_reads' HO_356001.out).2.2 | (with_reducible refine Kd.C_alloc ?_ _) | (with_reducible refine Kd.C_drewN ?_ _) | (with_reducible refine Kd.C_drew ?_))); (case side2 => exact (Kd.R_reads' HO_356001.out).2.1); rintro e w147 ⟨rfl, hb⟩; refine ⟨_, rfl, ?_⟩; have n0_ := Aside0.mk (Kd.R_below (by (with_reducible repeat (first | apply Kd.R_alloc | apply Kd.R_drewN | apply Kd.R_drew)); exact HO_341001.out) hb); have n1_ := Aside0.mk (Kd.R_below (by (with_reducible repeat (first | apply Kd.R_alloc | apply Kd.R_drewN | apply Kd.R_drew)); exact HO_348001.out) hb); have n2_ := Aside0.mk (Kd.R_below (by (with_reducible repeat (first | apply Kd.R_alloc | apply Kd.R_drewN | apply Kd.R_drew)); exact HO_356001.out) hb); have n3_ := Aside0.mk (Kd.R_below (by (with_reducible repeat (first | apply Kd.R_alloc | apply Kd.R_drewN | apply Kd.R_drew)); exact HO_384001.out) hb); have n4_ := Aside0.mk (blk_below (g := gb325) (o := .cells #[.int .i64 a0_0, .slice A0_1 l0_1.length c0_1, .int .i64 a0_2, .bool a0_3] 24 (0, 0)) (by (with_reducible repeat (first | refine blk_drewN ?_ _ | refine blk_drew ?_ | refine blk_alloc ?_ _)); exact BK325.out) hb); have n5_ := Aside0.mk (blk_below (g := gb340) (o := .cells #[.int .i64 t333, .slice Ao19 t334.length co19, .int .i64 t337, .bool t338] 27 (0, 0)) (by (with_reducible repeat (first | refine blk_drewN ?_ _ | refine blk_drew ?_ | refine blk_alloc ?_ _)); exact BK340.out) hb); have n6_ := Aside0.mk (blk_below (g := gb347) (o := .cells #[.int .i64 t341, .slice Ao26 t365.length co26, .int .i64 t345, .bool t346] 27 (0, 0)) (by (with_reducible repeat (first | refine blk_drewN ?_ _ | refine blk_drew ?_ | refine blk_alloc ?_ _)); exact BK347.out) hb); have n7_ := Aside0.mk (blk_below (g := gb355) (o := .cells #[.int .i64 t348, .slice Ao33 t368.length co33, .int .i64 t352, .bool t353] 27 (0, 0)) (by (with_reducible repeat (first | refine blk_drewN ?_ _ | refine blk_drew ?_ | refine blk_alloc ?_ _)); exact BK355.out) hb); have n8_ := Aside0.mk (blk_below (g := gb383) (o := .cells #[.int .i64 t376, .slice Ao117 t377.length co117, .int .i64 t380, .bool t381] 27 (0, 0)) (by (with_reducible repeat (first | refine blk_drewN ?_ _ | refine blk_drew ?_ | refine blk_alloc ?_ _)); exact BK383.out) hb); have n9_ := Aside0.mk (below_step (by repeat (first | (with_reducible first | exact HB.out | apply below_alloc | apply pw_below_drewN | apply below_drew1 | refine below_set ?_ GE325.out | refine below_set ?_ GE340.out | refine below_set ?_ GE347.out | refine below_set ?_ GE355.out | refine below_set ?_ GE383.out) | exact HB.out)) hb); clear HO_341001; clear HO_348001; clear HO_356001; clear HO_384001; clear BK325; clear BK340; clear BK347; clear BK355; clear BK383; clear HB; have HO_341001 := n0_; have HO_348001 := n1_; have HO_356001 := n2_; have HO_384001 := n3_; have BK325 := n4_; have BK340 := n5_; have BK347 := n6_; have BK355 := n7_; have BK383 := n8_; have HB := n9_; clear n0_ n1_ n2_ n3_ n4_ n5_ n6_ n7_ n8_ n9_; (try clear hb); (try clear hb2); (try clear hk); (try clear hi)))
  (try simp only [Act.put, List.setIfInBounds_toArray, List.set_cons_zero, List.set_cons_succ])
  have H := HS_.out
  clear HS_
  by_cases c148 : t385 < 0
  · rw [if_pos c148] at H
    have c148b0 : decide (t385 < 0) = true := decide_eq_true c148
    clear c148
    (first | rw [c148b0] | (simp only [i64_w, i32_w]; rw [c148b0]) | skip)
    obtain rfl := Option.some.inj H
    go_wp2
    go_ret
    exact ⟨by first | rfl | (simp [errW_none, errW_some] <;> rfl) | (simp [*, errW_none, errW_some] <;> rfl), by repeat (first | (with_reducible first | exact HB.out | apply below_alloc | apply pw_below_drewN | apply below_drew1 | refine below_set ?_ GE325.out | refine below_set ?_ GE340.out | refine below_set ?_ GE347.out | refine below_set ?_ GE355.out | refine below_set ?_ GE383.out) | exact HB.out)⟩
  rw [if_neg c148] at H
  have c148b0 : decide (t385 < 0) = false := decide_eq_false c148
  clear c148
  (first | rw [c148b0] | (simp only [i64_w, i32_w]; rw [c148b0]) | skip)
  by_cases c149 : t385 = t367
  rotate_left
  · rw [if_neg c149] at H
    have c149b0 : (t385 == t367) = false := beq_eq_false_iff_ne.mpr c149
    have c149b1 : (t385 != t367) = true := bne_iff_ne.mpr c149
    obtain rfl := Option.some.inj H
    go_wp2
    go_ret
    exact ⟨by first | rfl | (simp [errW_none, errW_some] <;> rfl) | (simp [*, errW_none, errW_some] <;> rfl), by repeat (first | (with_reducible first | exact HB.out | apply below_alloc | apply pw_below_drewN | apply below_drew1 | refine below_set ?_ GE325.out | refine below_set ?_ GE340.out | refine below_set ?_ GE347.out | refine below_set ?_ GE355.out | refine below_set ?_ GE383.out) | exact HB.out)⟩
  rw [if_pos c149] at H
  have c149b0 : (t385 == t367) = true := beq_iff_eq.mpr c149
  have c149b1 : (t385 != t367) = false := bne_eq_false_iff_eq.mpr c149
  clear c149
  obtain rfl := Option.some.inj H
  go_wp2
  go_ret
  exact ⟨by first | rfl | (simp [errW_none, errW_some] <;> rfl) | (simp [*, errW_none, errW_some] <;> rfl), by repeat (first | (with_reducible first | exact HB.out | apply below_alloc | apply pw_below_drewN | apply below_drew1 | refine below_set ?_ GE325.out | refine below_set ?_ GE340.out | refine below_set ?_ GE347.out | refine below_set ?_ GE355.out | refine below_set ?_ GE383.out) | exact HB.out)⟩

/-- THE ONE PURE STATEMENT of laws_FnExactNextStage: yours. -/
def laws_FnExactNextStage.Pure : Prop := ∀ (x0 : S24), Q24 x0 → ∃ k, laws_FnExactNextStage.f k x0.f0 x0.f1 x0.f2 x0.f3 = some true

end Go.Proofs.Ytlcmkgbabffmeaa.Print
