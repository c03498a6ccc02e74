-- Written by a program of this session (printx.py) out of the translation; Lean checks it.
import Derived.Test.YtdoefkloanpliaaPrint0
import Derived.Test.YtdoefkloanpliaaPrint2
import Derived.Test.YtdoefkloanpliaaPrint10
namespace Go.Proofs.Ytdoefkloanpliaa.Print
open Go.RowKit Go.Proofs.YtdoefkloanpliaaW.PrintWords Go.Proofs.YtdoefkloanpliaaW.PrintLast Go.Proofs.YtdoefkloanpliaaW.PrintMore Go.Proofs.Ytdoefkloanpliaa.Short
attribute [local go_sem] max2_int min2_int max_two min_two max_three min_three max_four min_four   -- for this text's walks alone
set_option linter.unusedVariables false
set_option linter.unusedSimpArgs false

/-! ### slices_EqualFunc_impl_Ext_impl_Ext_impl_Ext_impl_Ext_with_impl_equalExt: function 100015 -/
def slices_EqualFunc_impl_Ext_impl_Ext_impl_Ext_impl_Ext_with_impl_equalExt.l0 : Nat → List (S114) → List (S114) → Int → Int → Option (Bool)
  | 0, _, _, _, _ => none
  | k + 1, x1, x15, x16, x17 => if x17 < x16 then (if 0 ≤ x17 then (if x17 < (x15.length : Int) then (if x17 < (x1.length : Int) then ((impl_equalExt.f k ((rd_T114 x15 x17).f0) ((rd_T114 x15 x17).f1) ((rd_T114 x1 x17).f0) ((rd_T114 x1 x17).f1)).bind fun t495 => (if t495 = true then (slices_EqualFunc_impl_Ext_impl_Ext_impl_Ext_impl_Ext_with_impl_equalExt.l0 k x1 x15 x16 (wrap64 (x17 + 1))) else (some false))) else (none)) else (none)) else (none)) else (some true)
def slices_EqualFunc_impl_Ext_impl_Ext_impl_Ext_impl_Ext_with_impl_equalExt.f (k : Nat) (l0 : List (S114)) (l1 : List (S114)) : Option (Bool) := if (l0.length : Int) = (l1.length : Int) then (slices_EqualFunc_impl_Ext_impl_Ext_impl_Ext_impl_Ext_with_impl_equalExt.l0 k l1 l0 (l0.length : Int) 0) else (some false)
theorem slices_EqualFunc_impl_Ext_impl_Ext_impl_Ext_impl_Ext_with_impl_equalExt.mono_l : ∀ k, (∀ y0 y1 y2 y3, LeO (slices_EqualFunc_impl_Ext_impl_Ext_impl_Ext_impl_Ext_with_impl_equalExt.l0 k y0 y1 y2 y3) (slices_EqualFunc_impl_Ext_impl_Ext_impl_Ext_impl_Ext_with_impl_equalExt.l0 (k + 1) y0 y1 y2 y3))
  | 0 => fun _ _ _ _ r h => by simp [slices_EqualFunc_impl_Ext_impl_Ext_impl_Ext_impl_Ext_with_impl_equalExt.l0] at h
  | k + 1 => by
    have ih0 := slices_EqualFunc_impl_Ext_impl_Ext_impl_Ext_impl_Ext_with_impl_equalExt.mono_l k
    · intro y0 y1 y2 y3
      unfold slices_EqualFunc_impl_Ext_impl_Ext_impl_Ext_impl_Ext_with_impl_equalExt.l0
      repeat' first
      | (with_reducible exact ih0 _ _ _ _)
      | (with_reducible exact impl_equalExt.mono _ _ _ _ _)
      | (with_reducible exact LeO.refl _)
      | (with_reducible exact LeO.none _)
      | (with_reducible refine LeO.ite ?_ ?_)
      | (with_reducible refine LeO.bind ?_ (fun _ => ?_))
      | exact ih0 _ _ _ _
      | exact impl_equalExt.mono _ _ _ _ _
      | exact LeO.none _
      | refine LeO.ite ?_ ?_
      | refine LeO.bind ?_ (fun _ => ?_)
theorem slices_EqualFunc_impl_Ext_impl_Ext_impl_Ext_impl_Ext_with_impl_equalExt.mono : ∀ a0 a1 k, LeO (slices_EqualFunc_impl_Ext_impl_Ext_impl_Ext_impl_Ext_with_impl_equalExt.f k a0 a1) (slices_EqualFunc_impl_Ext_impl_Ext_impl_Ext_impl_Ext_with_impl_equalExt.f (k + 1) a0 a1) := by
  intro a0 a1 k
  have ih0 := slices_EqualFunc_impl_Ext_impl_Ext_impl_Ext_impl_Ext_with_impl_equalExt.mono_l k
  unfold slices_EqualFunc_impl_Ext_impl_Ext_impl_Ext_impl_Ext_with_impl_equalExt.f
  repeat' first
      | (with_reducible exact ih0 _ _ _ _)
      | (with_reducible exact impl_equalExt.mono _ _ _ _ _)
      | (with_reducible exact LeO.refl _)
      | (with_reducible exact LeO.none _)
      | (with_reducible refine LeO.ite ?_ ?_)
      | (with_reducible refine LeO.bind ?_ (fun _ => ?_))
      | exact ih0 _ _ _ _
      | exact impl_equalExt.mono _ _ _ _ _
      | exact LeO.none _
      | refine LeO.ite ?_ ?_
      | refine LeO.bind ?_ (fun _ => ?_)
set_option maxHeartbeats 8000000 in
set_option maxRecDepth 100000 in
theorem slices_EqualFunc_impl_Ext_impl_Ext_impl_Ext_impl_Ext_with_impl_equalExt.calls (k : Nat) (A0 : Option Addr) (c0 : Nat) (l0 : List (S114)) (A1 : Option Addr) (c1 : Nat) (l1 : List (S114)) (r : Bool) (w : World) (hr0 : Kd.C k114 w A0 l0.length l0) (hc0 : l0.length ≤ c0) (hr1 : Kd.C k114 w A1 l1.length l1) (hc1 : l1.length ≤ c1) (h : slices_EqualFunc_impl_Ext_impl_Ext_impl_Ext_impl_Ext_with_impl_equalExt.f k l0 l1 = some r) :
    Calls Try.prog 161 #[.slice A0 l0.length c0, .slice A1 l1.length c1, .func (.func 162) #[] #[]] w fun e w' => e = .returned (.bool r) ∧ Below w.heap.size w w' := by
  have hu114 := Try.underlying114
  have HR0 := Aside0.mk hr0
  have HC0 := Aside0.mk hc0
  clear hr0 hc0
  have HR1 := Aside0.mk hr1
  have HC1 := Aside0.mk hc1
  clear hr1 hc1
  have HB := Aside0.mk (Below.refl w.heap.size w)
  have H : (if (l0.length : Int) = (l1.length : Int) then (slices_EqualFunc_impl_Ext_impl_Ext_impl_Ext_impl_Ext_with_impl_equalExt.l0 k l1 l0 (l0.length : Int) 0) else (some false)) = some r := h
  clear h
  by_cases c3 : (l0.length : Int) = (l1.length : Int)
  rotate_left
  · rw [if_neg c3] at H
    have c3b0 : ((l0.length : Int) == (l1.length : Int)) = false := beq_eq_false_iff_ne.mpr c3
    have c3b1 : ((l0.length : Int) != (l1.length : Int)) = true := bne_iff_ne.mpr c3
    have c3b2 : (l0.length == l1.length) = false := by first | simpa using c3 | (simp at c3 ⊢; omega)
    obtain rfl := Option.some.inj H
    go_enter Try.func161, Try.ntmps161
    go_wp2
    go_ret
    exact ⟨er_, pb_ HB.out⟩
  rw [if_pos c3] at H
  have c3b0 : ((l0.length : Int) == (l1.length : Int)) = true := beq_iff_eq.mpr c3
  have c3b1 : ((l0.length : Int) != (l1.length : Int)) = false := bne_eq_false_iff_eq.mpr c3
  have c3b2 : (l0.length == l1.length) = true := by first | simpa using c3 | (simp at c3 ⊢; omega)
  clear c3
  have H' := Aside0.mk H
  clear H
  go_enter Try.func161, Try.ntmps161
  go_wp2
  go_loopg [17] k (fun kq v17 w' => ∃ (x17_1 : Int), v17 = .int .i64 x17_1 ∧ Aside0 (slices_EqualFunc_impl_Ext_impl_Ext_impl_Ext_impl_Ext_with_impl_equalExt.l0 kq l1 l0 (l0.length : Int) x17_1 = some r) ∧ Aside0 (kq ≤ k) ∧ Aside0 (Below w.heap.size w w'))
  case atStart => exact ⟨(0), el_, H', ⟨Nat.le_refl _⟩, ⟨pb_ HB.out⟩⟩
  clear H'
  try clear c1
  try clear p2
  try clear c3
  try clear c3b0
  try clear c3b1
  try clear c3b2
  obtain ⟨x17_1, rfl, HA, HK1, HB⟩ := hrel
  rcases gk with _ | k1
  · exact absurd HA.out (by simp [slices_EqualFunc_impl_Ext_impl_Ext_impl_Ext_impl_Ext_with_impl_equalExt.l0])
  have H := HA.out
  clear HA
  simp only [slices_EqualFunc_impl_Ext_impl_Ext_impl_Ext_impl_Ext_with_impl_equalExt.l0] at H
  by_cases c4 : x17_1 < (l0.length : Int)
  rotate_left
  · rw [if_neg c4] at H
    have c4b0 : decide (x17_1 < (l0.length : Int)) = false := decide_eq_false c4
    clear c4
    obtain rfl := Option.some.inj H
    go_wp2
    go_ret
    exact ⟨er_, pb_ HB.out⟩
  rw [if_pos c4] at H
  have c4b0 : decide (x17_1 < (l0.length : Int)) = true := decide_eq_true c4
  clear c4
  by_cases c5 : 0 ≤ x17_1
  rotate_left
  · rw [if_neg c5] at H
    exact absurd H (by simp)
  rw [if_pos c5] at H
  have c5b0 : decide (0 ≤ x17_1) = true := decide_eq_true c5
  clear c5
  by_cases c6 : x17_1 < (l0.length : Int)
  rotate_left
  · rw [if_neg c6] at H
    exact absurd H (by simp)
  rw [if_pos c6] at H
  have c6b0 : decide (x17_1 < (l0.length : Int)) = true := decide_eq_true c6
  clear c6
  have HS_ := Aside0.mk H
  clear H
  have p491 : 0 ≤ (x17_1 : Int) := dt_
  have q491 : x17_1 < (l0.length : Int) := dt_
  obtain ⟨ad491, A491_1, c491_1, e491, hx491_0, hx491_1, hl491_1, hi491_1⟩ := at_T114 HR0.out x17_1 p491 q491
  cases e491
  replace hx491_0 := (HB.out.cell (World.block_lt_of_cell? w _ hx491_0)).trans hx491_0
  replace hx491_1 := (HB.out.cell (World.block_lt_of_cell? w _ hx491_1)).trans hx491_1
  have HR491_1 := Aside0.mk hi491_1
  have HC491_1 := Aside0.mk hl491_1
  clear hi491_1 hl491_1
  replace p491 := eq_true p491
  replace q491 := eq_true q491
  go_upto_region 6 with (first | ((with_reducible refine gate_dst (N := 8) rfl ?_); refine box_event ?hg (N := 8) ?hd (cs := #[.int .i64 0, .slice none 0 0]) (t := 114) ?hr ?_; (case hd => rfl); (case hg => rfl); (case hr => first | (go_simp; done) | (go_simp; rfl)); intro gb492 hg w7 hbox hb; have n0_ := Aside0.mk (below_step (pb_ HB.out) hb); have n1_ := Aside0.mk (hbox); have n2_ := Aside0.mk ((by rw [hg]; exact (below_size (pb_ HB.out)) : w.heap.size ≤ gb492)); have n3_ := Aside0.mk ((by rw [hg]; exact (below_size (pb_ HB.out)) : w.heap.size ≤ gb492)); clear HB; have HB := n0_; have BK492 := n1_; have GW492 := n2_; have GE492 := n3_; clear n0_ n1_ n2_ n3_; clear hb hbox hg; have hcz8_0 : w7.cell? ⟨gb492, 0, none⟩ = some (.int .i64 0) := (blk_cell BK492.out 0).trans rfl; have hcz8_1 : w7.cell? ⟨gb492, 1, none⟩ = some (.slice none 0 0) := (blk_cell BK492.out 1).trans rfl; have hfz8_0 := blk_frozen BK492.out 0; have hfz8_1 := blk_frozen BK492.out 1))
  (try simp only [Act.put, List.setIfInBounds_toArray, List.set_cons_zero, List.set_cons_succ])
  have H := HS_.out
  clear HS_
  by_cases c9 : x17_1 < (l1.length : Int)
  rotate_left
  · rw [if_neg c9] at H
    exact absurd H (by simp)
  rw [if_pos c9] at H
  have c9b0 : decide (x17_1 < (l1.length : Int)) = true := decide_eq_true c9
  clear c9
  (first | rw [c9b0] | (simp only [i64_w, i32_w]; rw [c9b0]) | skip)
  have HS_ := Aside0.mk H
  clear H
  have p493 : 0 ≤ (x17_1 : Int) := dt_
  have q493 : x17_1 < (l1.length : Int) := dt_
  obtain ⟨ad493, A493_1, c493_1, e493, hx493_0, hx493_1, hl493_1, hi493_1⟩ := at_T114 HR1.out x17_1 p493 q493
  cases e493
  have hn493_0 : ad493.block ≠ gb492 := Nat.ne_of_lt (Nat.lt_of_lt_of_le (by have := World.block_lt_of_cell? _ _ hx493_0; first | rwa [add_block] at this | exact this) GW492.out)
  have hn493_1 : ad493.block ≠ gb492 := Nat.ne_of_lt (Nat.lt_of_lt_of_le (by have := World.block_lt_of_cell? _ _ hx493_0; first | rwa [add_block] at this | exact this) GW492.out)
  replace hx493_0 := (HB.out.cell (World.block_lt_of_cell? w _ hx493_0)).trans hx493_0
  replace hx493_1 := (HB.out.cell (World.block_lt_of_cell? w _ hx493_1)).trans hx493_1
  have HR493_1 := Aside0.mk hi493_1
  have HC493_1 := Aside0.mk hl493_1
  clear hi493_1 hl493_1
  replace hx493_0 := (cell_far (p := ⟨gb492, 0, none⟩) (by first | (rw [add_block]; exact hn493_0) | (show (Addr.add _ _).block ≠ _; rw [add_block]; exact hn493_0) | exact hn493_0) (.int .i64 ((rd_T114 l0 x17_1).f0))).trans hx493_0
  replace hx493_1 := (cell_far (p := ⟨gb492, 0, none⟩) (by first | (rw [add_block]; exact hn493_0) | (show (Addr.add _ _).block ≠ _; rw [add_block]; exact hn493_0) | exact hn493_0) (.int .i64 ((rd_T114 l0 x17_1).f0))).trans hx493_1
  replace hx493_0 := (cell_far (p := ⟨gb492, 1, none⟩) (by first | (rw [add_block]; exact hn493_1) | (show (Addr.add _ _).block ≠ _; rw [add_block]; exact hn493_1) | exact hn493_1) (.slice A491_1 ((rd_T114 l0 x17_1).f1).length c491_1)).trans hx493_0
  replace hx493_1 := (cell_far (p := ⟨gb492, 1, none⟩) (by first | (rw [add_block]; exact hn493_1) | (show (Addr.add _ _).block ≠ _; rw [add_block]; exact hn493_1) | exact hn493_1) (.slice A491_1 ((rd_T114 l0 x17_1).f1).length c491_1)).trans hx493_1
  clear hn493_0
  clear hn493_1
  replace p493 := eq_true p493
  replace q493 := eq_true q493
  go_upto_region 7 with (first | ((with_reducible refine gate_dst (N := 9) rfl ?_); refine box_event ?hg (N := 9) ?hd (cs := #[.int .i64 0, .slice none 0 0]) (t := 114) ?hr ?_; (case hd => rfl); (case hg => rfl); (case hr => first | (go_simp; done) | (go_simp; rfl)); intro gb494 hg w10 hbox hb; have n0_ := Aside0.mk (blk_below (g := gb492) (o := .cells #[.int .i64 ((rd_T114 l0 x17_1).f0), .slice A491_1 ((rd_T114 l0 x17_1).f1).length c491_1] 114 (0, 0)) (pp_ BK492.out) hb); have n1_ := Aside0.mk (below_step (pb1_ HB.out GE492.out) hb); have n2_ := Aside0.mk (hbox); have n3_ := Aside0.mk ((by rw [hg]; exact (below_size (pb1_ HB.out GE492.out)) : w.heap.size ≤ gb494)); have n4_ := Aside0.mk ((by rw [hg]; exact (below_size (pb1_ HB.out GE492.out)) : w.heap.size ≤ gb494)); have n5_ := Aside0.mk ((by rw [hg]; exact Nat.ne_of_lt (blk_lt (g := gb492) (o := .cells #[.int .i64 ((rd_T114 l0 x17_1).f0), .slice A491_1 ((rd_T114 l0 x17_1).f1).length c491_1] 114 (0, 0)) (pp_ BK492.out)) : gb492 ≠ gb494)); have n6_ := Aside0.mk ((by rw [hg]; exact Nat.ne_of_gt (blk_lt (g := gb492) (o := .cells #[.int .i64 ((rd_T114 l0 x17_1).f0), .slice A491_1 ((rd_T114 l0 x17_1).f1).length c491_1] 114 (0, 0)) (pp_ BK492.out)) : gb494 ≠ gb492)); clear BK492; clear HB; have BK492 := n0_; have HB := n1_; have BK494 := n2_; have GW494 := n3_; have GE494 := n4_; have NB492_494 := n5_; have NB494_492 := n6_; clear n0_ n1_ n2_ n3_ n4_ n5_ n6_; clear hb hbox hg; have hnb11 := NB494_492.out; have hnc11 := NB492_494.out; have hcz12_0 : w10.cell? ⟨gb494, 0, none⟩ = some (.int .i64 0) := (blk_cell BK494.out 0).trans rfl; have hcz12_1 : w10.cell? ⟨gb494, 1, none⟩ = some (.slice none 0 0) := (blk_cell BK494.out 1).trans rfl; have hfz12_0 := blk_frozen BK494.out 0; have hfz12_1 := blk_frozen BK494.out 1))
  (try simp only [Act.put, List.setIfInBounds_toArray, List.set_cons_zero, List.set_cons_succ])
  have H := HS_.out
  clear HS_
  replace H := Option.bind_eq_some_iff.mp H
  obtain ⟨t495, A130, H⟩ := H
  (try dsimp only at H)
  have A13 := Aside0.mk A130
  clear A130
  have HS_ := Aside0.mk H
  clear H
  have hnb14 := NB492_494.out
  have hnc14 := NB494_492.out
  obtain ⟨hcz15_0, hcz15_1, hfz15_0, hfz15_1⟩ := bc2_ BK492.out
  obtain ⟨hcz16_0, hcz16_1, hfz16_0, hfz16_1⟩ := bc2_ BK494.out
  go_upto_if 30 with (first | (go_at_call 162; (with_reducible refine (impl_equalExt.calls k1 ((rd_T114 l0 x17_1).f0) _ _ ((rd_T114 l0 x17_1).f1) ((rd_T114 l1 x17_1).f0) _ _ ((rd_T114 l1 x17_1).f1) t495 _ ?side1 ?side2 ?side3 ?side4 A13.out).mono ?_); (case side1 => exact Kd.C_below HR491_1.out (pb2_ HB.out GE492.out GE494.out)); (case side2 => exact HC491_1.out); (case side3 => exact Kd.C_below HR493_1.out (pb2_ HB.out GE492.out GE494.out)); (case side4 => exact HC493_1.out); rintro e w17 ⟨rfl, hb⟩; have n0_ := Aside0.mk (blk_below (g := gb492) (o := .cells #[.int .i64 ((rd_T114 l0 x17_1).f0), .slice A491_1 ((rd_T114 l0 x17_1).f1).length c491_1] 114 (0, 0)) (pp_ BK492.out) hb); have n1_ := Aside0.mk (blk_below (g := gb494) (o := .cells #[.int .i64 ((rd_T114 l1 x17_1).f0), .slice A493_1 ((rd_T114 l1 x17_1).f1).length c493_1] 114 (0, 0)) (pp_ BK494.out) hb); have n2_ := Aside0.mk (below_step (pb2_ HB.out GE492.out GE494.out) hb); clear BK492; clear BK494; clear HB; have BK492 := n0_; have BK494 := n1_; have HB := n2_; clear n0_ n1_ n2_; (try clear hb); (try clear hb2); (try clear hk); (try clear hi)))
  (try simp only [Act.put, List.setIfInBounds_toArray, List.set_cons_zero, List.set_cons_succ])
  have H := HS_.out
  clear HS_
  by_cases c18 : t495 = true
  rotate_left
  · replace c18 := Bool.eq_false_iff.mpr c18
    subst c18
    rw [if_neg (show ¬ (false = true) by decide)] at H
    obtain rfl := Option.some.inj H
    go_wp2
    go_ret
    exact ⟨er_, pb2_ HB.out GE492.out GE494.out⟩
  subst c18
  rw [if_pos rfl] at H
  have H' := Aside0.mk H
  clear H
  go_wp2
  go_roundg k1
  case measure => have := HK1.out; omega
  case rel => exact ⟨(wrap64 (x17_1 + 1)), el_, H', ⟨by have := HK1.out; omega⟩, ⟨pb2_ HB.out GE492.out GE494.out⟩⟩

/-! ### impl_EqualExts: function 160 -/
def impl_EqualExts.f (k : Nat) (l0 : List (S114)) (l1 : List (S114)) : Option (Bool) := (slices_EqualFunc_impl_Ext_impl_Ext_impl_Ext_impl_Ext_with_impl_equalExt.f k l0 l1).bind fun t496 => (some t496)
theorem impl_EqualExts.mono : ∀ a0 a1 k, LeO (impl_EqualExts.f k a0 a1) (impl_EqualExts.f (k + 1) a0 a1) := by
  intro a0 a1 k
  unfold impl_EqualExts.f
  repeat' first
      | (with_reducible exact slices_EqualFunc_impl_Ext_impl_Ext_impl_Ext_impl_Ext_with_impl_equalExt.mono _ _ _)
      | (with_reducible exact LeO.refl _)
      | (with_reducible exact LeO.none _)
      | (with_reducible refine LeO.ite ?_ ?_)
      | (with_reducible refine LeO.bind ?_ (fun _ => ?_))
      | exact slices_EqualFunc_impl_Ext_impl_Ext_impl_Ext_impl_Ext_with_impl_equalExt.mono _ _ _
      | exact LeO.none _
      | refine LeO.ite ?_ ?_
      | refine LeO.bind ?_ (fun _ => ?_)
set_option maxHeartbeats 8000000 in
set_option maxRecDepth 100000 in
theorem impl_EqualExts.calls (k : Nat) (A0 : Option Addr) (c0 : Nat) (l0 : List (S114)) (A1 : Option Addr) (c1 : Nat) (l1 : List (S114)) (r : Bool) (w : World) (hr0 : Kd.C k114 w A0 l0.length l0) (hc0 : l0.length ≤ c0) (hr1 : Kd.C k114 w A1 l1.length l1) (hc1 : l1.length ≤ c1) (h : impl_EqualExts.f k l0 l1 = some r) :
    Calls Try.prog 160 #[.slice A0 l0.length c0, .slice A1 l1.length c1] w fun e w' => e = .returned (.bool r) ∧ Below w.heap.size w w' := by
  have HR0 := Aside0.mk hr0
  have HC0 := Aside0.mk hc0
  clear hr0 hc0
  have HR1 := Aside0.mk hr1
  have HC1 := Aside0.mk hc1
  clear hr1 hc1
  have HB := Aside0.mk (Below.refl w.heap.size w)
  have H : ((slices_EqualFunc_impl_Ext_impl_Ext_impl_Ext_impl_Ext_with_impl_equalExt.f k l0 l1).bind fun t496 => (some t496)) = some r := h
  clear h
  replace H := Option.bind_eq_some_iff.mp H
  obtain ⟨t496, A30, H⟩ := H
  replace H : (some t496) = some r := H
  have A3 := Aside0.mk A30
  clear A30
  obtain rfl := Option.some.inj H
  go_enter Try.func160, Try.ntmps160
  go_wp2_with (first | (go_at_call 161; (with_reducible refine (slices_EqualFunc_impl_Ext_impl_Ext_impl_Ext_impl_Ext_with_impl_equalExt.calls k _ _ l0 _ _ l1 t496 _ ?side1 ?side2 ?side3 ?side4 A3.out).mono ?_); (case side1 => exact pc_ HR0.out); (case side2 => exact HC0.out); (case side3 => exact pc_ HR1.out); (case side4 => exact HC1.out); rintro e w4 ⟨rfl, hb⟩; have n0_ := Aside0.mk (below_step (pb_ HB.out) hb); clear HB; have HB := n0_; clear n0_; (try clear hb); (try clear hb2); (try clear hk); (try clear hi)))
  go_ret
  exact ⟨er_, pb_ HB.out⟩

/-! ### impl_EqualHellos: function 156 -/
def impl_EqualHellos.f (k : Nat) (l0_0 : List Int) (l0_1 : List (S114)) (l1_0 : List Int) (l1_1 : List (S114)) : Option (Bool) := (slices_Equal_int_int.f k l0_0 l1_0).bind fun t499 => (if t499 = true then ((impl_EqualExts.f k l0_1 l1_1).bind fun t500 => (some t500)) else (some false))
theorem impl_EqualHellos.mono : ∀ a0 a1 a2 a3 k, LeO (impl_EqualHellos.f k a0 a1 a2 a3) (impl_EqualHellos.f (k + 1) a0 a1 a2 a3) := by
  intro a0 a1 a2 a3 k
  unfold impl_EqualHellos.f
  repeat' first
      | (with_reducible exact impl_EqualExts.mono _ _ _)
      | (with_reducible exact slices_Equal_int_int.mono _ _ _)
      | (with_reducible exact LeO.refl _)
      | (with_reducible exact LeO.none _)
      | (with_reducible refine LeO.ite ?_ ?_)
      | (with_reducible refine LeO.bind ?_ (fun _ => ?_))
      | exact impl_EqualExts.mono _ _ _
      | exact slices_Equal_int_int.mono _ _ _
      | exact LeO.none _
      | refine LeO.ite ?_ ?_
      | refine LeO.bind ?_ (fun _ => ?_)
set_option maxHeartbeats 8000000 in
set_option maxRecDepth 100000 in
theorem impl_EqualHellos.calls (k : Nat) (A0_0 : Option Addr) (c0_0 : Nat) (l0_0 : List Int) (A0_1 : Option Addr) (c0_1 : Nat) (l0_1 : List (S114)) (A1_0 : Option Addr) (c1_0 : Nat) (l1_0 : List Int) (A1_1 : Option Addr) (c1_1 : Nat) (l1_1 : List (S114)) (r : Bool) (w : World) (hr0_0 : Kd.C (Kd.int .i64) w A0_0 l0_0.length l0_0) (hc0_0 : l0_0.length ≤ c0_0) (hr0_1 : Kd.C k114 w A0_1 l0_1.length l0_1) (hc0_1 : l0_1.length ≤ c0_1) (hr1_0 : Kd.C (Kd.int .i64) w A1_0 l1_0.length l1_0) (hc1_0 : l1_0.length ≤ c1_0) (hr1_1 : Kd.C k114 w A1_1 l1_1.length l1_1) (hc1_1 : l1_1.length ≤ c1_1) (h : impl_EqualHellos.f k l0_0 l0_1 l1_0 l1_1 = some r) :
    Calls Try.prog 156 #[.agg #[.slice A0_0 l0_0.length c0_0, .slice A0_1 l0_1.length c0_1], .agg #[.slice A1_0 l1_0.length c1_0, .slice A1_1 l1_1.length c1_1]] w fun e w' => e = .returned (.bool r) ∧ Below w.heap.size w w' := by
  have hu106 := Try.underlying106
  have HR0_0 := Aside0.mk hr0_0
  have HC0_0 := Aside0.mk hc0_0
  clear hr0_0 hc0_0
  have HR0_1 := Aside0.mk hr0_1
  have HC0_1 := Aside0.mk hc0_1
  clear hr0_1 hc0_1
  have HR1_0 := Aside0.mk hr1_0
  have HC1_0 := Aside0.mk hc1_0
  clear hr1_0 hc1_0
  have HR1_1 := Aside0.mk hr1_1
  have HC1_1 := Aside0.mk hc1_1
  clear hr1_1 hc1_1
  have HB := Aside0.mk (Below.refl w.heap.size w)
  have H : ((slices_Equal_int_int.f k l0_0 l1_0).bind fun t499 => (if t499 = true then ((impl_EqualExts.f k l0_1 l1_1).bind fun t500 => (some t500)) else (some false))) = some r := h
  clear h
  have HS_ := Aside0.mk H
  clear H
  go_enter Try.func156, Try.ntmps156
  go_upto_region 1 with (first | ((with_reducible refine gate_dst (N := 2) rfl ?_); refine box_event ?hg (N := 2) ?hd (cs := #[.slice A0_0 l0_0.length c0_0, .slice A0_1 l0_1.length c0_1]) (t := 106) ?hr ?_; (case hd => rfl); (case hg => rfl); (case hr => first | (go_simp; done) | (go_simp; rfl)); intro gb497 hg w3 hbox hb; have n0_ := Aside0.mk (below_step (pb_ HB.out) hb); have n1_ := Aside0.mk (hbox); have n2_ := Aside0.mk ((by rw [hg]; exact (below_size (pb_ HB.out)) : w.heap.size ≤ gb497)); have n3_ := Aside0.mk ((by rw [hg]; exact (below_size (pb_ HB.out)) : w.heap.size ≤ gb497)); clear HB; have HB := n0_; have BK497 := n1_; have GW497 := n2_; have GE497 := n3_; clear n0_ n1_ n2_ n3_; clear hb hbox hg) | ((with_reducible refine gate_dst (N := 3) rfl ?_); refine box_event ?hg (N := 3) ?hd (cs := #[.slice A1_0 l1_0.length c1_0, .slice A1_1 l1_1.length c1_1]) (t := 106) ?hr ?_; (case hd => rfl); (case hg => rfl); (case hr => first | (go_simp; done) | (go_simp; rfl)); intro gb498 hg w4 hbox hb; have n0_ := Aside0.mk (bb_ BK497.out hb); have n1_ := Aside0.mk (below_step (pb1_ HB.out GE497.out) hb); have n2_ := Aside0.mk (hbox); have n3_ := Aside0.mk ((by rw [hg]; exact (below_size (pb1_ HB.out GE497.out)) : w.heap.size ≤ gb498)); have n4_ := Aside0.mk ((by rw [hg]; exact (below_size (pb1_ HB.out GE497.out)) : w.heap.size ≤ gb498)); have n5_ := Aside0.mk ((by rw [hg]; exact Nat.ne_of_lt (blk_lt (pk_ BK497.out)) : gb497 ≠ gb498)); have n6_ := Aside0.mk ((by rw [hg]; exact Nat.ne_of_gt (blk_lt (pk_ BK497.out)) : gb498 ≠ gb497)); clear BK497; clear HB; have BK497 := n0_; have HB := n1_; have BK498 := n2_; have GW498 := n3_; have GE498 := n4_; have NB497_498 := n5_; have NB498_497 := n6_; clear n0_ n1_ n2_ n3_ n4_ n5_ n6_; clear hb hbox hg))
  (try simp only [Act.put, List.setIfInBounds_toArray, List.set_cons_zero, List.set_cons_succ])
  have H := HS_.out
  clear HS_
  replace H := Option.bind_eq_some_iff.mp H
  obtain ⟨t499, A50, H⟩ := H
  (try dsimp only at H)
  have A5 := Aside0.mk A50
  clear A50
  by_cases c6 : t499 = true
  rotate_left
  · replace c6 := Bool.eq_false_iff.mpr c6
    subst c6
    rw [if_neg (show ¬ (false = true) by decide)] at H
    obtain rfl := Option.some.inj H
    have hnb7 := NB497_498.out
    have hnc7 := NB498_497.out
    obtain ⟨hcz8_0, hcz8_1, hfz8_0, hfz8_1⟩ := bc2_ BK497.out
    obtain ⟨hcz9_0, hcz9_1, hfz9_0, hfz9_1⟩ := bc2_ BK498.out
    go_wp2_with (first | ((with_reducible refine gate_callee (f := 81) rfl ?_); refine goesL_ (some 9) rfl rfl Try.func81 (by kernel_rfl) rfl #[.slice A0_0 l0_0.length c0_0, .slice A1_0 l1_0.length c1_0] rfl mp_ ?_; (with_reducible refine (slices_Equal_int_int.calls k _ _ l0_0 _ _ l1_0 false _ ?side1 ?side2 ?side3 ?side4 A5.out).mono ?_); (case side1 => exact pc_ (Kd.C_below HR0_0.out HB.out)); (case side2 => exact HC0_0.out); (case side3 => exact pc_ (Kd.C_below HR1_0.out HB.out)); (case side4 => exact HC1_0.out); rintro e w' ⟨rfl, ⟨nd, rfl⟩⟩; refine ⟨_, rfl, ?_⟩))
    go_ret
    exact ⟨er_, pb2_ HB.out GE497.out GE498.out⟩
  subst c6
  rw [if_pos rfl] at H
  replace H := Option.bind_eq_some_iff.mp H
  obtain ⟨t500, A100, H⟩ := H
  replace H : (some t500) = some r := H
  have A10 := Aside0.mk A100
  clear A100
  obtain rfl := Option.some.inj H
  have hnb11 := NB497_498.out
  have hnc11 := NB498_497.out
  obtain ⟨hcz12_0, hcz12_1, hfz12_0, hfz12_1⟩ := bc2_ BK497.out
  obtain ⟨hcz13_0, hcz13_1, hfz13_0, hfz13_1⟩ := bc2_ BK498.out
  go_wp2_with (first | ((with_reducible refine gate_callee (f := 81) rfl ?_); refine goesL_ (some 9) rfl rfl Try.func81 (by kernel_rfl) rfl #[.slice A0_0 l0_0.length c0_0, .slice A1_0 l1_0.length c1_0] rfl mp_ ?_; (with_reducible refine (slices_Equal_int_int.calls k _ _ l0_0 _ _ l1_0 true _ ?side1 ?side2 ?side3 ?side4 A5.out).mono ?_); (case side1 => exact pc_ (Kd.C_below HR0_0.out HB.out)); (case side2 => exact HC0_0.out); (case side3 => exact pc_ (Kd.C_below HR1_0.out HB.out)); (case side4 => exact HC1_0.out); rintro e w' ⟨rfl, ⟨nd, rfl⟩⟩; refine ⟨_, rfl, ?_⟩) | (go_at_call 160; (with_reducible refine (impl_EqualExts.calls k _ _ l0_1 _ _ l1_1 t500 _ ?side1 ?side2 ?side3 ?side4 A10.out).mono ?_); (case side1 => exact pc_ (Kd.C_below HR0_1.out (pb2_ HB.out GE497.out GE498.out))); (case side2 => exact HC0_1.out); (case side3 => exact pc_ (Kd.C_below HR1_1.out (pb2_ HB.out GE497.out GE498.out))); (case side4 => exact HC1_1.out); rintro e w14 ⟨rfl, hb⟩; have n0_ := Aside0.mk (bb_ BK497.out hb); have n1_ := Aside0.mk (bb_ BK498.out hb); have n2_ := Aside0.mk (below_step (pb2_ HB.out GE497.out GE498.out) hb); clear BK497; clear BK498; clear HB; have BK497 := n0_; have BK498 := n1_; have HB := n2_; clear n0_ n1_ n2_; (try clear hb); (try clear hb2); (try clear hk); (try clear hi)))
  go_ret
  exact ⟨er_, pb2_ HB.out GE497.out GE498.out⟩

/-! ### impl_PassesWhole: function 147 -/
def impl_PassesWhole.f (k : Nat) (l0_0 : List Int) (l0_1 : List (S114)) (l1 : List (S67)) : Option (Bool) := (impl_PassPath.f k l1 l0_0 l0_1).bind fun bt502 => (if bt502.2.2 = true then ((impl_EqualHellos.f k bt502.1 bt502.2.1 l0_0 l0_1).bind fun t510 => (some t510)) else (some false))
theorem impl_PassesWhole.mono : ∀ a0 a1 a2 k, LeO (impl_PassesWhole.f k a0 a1 a2) (impl_PassesWhole.f (k + 1) a0 a1 a2) := by
  intro a0 a1 a2 k
  unfold impl_PassesWhole.f
  repeat' first
      | (with_reducible exact impl_EqualHellos.mono _ _ _ _ _)
      | (with_reducible exact impl_PassPath.mono _ _ _ _)
      | (with_reducible exact LeO.refl _)
      | (with_reducible exact LeO.none _)
      | (with_reducible refine LeO.ite ?_ ?_)
      | (with_reducible refine LeO.bind ?_ (fun _ => ?_))
      | exact impl_EqualHellos.mono _ _ _ _ _
      | exact impl_PassPath.mono _ _ _ _
      | exact LeO.none _
      | refine LeO.ite ?_ ?_
      | refine LeO.bind ?_ (fun _ => ?_)
set_option maxHeartbeats 8000000 in
set_option maxRecDepth 100000 in
theorem impl_PassesWhole.calls (k : Nat) (A0_0 : Option Addr) (c0_0 : Nat) (l0_0 : List Int) (A0_1 : Option Addr) (c0_1 : Nat) (l0_1 : List (S114)) (A1 : Option Addr) (c1 : Nat) (l1 : List (S67)) (r : Bool) (w : World) (hr0_0 : Kd.C (Kd.int .i64) w A0_0 l0_0.length l0_0) (hc0_0 : l0_0.length ≤ c0_0) (hr0_1 : Kd.C k114 w A0_1 l0_1.length l0_1) (hc0_1 : l0_1.length ≤ c0_1) (hr1 : Kd.C k67 w A1 l1.length l1) (hc1 : l1.length ≤ c1) (h : impl_PassesWhole.f k l0_0 l0_1 l1 = some r) :
    Calls Try.prog 147 #[.agg #[.slice A0_0 l0_0.length c0_0, .slice A0_1 l0_1.length c0_1], .slice A1 l1.length c1] w fun e w' => e = .returned (.bool r) ∧ Below w.heap.size w w' := by
  have hu106 := Try.underlying106
  have HR0_0 := Aside0.mk hr0_0
  have HC0_0 := Aside0.mk hc0_0
  clear hr0_0 hc0_0
  have HR0_1 := Aside0.mk hr0_1
  have HC0_1 := Aside0.mk hc0_1
  clear hr0_1 hc0_1
  have HR1 := Aside0.mk hr1
  have HC1 := Aside0.mk hc1
  clear hr1 hc1
  have HB := Aside0.mk (Below.refl w.heap.size w)
  have H : ((impl_PassPath.f k l1 l0_0 l0_1).bind fun bt502 => (if bt502.2.2 = true then ((impl_EqualHellos.f k bt502.1 bt502.2.1 l0_0 l0_1).bind fun t510 => (some t510)) else (some false))) = some r := h
  clear h
  have HS_ := Aside0.mk H
  clear H
  go_enter Try.func147, Try.ntmps147
  go_upto_region 1 with (first | ((with_reducible refine gate_dst (N := 2) rfl ?_); refine box_event ?hg (N := 2) ?hd (cs := #[.slice A0_0 l0_0.length c0_0, .slice A0_1 l0_1.length c0_1]) (t := 106) ?hr ?_; (case hd => rfl); (case hg => rfl); (case hr => first | (go_simp; done) | (go_simp; rfl)); intro gb501 hg w3 hbox hb; have n0_ := Aside0.mk (below_step (pb_ HB.out) hb); have n1_ := Aside0.mk (hbox); have n2_ := Aside0.mk ((by rw [hg]; exact (below_size (pb_ HB.out)) : w.heap.size ≤ gb501)); have n3_ := Aside0.mk ((by rw [hg]; exact (below_size (pb_ HB.out)) : w.heap.size ≤ gb501)); clear HB; have HB := n0_; have BK501 := n1_; have GW501 := n2_; have GE501 := n3_; clear n0_ n1_ n2_ n3_; clear hb hbox hg))
  (try simp only [Act.put, List.setIfInBounds_toArray, List.set_cons_zero, List.set_cons_succ])
  have H := HS_.out
  clear HS_
  replace H := Option.bind_eq_some_iff.mp H
  obtain ⟨⟨t502, t505, t508⟩, A40, H⟩ := H
  (try dsimp only at H)
  have A4 := Aside0.mk A40
  clear A40
  have HS_ := Aside0.mk H
  clear H
  obtain ⟨hcz5_0, hcz5_1, hfz5_0, hfz5_1⟩ := bc2_ BK501.out
  go_upto_region 2 with (first | ((with_reducible refine gate_callee (f := 106) rfl ?_); refine goesL_ (some 10) rfl rfl Try.func106 (by kernel_rfl) rfl #[.slice A1 l1.length c1, .agg #[.slice A0_0 l0_0.length c0_0, .slice A0_1 l0_1.length c0_1]] rfl mp_ ?_; (with_reducible refine (impl_PassPath.calls k _ _ l1 _ _ l0_0 _ _ l0_1 t502 t505 t508 _ ?side1 ?side2 ?side3 ?side4 ?side5 ?side6 A4.out).mono ?_); (case side1 => exact pc_ (Kd.C_below HR1.out HB.out)); (case side2 => exact HC1.out); (case side3 => exact pc_ (Kd.C_below HR0_0.out HB.out)); (case side4 => exact HC0_0.out); (case side5 => exact pc_ (Kd.C_below HR0_1.out HB.out)); (case side6 => exact HC0_1.out); rintro e w6 ⟨v503, v506, rfl, ho0, ho1, hb⟩; refine ⟨_, rfl, ?_⟩; have n0_ := Aside0.mk (Kd.R_lower ho0 (below_size (pb1_ HB.out GE501.out))); have n1_ := Aside0.mk (Kd.S_lower ho1 (below_size (pb1_ HB.out GE501.out))); have n2_ := Aside0.mk (bb_ BK501.out hb); have n3_ := Aside0.mk (below_step (pb1_ HB.out GE501.out) hb); clear BK501; clear HB; have HO504 := n0_; have HO507 := n1_; have BK501 := n2_; have HB := n3_; clear n0_ n1_ n2_ n3_; (try clear hb); (try clear hb2); (try clear hk); (try clear hi); (try clear ho0); (try clear ho1)) | ((with_reducible refine gate_dst (N := 5) rfl ?_); refine box_event ?hg (N := 5) ?hd (cs := #[.slice none 0 0, .slice none 0 0]) (t := 106) ?hr ?_; (case hd => rfl); (case hg => rfl); (case hr => first | (go_simp; done) | (go_simp; rfl)); intro gb509 hg w7 hbox hb; have n0_ := Aside0.mk (Kd.R_below (pr_ HO504.out) hb); have n1_ := Aside0.mk (Kd.S_below (ps_ HO507.out) hb); have n2_ := Aside0.mk (bb_ BK501.out hb); have n3_ := Aside0.mk (below_step (pb1_ HB.out GE501.out) hb); have n4_ := Aside0.mk (hbox); have n5_ := Aside0.mk ((by rw [hg]; exact (below_size (pb1_ HB.out GE501.out)) : w.heap.size ≤ gb509)); have n6_ := Aside0.mk ((by rw [hg]; exact (below_size (pb1_ HB.out GE501.out)) : w.heap.size ≤ gb509)); have n7_ := Aside0.mk ((by rw [hg]; exact Nat.ne_of_lt (blk_lt (pk_ BK501.out)) : gb501 ≠ gb509)); have n8_ := Aside0.mk ((by rw [hg]; exact Nat.ne_of_gt (blk_lt (pk_ BK501.out)) : gb509 ≠ gb501)); clear HO504; clear HO507; clear BK501; clear HB; have HO504 := n0_; have HO507 := n1_; have BK501 := n2_; have HB := n3_; have BK509 := n4_; have GW509 := n5_; have GE509 := n6_; have NB501_509 := n7_; have NB509_501 := n8_; clear n0_ n1_ n2_ n3_ n4_ n5_ n6_ n7_ n8_; clear hb hbox hg; obtain ⟨Ao8, co8, eo8⟩ := Kd.R_slice HO504.out; subst eo8; have hnb9 := NB509_501.out; have hnc9 := NB501_509.out; have hcz10_0 : w7.cell? ⟨gb509, 0, none⟩ = some (.slice none 0 0) := (blk_cell BK509.out 0).trans rfl; have hcz10_1 : w7.cell? ⟨gb509, 1, none⟩ = some (.slice none 0 0) := (blk_cell BK509.out 1).trans rfl; have hfz10_0 := blk_frozen BK509.out 0; have hfz10_1 := blk_frozen BK509.out 1; obtain ⟨Ao11, co11, eo11⟩ := Kd.S_slice HO507.out; subst eo11))
  (try simp only [Act.put, List.setIfInBounds_toArray, List.set_cons_zero, List.set_cons_succ])
  have H := HS_.out
  clear HS_
  by_cases c12 : t508 = true
  rotate_left
  · replace c12 := Bool.eq_false_iff.mpr c12
    subst c12
    rw [if_neg (show ¬ (false = true) by decide)] at H
    obtain rfl := Option.some.inj H
    go_wp2
    go_ret
    exact ⟨er_, pb2_ HB.out GE501.out GE509.out⟩
  subst c12
  rw [if_pos rfl] at H
  replace H := Option.bind_eq_some_iff.mp H
  obtain ⟨t510, A130, H⟩ := H
  replace H : (some t510) = some r := H
  have A13 := Aside0.mk A130
  clear A130
  obtain rfl := Option.some.inj H
  have hnb14 := NB509_501.out
  have hnc14 := NB501_509.out
  obtain ⟨hcz15_0, hcz15_1, hfz15_0, hfz15_1⟩ := bc2_ BK509.out
  obtain ⟨hcz16_0, hcz16_1, hfz16_0, hfz16_1⟩ := bc2_ BK501.out
  go_wp2_with (first | (go_at_call 156; (with_reducible refine (impl_EqualHellos.calls k _ _ t502 _ _ t505 _ _ l0_0 _ _ l0_1 t510 _ ?side1 ?side2 ?side3 ?side4 ?side5 ?side6 ?side7 ?side8 A13.out).mono ?_); (case side1 => refine (Kd.R_reads' (e := 3) (base := w.heap.size) (ok := fun k_ => True) (n := t502.length) (c := co8) ?_).2.2; exact (pr_ (rf2_ HO504.out BK509.out))); (case side2 => exact (Kd.R_reads' HO504.out).2.1); (case side3 => refine (Kd.S_reads' (e := 114) (base := w.heap.size) (ok := fun k_ => some k_ ≠ (.slice Ao8 t502.length co8 : Value).ownBlock) (n := t505.length) (c := co11) ?_).2.2; exact (ps_ (Kd.S_mono (Kd.S_far (p := ⟨gb509, 1, none⟩) (Kd.S_far (p := ⟨gb509, 0, none⟩) (Kd.S_types HO507.out BK509.out (by decide)) (fun _ hk => hk.2) (.slice Ao8 t502.length co8)) (fun _ hk => hk.2) (.slice Ao11 t505.length co11)) (fun _ h_ => h_.1)))); (case side4 => exact (Kd.S_reads' HO507.out).2.1); (case side5 => exact Kd.C_below HR0_0.out (pb2_ HB.out GE501.out GE509.out)); (case side6 => exact HC0_0.out); (case side7 => exact Kd.C_below HR0_1.out (pb2_ HB.out GE501.out GE509.out)); (case side8 => exact HC0_1.out); rintro e w17 ⟨rfl, hb⟩; have n0_ := Aside0.mk (Kd.R_below (pr_ (rf2_ HO504.out BK509.out)) hb); have n1_ := Aside0.mk (Kd.S_below (ps_ (Kd.S_mono (Kd.S_far (p := ⟨gb509, 1, none⟩) (Kd.S_far (p := ⟨gb509, 0, none⟩) (Kd.S_types HO507.out BK509.out (by decide)) (fun _ hk => hk.2) (.slice Ao8 t502.length co8)) (fun _ hk => hk.2) (.slice Ao11 t505.length co11)) (fun _ h_ => h_.1))) hb); have n2_ := Aside0.mk (blk_below (g := gb501) (o := .cells #[.slice A0_0 l0_0.length c0_0, .slice A0_1 l0_1.length c0_1] 106 (0, 0)) (pp_ BK501.out) hb); have n3_ := Aside0.mk (blk_below (g := gb509) (o := .cells #[.slice Ao8 t502.length co8, .slice Ao11 t505.length co11] 106 (0, 0)) (pp_ BK509.out) hb); have n4_ := Aside0.mk (below_step (pb2_ HB.out GE501.out GE509.out) hb); clear HO504; clear HO507; clear BK501; clear BK509; clear HB; have HO504 := n0_; have HO507 := n1_; have BK501 := n2_; have BK509 := n3_; have HB := n4_; clear n0_ n1_ n2_ n3_ n4_; (try clear hb); (try clear hb2); (try clear hk); (try clear hi)))
  go_ret
  exact ⟨er_, pb2_ HB.out GE501.out GE509.out⟩

/-! ### impl_LostTags: function 133 -/
mutual
def impl_LostTags.j0 : Nat → List (S67) → List Int → List (S114) → List Int → Bool → Option (List Int)
  | 0, _, _, _, _, _ => none
  | k + 1, x0, x1, x2, x7, x19 => if x19 = true then (some x7) else (impl_LostTags.l0 k x0 x1 x7 x2 (x2.length : Int) 0)
def impl_LostTags.l0 : Nat → List (S67) → List Int → List Int → List (S114) → Int → Int → Option (List Int)
  | 0, _, _, _, _, _, _ => none
  | k + 1, x0, x1, x7, x21, x22, x23 => if x23 < x22 then (if 0 ≤ x23 then (if x23 < (x21.length : Int) then (if 1 ≤ (x1.length : Int) then ((impl_PassesWhole.f k (x1.take 1) (([(⟨(rd_T114 x21 x23).f0, (rd_T114 x21 x23).f1⟩ : S114)] : List (S114))) x0).bind fun t522 => (if t522 = true then (impl_LostTags.l0 k x0 x1 x7 x21 x22 (wrap64 (x23 + 1))) else (if x7.length < 17592186044416 then (impl_LostTags.l0 k x0 x1 (x7 ++ [(rd_T114 x21 x23).f0]) x21 x22 (wrap64 (x23 + 1))) else (none)))) else (none)) else (none)) else (none)) else (some x7)
end
def impl_LostTags.f (k : Nat) (l0 : List (S67)) (l1 : List Int) (l2 : List (S114)) : Option (List Int) := (some (([] : List Int) : List Int)).bind fun y511 => ((impl_IsOpenPath.f k l0 l1).bind fun t514 => (if t514 = true then ((impl_AreExts.f k l2).bind fun t515 => (impl_LostTags.j0 k l0 l1 l2 y511 (!t515))) else (impl_LostTags.j0 k l0 l1 l2 y511 true)))
theorem impl_LostTags.mono_l : ∀ k, (∀ y0 y1 y2 y3 y4, LeO (impl_LostTags.j0 k y0 y1 y2 y3 y4) (impl_LostTags.j0 (k + 1) y0 y1 y2 y3 y4)) ∧ (∀ y0 y1 y2 y3 y4 y5, LeO (impl_LostTags.l0 k y0 y1 y2 y3 y4 y5) (impl_LostTags.l0 (k + 1) y0 y1 y2 y3 y4 y5))
  | 0 => ⟨fun _ _ _ _ _ r h => by simp [impl_LostTags.j0] at h, fun _ _ _ _ _ _ r h => by simp [impl_LostTags.l0] at h⟩
  | k + 1 => by
    obtain ⟨ih0, ih1⟩ := impl_LostTags.mono_l k
    refine ⟨?_, ?_⟩
    · intro y0 y1 y2 y3 y4
      unfold impl_LostTags.j0
      repeat' first
      | (with_reducible exact ih0 _ _ _ _ _)
      | (with_reducible exact ih1 _ _ _ _ _ _)
      | (with_reducible exact impl_AreExts.mono _ _)
      | (with_reducible exact impl_IsOpenPath.mono _ _ _)
      | (with_reducible exact impl_PassesWhole.mono _ _ _ _)
      | (with_reducible exact LeO.refl _)
      | (with_reducible exact LeO.none _)
      | (with_reducible refine LeO.ite ?_ ?_)
      | (with_reducible refine LeO.bind ?_ (fun _ => ?_))
      | exact ih0 _ _ _ _ _
      | exact ih1 _ _ _ _ _ _
      | exact impl_AreExts.mono _ _
      | exact impl_IsOpenPath.mono _ _ _
      | exact impl_PassesWhole.mono _ _ _ _
      | exact LeO.none _
      | refine LeO.ite ?_ ?_
      | refine LeO.bind ?_ (fun _ => ?_)
    · intro y0 y1 y2 y3 y4 y5
      unfold impl_LostTags.l0
      repeat' first
      | (with_reducible exact ih0 _ _ _ _ _)
      | (with_reducible exact ih1 _ _ _ _ _ _)
      | (with_reducible exact impl_AreExts.mono _ _)
      | (with_reducible exact impl_IsOpenPath.mono _ _ _)
      | (with_reducible exact impl_PassesWhole.mono _ _ _ _)
      | (with_reducible exact LeO.refl _)
      | (with_reducible exact LeO.none _)
      | (with_reducible refine LeO.ite ?_ ?_)
      | (with_reducible refine LeO.bind ?_ (fun _ => ?_))
      | exact ih0 _ _ _ _ _
      | exact ih1 _ _ _ _ _ _
      | exact impl_AreExts.mono _ _
      | exact impl_IsOpenPath.mono _ _ _
      | exact impl_PassesWhole.mono _ _ _ _
      | exact LeO.none _
      | refine LeO.ite ?_ ?_
      | refine LeO.bind ?_ (fun _ => ?_)
theorem impl_LostTags.mono : ∀ a0 a1 a2 k, LeO (impl_LostTags.f k a0 a1 a2) (impl_LostTags.f (k + 1) a0 a1 a2) := by
  intro a0 a1 a2 k
  obtain ⟨ih0, ih1⟩ := impl_LostTags.mono_l k
  unfold impl_LostTags.f
  repeat' first
      | (with_reducible exact ih0 _ _ _ _ _)
      | (with_reducible exact ih1 _ _ _ _ _ _)
      | (with_reducible exact impl_AreExts.mono _ _)
      | (with_reducible exact impl_IsOpenPath.mono _ _ _)
      | (with_reducible exact impl_PassesWhole.mono _ _ _ _)
      | (with_reducible exact LeO.refl _)
      | (with_reducible exact LeO.none _)
      | (with_reducible refine LeO.ite ?_ ?_)
      | (with_reducible refine LeO.bind ?_ (fun _ => ?_))
      | exact ih0 _ _ _ _ _
      | exact ih1 _ _ _ _ _ _
      | exact impl_AreExts.mono _ _
      | exact impl_IsOpenPath.mono _ _ _
      | exact impl_PassesWhole.mono _ _ _ _
      | exact LeO.none _
      | refine LeO.ite ?_ ?_
      | refine LeO.bind ?_ (fun _ => ?_)
def impl_LostTags.T7 : Bool × List (List Nat × List Nat) := (true, [([], []), ([0], [0]), ([], []), ([2], [2]), ([1, 3], [1, 3]), ([], []), ([4, 5], [4, 5]), ([6], [6])])
def impl_LostTags.B7 : List Nat := [0, 1, 0, 4, 15, 0, 63, 127]
theorem impl_LostTags.tab7 : rtab .any (opsOf Try.f133 7) = impl_LostTags.T7 := by kernel_rfl
theorem impl_LostTags.bits7 : waitsOk impl_LostTags.T7.2 impl_LostTags.B7 = true := by kernel_rfl
set_option maxHeartbeats 8000000 in
set_option maxRecDepth 100000 in
theorem impl_LostTags.calls (k : Nat) (A0 : Option Addr) (c0 : Nat) (l0 : List (S67)) (A1 : Option Addr) (c1 : Nat) (l1 : List Int) (P2_ : Nat → Prop) (A2 : Option Addr) (c2 : Nat) (l2 : List (S114)) (r : List Int) (w : World) (hr0 : Kd.C k67 w A0 l0.length l0) (hc0 : l0.length ≤ c0) (hr1 : Kd.C (Kd.int .i64) w A1 l1.length l1) (hc1 : l1.length ≤ c1) (hs2 : Kd.V k114 114 w w.heap.size (fun k_ => P2_ k_) (.slice A2 l2.length c2) l2) (h : impl_LostTags.f k l0 l1 l2 = some r) :
    Calls Try.prog 133 #[.slice A0 l0.length c0, .slice A1 l1.length c1, .slice A2 l2.length c2] w fun e w' => ∃ v0_ : Value, e = .returned (v0_) ∧ Kd.R (Kd.int .i64) 3 w' w.heap.size (fun k_ => (w.heap.size ≤ k_)) v0_ r ∧ Below w.heap.size w w' := by
  have hu114 := Try.underlying114
  have hu106 := Try.underlying106
  have HR0 := Aside0.mk hr0
  have HC0 := Aside0.mk hc0
  clear hr0 hc0
  have HR1 := Aside0.mk hr1
  have HC1 := Aside0.mk hc1
  clear hr1 hc1
  have HO2 := Aside0.mk (show Kd.V k114 114 w w.heap.size (fun k_ => (P2_ k_ ∨ w.heap.size ≤ k_)) (.slice A2 l2.length c2) l2 from Kd.V_mono hs2 (fun k_ hk => .inl hk))
  have HB := Aside0.mk (Below.refl w.heap.size w)
  have H : ((some (([] : List Int) : List Int)).bind fun y511 => ((impl_IsOpenPath.f k l0 l1).bind fun t514 => (if t514 = true then ((impl_AreExts.f k l2).bind fun t515 => (impl_LostTags.j0 k l0 l1 l2 y511 (!t515))) else (impl_LostTags.j0 k l0 l1 l2 y511 true)))) = some r := h
  clear h
  obtain ⟨y511, hy511⟩ : ∃ y_ : List Int, y_ = (([] : List Int)) := ⟨_, rfl⟩
  replace H : ((impl_IsOpenPath.f k l0 l1).bind fun t514 => (if t514 = true then ((impl_AreExts.f k l2).bind fun t515 => (impl_LostTags.j0 k l0 l1 l2 y511 (!t515))) else (impl_LostTags.j0 k l0 l1 l2 y511 true))) = some r := by first | (rw [hy511]; with_reducible exact H) | (have H2_ := (Option.bind_some _ _).symm.trans H; rw [hy511]; with_reducible exact H2_) | (have H2_ := (Option.bind_some _ _).symm.trans H; with_reducible exact H2_) | with_reducible exact H | (rw [hy511]; exact H) | exact H
  have Ny511 := Aside0.mk hy511
  clear hy511
  have HC4 := Aside0.mk H
  clear H
  go_enter Try.func133, Try.ntmps133
  go_upto_region 2 with (first | ((with_reducible refine gate_dst (N := 10) rfl ?_); refine Kd.R_lit (Kd.int .i64) _ 3 ?hg (N := 10) ?hd (xs := ([] : List Int)) (inner := []) (ok := fun _ => True) (okp := fun _ => True) ?hr ?hp (fun _ hk => hk) trivial (Below.refl _ _) (Nat.le_refl _) (by simp) ?_; (case hd => rfl); (case hg => rfl); (case hr => first | (go_simp; done) | (go_simp; rfl)); (case hp => exact (Reps.none _ _)); intro v512 w5 ho6 hb hg_ hnew_; clear hg_ hnew_; (first | rw [← Ny511.out] at ho6 | (simp only [Int.reduceToNat] at ho6; rw [← Ny511.out] at ho6)); have n0_ := Aside0.mk (Kd.V_elder' (by (with_reducible repeat (first | apply Kd.V_alloc | apply Kd.V_drewN | apply Kd.V_drew)); exact HO2.out) (Kd.R_base ho6) hb); have n1_ := Aside0.mk (Kd.R_lower (Kd.R_newM (M := fun k_ => (w.heap.size ≤ k_)) ho6 (below_size (pb_ HB.out)) (fun k_ h_ => h_)) (below_size (pb_ HB.out))); have n2_ := Aside0.mk (below_step (pb_ HB.out) hb); clear HO2; clear HB; have HO2 := n0_; have HO513 := n1_; have HB := n2_; clear n0_ n1_ n2_; clear hb ho6))
  (try simp only [Act.put, List.setIfInBounds_toArray, List.set_cons_zero, List.set_cons_succ])
  go_cut [19] (fun v19 wc => ∃ (kq : Nat) (x19_3 : Bool), v19 = .bool x19_3 ∧ Aside0 (impl_LostTags.j0 kq l0 l1 l2 y511 x19_3 = some r) ∧ Aside0 (kq ≤ k) ∧ Aside0 (Kd.V k114 114 wc w.heap.size (fun k_ => (P2_ k_ ∨ w.heap.size ≤ k_) ∧ some k_ ≠ (v512 : Value).ownBlock) (.slice A2 l2.length c2) l2) ∧ Aside0 (Kd.R (Kd.int .i64) 3 wc w.heap.size (fun k_ => (w.heap.size ≤ k_)) v512 y511) ∧ Aside0 (Below w.heap.size w wc))
  case first =>
    have H := HC4.out
    clear HC4
    replace H := Option.bind_eq_some_iff.mp H
    obtain ⟨t514, A70, H⟩ := H
    (try dsimp only at H)
    have A7 := Aside0.mk A70
    clear A70
    by_cases c8 : t514 = true
    rotate_left
    · replace c8 := Bool.eq_false_iff.mpr c8
      subst c8
      rw [if_neg (show ¬ (false = true) by decide)] at H
      have H' := Aside0.mk H
      clear H
      go_wp2_with (first | ((with_reducible refine gate_callee (f := 63) rfl ?_); refine goesL_ (some 13) rfl rfl Try.func63 (by kernel_rfl) rfl #[.slice A0 l0.length c0, .slice A1 l1.length c1] rfl mp_ ?_; (with_reducible refine (impl_IsOpenPath.calls k _ _ l0 _ _ l1 false _ ?side1 ?side2 ?side3 ?side4 A7.out).mono ?_); (case side1 => exact pc_ (Kd.C_below HR0.out HB.out)); (case side2 => exact HC0.out); (case side3 => exact pc_ (Kd.C_below HR1.out HB.out)); (case side4 => exact HC1.out); rintro e w9 ⟨rfl, hb⟩; refine ⟨_, rfl, ?_⟩; have n0_ := Aside0.mk (Kd.V_below (by (with_reducible repeat (first | apply Kd.V_alloc | apply Kd.V_drewN | apply Kd.V_drew)); exact HO2.out) hb); have n1_ := Aside0.mk (Kd.R_below (pr_ HO513.out) hb); have n2_ := Aside0.mk (below_step (pb_ HB.out) hb); clear HO2; clear HO513; clear HB; have HO2 := n0_; have HO513 := n1_; have HB := n2_; clear n0_ n1_ n2_; (try clear hb); (try clear hb2); (try clear hk); (try clear hi)))
      go_meet
      case rel => exact ⟨_, (true), el_, H', ⟨by first | omega | exact Nat.le_refl _⟩, ⟨by (with_reducible repeat (first | apply Kd.V_alloc | apply Kd.V_drewN | apply Kd.V_drew)); exact HO2.out⟩, ⟨pr_ (Kd.R_mono HO513.out (fun _ hk => hk.1))⟩, ⟨pb_ HB.out⟩⟩
    subst c8
    rw [if_pos rfl] at H
    replace H := Option.bind_eq_some_iff.mp H
    obtain ⟨t515, A100, H⟩ := H
    replace H : (impl_LostTags.j0 k l0 l1 l2 y511 (!t515)) = some r := H
    have A10 := Aside0.mk A100
    clear A100
    have H' := Aside0.mk H
    clear H
    go_wp2_with (first | ((with_reducible refine gate_callee (f := 63) rfl ?_); refine goesL_ (some 13) rfl rfl Try.func63 (by kernel_rfl) rfl #[.slice A0 l0.length c0, .slice A1 l1.length c1] rfl mp_ ?_; (with_reducible refine (impl_IsOpenPath.calls k _ _ l0 _ _ l1 true _ ?side1 ?side2 ?side3 ?side4 A7.out).mono ?_); (case side1 => exact pc_ (Kd.C_below HR0.out HB.out)); (case side2 => exact HC0.out); (case side3 => exact pc_ (Kd.C_below HR1.out HB.out)); (case side4 => exact HC1.out); rintro e w11 ⟨rfl, hb⟩; refine ⟨_, rfl, ?_⟩; have n0_ := Aside0.mk (Kd.V_below (by (with_reducible repeat (first | apply Kd.V_alloc | apply Kd.V_drewN | apply Kd.V_drew)); exact HO2.out) hb); have n1_ := Aside0.mk (Kd.R_below (pr_ HO513.out) hb); have n2_ := Aside0.mk (below_step (pb_ HB.out) hb); clear HO2; clear HO513; clear HB; have HO2 := n0_; have HO513 := n1_; have HB := n2_; clear n0_ n1_ n2_; (try clear hb); (try clear hb2); (try clear hk); (try clear hi)) | (go_at_call 139; (with_reducible refine (impl_AreExts.calls k _ _ l2 t515 _ ?side1 ?side2 A10.out).mono ?_); (case side1 => exact pc_ ((Kd.V_reads' HO2.out).2.2)); (case side2 => exact (Kd.V_reads' HO2.out).2.1); rintro e w12 ⟨rfl, hb⟩; have n0_ := Aside0.mk (Kd.V_below (by (with_reducible repeat (first | apply Kd.V_alloc | apply Kd.V_drewN | apply Kd.V_drew)); exact HO2.out) hb); have n1_ := Aside0.mk (Kd.R_below (pr_ HO513.out) hb); have n2_ := Aside0.mk (below_step (pb_ HB.out) hb); clear HO2; clear HO513; clear HB; have HO2 := n0_; have HO513 := n1_; have HB := n2_; clear n0_ n1_ n2_; (try clear hb); (try clear hb2); (try clear hk); (try clear hi)))
    go_meet
    case rel => exact ⟨_, (!t515), el_, H', ⟨by first | omega | exact Nat.le_refl _⟩, ⟨by (with_reducible repeat (first | apply Kd.V_alloc | apply Kd.V_drewN | apply Kd.V_drew)); exact HO2.out⟩, ⟨pr_ (Kd.R_mono HO513.out (fun _ hk => hk.1))⟩, ⟨pb_ HB.out⟩⟩
  clear HC4
  try clear c1
  try clear c2
  try clear p2
  try clear c6
  try clear c8
  obtain ⟨kq, x19_3, rfl, HA, HJ3, HO_2, HO_7, HB⟩ := hcut
  rcases kq with _ | kj3
  · exact absurd HA.out (by simp [impl_LostTags.j0])
  have H := HA.out
  clear HA
  simp only [impl_LostTags.j0] at H
  by_cases c13 : x19_3 = true
  · subst c13
    rw [if_pos rfl] at H
    obtain rfl := Option.some.inj H
    go_wp2
    go_ret
    exact ⟨_, er_, pr_ HO_7.out, pb_ HB.out⟩
  replace c13 := Bool.eq_false_iff.mpr c13
  subst c13
  rw [if_neg (show ¬ (false = true) by decide)] at H
  have H' := Aside0.mk H
  clear H
  go_wp2
  go_loopg [7, 23] kj3 (fun kq v7 v23 w' => ∃ (x7_2 : List Int) (x23_2 : Int), v23 = .int .i64 x23_2 ∧ Aside0 (impl_LostTags.l0 kq l0 l1 x7_2 l2 (l2.length : Int) x23_2 = some r) ∧ Aside0 (kq ≤ kj3) ∧ Aside0 (Kd.R (Kd.int .i64) 3 w' w.heap.size (fun k_ => (w.heap.size ≤ k_)) v7 x7_2) ∧ Aside0 (Kd.V k114 114 w' w.heap.size (fun k_ => (P2_ k_ ∨ w.heap.size ≤ k_) ∧ some k_ ≠ (v7 : Value).ownBlock) (.slice A2 l2.length c2) l2) ∧ Aside0 (Below w.heap.size w w'))
  case atStart => exact ⟨(y511), (0), el_, H', ⟨Nat.le_refl _⟩, ⟨pr_ HO_7.out⟩, ⟨by (with_reducible repeat (first | apply Kd.V_alloc | apply Kd.V_drewN | apply Kd.V_drew)); exact HO_2.out⟩, ⟨pb_ HB.out⟩⟩
  clear H'
  try clear c1
  try clear c2
  try clear p2
  try clear c6
  try clear c8
  try clear c13
  try clear p2
  obtain ⟨x7_2, x23_2, rfl, HA, HK2, HO_7, HO_21, HB⟩ := hrel
  rcases gk with _ | k2
  · exact absurd HA.out (by simp [impl_LostTags.l0])
  have H := HA.out
  clear HA
  simp only [impl_LostTags.l0] at H
  by_cases c14 : x23_2 < (l2.length : Int)
  rotate_left
  · rw [if_neg c14] at H
    have c14b0 : decide (x23_2 < (l2.length : Int)) = false := decide_eq_false c14
    clear c14
    obtain rfl := Option.some.inj H
    go_wp2
    go_ret
    exact ⟨_, er_, pr_ HO_7.out, pb_ HB.out⟩
  rw [if_pos c14] at H
  have c14b0 : decide (x23_2 < (l2.length : Int)) = true := decide_eq_true c14
  clear c14
  by_cases c15 : 0 ≤ x23_2
  rotate_left
  · rw [if_neg c15] at H
    exact absurd H (by simp)
  rw [if_pos c15] at H
  have c15b0 : decide (0 ≤ x23_2) = true := decide_eq_true c15
  clear c15
  by_cases c16 : x23_2 < (l2.length : Int)
  rotate_left
  · rw [if_neg c16] at H
    exact absurd H (by simp)
  rw [if_pos c16] at H
  have c16b0 : decide (x23_2 < (l2.length : Int)) = true := decide_eq_true c16
  clear c16
  have HS_ := Aside0.mk H
  clear H
  have p516 : 0 ≤ (x23_2 : Int) := dt_
  have q516 : x23_2 < (l2.length : Int) := dt_
  obtain ⟨ad516, A516_1, c516_1, e516, hx516_0, hx516_1, hl516_1, hi516_1⟩ := at_T114 (Kd.V_reads' HO_21.out).2.2 x23_2 p516 q516
  cases e516
  obtain ⟨ce516, hce516, hMe516, hcc516⟩ := Kd.V_get HO_21.out z114 x23_2 p516 (by first | exact q516 | exact dt_ | (have e_ := (Kd.V_reads' HO_21.out).1; omega))
  obtain ⟨ua516_1, uc516_1, rfl, ul516_1, ge516_1⟩ := k114_openF hMe516
  have hv516_1 := hcc516 1 _ rfl
  rw [add_field _ _ 1 (by omega)] at hv516_1
  replace hv516_1 := Option.some.inj (hv516_1.symm.trans hx516_1)
  injection hv516_1 with hva_ hvn_ hvc_
  rw [hva_] at ge516_1
  rw [hvc_] at ul516_1
  have HL516_1 := Aside0.mk (show Kd.V (Kd.int .i64) 3 _ w.heap.size _ _ ((rd_T114 l2 x23_2).f1) from Kd.V_mk ul516_1 ge516_1)
  clear hva_ hvn_ hvc_ ge516_1 ul516_1
  clear hcc516 hce516
  have HR516_1 := Aside0.mk hi516_1
  have HC516_1 := Aside0.mk hl516_1
  clear hi516_1 hl516_1
  replace p516 := eq_true p516
  replace q516 := eq_true q516
  go_upto_region 7 with (first | ((with_reducible refine gate_dst (N := 9) rfl ?_); refine box_event ?hg (N := 9) ?hd (cs := #[.int .i64 0, .slice none 0 0]) (t := 114) ?hr ?_; (case hd => rfl); (case hg => rfl); (case hr => first | (go_simp; done) | (go_simp; rfl)); intro gb517 hg w17 hbox hb; have n0_ := Aside0.mk (Kd.R_below (pr_ HO_7.out) hb); have n1_ := Aside0.mk (Kd.V_below (Kd.V_elderB (by (with_reducible repeat (first | apply Kd.V_alloc | apply Kd.V_drewN | apply Kd.V_drew)); exact HO_21.out) gb517 (Nat.le_of_eq hg.symm)) hb); have n2_ := Aside0.mk (Kd.V_below (Kd.V_elderB (by (with_reducible repeat (first | apply Kd.V_alloc | apply Kd.V_drewN | apply Kd.V_drew)); exact HL516_1.out) gb517 (Nat.le_of_eq hg.symm)) hb); have n3_ := Aside0.mk (Kd.C_below (by repeat (first | (with_reducible exact HR516_1.out) | (with_reducible refine Kd.C_alloc ?_ _) | (with_reducible refine Kd.C_drewN ?_ _) | (with_reducible refine Kd.C_drew ?_) | exact HR516_1.out)) hb); have n4_ := Aside0.mk (below_step (pb_ HB.out) hb); have n5_ := Aside0.mk (hbox); have n6_ := Aside0.mk ((by rw [hg]; exact (below_size (pb_ HB.out)) : w.heap.size ≤ gb517)); have n7_ := Aside0.mk ((by rw [hg]; exact (below_size (pb_ HB.out)) : w.heap.size ≤ gb517)); clear HO_7; clear HO_21; clear HL516_1; clear HR516_1; clear HB; have HO_7 := n0_; have HO_21 := n1_; have HL516_1 := n2_; have HR516_1 := n3_; have HB := n4_; have BK517 := n5_; have GW517 := n6_; have GE517 := n7_; clear n0_ n1_ n2_ n3_ n4_ n5_ n6_ n7_; clear hb hbox hg; have hcz18_0 : w17.cell? ⟨gb517, 0, none⟩ = some (.int .i64 0) := (blk_cell BK517.out 0).trans rfl; have hcz18_1 : w17.cell? ⟨gb517, 1, none⟩ = some (.slice none 0 0) := (blk_cell BK517.out 1).trans rfl; have hfz18_0 := blk_frozen BK517.out 0; have hfz18_1 := blk_frozen BK517.out 1))
  (try simp only [Act.put, List.setIfInBounds_toArray, List.set_cons_zero, List.set_cons_succ])
  have H := HS_.out
  clear HS_
  by_cases c19 : 1 ≤ (l1.length : Int)
  rotate_left
  · rw [if_neg c19] at H
    exact absurd H (by simp)
  rw [if_pos c19] at H
  have c19b0 := eq_true c19
  have c19b1 : decide (1 ≤ (l1.length : Int)) = true := decide_eq_true c19
  clear c19
  obtain ⟨y519, hy519⟩ : ∃ y_ : List (S114), y_ = (([(⟨(rd_T114 l2 x23_2).f0, (rd_T114 l2 x23_2).f1⟩ : S114)] : List (S114))) := ⟨_, rfl⟩
  replace H : ((impl_PassesWhole.f k2 (l1.take 1) y519 l0).bind fun t522 => (if t522 = true then (impl_LostTags.l0 k2 l0 l1 x7_2 l2 (l2.length : Int) (wrap64 (x23_2 + 1))) else (if x7_2.length < 17592186044416 then (impl_LostTags.l0 k2 l0 l1 (x7_2 ++ [(rd_T114 l2 x23_2).f0]) l2 (l2.length : Int) (wrap64 (x23_2 + 1))) else (none)))) = some r := by first | (rw [hy519]; with_reducible exact H) | (have H2_ := (Option.bind_some _ _).symm.trans H; rw [hy519]; with_reducible exact H2_) | (have H2_ := (Option.bind_some _ _).symm.trans H; with_reducible exact H2_) | with_reducible exact H | (rw [hy519]; exact H) | exact H
  have Ny519 := Aside0.mk hy519
  clear hy519
  replace H := Option.bind_eq_some_iff.mp H
  obtain ⟨t522, A200, H⟩ := H
  (try dsimp only at H)
  have A20 := Aside0.mk A200
  clear A200
  have HS_ := Aside0.mk H
  clear H
  try go_wp2
  have n0_ : Aside0 (Kd.R (Kd.int .i64) 3 ((w17.setCell ⟨gb517, 0, none⟩ (.int .i64 ((rd_T114 l2 x23_2).f0))).setCell ⟨gb517, 1, none⟩ (.slice A516_1 ((rd_T114 l2 x23_2).f1).length c516_1)) w.heap.size (fun k_ => (w.heap.size ≤ k_)) u7 x7_2) := ⟨pr_ (Kd.R_mono (Kd.R_far (p := ⟨gb517, 1, none⟩) (Kd.R_far (p := ⟨gb517, 0, none⟩) (Kd.R_types HO_7.out BK517.out (by decide)) (fun _ hk => hk.2) (.int .i64 ((rd_T114 l2 x23_2).f0))) (fun _ hk => hk.2) (.slice A516_1 ((rd_T114 l2 x23_2).f1).length c516_1)) (fun _ hk => hk.1))⟩
  have n1_ : Aside0 (Kd.V k114 114 ((w17.setCell ⟨gb517, 0, none⟩ (.int .i64 ((rd_T114 l2 x23_2).f0))).setCell ⟨gb517, 1, none⟩ (.slice A516_1 ((rd_T114 l2 x23_2).f1).length c516_1)) w.heap.size (fun k_ => (P2_ k_ ∨ w.heap.size ≤ k_) ∧ some k_ ≠ (u7 : Value).ownBlock ∧ k_ ≠ gb517) (.slice (some ad516) l2.length c2) l2) := ⟨by (with_reducible repeat (first | apply Kd.V_alloc | apply Kd.V_drewN | apply Kd.V_drew)); exact Kd.V_mono (Kd.V_far (p := ⟨gb517, 1, none⟩) (Kd.V_far (p := ⟨gb517, 0, none⟩) (Kd.V_mono HO_21.out (fun k_ hk => (⟨hk, hk.2⟩ : _ ∧ k_ ≠ gb517))) (fun _ hk => hk.2) (.int .i64 ((rd_T114 l2 x23_2).f0))) (fun _ hk => hk.2) (.slice A516_1 ((rd_T114 l2 x23_2).f1).length c516_1)) (fun _ hk => ⟨hk.1.1.1, ⟨hk.1.1.2, hk.1.2⟩⟩)⟩
  have n2_ : Aside0 (Kd.V (Kd.int .i64) 3 ((w17.setCell ⟨gb517, 0, none⟩ (.int .i64 ((rd_T114 l2 x23_2).f0))).setCell ⟨gb517, 1, none⟩ (.slice A516_1 ((rd_T114 l2 x23_2).f1).length c516_1)) w.heap.size (fun k_ => (P2_ k_ ∨ w.heap.size ≤ k_) ∧ some k_ ≠ (u7 : Value).ownBlock ∧ k_ ≠ gb517) (.slice A516_1 ((rd_T114 l2 x23_2).f1).length c516_1) ((rd_T114 l2 x23_2).f1)) := ⟨by (with_reducible repeat (first | apply Kd.V_alloc | apply Kd.V_drewN | apply Kd.V_drew)); exact Kd.V_mono (Kd.V_far (p := ⟨gb517, 1, none⟩) (Kd.V_far (p := ⟨gb517, 0, none⟩) (Kd.V_mono HL516_1.out (fun k_ hk => (⟨hk, hk.2⟩ : _ ∧ k_ ≠ gb517))) (fun _ hk => hk.2) (.int .i64 ((rd_T114 l2 x23_2).f0))) (fun _ hk => hk.2) (.slice A516_1 ((rd_T114 l2 x23_2).f1).length c516_1)) (fun _ hk => ⟨hk.1.1.1, ⟨hk.1.1.2, hk.1.2⟩⟩)⟩
  have n3_ : Aside0 (((w17.setCell ⟨gb517, 0, none⟩ (.int .i64 ((rd_T114 l2 x23_2).f0))).setCell ⟨gb517, 1, none⟩ (.slice A516_1 ((rd_T114 l2 x23_2).f1).length c516_1)).heap[gb517]? = some (.cells #[.int .i64 ((rd_T114 l2 x23_2).f0), .slice A516_1 ((rd_T114 l2 x23_2).f1).length c516_1] 114 (0, 0))) := ⟨pp_ BK517.out⟩
  have n4_ : Aside0 (Below w.heap.size w ((w17.setCell ⟨gb517, 0, none⟩ (.int .i64 ((rd_T114 l2 x23_2).f0))).setCell ⟨gb517, 1, none⟩ (.slice A516_1 ((rd_T114 l2 x23_2).f1).length c516_1))) := ⟨pb1_ HB.out GE517.out⟩
  (try clear HO_7)
  (try clear HO_21)
  (try clear HL516_1)
  (try clear BK517)
  (try clear HB)
  generalize ((w17.setCell ⟨gb517, 0, none⟩ (.int .i64 ((rd_T114 l2 x23_2).f0))).setCell ⟨gb517, 1, none⟩ (.slice A516_1 ((rd_T114 l2 x23_2).f1).length c516_1)) = w21 at n0_ n1_ n2_ n3_ n4_ ⊢
  have HO_7 := n0_
  have HO_21 := n1_
  have HL516_1 := n2_
  have BK517 := n3_
  have HB := n4_
  clear n0_ n1_ n2_ n3_ n4_
  have n0_ := Aside0.mk (Kd.R_drew HO_7.out)
  have n1_ := Aside0.mk (Kd.V_drew HO_21.out)
  have n2_ := Aside0.mk (Kd.V_drew HL516_1.out)
  have n3_ := Aside0.mk (blk_drew BK517.out)
  have n4_ := Aside0.mk (below_drew1 HB.out)
  clear HO_7
  clear HO_21
  clear HL516_1
  clear BK517
  clear HB
  have HO_7 := n0_
  have HO_21 := n1_
  have HL516_1 := n2_
  have BK517 := n3_
  have HB := n4_
  clear n0_ n1_ n2_ n3_ n4_
  obtain ⟨i023, hi023, _, hsz23, _⟩ := info_parts info3
  obtain ⟨hcut23, hA23, hC23⟩ := print_take_of (P := Try.prog) (Value.int .i64) 0 22 3 .i64 Try.underlying22 hi023 hsz23 A1 c1 l1 1 (by omega) dt_ HC1.out
  have HR518 := Aside0.mk (Kd.C_of_reads (h1 := fun _ => rfl) (hA23 _ (Kd.reads_of_C HR1.out)))
  have HC518 := Aside0.mk hC23
  clear hA23 hC23 hi023 hsz23
  refine start_ (n := 8) (S := fun w' => w'.cell? ⟨gb517, 0, none⟩ = some (.int .i64 ((rd_T114 l2 x23_2).f0)) ∧ w'.cell? ⟨gb517, 1, none⟩ = some (.slice A516_1 ((rd_T114 l2 x23_2).f1).length c516_1)) (ds := []) #[false, false, false, false, false, false, false, false] (by kernel_rfl) rfl rfl ⟨(blk_cell BK517.out 0).trans rfl, (blk_cell BK517.out 1).trans rfl⟩ (fun hHeld => ?_); refine with_tabW impl_LostTags.tab7 impl_LostTags.bits7 (fun HT_ HW_ => ?_)
  generalize w21.drew = w22 at HO_7 HO_21 HL516_1 BK517 HB HR518 hHeld ⊢
  refine pure_ (i := 0) (N := some 27) (v := ?_) (a' := ?_) #[true, false, false, false, false, false, false, false] rfl rfl (any_of HT_.out (by kernel_rfl)) (fun _ _ _ h => h) (Or.inl ⟨by rfl, ?_⟩) ?_ ?_
  rotate_left
  · intro w'
    go_simp
    (try (simp only [Instr.field]; simp only [underlying, hu106, hu114]; go_simp; simp only [asAgg]; go_simp))
    with_reducible rfl
  rotate_left
  · simp only [Act.put, List.setIfInBounds_toArray, List.set_cons_zero, List.set_cons_succ, i64_w, i32_w]
    rfl
  refine pure_ (i := 1) (N := some 28) (v := ?_) (a' := ?_) #[true, true, false, false, false, false, false, false] rfl rfl (any_of HT_.out (by kernel_rfl)) (fun _ _ _ h => h) (Or.inl ⟨by rfl, ?_⟩) ?_ ?_
  rotate_left
  · intro w'
    go_simp
    (try (simp only [Instr.field]; simp only [underlying, hu106, hu114]; go_simp; simp only [asAgg]; go_simp))
    with_reducible rfl
  rotate_left
  · simp only [Act.put, List.setIfInBounds_toArray, List.set_cons_zero, List.set_cons_succ, i64_w, i32_w]
    rfl
  refine pure_ (i := 5) (N := some 32) (v := ?_) (a' := ?_) #[true, true, false, false, false, true, false, false] rfl rfl (any_of HT_.out (by kernel_rfl)) (fun _ _ _ h => h) (Or.inl ⟨by rfl, ?_⟩) ?_ ?_
  rotate_left
  · intro w'
    go_simp
    (try (simp only [Instr.field]; simp only [underlying, hu106, hu114]; go_simp; simp only [asAgg]; go_simp))
    with_reducible rfl
  rotate_left
  · simp only [Act.put, List.setIfInBounds_toArray, List.set_cons_zero, List.set_cons_succ, i64_w, i32_w]
    rfl
  refine take_ (i := 2) (N := some 29) (v := ?_) (a' := ?_) #[true, true, true, false, false, true, false, false] rfl rfl (take_ofW HT_.out HW_.out (by kernel_rfl)) (fun _ _ _ h => h) (Or.inl ⟨by rfl, ?_⟩) hHeld ?_ ?_
  rotate_left
  · rintro w' ⟨s0, s1⟩
    go_simp
    (try (simp only [Instr.field]; simp only [underlying, hu106, hu114]; go_simp; simp only [asAgg]; go_simp))
    with_reducible rfl
  rotate_left
  · simp only [Act.put, List.setIfInBounds_toArray, List.set_cons_zero, List.set_cons_succ, i64_w, i32_w]
    rfl
  refine one_ (i := 3) (N := some 30) #[true, true, true, true, false, true, false, false] rfl rfl (one_of HT_.out (by kernel_rfl)) (by decide) (fun K hK => ?_)
  refine Kd.N_lit_step k114 _ 114 ?hg (N' := 30) ?hd (xs := ([(⟨(rd_T114 l2 x23_2).f0, (rd_T114 l2 x23_2).f1⟩ : S114)] : List (S114))) (inner := [.int .i64 ((rd_T114 l2 x23_2).f0), .slice A516_1 ((rd_T114 l2 x23_2).f1).length c516_1]) (ok := (fun k_ => (P2_ k_ ∨ w.heap.size ≤ k_) ∧ some k_ ≠ (u7 : Value).ownBlock ∧ k_ ≠ gb517)) (okp := (fun k_ => (P2_ k_ ∨ w.heap.size ≤ k_) ∧ some k_ ≠ (u7 : Value).ownBlock ∧ k_ ≠ gb517)) ?hr ?hp (fun _ hk => hk) ((show ∀ k_, w22.heap.size ≤ k_ → (fun k_ => (P2_ k_ ∨ w.heap.size ≤ k_) ∧ some k_ ≠ (u7 : Value).ownBlock ∧ k_ ≠ gb517) k_ from fun k_ hk => ⟨(.inr (Nat.le_trans (below_size (pb1_ HB.out GE517.out)) hk)), Kd.fresh' (Kd.R_lt (pr_ HO_7.out)) k_ hk, Kd.freshB (g := gb517) (o := .cells #[.int .i64 ((rd_T114 l2 x23_2).f0), .slice A516_1 ((rd_T114 l2 x23_2).f1).length c516_1] 114 (0, 0)) (pk_ BK517.out) k_ hk⟩) _ (Nat.le_refl _)) (Below.refl _ _) (Nat.le_refl _) (by simp) ?_; (case hd => rfl); (case hg => rfl); (case hr => first | (go_simp; done) | (go_simp; rfl)); (case hp => exact (Reps.c2 (show Kd.FK k114 _ _ (⟨(rd_T114 l2 x23_2).f0, (rd_T114 l2 x23_2).f1⟩ : S114) [.int .i64 ((rd_T114 l2 x23_2).f0), .slice A516_1 ((rd_T114 l2 x23_2).f1).length c516_1] from (k114_mkF _ _ (⟨(rd_T114 l2 x23_2).f0, (rd_T114 l2 x23_2).f1⟩ : S114) (Kd.V_reads' (Kd.V_mono (ok' := (fun k_ => (P2_ k_ ∨ w.heap.size ≤ k_) ∧ some k_ ≠ (u7 : Value).ownBlock ∧ k_ ≠ gb517)) (HL516_1.out) (fun k_ hk => ⟨hk.1, ⟨hk.2.1, hk.2.2⟩⟩))).2.1 (Kd.V_F (Kd.V_mono (ok' := (fun k_ => (P2_ k_ ∨ w.heap.size ≤ k_) ∧ some k_ ≠ (u7 : Value).ownBlock ∧ k_ ≠ gb517)) (HL516_1.out) (fun k_ hk => ⟨hk.1, ⟨hk.2.1, hk.2.2⟩⟩))))) (Reps.none _ _)))
  intro v520 w24 ho25 hb hg_ hnew_
  clear hg_ hnew_
  (first | rw [← Ny519.out] at ho25 | (simp only [Int.reduceToNat] at ho25; rw [← Ny519.out] at ho25))
  have n0_ := Aside0.mk (Kd.R_below (pr_ HO_7.out) hb)
  have n1_ := Aside0.mk (Kd.V_elder' (by (with_reducible repeat (first | apply Kd.V_alloc | apply Kd.V_drewN | apply Kd.V_drew)); exact HO_21.out) (Kd.N_base ho25) hb)
  have n2_ := Aside0.mk (Kd.V_elder' (by (with_reducible repeat (first | apply Kd.V_alloc | apply Kd.V_drewN | apply Kd.V_drew)); exact HL516_1.out) (Kd.N_base ho25) hb)
  have n3_ := Aside0.mk (Kd.N_lower ho25 (below_size (pb1_ HB.out GE517.out)))
  have n4_ := Aside0.mk (bb_ BK517.out hb)
  have n5_ := Aside0.mk (below_step (pb1_ HB.out GE517.out) hb)
  clear HO_7
  clear HO_21
  clear HL516_1
  clear BK517
  clear HB
  have HO_7 := n0_
  have HO_21 := n1_
  have HL516_1 := n2_
  have HO521 := n3_
  have BK517 := n4_
  have HB := n5_
  clear n0_ n1_ n2_ n3_ n4_ n5_
  clear hb ho25
  obtain ⟨Ao26, co26, eo26⟩ := Kd.N_slice HO521.out
  (first | subst eo26 | (injection eo26 with f1_ f2_ f3_; have f4_ := f1_.symm; have f5_ := f3_.symm; clear f1_ f2_ f3_; subst f4_; subst f5_))
  refine hK.out _ _ ⟨(blk_cell BK517.out 0).trans rfl, (blk_cell BK517.out 1).trans rfl⟩ (fun hHeld => ?_)
  clear hK K
  refine norm_ (a' := ?_) ?_ ?_
  rotate_left
  · show Act.put _ (some 30) _ = _
    simp only [Act.put, List.setIfInBounds_toArray, List.set_cons_zero, List.set_cons_succ, i64_w, i32_w]
    rfl
  refine pure_ (i := 4) (N := some 31) (v := ?_) (a' := ?_) #[true, true, true, true, true, true, false, false] rfl rfl (any_of HT_.out (by kernel_rfl)) (fun _ _ _ h => h) (Or.inl ⟨by rfl, ?_⟩) ?_ ?_
  rotate_left
  · intro w'
    go_simp
    (try (simp only [Instr.field]; simp only [underlying, hu106, hu114]; go_simp; simp only [asAgg]; go_simp))
    with_reducible rfl
  rotate_left
  · simp only [Act.put, List.setIfInBounds_toArray, List.set_cons_zero, List.set_cons_succ, i64_w, i32_w]
    rfl
  refine one_ (i := 6) (N := some 33) #[true, true, true, true, true, true, true, false] rfl rfl (one_of HT_.out (by kernel_rfl)) (by decide) (fun K hK => ?_)
  refine goes_ Try.func147 (by kernel_rfl) rfl #[.agg #[.slice A1 (l1.take 1).length c1, .slice Ao26 y519.length co26], .slice A0 l0.length c0] (by rfl) rfl rfl (by (try simp only [List.map_toArray, List.map_cons, List.map_nil]); first | done | (rw [show (l1.take 1).length = 1 from (by rw [List.length_take]; have h_ : (1 : Int) ≤ (l1.length : Int) := dt_; omega)] <;> rfl) | rfl | (simp only [List.length_drop, List.length_take]; rfl)) ?_
  with_reducible refine (impl_PassesWhole.calls k2 _ _ (l1.take 1) _ _ y519 _ _ l0 t522 _ ?side1 ?side2 ?side3 ?side4 ?side5 ?side6 A20.out).mono ?_
  (case side1 => exact pc_ (Kd.C_below HR518.out HB.out))
  (case side2 => exact HC518.out)
  (case side3 => exact pc_ ((Kd.N_reads' HO521.out).2.2))
  (case side4 => exact (Kd.N_reads' HO521.out).2.1)
  (case side5 => exact pc_ (Kd.C_below HR0.out HB.out))
  (case side6 => exact HC0.out)
  rintro e w27 ⟨rfl, hb⟩
  refine ⟨_, rfl, ?_⟩
  have n0_ := Aside0.mk (Kd.R_below (pr_ HO_7.out) hb)
  have n1_ := Aside0.mk (Kd.V_below (by (with_reducible repeat (first | apply Kd.V_alloc | apply Kd.V_drewN | apply Kd.V_drew)); exact HO_21.out) hb)
  have n2_ := Aside0.mk (Kd.V_below (by (with_reducible repeat (first | apply Kd.V_alloc | apply Kd.V_drewN | apply Kd.V_drew)); exact HL516_1.out) hb)
  have n3_ := Aside0.mk (Kd.N_below (by (with_reducible repeat (first | apply Kd.N_alloc | apply Kd.N_drewN | apply Kd.N_drew)); exact HO521.out) hb)
  have n4_ := Aside0.mk (bb_ BK517.out hb)
  have n5_ := Aside0.mk (below_step (pb1_ HB.out GE517.out) hb)
  clear HO_7
  clear HO_21
  clear HL516_1
  clear HO521
  clear BK517
  clear HB
  have HO_7 := n0_
  have HO_21 := n1_
  have HL516_1 := n2_
  have HO521 := n3_
  have BK517 := n4_
  have HB := n5_
  clear n0_ n1_ n2_ n3_ n4_ n5_
  (try clear hb)
  (try clear hb2)
  (try clear hk)
  (try clear hi)
  refine hK.out _ _ ⟨(blk_cell BK517.out 0).trans rfl, (blk_cell BK517.out 1).trans rfl⟩ (fun hHeld => ?_)
  clear hK K
  refine norm_ (a' := ?_) ?_ ?_
  rotate_left
  · show Act.put _ (some 33) _ = _
    simp only [Act.put, List.setIfInBounds_toArray, List.set_cons_zero, List.set_cons_succ, i64_w, i32_w]
    rfl
  refine pure_ (i := 7) (N := some 34) (v := ?_) (a' := ?_) #[true, true, true, true, true, true, true, true] rfl rfl (any_of HT_.out (by kernel_rfl)) (fun _ _ _ h => h) (Or.inl ⟨by rfl, ?_⟩) ?_ ?_
  rotate_left
  · intro w'
    go_simp
    (try (simp only [Instr.field]; simp only [underlying, hu106, hu114]; go_simp; simp only [asAgg]; go_simp))
    with_reducible rfl
  rotate_left
  · simp only [Act.put, List.setIfInBounds_toArray, List.set_cons_zero, List.set_cons_succ, i64_w, i32_w]
    rfl
  refine done_ (done_of HT_.out (by kernel_rfl)) ?_
  go_upto_if 34 with (fail)
  have H := HS_.out
  clear HS_
  by_cases c28 : t522 = true
  · subst c28
    rw [if_pos rfl] at H
    have H' := Aside0.mk H
    clear H
    go_wp2
    go_roundg k2
    case measure => have := HJ3.out; have := HK2.out; omega
    case rel => exact ⟨(x7_2), (wrap64 (x23_2 + 1)), el_, H', ⟨by have := HJ3.out; have := HK2.out; omega⟩, ⟨pr_ HO_7.out⟩, ⟨by (with_reducible repeat (first | apply Kd.V_alloc | apply Kd.V_drewN | apply Kd.V_drew)); exact Kd.V_mono HO_21.out (fun _ hk => ⟨hk.1.1, hk.1.2.1⟩)⟩, ⟨pb1_ HB.out GE517.out⟩⟩
  replace c28 := Bool.eq_false_iff.mpr c28
  subst c28
  rw [if_neg (show ¬ (false = true) by decide)] at H
  by_cases c29 : x7_2.length < 17592186044416
  rotate_left
  · rw [if_neg c29] at H
    exact absurd H (by simp)
  rw [if_pos c29] at H
  have LMc29 := Aside0.mk c29
  clear c29
  obtain ⟨y523, hy523⟩ : ∃ y_ : List Int, y_ = (x7_2 ++ [(rd_T114 l2 x23_2).f0]) := ⟨_, rfl⟩
  replace H : (impl_LostTags.l0 k2 l0 l1 y523 l2 (l2.length : Int) (wrap64 (x23_2 + 1))) = some r := by first | (rw [hy523]; with_reducible exact H) | (have H2_ := (Option.bind_some _ _).symm.trans H; rw [hy523]; with_reducible exact H2_) | (have H2_ := (Option.bind_some _ _).symm.trans H; with_reducible exact H2_) | with_reducible exact H | (rw [hy523]; exact H) | exact H
  have Ny523 := Aside0.mk hy523
  clear hy523
  have H' := Aside0.mk H
  clear H
  obtain ⟨hcz30_0, hcz30_1, hfz30_0, hfz30_1⟩ := bc2_ BK517.out
  go_wp2_with (first | ((with_reducible refine gate_builtin (b := .append) (xs := #[.tmp 35, .tmp 38]) rfl ?_); at_builtin; refine Kd.R_append (Kd.int .i64) (w0 := w) w.heap.size rfl (.tmp 35) (.tmp 38) 22 3 (.int .i64 0) 8 rfl Try.underlying22 info3 rfl (by decide) (by omega) u7 x7_2 ((rd_T114 l2 x23_2).f0) [.int .i64 ((rd_T114 l2 x23_2).f0)] (fun k_ => (w.heap.size ≤ k_)) (fun _ => False) rfl rfl ?aP (fun _ hk => hk.elim) ?aF ?aO ?aB ?aS ?aL ?_; (case aP => exact rfl); (case aB => exact (pb1_ HB.out GE517.out)); (case aF => exact (fun k_ hk => (Nat.le_trans (below_size (pb1_ HB.out GE517.out)) hk))); (case aO => exact (pr_ HO_7.out)); (case aS => exact (below_size (pb1_ HB.out GE517.out))); (case aL => have := LMc29.out; omega); intro v524 w31 ho hb hg hat; rw [← Ny523.out] at ho; have n0_ := Aside0.mk (Kd.V_afterv (ok := (fun k_ => (P2_ k_ ∨ w.heap.size ≤ k_) ∧ some k_ ≠ (.slice Ao26 y519.length co26 : Value).ownBlock ∧ k_ ≠ gb517)) (by (with_reducible repeat (first | apply Kd.V_alloc | apply Kd.V_drewN | apply Kd.V_drew)); exact Kd.V_mono HO_21.out (fun _ hk => ⟨⟨hk.1.1, ⟨hk.2, hk.1.2.2⟩⟩, hk.1.2.1⟩)) hg hat); have n1_ := Aside0.mk (Kd.V_afterv (ok := (fun k_ => (P2_ k_ ∨ w.heap.size ≤ k_) ∧ some k_ ≠ (.slice Ao26 y519.length co26 : Value).ownBlock ∧ k_ ≠ gb517)) (by (with_reducible repeat (first | apply Kd.V_alloc | apply Kd.V_drewN | apply Kd.V_drew)); exact Kd.V_mono HL516_1.out (fun _ hk => ⟨⟨hk.1.1, ⟨hk.2, hk.1.2.2⟩⟩, hk.1.2.1⟩)) hg hat); have n2_ := Aside0.mk (blk_grown (g := gb517) (o := .cells #[.int .i64 ((rd_T114 l2 x23_2).f0), .slice A516_1 ((rd_T114 l2 x23_2).f1).length c516_1] 114 (0, 0)) (pk_ BK517.out) hg (Kd.R_ne HO_7.out BK517.out (by decide))); have n3_ := Aside0.mk (Kd.N_afterv (ok := (fun k_ => (P2_ k_ ∨ w.heap.size ≤ k_) ∧ k_ ≠ gb517)) (by (with_reducible repeat (first | apply Kd.N_alloc | apply Kd.N_drewN | apply Kd.N_drew)); exact Kd.N_mono HO521.out (fun _ hk => ⟨⟨hk.1, hk.2.2⟩, hk.2.1⟩)) hg hat); have n4_ := Aside0.mk (hb); have n5_ := Aside0.mk (ho); clear HO_21; clear HL516_1; clear BK517; clear HO521; clear HB; clear HO_7; have HO_21 := n0_; have HL516_1 := n1_; have BK517 := n2_; have HO521 := n3_; have HB := n4_; have HO525 := n5_; clear n0_ n1_ n2_ n3_ n4_ n5_; clear ho hb hg hat))
  go_roundg k2
  case measure => have := HJ3.out; have := HK2.out; omega
  case rel => exact ⟨(y523), (wrap64 (x23_2 + 1)), el_, H', ⟨by have := HJ3.out; have := HK2.out; omega⟩, ⟨pr_ HO525.out⟩, ⟨by (with_reducible repeat (first | apply Kd.V_alloc | apply Kd.V_drewN | apply Kd.V_drew)); exact Kd.V_mono HO_21.out (fun _ hk => ⟨hk.1.1, hk.2⟩)⟩, ⟨pb1_ HB.out GE517.out⟩⟩

/-! ### impl_isLost: function 105 -/
def impl_isLost.f (k : Nat) (l0 : List (S67)) (l1 : List Int) (a2 : Int) : Option (Bool) := (impl_LostTags.f k l0 l1 (([(⟨a2, ([] : List Int)⟩ : S114)] : List (S114)))).bind fun t529 => (some (decide ((t529.length : Int) > 0)))
theorem impl_isLost.mono : ∀ a0 a1 a2 k, LeO (impl_isLost.f k a0 a1 a2) (impl_isLost.f (k + 1) a0 a1 a2) := by
  intro a0 a1 a2 k
  unfold impl_isLost.f
  repeat' first
      | (with_reducible exact impl_LostTags.mono _ _ _ _)
      | (with_reducible exact LeO.refl _)
      | (with_reducible exact LeO.none _)
      | (with_reducible refine LeO.ite ?_ ?_)
      | (with_reducible refine LeO.bind ?_ (fun _ => ?_))
      | exact impl_LostTags.mono _ _ _ _
      | exact LeO.none _
      | refine LeO.ite ?_ ?_
      | refine LeO.bind ?_ (fun _ => ?_)
set_option maxHeartbeats 8000000 in
set_option maxRecDepth 100000 in
theorem impl_isLost.calls (k : Nat) (A0 : Option Addr) (c0 : Nat) (l0 : List (S67)) (A1 : Option Addr) (c1 : Nat) (l1 : List Int) (a2 : Int) (r : Bool) (w : World) (hr0 : Kd.C k67 w A0 l0.length l0) (hc0 : l0.length ≤ c0) (hr1 : Kd.C (Kd.int .i64) w A1 l1.length l1) (hc1 : l1.length ≤ c1) (h : impl_isLost.f k l0 l1 a2 = some r) :
    Calls Try.prog 105 #[.slice A0 l0.length c0, .slice A1 l1.length c1, .int .i64 a2] w fun e w' => e = .returned (.bool r) ∧ Below w.heap.size w w' := by
  have hu114 := Try.underlying114
  have HR0 := Aside0.mk hr0
  have HC0 := Aside0.mk hc0
  clear hr0 hc0
  have HR1 := Aside0.mk hr1
  have HC1 := Aside0.mk hc1
  clear hr1 hc1
  have HB := Aside0.mk (Below.refl w.heap.size w)
  have H : ((impl_LostTags.f k l0 l1 (([(⟨a2, ([] : List Int)⟩ : S114)] : List (S114)))).bind fun t529 => (some (decide ((t529.length : Int) > 0)))) = some r := h
  clear h
  obtain ⟨y526, hy526⟩ : ∃ y_ : List (S114), y_ = (([(⟨a2, ([] : List Int)⟩ : S114)] : List (S114))) := ⟨_, rfl⟩
  replace H : ((impl_LostTags.f k l0 l1 y526).bind fun t529 => (some (decide ((t529.length : Int) > 0)))) = some r := by first | (rw [hy526]; with_reducible exact H) | (have H2_ := (Option.bind_some _ _).symm.trans H; rw [hy526]; with_reducible exact H2_) | (have H2_ := (Option.bind_some _ _).symm.trans H; with_reducible exact H2_) | with_reducible exact H | (rw [hy526]; exact H) | exact H
  have Ny526 := Aside0.mk hy526
  clear hy526
  replace H := Option.bind_eq_some_iff.mp H
  obtain ⟨t529, A40, H⟩ := H
  replace H : (some (decide ((t529.length : Int) > 0))) = some r := H
  have A4 := Aside0.mk A40
  clear A40
  obtain rfl := Option.some.inj H
  go_enter Try.func105, Try.ntmps105
  go_wp2_with (first | ((with_reducible refine gate_dst (N := 11) rfl ?_); refine Kd.S_lit k114 _ 114 ?hg (N := 11) ?hd (xs := ([(⟨a2, ([] : List Int)⟩ : S114)] : List (S114))) (inner := [.int .i64 a2, .slice none 0 0]) (ok := fun _ => True) (okp := fun _ => True) ?hr ?hp (fun _ hk => hk) trivial (Below.refl _ _) (Nat.le_refl _) (by simp) ?_; (case hd => rfl); (case hg => rfl); (case hr => first | (go_simp; done) | (go_simp; rfl)); (case hp => exact (Reps.c2 (show Kd.M k114 _ _ _ (⟨a2, ([] : List Int)⟩ : S114) [.int .i64 a2, .slice none 0 0] from (k114_mkM _ _ _ (⟨a2, ([] : List Int)⟩ : S114) (Kd.R_nil _ _ _ _ _))) (Reps.none _ _))); intro v527 w5 ho6 hb hg_ hnew_; clear hg_ hnew_; (first | rw [← Ny526.out] at ho6 | (simp only [Int.reduceToNat] at ho6; rw [← Ny526.out] at ho6)); have n0_ := Aside0.mk (Kd.S_lower ho6 (below_size (pb_ HB.out))); have n1_ := Aside0.mk (below_step (pb_ HB.out) hb); clear HB; have HO528 := n0_; have HB := n1_; clear n0_ n1_; clear hb ho6; obtain ⟨Ao7, co7, eo7⟩ := Kd.S_slice HO528.out; subst eo7) | ((with_reducible refine gate_callee (f := 133) rfl ?_); refine goesL_ (some 12) rfl rfl Try.func133 (by kernel_rfl) rfl #[.slice A0 l0.length c0, .slice A1 l1.length c1, .slice Ao7 y526.length co7] rfl mp_ ?_; (with_reducible refine (impl_LostTags.calls k _ _ l0 _ _ l1 (fun k_ => True) _ _ y526 t529 _ ?side1 ?side2 ?side3 ?side4 ?side5 A4.out).mono ?_); (case side1 => exact pc_ (Kd.C_below HR0.out HB.out)); (case side2 => exact HC0.out); (case side3 => exact pc_ (Kd.C_below HR1.out HB.out)); (case side4 => exact HC1.out); (case side5 => exact Kd.S_V (HO528.out)); rintro e w8 ⟨v530, rfl, ho0, hb⟩; refine ⟨_, rfl, ?_⟩; have n0_ := Aside0.mk (Kd.S_elder' (ps_ HO528.out) (Kd.R_base ho0) hb); have n1_ := Aside0.mk (Kd.R_lower (Kd.R_mono (ok' := fun k_ => True) ho0 (fun _ hk_ => trivial)) (below_size (pb_ HB.out))); have n2_ := Aside0.mk (below_step (pb_ HB.out) hb); clear HO528; clear HB; have HO528 := n0_; have HO531 := n1_; have HB := n2_; clear n0_ n1_ n2_; (try clear hb); (try clear hb2); (try clear hk); (try clear hi); (try clear ho0); obtain ⟨Ao9, co9, eo9⟩ := Kd.R_slice HO531.out; subst eo9))
  go_ret
  exact ⟨er_, pb_ HB.out⟩

end Go.Proofs.Ytdoefkloanpliaa.Print
