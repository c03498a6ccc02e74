-- Written by a program of this session (printx.py) out of the translation; Lean checks it.
import Derived.Test.YtldcchjbaglppaaPrint0
namespace Go.Proofs.Ytldcchjbaglppaa.Print
open Go.RowKit Go.Proofs.YtldcchjbaglppaaW.PrintWords Go.Proofs.YtldcchjbaglppaaW.PrintLast Go.Proofs.YtldcchjbaglppaaW.PrintMore Go.Proofs.Ytldcchjbaglppaa.Short
attribute [local go_sem] max2_int min2_int max_two min_two max_three min_three max_four min_four   -- for this text's walks alone
set_option linter.unusedVariables false
set_option maxHeartbeats 8000000
set_option maxRecDepth 100000
set_option linter.unusedSimpArgs false

section
variable {ops : Array Oper} {rest : List Oper} {o : Oper} {a : Act} {Q : Exit → Act → World → Prop} {w : World} {g : Nat} {cs : Array Value}
theorem gld_ {t : TypeId} {p : Tmp} (_ho : o.op = .load t (.tmp p)) (h : wpList Try.prog ops Q (o :: rest) a w) : wpList Try.prog ops Q (o :: rest) a w := h
/-- A struct's load, whole. -/
theorem ldm_ {p : Tmp} (hb : w.heap[g]? = some (.cells cs 78 (0, 0))) (h : wpList Try.prog ops Q rest (a.put o.dst (.agg cs)) w) (hgd : o.guard = none) (ho : o.op = .load 78 (.tmp p)) (hx : a.eval (.tmp p) = .pointer (some ⟨g, 0, none⟩)) (hs : (Try.prog.info? 78).map (·.size) = some cs.size) : wpList Try.prog ops Q (o :: rest) a w := wpList_load_row hgd 78 (.tmp p) ho g hx 78 cs (0, 0) _ hb Try.underlying78 rfl hs h
end
/-! ### spec_DualOf: function 53 -/
def spec_DualOf.l0 : Nat → Int → Int → List Bool → List (S78) → Int → List Bool → List (S78) → Option (Int × List Bool × (List (S78)))
 | 0, _, _, _, _, _, _, _ => none
 | k + 1, g, e, f, a, c, d, b => if g < (a.length : Int) then (if 0 ≤ g then (if b.length < 4398046511104 then (spec_DualOf.l0 k (wrap64 (g + 1)) e f a c d (b ++ [(⟨(rd_T78 a g).f0, !((rd_T78 a g).f1), (rd_T78 a g).f2, (rd_T78 a g).f3⟩ : S78)])) else (none)) else (none)) else (some (c, d, b))
def spec_DualOf.f (k : Nat) (b : Int) (a : List Bool) (d : List (S78)) : Option (Int × List Bool × (List (S78))) := (some (([] : List Bool) : List Bool)).bind fun c => (if c.length + a.length < 140737488355328 then (spec_DualOf.l0 k 0 b a d b (c ++ a) ([] : List (S78))) else (none))
theorem spec_DualOf.mono_l : ∀ k, (∀ a b c d e f g, LeO (spec_DualOf.l0 k a b c d e f g) (spec_DualOf.l0 (k + 1) a b c d e f g))
 | 0 => fun _ _ _ _ _ _ _ r h => by simp [spec_DualOf.l0] at h
 | k + 1 => by
  have ih0 := spec_DualOf.mono_l k
  ·intro a b c d e f g
   unfold spec_DualOf.l0
   exact mo1_ ih0
theorem spec_DualOf.mono : ∀ a b c k, LeO (spec_DualOf.f k a b c) (spec_DualOf.f (k + 1) a b c) := by
 intro a b c k
 have ih0 := spec_DualOf.mono_l k
 unfold spec_DualOf.f
 exact mo1_ ih0
def spec_DualOf.T1 : Bool × List (List Nat × List Nat) := (true, [([], []), ([0], [0]), ([], []), ([], []), ([3], [3]), ([2, 4], [2, 4]), ([1, 5], [1, 5]), ([], []), ([7, 6, 5, 0, 1, 2, 3, 4, 5, 6, 7], [6, 7])])
def spec_DualOf.B1 : List Nat := [0, 1, 0, 0, 8, 28, 63, 0, 255]
theorem spec_DualOf.tab1 : rtab .any (opsOf Try.f53 1) = spec_DualOf.T1 := by kernel_rfl
theorem spec_DualOf.bits1 : waitsOk spec_DualOf.T1.2 spec_DualOf.B1 = true := by kernel_rfl
theorem spec_DualOf.calls (k : Nat) (F : Int) (O : Option Addr) (P : Nat) (B : List Bool) (U : Option Addr) (Q : Nat) (l : List (S78)) (r1 : Int) (r2 : List Bool) (r3 : List (S78)) (w : World) (hr0_1 : Kd.C Kd.bool w O B.length B) (aH : B.length ≤ P) (hr0_2 : Kd.C k78 w U l.length l) (aI : l.length ≤ Q) (h : spec_DualOf.f k F B l = some (r1, r2, r3)) :
  Calls Try.prog 53 #[.agg #[.int .i64 F, .slice O B.length P, .slice U l.length Q]] w fun e w' => ∃ v1_ v2_ : Value, e = .returned (.agg #[.int .i64 r1, v1_, v2_]) ∧ Kd.R Kd.bool 4 w' w.heap.size (fun _ => True) v1_ r2 ∧ Kd.R k78 78 w' w.heap.size (fun _ => True) v2_ r3 ∧ Below w.heap.size w w' := by
 have hu34 := Try.underlying34
 have hu78 := Try.underlying78
 have ao := Q_ hr0_1
 have br := Q_ aH
 clear hr0_1 aH
 have aY := Q_ hr0_2
 have bs := Q_ aI
 clear hr0_2 aI
 have HB := Q_ (Below.refl w.heap.size w)
 have H : ((some (([] : List Bool) : List Bool)).bind fun W => (if W.length + B.length < 140737488355328 then (spec_DualOf.l0 k 0 F B l F (W ++ B) ([] : List (S78))) else (none))) = some (r1, r2, r3) := h
 clear h
 obtain ⟨W, hy381⟩ : ∃ y_ : List Bool, y_ = (([] : List Bool)) := ⟨_, rfl⟩
 replace H : (if W.length + B.length < 140737488355328 then (spec_DualOf.l0 k 0 F B l F (W ++ B) ([] : List (S78))) else (none)) = some (r1, r2, r3) := hb_ hy381 H
 have ag := Q_ hy381
 clear hy381
 by_cases c2 : W.length + B.length < 140737488355328
 rotate_left
 ·rw [if_neg c2] at H
  exact nn_ H
 rw [if_pos c2] at H
 have aD := Q_ c2
 clear c2
 obtain ⟨T, hy384⟩ : ∃ y_ : List Bool, y_ = (W ++ B) := ⟨_, rfl⟩
 replace H : (spec_DualOf.l0 k 0 F B l F T ([] : List (S78))) = some (r1, r2, r3) := hb_ hy384 H
 have au := Q_ hy384
 clear hy384
 have H' := Q_ H
 clear H
 go_enter Try.func53, Try.ntmps53
 try go_wp2_with (first | ((with_reducible refine gate_dst (N := 1) rfl ?_); refine bx_ 1 #[.int .i64 F, .slice O B.length P, .slice U l.length Q] 34 ?_; intro v hg w3 hbox hb; have _ := Q_ (below_step (pb_ HB.1) hb); have a := Q_ (hbox); have aV := Q_ (gw_ (w := w) hg (pb_ HB.1)); have s := aV; clear HB; rename_i HB; clear hb hbox hg) | ((with_reducible refine gate_dst (N := 2) rfl ?_); refine bx_ 2 #[.int .i64 0, .slice none 0 0, .slice none 0 0] 34 ?_; intro I hg w4 hbox hb; have _ := Q_ (bb_ a.1 hb); have _ := Q_ (below_step (pb1_ HB.1 s.1) hb); have c := Q_ (hbox); have aW := Q_ (gw_ (w := w) hg (pb1_ HB.1 s.1)); have u := aW; have X := Q_ (nb_ hg a); have ac := Q_ X.1.symm; clear a HB; rename_i a HB; clear hb hbox hg))
 have _ := Q_ (blk_drew a.1)
 have _ := Q_ (blk_drew c.1)
 have _ := Q_ (below_drew1 HB.1)
 clear a c HB
 rename_i a c HB
 refine start_ (n := 9) (S := fun w' => w'.cell? ⟨v, 0, none⟩ = some (.int .i64 F) ∧ w'.cell? ⟨v, 1, none⟩ = some (.slice O B.length P) ∧ w'.cell? ⟨v, 2, none⟩ = some (.slice U l.length Q)) (ds := []) (tf_ 0 9) (by kernel_rfl) rfl rfl (sb_ a.1) (fun hHeld => ?_); refine with_tabW spec_DualOf.tab1 spec_DualOf.bits1 (fun HT_ HW_ => ?_)
 generalize w4.drew = w5 at a c HB hHeld ⊢
 refine pu1_ 0 6 9 1 ?_
 refine pu1_ 3 9 9 9 ?_
 refine ta1_ 1 7 9 11 hHeld ?_
 refine ta1_ 4 10 9 27 hHeld ?_
 refine join_ (σ := Value × Value × Nat) 1 #[true, true, true, true, true, true, true, true, false] (fun s_ => [(8, s_.1), (11, s_.2.1), (3, .pointer (some ⟨s_.2.2, 0, none⟩)), (12, .agg #[.int .i64 F, s_.2.1, .slice none 0 0])]) (fun s_ w' => (w'.cell? ⟨v, 0, none⟩ = some (.int .i64 F) ∧ w'.cell? ⟨v, 1, none⟩ = some (.slice O B.length P) ∧ w'.cell? ⟨v, 2, none⟩ = some (.slice U l.length Q)) ∧ (Kd.R Kd.bool 4 w' w.heap.size (fun _ => True) s_.2.1 T) ∧ (w'.heap[v]? = some (.cells #[.int .i64 F, .slice O B.length P, .slice U l.length Q] 34 (0, 0))) ∧ (w'.heap[I]? = some (.cells #[.int .i64 0, .slice none 0 0, .slice none 0 0] 34 (0, 0))) ∧ (w'.heap[s_.2.2]? = some (.cells #[.int .i64 0, .slice none 0 0, .slice none 0 0] 34 (0, 0))) ∧ (w.heap.size ≤ s_.2.2) ∧ (w.heap.size ≤ s_.2.2) ∧ (v ≠ s_.2.2) ∧ (s_.2.2 ≠ v) ∧ (I ≠ s_.2.2) ∧ (s_.2.2 ≠ I) ∧ (Below w.heap.size w w')) ?_ ?_
 rotate_left
 ·intro hCont
  refine two_ (i := 2) (j := 7) (Ni := some 8) (Nj := some 3) #[true, true, true, true, true, false, false, false, false] #[true, true, false, true, true, false, false, true, false] rfl rfl rfl rfl (two_of HT_.1 (by kernel_rfl)) (by decide) (by decide) (fun K hK => ?_) (fun K hK => ?_)
  ·skip
   refine Kd.R_lit_step Kd.bool _ 4 ?hg (N := 8) ?hd (xs := ([] : List Bool)) (inner := []) (ok := fun _ => True) (okp := fun _ => True) ?hr ?hp (fun _ hk => hk) trivial (Below.refl _ _) (Nat.le_refl _) (by simp) ?_; (case hd => rfl); (case hg => rfl); (case hr => first | (go_simp; done) | (go_simp; rfl)); (case hp => exact (Reps.none _ _))
   intro aa w6 aJ hb hg_ hnew_
   clear hg_ hnew_
   (first | rw [← ag.1] at aJ | (simp only [Int.reduceToNat] at aJ; rw [← ag.1] at aJ))
   have _ := Q_ (Kd.R_lower aJ (below_size (pb2_ HB.1 s.1 u.1)))
   have _ := Q_ (bb_ a.1 hb)
   have _ := Q_ (bb_ c.1 hb)
   have _ := Q_ (below_step (pb2_ HB.1 s.1 u.1) hb)
   clear a c HB
   rename_i G a c HB
   clear hb aJ
   refine hK.out _ _ (sb_ a.1) (fun hHeld => ?_)
   clear hK K
   refine no_ (some 8) ?_
   refine two_ (i := 5) (j := 7) (Ni := some 11) (Nj := some 3) #[true, true, true, true, true, true, false, false, false] #[true, true, true, true, true, false, false, true, false] rfl rfl rfl rfl (two_of HT_.1 (by kernel_rfl)) (by decide) (by decide) (fun K hK => ?_) (fun K hK => ?_)
   ·skip
    refine Kd.R_append_rows_step Kd.bool (w0 := w) w.heap.size (by rfl) (.tmp 8) (.tmp 10) 23 4 (.bool false) 1 rfl Try.underlying23 info4 rfl (by decide) (by omega) aa W B _ _ _ (fun _ => True) (fun _ => False) rfl rfl ?aO ?aR (fun _ _ h => h) (fun _ h => h.elim) ?aF ?aB ?aS ?aL ?_
    (case aR => exact cb_ ao HB)
    (case aB => exact (pb2_ HB.1 s.1 u.1))
    (case aF => exact (fun _ _ => trivial))
    (case aO => exact (pr_ G.1))
    (case aS => exact (below_size (pb2_ HB.1 s.1 u.1)))
    (case aL => have := aD.1; omega)
    intro ax w8 ho hb hg hat
    rw [← au.1] at ho
    have _ := Q_ (blk_grown (g := v) (o := .cells #[.int .i64 F, .slice O B.length P, .slice U l.length Q] 34 (0, 0)) (pk_ a.1) hg (Kd.R_ne G.1 a.1 (by decide)))
    have _ := Q_ (blk_grown (g := I) (o := .cells #[.int .i64 0, .slice none 0 0, .slice none 0 0] 34 (0, 0)) (pk_ c.1) hg (Kd.R_ne G.1 c.1 (by decide)))
    have _ := Q_ (hb)
    have _ := Q_ (ho)
    clear a c HB G
    rename_i a c HB M
    clear ho hb hg hat
    obtain ⟨bq, bu, bc⟩ := Kd.R_slice M.1
    (first | subst bc | (injection bc with f1_ f2_ f3_; have f4_ := f1_.symm; have f5_ := f3_.symm; clear f1_ f2_ f3_; subst f4_; subst f5_))
    refine hK.out _ _ (sb_ a.1) (fun hHeld => ?_)
    clear hK K
    refine no_ (some 11) ?_
    refine pu1_ 6 12 9 127 ?_
    refine on_ 7 (some 3) (tf_ 8 9) HT_ (fun K hK => ?_)
    refine box_step ?hg (N := 3) ?hd (cs := #[.int .i64 0, .slice none 0 0, .slice none 0 0]) (t := 34) ?hr ?_; (case hd => rfl); (case hg => rfl); (case hr => first | (go_simp; done) | (go_simp; rfl))
    intro d hg b3 hbox hb
    have _ := Q_ (Kd.R_below (pr_ M.1) hb)
    have _ := Q_ (bb_ a.1 hb)
    have _ := Q_ (bb_ c.1 hb)
    have _ := Q_ (below_step (pb2_ HB.1 s.1 u.1) hb)
    have _ := Q_ (hbox)
    have _ := Q_ ((by rw [hg]; exact (below_size (pb2_ HB.1 s.1 u.1)) : w.heap.size ≤ d))
    have _ := Q_ ((by rw [hg]; exact (below_size (pb2_ HB.1 s.1 u.1)) : w.heap.size ≤ d))
    have _ := Q_ ((by rw [hg]; exact Nat.ne_of_lt (blk_lt (pk_ a.1)) : v ≠ d))
    have _ := Q_ ((by rw [hg]; exact Nat.ne_of_gt (blk_lt (pk_ a.1)) : d ≠ v))
    have _ := Q_ ((by rw [hg]; exact Nat.ne_of_lt (blk_lt (pk_ c.1)) : I ≠ d))
    have _ := Q_ ((by rw [hg]; exact Nat.ne_of_gt (blk_lt (pk_ c.1)) : d ≠ I))
    clear M a c HB
    rename_i M a c HB q Z D m z y A
    clear hb hbox hg
    refine hK.out _ _ (sb_ a.1) (fun hHeld => ?_)
    clear hK K
    refine no_ (some 3) ?_
    exact norm_ (by simp only [putAll, Act.put, List.setIfInBounds_toArray, List.set_cons_zero, List.set_cons_succ]) (hCont (aa, .slice bq T.length bu, d) _ ⟨hHeld, (pr_ M.1), (pk_ a.1), (pk_ c.1), (pk_ q.1), Z.1, D.1, m.1, z.1, y.1, A.1, (pb3_ HB.1 s.1 u.1 D.1)⟩)
   ·skip
    refine box_step ?hg (N := 3) ?hd (cs := #[.int .i64 0, .slice none 0 0, .slice none 0 0]) (t := 34) ?hr ?_; (case hd => rfl); (case hg => rfl); (case hr => first | (go_simp; done) | (go_simp; rfl))
    intro d hg w8 hbox hb
    have _ := Q_ (Kd.R_below (pr_ G.1) hb)
    have _ := Q_ (bb_ a.1 hb)
    have _ := Q_ (bb_ c.1 hb)
    have _ := Q_ (below_step (pb2_ HB.1 s.1 u.1) hb)
    have _ := Q_ (hbox)
    have _ := Q_ ((by rw [hg]; exact (below_size (pb2_ HB.1 s.1 u.1)) : w.heap.size ≤ d))
    have _ := Q_ ((by rw [hg]; exact (below_size (pb2_ HB.1 s.1 u.1)) : w.heap.size ≤ d))
    have _ := Q_ ((by rw [hg]; exact Nat.ne_of_lt (blk_lt (pk_ a.1)) : v ≠ d))
    have _ := Q_ ((by rw [hg]; exact Nat.ne_of_gt (blk_lt (pk_ a.1)) : d ≠ v))
    have _ := Q_ ((by rw [hg]; exact Nat.ne_of_lt (blk_lt (pk_ c.1)) : I ≠ d))
    have _ := Q_ ((by rw [hg]; exact Nat.ne_of_gt (blk_lt (pk_ c.1)) : d ≠ I))
    clear G a c HB
    rename_i G a c HB q Z D m z y A
    clear hb hbox hg
    refine hK.out _ _ (sb_ a.1) (fun hHeld => ?_)
    clear hK K
    refine no_ (some 3) ?_
    refine on_ 5 (some 11) (tm_ 9 191) HT_ (fun K hK => ?_)
    refine Kd.R_append_rows_step Kd.bool (w0 := w) w.heap.size (by rfl) (.tmp 8) (.tmp 10) 23 4 (.bool false) 1 rfl Try.underlying23 info4 rfl (by decide) (by omega) aa W B _ _ _ (fun _ => True) (fun _ => False) rfl rfl ?aO ?aR (fun _ _ h => h) (fun _ h => h.elim) ?aF ?aB ?aS ?aL ?_
    (case aR => exact cb_ ao HB)
    (case aB => exact (pb3_ HB.1 s.1 u.1 D.1))
    (case aF => exact (fun _ _ => trivial))
    (case aO => exact (pr_ G.1))
    (case aS => exact (below_size (pb3_ HB.1 s.1 u.1 D.1)))
    (case aL => have := aD.1; omega)
    intro ax w9 ho hb hg hat
    rw [← au.1] at ho
    have _ := Q_ (blk_grown (g := v) (o := .cells #[.int .i64 F, .slice O B.length P, .slice U l.length Q] 34 (0, 0)) (pk_ a.1) hg (Kd.R_ne G.1 a.1 (by decide)))
    have _ := Q_ (blk_grown (g := I) (o := .cells #[.int .i64 0, .slice none 0 0, .slice none 0 0] 34 (0, 0)) (pk_ c.1) hg (Kd.R_ne G.1 c.1 (by decide)))
    have _ := Q_ (blk_grown (g := d) (o := .cells #[.int .i64 0, .slice none 0 0, .slice none 0 0] 34 (0, 0)) (pk_ q.1) hg (Kd.R_ne G.1 q.1 (by decide)))
    have _ := Q_ (hb)
    have _ := Q_ (ho)
    clear a c q HB G
    rename_i a c q HB M
    clear ho hb hg hat
    obtain ⟨az, aE, ah⟩ := Kd.R_slice M.1
    (first | subst ah | (injection ah with f1_ f2_ f3_; have f4_ := f1_.symm; have f5_ := f3_.symm; clear f1_ f2_ f3_; subst f4_; subst f5_))
    refine hK.out _ _ (sb_ a.1) (fun hHeld => ?_)
    clear hK K
    refine no_ (some 11) ?_
    refine pu1_ 6 12 9 255 ?_
    exact norm_ (by simp only [putAll, Act.put, List.setIfInBounds_toArray, List.set_cons_zero, List.set_cons_succ]) (hCont (aa, .slice az T.length aE, d) _ ⟨hHeld, (pr_ M.1), (pk_ a.1), (pk_ c.1), (pk_ q.1), Z.1, D.1, m.1, z.1, y.1, A.1, (pb3_ HB.1 s.1 u.1 D.1)⟩)
  ·skip
   refine box_step ?hg (N := 3) ?hd (cs := #[.int .i64 0, .slice none 0 0, .slice none 0 0]) (t := 34) ?hr ?_; (case hd => rfl); (case hg => rfl); (case hr => first | (go_simp; done) | (go_simp; rfl))
   intro d hg w6 hbox hb
   have _ := Q_ (bb_ a.1 hb)
   have _ := Q_ (bb_ c.1 hb)
   have _ := Q_ (below_step (pb2_ HB.1 s.1 u.1) hb)
   have _ := Q_ (hbox)
   have _ := Q_ ((by rw [hg]; exact (below_size (pb2_ HB.1 s.1 u.1)) : w.heap.size ≤ d))
   have _ := Q_ ((by rw [hg]; exact (below_size (pb2_ HB.1 s.1 u.1)) : w.heap.size ≤ d))
   have _ := Q_ ((by rw [hg]; exact Nat.ne_of_lt (blk_lt (pk_ a.1)) : v ≠ d))
   have _ := Q_ ((by rw [hg]; exact Nat.ne_of_gt (blk_lt (pk_ a.1)) : d ≠ v))
   have _ := Q_ ((by rw [hg]; exact Nat.ne_of_lt (blk_lt (pk_ c.1)) : I ≠ d))
   have _ := Q_ ((by rw [hg]; exact Nat.ne_of_gt (blk_lt (pk_ c.1)) : d ≠ I))
   clear a c HB
   rename_i a c HB q Z D m z y A
   clear hb hbox hg
   refine hK.out _ _ (sb_ a.1) (fun hHeld => ?_)
   clear hK K
   refine no_ (some 3) ?_
   refine on_ 2 (some 8) (tm_ 9 159) HT_ (fun K hK => ?_)
   refine Kd.R_lit_step Kd.bool _ 4 ?hg (N := 8) ?hd (xs := ([] : List Bool)) (inner := []) (ok := fun _ => True) (okp := fun _ => True) ?hr ?hp (fun _ hk => hk) trivial (Below.refl _ _) (Nat.le_refl _) (by simp) ?_; (case hd => rfl); (case hg => rfl); (case hr => first | (go_simp; done) | (go_simp; rfl)); (case hp => exact (Reps.none _ _))
   intro aa w7 aK hb hg_ hnew_
   clear hg_ hnew_
   (first | rw [← ag.1] at aK | (simp only [Int.reduceToNat] at aK; rw [← ag.1] at aK))
   have _ := Q_ (Kd.R_lower aK (below_size (pb3_ HB.1 s.1 u.1 D.1)))
   have _ := Q_ (bb_ a.1 hb)
   have _ := Q_ (bb_ c.1 hb)
   have _ := Q_ (bb_ q.1 hb)
   have _ := Q_ (below_step (pb3_ HB.1 s.1 u.1 D.1) hb)
   clear a c q HB
   rename_i G a c q HB
   clear hb aK
   refine hK.out _ _ (sb_ a.1) (fun hHeld => ?_)
   clear hK K
   refine no_ (some 8) ?_
   refine on_ 5 (some 11) (tm_ 9 191) HT_ (fun K hK => ?_)
   refine Kd.R_append_rows_step Kd.bool (w0 := w) w.heap.size (by rfl) (.tmp 8) (.tmp 10) 23 4 (.bool false) 1 rfl Try.underlying23 info4 rfl (by decide) (by omega) aa W B _ _ _ (fun _ => True) (fun _ => False) rfl rfl ?aO ?aR (fun _ _ h => h) (fun _ h => h.elim) ?aF ?aB ?aS ?aL ?_
   (case aR => exact cb_ ao HB)
   (case aB => exact (pb3_ HB.1 s.1 u.1 D.1))
   (case aF => exact (fun _ _ => trivial))
   (case aO => exact (pr_ G.1))
   (case aS => exact (below_size (pb3_ HB.1 s.1 u.1 D.1)))
   (case aL => have := aD.1; omega)
   intro ax w9 ho hb hg hat
   rw [← au.1] at ho
   have _ := Q_ (blk_grown (g := v) (o := .cells #[.int .i64 F, .slice O B.length P, .slice U l.length Q] 34 (0, 0)) (pk_ a.1) hg (Kd.R_ne G.1 a.1 (by decide)))
   have _ := Q_ (blk_grown (g := I) (o := .cells #[.int .i64 0, .slice none 0 0, .slice none 0 0] 34 (0, 0)) (pk_ c.1) hg (Kd.R_ne G.1 c.1 (by decide)))
   have _ := Q_ (blk_grown (g := d) (o := .cells #[.int .i64 0, .slice none 0 0, .slice none 0 0] 34 (0, 0)) (pk_ q.1) hg (Kd.R_ne G.1 q.1 (by decide)))
   have _ := Q_ (hb)
   have _ := Q_ (ho)
   clear a c q HB G
   rename_i a c q HB M
   clear ho hb hg hat
   obtain ⟨az, aE, ah⟩ := Kd.R_slice M.1
   (first | subst ah | (injection ah with f1_ f2_ f3_; have f4_ := f1_.symm; have f5_ := f3_.symm; clear f1_ f2_ f3_; subst f4_; subst f5_))
   refine hK.out _ _ (sb_ a.1) (fun hHeld => ?_)
   clear hK K
   refine no_ (some 11) ?_
   refine pu1_ 6 12 9 255 ?_
   exact norm_ (by simp only [putAll, Act.put, List.setIfInBounds_toArray, List.set_cons_zero, List.set_cons_succ]) (hCont (aa, .slice az T.length aE, d) _ ⟨hHeld, (pr_ M.1), (pk_ a.1), (pk_ c.1), (pk_ q.1), Z.1, D.1, m.1, z.1, y.1, A.1, (pb3_ HB.1 s.1 u.1 D.1)⟩)
 rintro ⟨aa, ax, d⟩ af ⟨hS_, h0_, h1_, h2_, h3_, h4_, h5_, h6_, h7_, h8_, h9_, h10_⟩
 have n0_ : Aside0 (Kd.R Kd.bool 4 af w.heap.size (fun _ => True) ax T) := ⟨h0_⟩
 have n1_ : Aside0 (af.heap[v]? = some (.cells #[.int .i64 F, .slice O B.length P, .slice U l.length Q] 34 (0, 0))) := ⟨h1_⟩
 have n2_ : Aside0 (af.heap[I]? = some (.cells #[.int .i64 0, .slice none 0 0, .slice none 0 0] 34 (0, 0))) := ⟨h2_⟩
 have n3_ : Aside0 (af.heap[d]? = some (.cells #[.int .i64 0, .slice none 0 0, .slice none 0 0] 34 (0, 0))) := ⟨h3_⟩
 have n4_ : Aside0 (w.heap.size ≤ d) := ⟨h4_⟩
 have n5_ : Aside0 (w.heap.size ≤ d) := ⟨h5_⟩
 have n6_ : Aside0 (v ≠ d) := ⟨h6_⟩
 have n7_ : Aside0 (d ≠ v) := ⟨h7_⟩
 have n8_ : Aside0 (I ≠ d) := ⟨h8_⟩
 have n9_ : Aside0 (d ≠ I) := ⟨h9_⟩
 have n10_ : Aside0 (Below w.heap.size w af) := ⟨h10_⟩
 clear a
 clear c
 clear HB
 clear h0_ h1_ h2_ h3_ h4_ h5_ h6_ h7_ h8_ h9_ h10_
 have M := n0_
 have a := n1_
 have c := n2_
 have q := n3_
 have Z := n4_
 have D := n5_
 have m := n6_
 have z := n7_
 have y := n8_
 have A := n9_
 have HB := n10_
 clear n0_ n1_ n2_ n3_ n4_ n5_ n6_ n7_ n8_ n9_ n10_
 have hHeld : af.cell? ⟨v, 0, none⟩ = some (.int .i64 F) ∧ af.cell? ⟨v, 1, none⟩ = some (.slice O B.length P) ∧ af.cell? ⟨v, 2, none⟩ = some (.slice U l.length Q) := hS_
 obtain ⟨av, aw, aU⟩ := Kd.R_slice M.1
 (first | subst aU | (injection aU with f1_ f2_ f3_; have f4_ := f1_.symm; have f5_ := f3_.symm; clear f1_ f2_ f3_; subst f4_; subst f5_))
 refine norm_ (a' := ?_) ?_ ?_
 rotate_left
 ·simp only [putAll, Act.put, List.setIfInBounds_toArray, List.set_cons_zero, List.set_cons_succ]
  rfl
 refine on_ 8 (none) (tf_ 9 9) HT_ (fun K hK => ?_)
 have bY : af.cell? ⟨d, 0, none⟩ = some (.int .i64 0) := (blk_cell q.1 0).trans rfl
 have bD := blk_frozen q.1 0
 have bj := m.1
 have bk := y.1
 have bd := z.1
 have be := A.1
 have bZ : af.cell? ⟨d, 1, none⟩ = some (.slice none 0 0) := (blk_cell q.1 1).trans rfl
 have bE := blk_frozen q.1 1
 have bl := m.1
 have bm := y.1
 have bf := z.1
 have bg := A.1
 have b0 : af.cell? ⟨d, 2, none⟩ = some (.slice none 0 0) := (blk_cell q.1 2).trans rfl
 have bF := blk_frozen q.1 2
 have bn := m.1
 have bo := y.1
 have bh := z.1
 have bi := A.1
 refine skip_ (w1 := ?_) (by rfl) rfl ?_ ?_
 rotate_left
 ·go_simp
  rfl
 refine hK.out _ _ ⟨((cell_far (p := ⟨d, _, none⟩) m.1 _).trans (((cell_far (p := ⟨d, _, none⟩) m.1 _).trans (((cell_far (p := ⟨d, _, none⟩) m.1 _).trans (hHeld.1)))))), ((cell_far (p := ⟨d, _, none⟩) m.1 _).trans (((cell_far (p := ⟨d, _, none⟩) m.1 _).trans (((cell_far (p := ⟨d, _, none⟩) m.1 _).trans (hHeld.2.1)))))), ((cell_far (p := ⟨d, _, none⟩) m.1 _).trans (((cell_far (p := ⟨d, _, none⟩) m.1 _).trans (((cell_far (p := ⟨d, _, none⟩) m.1 _).trans (hHeld.2.2))))))⟩ (fun hHeld => ?_)
 clear hK K
 refine done_ (done_of HT_.1 (by kernel_rfl)) ?_
 try go_wp2
 go_loopg [4] k (fun kq v4 w' => ∃ (r : Int) (L : List (S78)) (V : Value), v4 = .int .i64 r ∧ Aside0 (spec_DualOf.l0 kq r F B l F T L = some (r1, r2, r3)) ∧ Aside0 (kq ≤ k) ∧ Aside0 (Kd.R Kd.bool 4 w' w.heap.size (fun _ => True) (.slice av T.length aw) T) ∧ Aside0 (Kd.R k78 78 w' w.heap.size (fun _ => True) V L) ∧ Aside0 (w'.heap[v]? = some (.cells #[.int .i64 F, (.slice O B.length P), (.slice U l.length Q)] 34 (0, 0))) ∧ Aside0 (w'.heap[I]? = some (.cells #[.int .i64 0, (.slice none 0 0), (.slice none 0 0)] 34 (0, 0))) ∧ Aside0 (w'.heap[d]? = some (.cells #[.int .i64 F, (.slice av T.length aw), V] 34 (0, 0))) ∧ Aside0 (Below w.heap.size w w'))
 case atStart => exact ⟨(0), (([] : List (S78))), (.slice none 0 0), el_, H', ⟨Nat.le_refl _⟩, ⟨pr_ (Kd.R_mono (rf3_ M.1 q.1) (fun _ hk => trivial))⟩, ⟨by first | exact Kd.R_nil _ _ _ _ _ | exact Kd.N_nil _ _ _ _ _ | exact Kd.V_nil _ _ _ _ _ | exact Kd.Q_nil _ _ _ _ _ | exact Kd.S_nil _ _ _ _ _⟩, ⟨pp_ a.1⟩, ⟨pp_ c.1⟩, ⟨pp_ q.1⟩, ⟨pb3_ HB.1 s.1 u.1 D.1⟩⟩
 clear H'
 obtain ⟨r, L, V, rfl, HA, a7, J, x, a, c, q, HB⟩ := hrel
 rcases gk with _ | k1
 ·exact absurd HA.1 (by simp [spec_DualOf.l0])
 have H := HA.1
 clear HA
 simp only [spec_DualOf.l0] at H
 by_cases ay : r < (l.length : Int)
 rotate_left
 ·rw [if_neg ay] at H
  have a2 := decide_eq_false ay
  clear ay
  simp only [Option.some.injEq, Prod.mk.injEq] at H
  obtain ⟨rfl, rfl, rfl⟩ := H
  have bG := X.1
  have bP := ac.1
  have bH := m.1
  have bQ := z.1
  have bv := bc3_ a.1
  have bI := A.1
  have bR := y.1
  have bw := bc3_ q.1
  have bx := bc3_ c.1
  obtain ⟨a6, a8, ba⟩ := Kd.R_slice x.1
  subst ba
  go_wp2
  refine bodyPost_ret (results_cell_row rfl _ _ I 34 #[.int .i64 F, .slice av T.length aw, .slice a6 L.length a8] (0, 0) _ rfl (pp_ c.1) Try.underlying34 rfl (by kernel_rfl)) rfl ?_
  exact ⟨_, _, er_, pr_ (Kd.R_mono (rf3_ J.1 c.1) (fun _ hk => trivial)), pr_ (Kd.R_mono (rf3_ x.1 c.1) (fun _ hk => trivial)), pb3_ HB.1 s.1 u.1 D.1⟩
 rw [if_pos ay] at H
 have a2 := decide_eq_true ay
 clear ay
 by_cases aQ : 0 ≤ r
 rotate_left
 ·rw [if_neg aQ] at H
  exact nn_ H
 rw [if_pos aQ] at H
 have bt := decide_eq_true aQ
 clear aQ
 by_cases aT : L.length < 4398046511104
 rotate_left
 ·rw [if_neg aT] at H
  exact nn_ H
 rw [if_pos aT] at H
 have aZ := Q_ aT
 clear aT
 obtain ⟨am, hy390⟩ : ∃ y_ : List (S78), y_ = (L ++ [(⟨(rd_T78 l r).f0, !((rd_T78 l r).f1), (rd_T78 l r).f2, (rd_T78 l r).f3⟩ : S78)]) := ⟨_, rfl⟩
 replace H : (spec_DualOf.l0 k1 (wrap64 (r + 1)) F B l F T am) = some (r1, r2, r3) := hb_ hy390 H
 have a0 := Q_ hy390
 clear hy390
 have H' := Q_ H
 clear H
 have bJ := X.1
 have bS := ac.1
 have bK := m.1
 have bT := z.1
 have bz := bc3_ a.1
 have aM : 0 ≤ (r : Int) := dt_
 have aN : r < (l.length : Int) := dt_
 obtain ⟨a1, a9, ai, aj, ak, al⟩ := at_T78 aY.1 r aM aN
 cases a9
 replace ai := bt_ HB ai
 replace aj := bt_ HB aj
 replace ak := bt_ HB ak
 replace al := bt_ HB al
 replace aM := eq_true aM
 replace aN := eq_true aN
 go_wp2_with (first | ((with_reducible refine gld_ (t := 78) (p := 5) rfl ?_); refine ldm_ (p := 5) (cs := #[.int .i64 ((rd_T78 l r).f0), .bool (!((rd_T78 l r).f1)), .int .i64 ((rd_T78 l r).f2), .int .i64 ((rd_T78 l r).f3)]) (pp_ Y.1) ?_ rfl rfl rfl (by kernel_rfl)) | ((with_reducible refine gate_dst (N := 5) rfl ?_); refine bx_ 5 #[.int .i64 0, .bool false, .int .i64 0, .int .i64 0] 78 ?_; intro E hg b4 hbox hb; have _ := Q_ (Kd.R_below (pr_ J.1) hb); have _ := Q_ (Kd.R_below (Kd.R_elderB (pr_ x.1) E (Nat.le_of_eq hg.symm)) hb); have _ := Q_ (bb_ a.1 hb); have _ := Q_ (bb_ c.1 hb); have _ := Q_ (bb_ q.1 hb); have _ := Q_ (below_step (pb3_ HB.1 s.1 u.1 D.1) hb); have Y := Q_ (hbox); have aX := Q_ (gw_ (w := w) hg (pb3_ HB.1 s.1 u.1 D.1)); have an := aX; have ab := Q_ (nb_ hg a); have ap := Q_ ab.1.symm; have ad := Q_ (nb_ hg c); have aq := Q_ ad.1.symm; have ae := Q_ (nb_ hg q); have ar := Q_ ae.1.symm; clear J x a c q HB; rename_i J x a c q HB; clear hb hbox hg; have bL := ap.1; have bU := ab.1; have bM := aq.1; have bV := ad.1; have bN := ar.1; have bW := ae.1; have bA := bc4_ Y.1; have bO := A.1; have bX := y.1; have bB := bc3_ q.1) | ((with_reducible refine gate_builtin (b := .append) (xs := #[.tmp 30, .tmp 32]) rfl ?_); at_builtin; refine Kd.R_append k78 (w0 := w) w.heap.size rfl (.tmp 30) (.tmp 32) 32 78 (.agg #[(.int .i64 0), (.bool false), (.int .i64 0), (.int .i64 0)]) 32 rfl Try.underlying32 info78 rfl (by decide) (by omega) V L (⟨(rd_T78 l r).f0, !((rd_T78 l r).f1), (rd_T78 l r).f2, (rd_T78 l r).f3⟩ : S78) [.int .i64 ((rd_T78 l r).f0), .bool (!((rd_T78 l r).f1)), .int .i64 ((rd_T78 l r).f2), .int .i64 ((rd_T78 l r).f3)] (fun k_ => k_ ≠ E) (fun _ => False) rfl (by first | (go_simp; done) | (go_simp; rfl)) ?aP (fun _ hk => hk.elim) ?aF ?aO ?aB ?aS ?aL ?_; (case aP => exact k78_mkM _ _ _ (⟨(rd_T78 l r).f0, !((rd_T78 l r).f1), (rd_T78 l r).f2, (rd_T78 l r).f3⟩ : S78)); (case aB => exact (pb4_ HB.1 s.1 u.1 D.1 an.1)); (case aF => exact (fun k_ hk => Kd.freshB (g := E) (o := .cells #[.int .i64 ((rd_T78 l r).f0), .bool (!((rd_T78 l r).f1)), .int .i64 ((rd_T78 l r).f2), .int .i64 ((rd_T78 l r).f3)] 78 (0, 0)) (pp_ Y.1) k_ hk)); (case aO => exact (by (with_reducible repeat (first | apply Kd.R_alloc | apply Kd.R_drewN | apply Kd.R_drew)); exact Kd.R_mono (Kd.R_far (p := ⟨E, 1, none⟩) (Kd.R_far (p := ⟨E, 3, none⟩) (Kd.R_far (p := ⟨E, 2, none⟩) (Kd.R_far (p := ⟨E, 1, none⟩) (Kd.R_far (p := ⟨E, 0, none⟩) (Kd.R_mono x.1 (fun k_ hk => (⟨hk, hk.2⟩ : _ ∧ k_ ≠ E))) (fun _ hk => hk.2) (.int .i64 ((rd_T78 l r).f0))) (fun _ hk => hk.2) (.bool ((rd_T78 l r).f1))) (fun _ hk => hk.2) (.int .i64 ((rd_T78 l r).f2))) (fun _ hk => hk.2) (.int .i64 ((rd_T78 l r).f3))) (fun _ hk => hk.2) (.bool (!((rd_T78 l r).f1)))) (fun _ hk => hk.1.2))); (case aS => exact (below_size (pb4_ HB.1 s.1 u.1 D.1 an.1))); (case aL => have := aZ.1; omega); intro b1 b5 ho hb hg hat; rw [← a0.1] at ho; have _ := Q_ (Kd.R_over' (pr_ (Kd.R_mono (Kd.R_far (p := ⟨E, 1, none⟩) (Kd.R_far (p := ⟨E, 3, none⟩) (Kd.R_far (p := ⟨E, 2, none⟩) (Kd.R_far (p := ⟨E, 1, none⟩) (Kd.R_far (p := ⟨E, 0, none⟩) (Kd.R_types J.1 Y.1 (by decide)) (fun _ hk => hk.2) (.int .i64 ((rd_T78 l r).f0))) (fun _ hk => hk.2) (.bool ((rd_T78 l r).f1))) (fun _ hk => hk.2) (.int .i64 ((rd_T78 l r).f2))) (fun _ hk => hk.2) (.int .i64 ((rd_T78 l r).f3))) (fun _ hk => hk.2) (.bool (!((rd_T78 l r).f1)))) (fun _ h_ => h_.1))) (Kd.R_typed (by (with_reducible repeat (first | apply Kd.R_alloc | apply Kd.R_drewN | apply Kd.R_drew)); exact (Kd.R_mono (Kd.R_far (p := ⟨E, 1, none⟩) (Kd.R_far (p := ⟨E, 3, none⟩) (Kd.R_far (p := ⟨E, 2, none⟩) (Kd.R_far (p := ⟨E, 1, none⟩) (Kd.R_far (p := ⟨E, 0, none⟩) (Kd.R_mono x.1 (fun k_ hk => (⟨hk, hk.2⟩ : _ ∧ k_ ≠ E))) (fun _ hk => hk.2) (.int .i64 ((rd_T78 l r).f0))) (fun _ hk => hk.2) (.bool ((rd_T78 l r).f1))) (fun _ hk => hk.2) (.int .i64 ((rd_T78 l r).f2))) (fun _ hk => hk.2) (.int .i64 ((rd_T78 l r).f3))) (fun _ hk => hk.2) (.bool (!((rd_T78 l r).f1)))) (fun _ h_ => h_.1)))) (by decide) hg); have _ := Q_ (blk_grown (g := v) (o := .cells #[.int .i64 F, .slice O B.length P, .slice (some a1) l.length Q] 34 (0, 0)) (pp_ a.1) hg (Kd.R_ne x.1 a.1 (by decide))); have _ := Q_ (blk_grown (g := I) (o := .cells #[.int .i64 0, .slice none 0 0, .slice none 0 0] 34 (0, 0)) (pp_ c.1) hg (Kd.R_ne x.1 c.1 (by decide))); have _ := Q_ (blk_grown (g := d) (o := .cells #[.int .i64 F, .slice av T.length aw, V] 34 (0, 0)) (pp_ q.1) hg (Kd.R_ne x.1 q.1 (by decide))); have _ := Q_ (blk_grown (g := E) (o := .cells #[.int .i64 ((rd_T78 l r).f0), .bool (!((rd_T78 l r).f1)), .int .i64 ((rd_T78 l r).f2), .int .i64 ((rd_T78 l r).f3)] 78 (0, 0)) (pp_ Y.1) hg (Kd.R_away x.1 (fun _ hk => hk.2))); have _ := Q_ (hb); have aC := Q_ (ho); clear J a c q Y HB x; rename_i J a c q Y HB; clear ho hb hg hat; obtain ⟨aA, aG, bb⟩ := Kd.R_slice aC.1; subst bb; have bC := bc3_ q.1))
 go_roundg k1
 case measure => have := a7.1; omega
 case rel => exact ⟨(wrap64 (r + 1)), (am), (.slice aA am.length aG), el_, H', ⟨by have := a7.1; omega⟩, ⟨pr_ (Kd.R_mono (Kd.R_far (p := ⟨d, 2, none⟩) (Kd.R_types J.1 q.1 (by decide)) (fun _ hk => hk.2) (.slice aA am.length aG)) (fun _ hk => trivial))⟩, ⟨pr_ (Kd.R_mono (Kd.R_far (p := ⟨d, 2, none⟩) (Kd.R_types aC.1 q.1 (by decide)) (fun _ hk => hk.2) (.slice aA am.length aG)) (fun _ hk => trivial))⟩, ⟨pp_ a.1⟩, ⟨pp_ c.1⟩, ⟨pp_ q.1⟩, ⟨pb4_ HB.1 s.1 u.1 D.1 an.1⟩⟩

end Go.Proofs.Ytldcchjbaglppaa.Print
