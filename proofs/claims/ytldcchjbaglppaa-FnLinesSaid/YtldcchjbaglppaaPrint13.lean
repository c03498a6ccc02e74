-- Written by a program of this session (printx.py) out of the translation; Lean checks it.
import Derived.Test.YtldcchjbaglppaaPrint0
namespace Go.Proofs.Ytldcchjbaglppaa.Print
open Go.RowKit Go.Proofs.YtldcchjbaglppaaW.PrintWords Go.Proofs.YtldcchjbaglppaaW.PrintLast Go.Proofs.YtldcchjbaglppaaW.PrintMore Go.Proofs.Ytldcchjbaglppaa.Short
attribute [local go_sem] max2_int min2_int max_two min_two max_three min_three max_four min_four   -- for this text's walks alone
set_option linter.unusedVariables false
set_option maxHeartbeats 8000000
set_option maxRecDepth 100000
set_option linter.unusedSimpArgs false

/-! ### spec_l4Put: function 84 -/
def spec_l4Put.l0 : Nat → List Int → Int → Int → Option (List Int)
 | 0, _, _, _ => none
 | k + 1, a, m, b => if b < (a.length : Int) then (if 0 ≤ b then (if (rd a b) < m then (spec_l4Put.l0 k a m (wrap64 (b + 1))) else (if (rd a b) = m then ((some (([] : List Int) : List Int)).bind fun c => (if c.length + a.length < 17592186044416 then (some (c ++ a)) else (none))) else ((some (([] : List Int) : List Int)).bind fun d => (if b ≤ (a.length : Int) then (if d.length + (a.take (b : Int).toNat).length < 17592186044416 then ((some (d ++ (a.take (b : Int).toNat) : List Int)).bind fun e => ((some (([m] : List Int) : List Int)).bind fun f => (if e.length + f.length < 17592186044416 then ((some (e ++ f : List Int)).bind fun g => (if g.length + (a.drop (b : Int).toNat).length < 17592186044416 then (some (g ++ (a.drop (b : Int).toNat))) else (none))) else (none)))) else (none)) else (none))))) else (none)) else ((some (([] : List Int) : List Int)).bind fun h => (if 0 ≤ b then (if b ≤ (a.length : Int) then (if h.length + (a.take (b : Int).toNat).length < 17592186044416 then ((some (h ++ (a.take (b : Int).toNat) : List Int)).bind fun i => ((some (([m] : List Int) : List Int)).bind fun j => (if i.length + j.length < 17592186044416 then ((some (i ++ j : List Int)).bind fun l => (if l.length + (a.drop (b : Int).toNat).length < 17592186044416 then (some (l ++ (a.drop (b : Int).toNat))) else (none))) else (none)))) else (none)) else (none)) else (none)))
def spec_l4Put.f (k : Nat) (b : List Int) (a : Int) : Option (List Int) := spec_l4Put.l0 k b a 0
theorem spec_l4Put.mono_l : ∀ k, (∀ a b c, LeO (spec_l4Put.l0 k a b c) (spec_l4Put.l0 (k + 1) a b c))
 | 0 => fun _ _ _ r h => by simp [spec_l4Put.l0] at h
 | k + 1 => by
  have ih0 := spec_l4Put.mono_l k
  ·intro a b c
   unfold spec_l4Put.l0
   exact mo1_ ih0
theorem spec_l4Put.mono : ∀ a b k, LeO (spec_l4Put.f k a b) (spec_l4Put.f (k + 1) a b) := by
 intro a b k
 have ih0 := spec_l4Put.mono_l k
 unfold spec_l4Put.f
 exact mo1_ ih0
def spec_l4Put.T6 : Bool × List (List Nat × List Nat) := (true, [([], []), ([], []), ([], []), ([1, 2], [1, 2]), ([0, 3], [0, 3]), ([], []), ([5], [5]), ([4, 6, 4], [4, 6]), ([], []), ([], []), ([8, 9], [8, 9]), ([7, 10, 7], [7, 10]), ([11, 11, 0, 1, 2, 3, 4, 5, 6, 7, 8, 9, 10, 11], [11])])
def spec_l4Put.B6 : List Nat := [0, 0, 0, 6, 15, 0, 32, 127, 0, 0, 768, 2047, 4095]
theorem spec_l4Put.tab6 : rtab .any (opsOf Try.f84 6) = spec_l4Put.T6 := by kernel_rfl
theorem spec_l4Put.bits6 : waitsOk spec_l4Put.T6.2 spec_l4Put.B6 = true := by kernel_rfl
theorem spec_l4Put.calls (k : Nat) (A0 : Option Addr) (c0 : Nat) (c : List Int) (B : Int) (r : List Int) (w : World) (hr0 : Kd.C (Kd.int .i64) w A0 c.length c) (bp : c.length ≤ c0) (h : spec_l4Put.f k c B = some r) :
  Calls Try.prog 84 #[.slice A0 c.length c0, .int .i64 B] w fun e w' => ∃ v0_ : Value, e = .returned (v0_) ∧ Kd.R (Kd.int .i64) 3 w' w.heap.size (fun _ => True) v0_ r ∧ Below w.heap.size w w' := by
 have ae := Q_ hr0
 have aJ := Q_ bp
 clear hr0 bp
 have HB := Q_ (Below.refl w.heap.size w)
 have H : (spec_l4Put.l0 k c B 0) = some r := h
 clear h
 have H' := Q_ H
 clear H
 go_enter Try.func84, Try.ntmps84
 go_wp2
 go_loopg [5] k (fun kq v5 w' => ∃ (a : Int), v5 = .int .i64 a ∧ Aside0 (spec_l4Put.l0 kq c B a = some r) ∧ Aside0 (kq ≤ k) ∧ Aside0 (Below w.heap.size w w'))
 case atStart => exact ⟨(0), el_, H', ⟨Nat.le_refl _⟩, ⟨pb_ HB.1⟩⟩
 clear H'
 obtain ⟨a, rfl, HA, bk, HB⟩ := hrel
 rcases gk with _ | k1
 ·exact absurd HA.1 (by simp [spec_l4Put.l0])
 have H := HA.1
 clear HA
 simp only [spec_l4Put.l0] at H
 by_cases c3 : a < (c.length : Int)
 rotate_left
 ·rw [if_neg c3] at H
  have bm := decide_eq_false c3
  clear c3
  obtain ⟨ad, hy418⟩ : ∃ y_ : List Int, y_ = (([] : List Int)) := ⟨_, rfl⟩
  replace H : (if 0 ≤ a then (if a ≤ (c.length : Int) then (if ad.length + (c.take (a : Int).toNat).length < 17592186044416 then ((some (ad ++ (c.take (a : Int).toNat) : List Int)).bind fun E => ((some (([B] : List Int) : List Int)).bind fun t => (if E.length + t.length < 17592186044416 then ((some (E ++ t : List Int)).bind fun v => (if v.length + (c.drop (a : Int).toNat).length < 17592186044416 then (some (v ++ (c.drop (a : Int).toNat))) else (none))) else (none)))) else (none)) else (none)) else (none)) = some r := hb_ hy418 H
  have ak := Q_ hy418
  clear hy418
  by_cases c4 : 0 ≤ a
  rotate_left
  ·rw [if_neg c4] at H
   exact nn_ H
  rw [if_pos c4] at H
  have bQ := eq_true c4
  have bR : decide (0 ≤ a) = true := decide_eq_true c4
  clear c4
  by_cases c5 : a ≤ (c.length : Int)
  rotate_left
  ·rw [if_neg c5] at H
   exact nn_ H
  rw [if_pos c5] at H
  have bS := eq_true c5
  have bT : decide (a ≤ (c.length : Int)) = true := decide_eq_true c5
  clear c5
  by_cases c6 : ad.length + (c.take (a : Int).toNat).length < 17592186044416
  rotate_left
  ·rw [if_neg c6] at H
   exact nn_ H
  rw [if_pos c6] at H
  have az := Q_ c6
  clear c6
  obtain ⟨E, hy422⟩ : ∃ y_ : List Int, y_ = (ad ++ (c.take (a : Int).toNat)) := ⟨_, rfl⟩
  replace H : ((some (([B] : List Int) : List Int)).bind fun t => (if E.length + t.length < 17592186044416 then ((some (E ++ t : List Int)).bind fun v => (if v.length + (c.drop (a : Int).toNat).length < 17592186044416 then (some (v ++ (c.drop (a : Int).toNat))) else (none))) else (none))) = some r := hb_ hy422 H
  have aq := Q_ hy422
  clear hy422
  obtain ⟨t, hy425⟩ : ∃ y_ : List Int, y_ = (([B] : List Int)) := ⟨_, rfl⟩
  replace H : (if E.length + t.length < 17592186044416 then ((some (E ++ t : List Int)).bind fun v => (if v.length + (c.drop (a : Int).toNat).length < 17592186044416 then (some (v ++ (c.drop (a : Int).toNat))) else (none))) else (none)) = some r := hb_ hy425 H
  have W := Q_ hy425
  clear hy425
  by_cases c7 : E.length + t.length < 17592186044416
  rotate_left
  ·rw [if_neg c7] at H
   exact nn_ H
  rw [if_pos c7] at H
  have bl := Q_ c7
  clear c7
  obtain ⟨v, hy428⟩ : ∃ y_ : List Int, y_ = (E ++ t) := ⟨_, rfl⟩
  replace H : (if v.length + (c.drop (a : Int).toNat).length < 17592186044416 then (some (v ++ (c.drop (a : Int).toNat))) else (none)) = some r := hb_ hy428 H
  have bb := Q_ hy428
  clear hy428
  have bU := eq_true (dt_ : 0 ≤ a)
  have bV := eq_true (dt_ : a ≤ (c.length : Int))
  by_cases aK : v.length + (c.drop (a : Int).toNat).length < 17592186044416
  rotate_left
  ·rw [if_neg aK] at H
   exact nn_ H
  rw [if_pos aK] at H
  have a4 := Q_ aK
  clear aK
  obtain ⟨bx, hy432⟩ : ∃ y_ : List Int, y_ = (v ++ (c.drop (a : Int).toNat)) := ⟨_, rfl⟩
  replace H : (some bx) = some r := hb_ hy432 H
  have bc := Q_ hy432
  clear hy432
  obtain rfl := Option.some.inj H
  try go_wp2
  have _ := Q_ (below_drew1 HB.1)
  clear HB
  rename_i HB
  obtain ⟨i012, aE, _, hsz12, _⟩ := info_parts info3
  obtain ⟨hcut12, hA12, hC12⟩ := print_take_of (P := Try.prog) (Value.int .i64) 0 39 3 .i64 Try.underlying39 aE hsz12 A0 c0 c a dt_ dt_ aJ.1
  have y := Q_ (Kd.C_of_reads (h1 := fun _ => rfl) (hA12 _ (Kd.reads_of_C ae.1)))
  have bE := Q_ hC12
  clear hA12 hC12 aE hsz12
  obtain ⟨i013, aG, _, hsz13, _⟩ := info_parts info3
  obtain ⟨bZ, hcut13, hA13, hC13⟩ := print_drop_of (P := Try.prog) (Value.int .i64) 0 39 3 .i64 Try.underlying39 aG hsz13 A0 c0 c a dt_ dt_ aJ.1
  have ai := Q_ (Kd.C_of_reads (h1 := fun _ => rfl) (hA13 _ (Kd.reads_of_C ae.1)))
  have bF := Q_ hC13
  clear hA13 hC13 aG hsz13
  refine start_ (n := 13) (S := fun w' => True) (ds := []) (tf_ 0 13) (by kernel_rfl) rfl rfl trivial (fun hHeld => ?_); refine with_tabW spec_l4Put.tab6 spec_l4Put.bits6 (fun HT_ HW_ => ?_)
  generalize wr.drew = b2 at HB y ai hHeld ⊢
  refine pu1_ 1 36 13 2 ?_
  refine pu1_ 2 37 13 6 ?_
  refine pu1_ 3 38 13 14 ?_
  refine pu1_ 5 40 13 46 ?_
  refine pu1_ 8 43 13 302 ?_
  refine pu1_ 9 44 13 814 ?_
  refine pu1_ 10 45 13 1838 ?_
  refine join_ (σ := Value × Value × Value) 3 #[true, true, true, true, true, true, true, false, true, true, true, false, false] (fun s_ => [(35, s_.1), (39, s_.2.1), (41, s_.2.2)]) (fun s_ w' => (Kd.R (Kd.int .i64) 3 w' w.heap.size (fun k_ => some k_ ≠ (s_.2.2 : Value).ownBlock) s_.2.1 E) ∧ (Kd.R (Kd.int .i64) 3 w' w.heap.size (fun k_ => some k_ ≠ (s_.2.1 : Value).ownBlock) s_.2.2 t) ∧ (Below w.heap.size w w')) ?_ ?_
  rotate_left
  ·intro hCont
   refine two_ (i := 0) (j := 6) (Ni := some 35) (Nj := some 41) #[true, true, true, true, false, true, false, false, true, true, true, false, false] #[false, true, true, true, false, true, true, false, true, true, true, false, false] rfl rfl rfl rfl (two_of HT_.1 (by kernel_rfl)) (by decide) (by decide) (fun K hK => ?_) (fun K hK => ?_)
   ·skip
    refine Kd.R_lit_step (Kd.int .i64) _ 3 ?hg (N := 35) ?hd (xs := ([] : List Int)) (inner := []) (ok := fun _ => True) (okp := fun _ => True) ?hr ?hp (fun _ hk => hk) trivial (Below.refl _ _) (Nat.le_refl _) (by simp) ?_; (case hd => rfl); (case hg => rfl); (case hr => first | (go_simp; done) | (go_simp; rfl)); (case hp => exact (Reps.none _ _))
    intro Z bM F hb hg_ hnew_
    clear hg_ hnew_
    (first | rw [← ak.1] at F | (simp only [Int.reduceToNat] at F; rw [← ak.1] at F))
    have _ := Q_ (Kd.R_lower F (below_size (pb_ HB.1)))
    have _ := Q_ (below_step (pb_ HB.1) hb)
    clear HB
    rename_i q HB
    clear hb F
    refine hK.out _ _ trivial (fun hHeld => ?_)
    clear hK K
    refine no_ (some 35) ?_
    refine two_ (i := 4) (j := 6) (Ni := some 39) (Nj := some 41) #[true, true, true, true, true, true, false, false, true, true, true, false, false] #[true, true, true, true, false, true, true, false, true, true, true, false, false] rfl rfl rfl rfl (two_of HT_.1 (by kernel_rfl)) (by decide) (by decide) (fun K hK => ?_) (fun K hK => ?_)
    ·skip
     refine Kd.R_append_rows_step (Kd.int .i64) (w0 := w) w.heap.size (by rfl) (.tmp 35) (.tmp 38) 39 3 (.int .i64 0) 8 rfl Try.underlying39 info3 rfl (by decide) (by omega) Z ad (c.take (a : Int).toNat) _ _ _ (fun _ => True) (fun _ => False) rfl rfl ?aO ?aR (fun _ _ h => h) (fun _ h => h.elim) ?aF ?aB ?aS ?aL ?_
     (case aR => first | ((conv => (arg 5; rw [← show (c.take (a : Int).toNat).length = a.toNat from (by rw [List.length_take]; have h_ : (a : Int) ≤ (c.length : Int) := dt_; omega)])); exact cb_ y HB) | (rw [← show (c.take (a : Int).toNat).length = a.toNat from (by rw [List.length_take]; have h_ : (a : Int) ≤ (c.length : Int) := dt_; omega)]; exact cb_ y HB) | (exact cb_ y HB))
     (case aB => exact (pb_ HB.1))
     (case aF => exact (fun _ _ => trivial))
     (case aO => exact (pr_ q.1))
     (case aS => exact (below_size (pb_ HB.1)))
     (case aL => have := az.1; have hlx_ := (show (c.take (a : Int).toNat).length = a.toNat from (by rw [List.length_take]; have h_ : (a : Int) ≤ (c.length : Int) := dt_; omega)); omega)
     intro U bt ho hb hg hat
     rw [← aq.1] at ho
     have _ := Q_ (hb)
     have _ := Q_ (ho)
     clear HB q
     rename_i HB o
     clear ho hb hg hat
     refine hK.out _ _ trivial (fun hHeld => ?_)
     clear hK K
     refine no_ (some 39) ?_
     refine on_ 6 (some 41) (tm_ 13 1919) HT_ (fun K hK => ?_)
     refine Kd.R_lit_step (Kd.int .i64) _ 3 ?hg (N := 41) ?hd (xs := ([B] : List Int)) (inner := [.int .i64 B]) (ok := fun _ => True) (okp := fun _ => True) ?hr ?hp (fun _ hk => hk) trivial (Below.refl _ _) (Nat.le_refl _) (by simp) ?_; (case hd => rfl); (case hg => rfl); (case hr => first | (go_simp; done) | (go_simp; rfl)); (case hp => exact (Reps.one (show Kd.M (Kd.int .i64) _ _ _ B [.int .i64 B] from rfl) (Reps.none _ _)))
     intro Q b3 af hb hg_ hnew_
     clear hg_ hnew_
     (first | rw [← W.1] at af | (simp only [Int.reduceToNat] at af; rw [← W.1] at af))
     have _ := Q_ (Kd.R_elder' (pr_ o.1) (Kd.R_base af) hb)
     have _ := Q_ (Kd.R_lower (Kd.R_new' af (Kd.R_lt (pr_ o.1))) (below_size (pb_ HB.1)))
     have _ := Q_ (below_step (pb_ HB.1) hb)
     clear o HB
     rename_i o g HB
     clear hb af
     refine hK.out _ _ trivial (fun hHeld => ?_)
     clear hK K
     refine no_ (some 41) ?_
     exact norm_ (by simp only [putAll, Act.put, List.setIfInBounds_toArray, List.set_cons_zero, List.set_cons_succ]) (hCont (Z, U, Q) _ ⟨(pr_ (Kd.R_mono o.1 (fun _ hk => hk.2))), (pr_ (Kd.R_mono g.1 (fun _ hk => hk.2))), (pb_ HB.1)⟩)
    ·skip
     refine Kd.R_lit_step (Kd.int .i64) _ 3 ?hg (N := 41) ?hd (xs := ([B] : List Int)) (inner := [.int .i64 B]) (ok := fun _ => True) (okp := fun _ => True) ?hr ?hp (fun _ hk => hk) trivial (Below.refl _ _) (Nat.le_refl _) (by simp) ?_; (case hd => rfl); (case hg => rfl); (case hr => first | (go_simp; done) | (go_simp; rfl)); (case hp => exact (Reps.one (show Kd.M (Kd.int .i64) _ _ _ B [.int .i64 B] from rfl) (Reps.none _ _)))
     intro Q bt z hb hg_ hnew_
     clear hg_ hnew_
     (first | rw [← W.1] at z | (simp only [Int.reduceToNat] at z; rw [← W.1] at z))
     have _ := Q_ (Kd.R_elder' (pr_ q.1) (Kd.R_base z) hb)
     have _ := Q_ (Kd.R_lower (Kd.R_new' z (Kd.R_lt (pr_ q.1))) (below_size (pb_ HB.1)))
     have _ := Q_ (below_step (pb_ HB.1) hb)
     clear q HB
     rename_i q g HB
     clear hb z
     refine hK.out _ _ trivial (fun hHeld => ?_)
     clear hK K
     refine no_ (some 41) ?_
     refine on_ 4 (some 39) (tm_ 13 1919) HT_ (fun K hK => ?_)
     refine Kd.R_append_rows_step (Kd.int .i64) (w0 := w) w.heap.size (by rfl) (.tmp 35) (.tmp 38) 39 3 (.int .i64 0) 8 rfl Try.underlying39 info3 rfl (by decide) (by omega) Z ad (c.take (a : Int).toNat) _ _ _ (fun k_ => some k_ ≠ (Q : Value).ownBlock) (fun _ => False) rfl rfl ?aO ?aR (fun _ _ h => h) (fun _ h => h.elim) ?aF ?aB ?aS ?aL ?_
     (case aR => first | ((conv => (arg 5; rw [← show (c.take (a : Int).toNat).length = a.toNat from (by rw [List.length_take]; have h_ : (a : Int) ≤ (c.length : Int) := dt_; omega)])); exact cb_ y HB) | (rw [← show (c.take (a : Int).toNat).length = a.toNat from (by rw [List.length_take]; have h_ : (a : Int) ≤ (c.length : Int) := dt_; omega)]; exact cb_ y HB) | (exact cb_ y HB))
     (case aB => exact (pb_ HB.1))
     (case aF => exact (fun k_ hk => Kd.fresh' (Kd.R_lt (pr_ g.1)) k_ hk))
     (case aO => exact (pr_ (Kd.R_mono q.1 (fun _ hk => hk.2))))
     (case aS => exact (below_size (pb_ HB.1)))
     (case aL => have := az.1; have hlx_ := (show (c.take (a : Int).toNat).length = a.toNat from (by rw [List.length_take]; have h_ : (a : Int) ≤ (c.length : Int) := dt_; omega)); omega)
     intro U bN ho hb hg hat
     rw [← aq.1] at ho
     have _ := Q_ (Kd.R_after (ok := (fun _ => True)) (pr_ g.1) hg hat)
     have _ := Q_ (hb)
     have _ := Q_ (ho)
     clear g HB q
     rename_i g HB o
     clear ho hb hg hat
     refine hK.out _ _ trivial (fun hHeld => ?_)
     clear hK K
     refine no_ (some 39) ?_
     exact norm_ (by simp only [putAll, Act.put, List.setIfInBounds_toArray, List.set_cons_zero, List.set_cons_succ]) (hCont (Z, U, Q) _ ⟨(pr_ o.1), (pr_ (Kd.R_mono g.1 (fun _ hk => hk.2))), (pb_ HB.1)⟩)
   ·skip
    refine Kd.R_lit_step (Kd.int .i64) _ 3 ?hg (N := 41) ?hd (xs := ([B] : List Int)) (inner := [.int .i64 B]) (ok := fun _ => True) (okp := fun _ => True) ?hr ?hp (fun _ hk => hk) trivial (Below.refl _ _) (Nat.le_refl _) (by simp) ?_; (case hd => rfl); (case hg => rfl); (case hr => first | (go_simp; done) | (go_simp; rfl)); (case hp => exact (Reps.one (show Kd.M (Kd.int .i64) _ _ _ B [.int .i64 B] from rfl) (Reps.none _ _)))
    intro Q bM F hb hg_ hnew_
    clear hg_ hnew_
    (first | rw [← W.1] at F | (simp only [Int.reduceToNat] at F; rw [← W.1] at F))
    have _ := Q_ (Kd.R_lower F (below_size (pb_ HB.1)))
    have _ := Q_ (below_step (pb_ HB.1) hb)
    clear HB
    rename_i g HB
    clear hb F
    refine hK.out _ _ trivial (fun hHeld => ?_)
    clear hK K
    refine no_ (some 41) ?_
    refine on_ 0 (some 35) (tm_ 13 1903) HT_ (fun K hK => ?_)
    refine Kd.R_lit_step (Kd.int .i64) _ 3 ?hg (N := 35) ?hd (xs := ([] : List Int)) (inner := []) (ok := fun _ => True) (okp := fun _ => True) ?hr ?hp (fun _ hk => hk) trivial (Below.refl _ _) (Nat.le_refl _) (by simp) ?_; (case hd => rfl); (case hg => rfl); (case hr => first | (go_simp; done) | (go_simp; rfl)); (case hp => exact (Reps.none _ _))
    intro Z bt z hb hg_ hnew_
    clear hg_ hnew_
    (first | rw [← ak.1] at z | (simp only [Int.reduceToNat] at z; rw [← ak.1] at z))
    have _ := Q_ (Kd.R_elder' (pr_ g.1) (Kd.R_base z) hb)
    have _ := Q_ (Kd.R_lower (Kd.R_new' z (Kd.R_lt (pr_ g.1))) (below_size (pb_ HB.1)))
    have _ := Q_ (below_step (pb_ HB.1) hb)
    clear g HB
    rename_i g q HB
    clear hb z
    refine hK.out _ _ trivial (fun hHeld => ?_)
    clear hK K
    refine no_ (some 35) ?_
    refine on_ 4 (some 39) (tm_ 13 1919) HT_ (fun K hK => ?_)
    refine Kd.R_append_rows_step (Kd.int .i64) (w0 := w) w.heap.size (by rfl) (.tmp 35) (.tmp 38) 39 3 (.int .i64 0) 8 rfl Try.underlying39 info3 rfl (by decide) (by omega) Z ad (c.take (a : Int).toNat) _ _ _ (fun k_ => some k_ ≠ (Q : Value).ownBlock) (fun _ => False) rfl rfl ?aO ?aR (fun _ _ h => h) (fun _ h => h.elim) ?aF ?aB ?aS ?aL ?_
    (case aR => first | ((conv => (arg 5; rw [← show (c.take (a : Int).toNat).length = a.toNat from (by rw [List.length_take]; have h_ : (a : Int) ≤ (c.length : Int) := dt_; omega)])); exact cb_ y HB) | (rw [← show (c.take (a : Int).toNat).length = a.toNat from (by rw [List.length_take]; have h_ : (a : Int) ≤ (c.length : Int) := dt_; omega)]; exact cb_ y HB) | (exact cb_ y HB))
    (case aB => exact (pb_ HB.1))
    (case aF => exact (fun k_ hk => Kd.fresh' (Kd.R_lt (pr_ g.1)) k_ hk))
    (case aO => exact (pr_ (Kd.R_mono q.1 (fun _ hk => hk.2))))
    (case aS => exact (below_size (pb_ HB.1)))
    (case aL => have := az.1; have hlx_ := (show (c.take (a : Int).toNat).length = a.toNat from (by rw [List.length_take]; have h_ : (a : Int) ≤ (c.length : Int) := dt_; omega)); omega)
    intro U bN ho hb hg hat
    rw [← aq.1] at ho
    have _ := Q_ (Kd.R_after (ok := (fun _ => True)) (pr_ g.1) hg hat)
    have _ := Q_ (hb)
    have _ := Q_ (ho)
    clear g HB q
    rename_i g HB o
    clear ho hb hg hat
    refine hK.out _ _ trivial (fun hHeld => ?_)
    clear hK K
    refine no_ (some 39) ?_
    exact norm_ (by simp only [putAll, Act.put, List.setIfInBounds_toArray, List.set_cons_zero, List.set_cons_succ]) (hCont (Z, U, Q) _ ⟨(pr_ o.1), (pr_ (Kd.R_mono g.1 (fun _ hk => hk.2))), (pb_ HB.1)⟩)
  rintro ⟨Z, U, Q⟩ bg ⟨h0_, h1_, h2_⟩
  have n0_ : Aside0 (Kd.R (Kd.int .i64) 3 bg w.heap.size (fun k_ => some k_ ≠ (Q : Value).ownBlock) U E) := ⟨h0_⟩
  have n1_ : Aside0 (Kd.R (Kd.int .i64) 3 bg w.heap.size (fun k_ => some k_ ≠ (U : Value).ownBlock) Q t) := ⟨h1_⟩
  have n2_ : Aside0 (Below w.heap.size w bg) := ⟨h2_⟩
  clear HB
  clear h0_ h1_ h2_
  have o := n0_
  have g := n1_
  have HB := n2_
  clear n0_ n1_ n2_
  have hHeld := trivial
  obtain ⟨aU, aW, aY⟩ := Kd.R_slice g.1
  (first | subst aY | (injection aY with f1_ f2_ f3_; have f4_ := f1_.symm; have f5_ := f3_.symm; clear f1_ f2_ f3_; subst f4_; subst f5_))
  refine norm_ (a' := ?_) ?_ ?_
  rotate_left
  ·simp only [putAll, Act.put, List.setIfInBounds_toArray, List.set_cons_zero, List.set_cons_succ]
   rfl
  refine on_ 7 (some 42) (tf_ 11 13) HT_ (fun K hK => ?_)
  refine Kd.R_append_rows_step (Kd.int .i64) (w0 := w) w.heap.size (by rfl) (.tmp 39) (.tmp 41) 39 3 (.int .i64 0) 8 rfl Try.underlying39 info3 rfl (by decide) (by omega) U E t _ _ _ (fun k_ => some k_ ≠ (.slice aU t.length aW : Value).ownBlock) (fun _ => False) rfl rfl ?aO ?aR (fun _ _ h => h) (fun _ h => h.elim) ?aF ?aB ?aS ?aL ?_
  (case aR => exact pc_ ((Kd.R_reads' g.1).2.2))
  (case aB => exact (pb_ HB.1))
  (case aF => exact (fun k_ hk => Kd.fresh' (Kd.R_lt (pr_ g.1)) k_ hk))
  (case aO => exact (pr_ o.1))
  (case aS => exact (below_size (pb_ HB.1)))
  (case aL => have := bl.1; omega)
  intro bs b4 ho hb hg hat
  rw [← bb.1] at ho
  have _ := Q_ (Kd.R_after (ok := (fun _ => True)) (by (with_reducible repeat (first | apply Kd.R_alloc | apply Kd.R_drewN | apply Kd.R_drew)); exact Kd.R_mono g.1 (fun _ hk => ⟨trivial, hk⟩)) hg hat)
  have _ := Q_ (hb)
  have _ := Q_ (ho)
  clear g HB o
  rename_i g HB ay
  clear ho hb hg hat
  refine hK.out _ _ trivial (fun hHeld => ?_)
  clear hK K
  refine no_ (some 42) ?_
  refine on_ 11 (some 46) (tf_ 12 13) HT_ (fun K hK => ?_)
  refine Kd.R_append_rows_step (Kd.int .i64) (w0 := w) w.heap.size (by rfl) (.tmp 42) (.tmp 45) 39 3 (.int .i64 0) 8 rfl Try.underlying39 info3 rfl (by decide) (by omega) bs v (c.drop (a : Int).toNat) _ _ _ (fun k_ => some k_ ≠ (.slice aU t.length aW : Value).ownBlock) (fun _ => False) rfl rfl ?aO ?aR (fun _ _ h => h) (fun _ h => h.elim) ?aF ?aB ?aS ?aL ?_
  (case aR => first | ((conv => (arg 5; rw [← show (c.drop (a : Int).toNat).length = (c.length - a.toNat) from List.length_drop])); exact cb_ ai HB) | (rw [← show (c.drop (a : Int).toNat).length = (c.length - a.toNat) from List.length_drop]; exact cb_ ai HB) | (exact cb_ ai HB))
  (case aB => exact (pb_ HB.1))
  (case aF => exact (fun k_ hk => Kd.fresh' (Kd.R_lt (pr_ g.1)) k_ hk))
  (case aO => exact (pr_ ay.1))
  (case aS => exact (below_size (pb_ HB.1)))
  (case aL => have := a4.1; have hlx_ := (show (c.drop (a : Int).toNat).length = (c.length - a.toNat) from List.length_drop); omega)
  intro bY b5 ho hb hg hat
  rw [← bc.1] at ho
  have _ := Q_ (Kd.R_after (ok := (fun _ => True)) (pr_ g.1) hg hat)
  have _ := Q_ (hb)
  have _ := Q_ (ho)
  clear g HB ay
  rename_i g HB a3
  clear ho hb hg hat
  refine hK.out _ _ trivial (fun hHeld => ?_)
  clear hK K
  refine no_ (some 46) ?_
  refine pu1_ 12 4 13 8191 ?_
  refine done_ (done_of HT_.1 (by kernel_rfl)) ?_
  try go_wp2
  go_ret
  exact ⟨_, er_, pr_ (Kd.R_mono a3.1 (fun _ hk => trivial)), pb_ HB.1⟩
 rw [if_pos c3] at H
 have bm := decide_eq_true c3
 clear c3
 by_cases aM : 0 ≤ a
 rotate_left
 ·rw [if_neg aM] at H
  exact nn_ H
 rw [if_pos aM] at H
 have bG := decide_eq_true aM
 clear aM
 by_cases av : (rd c a) < B
 ·rw [if_pos av] at H
  have bd := decide_eq_true av
  clear av
  have H' := Q_ H
  clear H
  have J : 0 ≤ (a : Int) := dt_
  have L : a < (c.length : Int) := dt_
  obtain ⟨X, al, l⟩ := Kd.at_int ae.1 a J L
  cases al
  replace l := bt_ HB l
  replace J := eq_true J
  replace L := eq_true L
  go_wp2
  go_roundg k1
  case measure => have := bk.1; omega
  case rel => exact ⟨(wrap64 (a + 1)), el_, H', ⟨by have := bk.1; omega⟩, ⟨pb_ HB.1⟩⟩
 rw [if_neg av] at H
 have bd := decide_eq_false av
 clear av
 by_cases au : (rd c a) = B
 ·rw [if_pos au] at H
  have be : ((rd c a) == B) = true := beq_iff_eq.mpr au
  have bf : ((rd c a) != B) = false := bne_eq_false_iff_eq.mpr au
  clear au
  obtain ⟨an, hy395⟩ : ∃ y_ : List Int, y_ = (([] : List Int)) := ⟨_, rfl⟩
  replace H : (if an.length + c.length < 17592186044416 then (some (an ++ c)) else (none)) = some r := hb_ hy395 H
  have aA := Q_ hy395
  clear hy395
  by_cases aN : an.length + c.length < 17592186044416
  rotate_left
  ·rw [if_neg aN] at H
   exact nn_ H
  rw [if_pos aN] at H
  have a5 := Q_ aN
  clear aN
  obtain ⟨bv, hy398⟩ : ∃ y_ : List Int, y_ = (an ++ c) := ⟨_, rfl⟩
  replace H : (some bv) = some r := hb_ hy398 H
  have a8 := Q_ hy398
  clear hy398
  obtain rfl := Option.some.inj H
  have J : 0 ≤ (a : Int) := dt_
  have L : a < (c.length : Int) := dt_
  obtain ⟨X, al, l⟩ := Kd.at_int ae.1 a J L
  cases al
  replace l := bt_ HB l
  replace J := eq_true J
  replace L := eq_true L
  have aa : 0 ≤ (a : Int) := dt_
  have ab : a < (c.length : Int) := dt_
  obtain ⟨ar, aD, I⟩ := Kd.at_int ae.1 a aa ab
  obtain rfl : X = ar := (by injection aD)
  replace I := bt_ HB I
  replace aa := eq_true aa
  replace ab := eq_true ab
  go_wp2_with (first | ((with_reducible refine gate_dst (N := 32) rfl ?_); refine Kd.R_lit (Kd.int .i64) _ 3 ?hg (N := 32) ?hd (xs := ([] : List Int)) (inner := []) (ok := fun _ => True) (okp := fun _ => True) ?hr ?hp (fun _ hk => hk) trivial (Below.refl _ _) (Nat.le_refl _) (by simp) ?_; (case hd => rfl); (case hg => rfl); (case hr => first | (go_simp; done) | (go_simp; rfl)); (case hp => exact (Reps.none _ _)); intro bq b6 am hb hg_ hnew_; clear hg_ hnew_; (first | rw [← aA.1] at am | (simp only [Int.reduceToNat] at am; rw [← aA.1] at am)); have _ := Q_ (Kd.R_lower am (below_size (pb_ HB.1))); have _ := Q_ (below_step (pb_ HB.1) hb); clear HB; rename_i aw HB; clear hb am) | ((with_reducible refine gate_builtin (b := .append) (xs := #[.tmp 32, .tmp 33]) rfl ?_); at_builtin; refine Kd.R_append_rows (Kd.int .i64) (w0 := w) w.heap.size rfl (.tmp 32) (.tmp 33) 39 3 (.int .i64 0) 8 rfl Try.underlying39 info3 rfl (by decide) (by omega) bq an c _ _ _ (fun _ => True) (fun _ => False) rfl rfl ?aO ?aR (fun _ _ h => h) (fun _ h => h.elim) ?aF ?aB ?aS ?aL ?_; (case aR => exact cb_ ae HB); (case aB => exact (pb_ HB.1)); (case aF => exact (fun _ _ => trivial)); (case aO => exact (pr_ aw.1)); (case aS => exact (below_size (pb_ HB.1))); (case aL => have := a5.1; omega); intro bW b7 ho hb hg hat; rw [← a8.1] at ho; have _ := Q_ (hb); have _ := Q_ (ho); clear HB aw; rename_i HB a0; clear ho hb hg hat))
  go_ret
  exact ⟨_, er_, pr_ a0.1, pb_ HB.1⟩
 rw [if_neg au] at H
 have be : ((rd c a) == B) = false := beq_eq_false_iff_ne.mpr au
 have bf : ((rd c a) != B) = true := bne_iff_ne.mpr au
 obtain ⟨ac, hy401⟩ : ∃ y_ : List Int, y_ = (([] : List Int)) := ⟨_, rfl⟩
 replace H : (if a ≤ (c.length : Int) then (if ac.length + (c.take (a : Int).toNat).length < 17592186044416 then ((some (ac ++ (c.take (a : Int).toNat) : List Int)).bind fun D => ((some (([B] : List Int) : List Int)).bind fun s => (if D.length + s.length < 17592186044416 then ((some (D ++ s : List Int)).bind fun u => (if u.length + (c.drop (a : Int).toNat).length < 17592186044416 then (some (u ++ (c.drop (a : Int).toNat))) else (none))) else (none)))) else (none)) else (none)) = some r := hb_ hy401 H
 have aj := Q_ hy401
 clear hy401
 have bH := eq_true (dt_ : 0 ≤ a)
 by_cases aC : a ≤ (c.length : Int)
 rotate_left
 ·rw [if_neg aC] at H
  exact nn_ H
 rw [if_pos aC] at H
 have bI := eq_true aC
 have bJ : decide (a ≤ (c.length : Int)) = true := decide_eq_true aC
 clear aC
 by_cases aP : ac.length + (c.take (a : Int).toNat).length < 17592186044416
 rotate_left
 ·rw [if_neg aP] at H
  exact nn_ H
 rw [if_pos aP] at H
 have ao := Q_ aP
 clear aP
 obtain ⟨D, hy405⟩ : ∃ y_ : List Int, y_ = (ac ++ (c.take (a : Int).toNat)) := ⟨_, rfl⟩
 replace H : ((some (([B] : List Int) : List Int)).bind fun s => (if D.length + s.length < 17592186044416 then ((some (D ++ s : List Int)).bind fun u => (if u.length + (c.drop (a : Int).toNat).length < 17592186044416 then (some (u ++ (c.drop (a : Int).toNat))) else (none))) else (none))) = some r := hb_ hy405 H
 have ap := Q_ hy405
 clear hy405
 obtain ⟨s, hy408⟩ : ∃ y_ : List Int, y_ = (([B] : List Int)) := ⟨_, rfl⟩
 replace H : (if D.length + s.length < 17592186044416 then ((some (D ++ s : List Int)).bind fun u => (if u.length + (c.drop (a : Int).toNat).length < 17592186044416 then (some (u ++ (c.drop (a : Int).toNat))) else (none))) else (none)) = some r := hb_ hy408 H
 have V := Q_ hy408
 clear hy408
 by_cases aQ : D.length + s.length < 17592186044416
 rotate_left
 ·rw [if_neg aQ] at H
  exact nn_ H
 rw [if_pos aQ] at H
 have a6 := Q_ aQ
 clear aQ
 obtain ⟨u, hy411⟩ : ∃ y_ : List Int, y_ = (D ++ s) := ⟨_, rfl⟩
 replace H : (if u.length + (c.drop (a : Int).toNat).length < 17592186044416 then (some (u ++ (c.drop (a : Int).toNat))) else (none)) = some r := hb_ hy411 H
 have a9 := Q_ hy411
 clear hy411
 have bK := eq_true (dt_ : 0 ≤ a)
 have bL := eq_true (dt_ : a ≤ (c.length : Int))
 by_cases aT : u.length + (c.drop (a : Int).toNat).length < 17592186044416
 rotate_left
 ·rw [if_neg aT] at H
  exact nn_ H
 rw [if_pos aT] at H
 have a7 := Q_ aT
 clear aT
 obtain ⟨bw, hy415⟩ : ∃ y_ : List Int, y_ = (u ++ (c.drop (a : Int).toNat)) := ⟨_, rfl⟩
 replace H : (some bw) = some r := hb_ hy415 H
 have ba := Q_ hy415
 clear hy415
 obtain rfl := Option.some.inj H
 have J : 0 ≤ (a : Int) := dt_
 have L : a < (c.length : Int) := dt_
 obtain ⟨X, al, l⟩ := Kd.at_int ae.1 a J L
 cases al
 replace l := bt_ HB l
 replace J := eq_true J
 replace L := eq_true L
 have aa : 0 ≤ (a : Int) := dt_
 have ab : a < (c.length : Int) := dt_
 obtain ⟨ar, aD, I⟩ := Kd.at_int ae.1 a aa ab
 obtain rfl : X = ar := (by injection aD)
 replace I := bt_ HB I
 replace aa := eq_true aa
 replace ab := eq_true ab
 try go_wp2
 have _ := Q_ (below_drew1 HB.1)
 clear HB
 rename_i HB
 obtain ⟨i038, aH, _, hsz38, _⟩ := info_parts info3
 obtain ⟨hcut38, hA38, hC38⟩ := print_take_of (P := Try.prog) (Value.int .i64) 0 39 3 .i64 Try.underlying39 aH hsz38 (some X) c0 c a dt_ dt_ aJ.1
 have x := Q_ (Kd.C_of_reads (h1 := fun _ => rfl) (hA38 _ (Kd.reads_of_C ae.1)))
 have bC := Q_ hC38
 clear hA38 hC38 aH hsz38
 obtain ⟨i039, aI, _, hsz39, _⟩ := info_parts info3
 obtain ⟨b0, hcut39, hA39, hC39⟩ := print_drop_of (P := Try.prog) (Value.int .i64) 0 39 3 .i64 Try.underlying39 aI hsz39 (some X) c0 c a dt_ dt_ aJ.1
 have ah := Q_ (Kd.C_of_reads (h1 := fun _ => rfl) (hA39 _ (Kd.reads_of_C ae.1)))
 have bD := Q_ hC39
 clear hA39 hC39 aI hsz39
 refine start_ (n := 13) (S := fun w' => True) (ds := []) (tf_ 0 13) (by kernel_rfl) rfl rfl trivial (fun hHeld => ?_); refine with_tabW spec_l4Put.tab6 spec_l4Put.bits6 (fun HT_ HW_ => ?_)
 generalize wr.drew = b8 at HB x ah hHeld ⊢
 refine pu1_ 1 36 13 2 ?_
 refine pu1_ 2 37 13 6 ?_
 refine pu1_ 3 38 13 14 ?_
 refine pu1_ 5 40 13 46 ?_
 refine pu1_ 8 43 13 302 ?_
 refine pu1_ 9 44 13 814 ?_
 refine pu1_ 10 45 13 1838 ?_
 refine join_ (σ := Value × Value × Value) 3 #[true, true, true, true, true, true, true, false, true, true, true, false, false] (fun s_ => [(35, s_.1), (39, s_.2.1), (41, s_.2.2)]) (fun s_ w' => (Kd.R (Kd.int .i64) 3 w' w.heap.size (fun k_ => some k_ ≠ (s_.2.2 : Value).ownBlock) s_.2.1 D) ∧ (Kd.R (Kd.int .i64) 3 w' w.heap.size (fun k_ => some k_ ≠ (s_.2.1 : Value).ownBlock) s_.2.2 s) ∧ (Below w.heap.size w w')) ?_ ?_
 rotate_left
 ·intro hCont
  refine two_ (i := 0) (j := 6) (Ni := some 35) (Nj := some 41) #[true, true, true, true, false, true, false, false, true, true, true, false, false] #[false, true, true, true, false, true, true, false, true, true, true, false, false] rfl rfl rfl rfl (two_of HT_.1 (by kernel_rfl)) (by decide) (by decide) (fun K hK => ?_) (fun K hK => ?_)
  ·skip
   refine Kd.R_lit_step (Kd.int .i64) _ 3 ?hg (N := 35) ?hd (xs := ([] : List Int)) (inner := []) (ok := fun _ => True) (okp := fun _ => True) ?hr ?hp (fun _ hk => hk) trivial (Below.refl _ _) (Nat.le_refl _) (by simp) ?_; (case hd => rfl); (case hg => rfl); (case hr => first | (go_simp; done) | (go_simp; rfl)); (case hp => exact (Reps.none _ _))
   intro Y bO G hb hg_ hnew_
   clear hg_ hnew_
   (first | rw [← aj.1] at G | (simp only [Int.reduceToNat] at G; rw [← aj.1] at G))
   have _ := Q_ (Kd.R_lower G (below_size (pb_ HB.1)))
   have _ := Q_ (below_step (pb_ HB.1) hb)
   clear HB
   rename_i p HB
   clear hb G
   refine hK.out _ _ trivial (fun hHeld => ?_)
   clear hK K
   refine no_ (some 35) ?_
   refine two_ (i := 4) (j := 6) (Ni := some 39) (Nj := some 41) #[true, true, true, true, true, true, false, false, true, true, true, false, false] #[true, true, true, true, false, true, true, false, true, true, true, false, false] rfl rfl rfl rfl (two_of HT_.1 (by kernel_rfl)) (by decide) (by decide) (fun K hK => ?_) (fun K hK => ?_)
   ·skip
    refine Kd.R_append_rows_step (Kd.int .i64) (w0 := w) w.heap.size (by rfl) (.tmp 35) (.tmp 38) 39 3 (.int .i64 0) 8 rfl Try.underlying39 info3 rfl (by decide) (by omega) Y ac (c.take (a : Int).toNat) _ _ _ (fun _ => True) (fun _ => False) rfl rfl ?aO ?aR (fun _ _ h => h) (fun _ h => h.elim) ?aF ?aB ?aS ?aL ?_
    (case aR => first | ((conv => (arg 5; rw [← show (c.take (a : Int).toNat).length = a.toNat from (by rw [List.length_take]; have h_ : (a : Int) ≤ (c.length : Int) := dt_; omega)])); exact cb_ x HB) | (rw [← show (c.take (a : Int).toNat).length = a.toNat from (by rw [List.length_take]; have h_ : (a : Int) ≤ (c.length : Int) := dt_; omega)]; exact cb_ x HB) | (exact cb_ x HB))
    (case aB => exact (pb_ HB.1))
    (case aF => exact (fun _ _ => trivial))
    (case aO => exact (pr_ p.1))
    (case aS => exact (below_size (pb_ HB.1)))
    (case aL => have := ao.1; have hlx_ := (show (c.take (a : Int).toNat).length = a.toNat from (by rw [List.length_take]; have h_ : (a : Int) ≤ (c.length : Int) := dt_; omega)); omega)
    intro T bu ho hb hg hat
    rw [← ap.1] at ho
    have _ := Q_ (hb)
    have _ := Q_ (ho)
    clear HB p
    rename_i HB m
    clear ho hb hg hat
    refine hK.out _ _ trivial (fun hHeld => ?_)
    clear hK K
    refine no_ (some 39) ?_
    refine on_ 6 (some 41) (tm_ 13 1919) HT_ (fun K hK => ?_)
    refine Kd.R_lit_step (Kd.int .i64) _ 3 ?hg (N := 41) ?hd (xs := ([B] : List Int)) (inner := [.int .i64 B]) (ok := fun _ => True) (okp := fun _ => True) ?hr ?hp (fun _ hk => hk) trivial (Below.refl _ _) (Nat.le_refl _) (by simp) ?_; (case hd => rfl); (case hg => rfl); (case hr => first | (go_simp; done) | (go_simp; rfl)); (case hp => exact (Reps.one (show Kd.M (Kd.int .i64) _ _ _ B [.int .i64 B] from rfl) (Reps.none _ _)))
    intro O b9 ag hb hg_ hnew_
    clear hg_ hnew_
    (first | rw [← V.1] at ag | (simp only [Int.reduceToNat] at ag; rw [← V.1] at ag))
    have _ := Q_ (Kd.R_elder' (pr_ m.1) (Kd.R_base ag) hb)
    have _ := Q_ (Kd.R_lower (Kd.R_new' ag (Kd.R_lt (pr_ m.1))) (below_size (pb_ HB.1)))
    have _ := Q_ (below_step (pb_ HB.1) hb)
    clear m HB
    rename_i m d HB
    clear hb ag
    refine hK.out _ _ trivial (fun hHeld => ?_)
    clear hK K
    refine no_ (some 41) ?_
    exact norm_ (by simp only [putAll, Act.put, List.setIfInBounds_toArray, List.set_cons_zero, List.set_cons_succ]) (hCont (Y, T, O) _ ⟨(pr_ (Kd.R_mono m.1 (fun _ hk => hk.2))), (pr_ (Kd.R_mono d.1 (fun _ hk => hk.2))), (pb_ HB.1)⟩)
   ·skip
    refine Kd.R_lit_step (Kd.int .i64) _ 3 ?hg (N := 41) ?hd (xs := ([B] : List Int)) (inner := [.int .i64 B]) (ok := fun _ => True) (okp := fun _ => True) ?hr ?hp (fun _ hk => hk) trivial (Below.refl _ _) (Nat.le_refl _) (by simp) ?_; (case hd => rfl); (case hg => rfl); (case hr => first | (go_simp; done) | (go_simp; rfl)); (case hp => exact (Reps.one (show Kd.M (Kd.int .i64) _ _ _ B [.int .i64 B] from rfl) (Reps.none _ _)))
    intro O bu A hb hg_ hnew_
    clear hg_ hnew_
    (first | rw [← V.1] at A | (simp only [Int.reduceToNat] at A; rw [← V.1] at A))
    have _ := Q_ (Kd.R_elder' (pr_ p.1) (Kd.R_base A) hb)
    have _ := Q_ (Kd.R_lower (Kd.R_new' A (Kd.R_lt (pr_ p.1))) (below_size (pb_ HB.1)))
    have _ := Q_ (below_step (pb_ HB.1) hb)
    clear p HB
    rename_i p d HB
    clear hb A
    refine hK.out _ _ trivial (fun hHeld => ?_)
    clear hK K
    refine no_ (some 41) ?_
    refine on_ 4 (some 39) (tm_ 13 1919) HT_ (fun K hK => ?_)
    refine Kd.R_append_rows_step (Kd.int .i64) (w0 := w) w.heap.size (by rfl) (.tmp 35) (.tmp 38) 39 3 (.int .i64 0) 8 rfl Try.underlying39 info3 rfl (by decide) (by omega) Y ac (c.take (a : Int).toNat) _ _ _ (fun k_ => some k_ ≠ (O : Value).ownBlock) (fun _ => False) rfl rfl ?aO ?aR (fun _ _ h => h) (fun _ h => h.elim) ?aF ?aB ?aS ?aL ?_
    (case aR => first | ((conv => (arg 5; rw [← show (c.take (a : Int).toNat).length = a.toNat from (by rw [List.length_take]; have h_ : (a : Int) ≤ (c.length : Int) := dt_; omega)])); exact cb_ x HB) | (rw [← show (c.take (a : Int).toNat).length = a.toNat from (by rw [List.length_take]; have h_ : (a : Int) ≤ (c.length : Int) := dt_; omega)]; exact cb_ x HB) | (exact cb_ x HB))
    (case aB => exact (pb_ HB.1))
    (case aF => exact (fun k_ hk => Kd.fresh' (Kd.R_lt (pr_ d.1)) k_ hk))
    (case aO => exact (pr_ (Kd.R_mono p.1 (fun _ hk => hk.2))))
    (case aS => exact (below_size (pb_ HB.1)))
    (case aL => have := ao.1; have hlx_ := (show (c.take (a : Int).toNat).length = a.toNat from (by rw [List.length_take]; have h_ : (a : Int) ≤ (c.length : Int) := dt_; omega)); omega)
    intro T bP ho hb hg hat
    rw [← ap.1] at ho
    have _ := Q_ (Kd.R_after (ok := (fun _ => True)) (pr_ d.1) hg hat)
    have _ := Q_ (hb)
    have _ := Q_ (ho)
    clear d HB p
    rename_i d HB m
    clear ho hb hg hat
    refine hK.out _ _ trivial (fun hHeld => ?_)
    clear hK K
    refine no_ (some 39) ?_
    exact norm_ (by simp only [putAll, Act.put, List.setIfInBounds_toArray, List.set_cons_zero, List.set_cons_succ]) (hCont (Y, T, O) _ ⟨(pr_ m.1), (pr_ (Kd.R_mono d.1 (fun _ hk => hk.2))), (pb_ HB.1)⟩)
  ·skip
   refine Kd.R_lit_step (Kd.int .i64) _ 3 ?hg (N := 41) ?hd (xs := ([B] : List Int)) (inner := [.int .i64 B]) (ok := fun _ => True) (okp := fun _ => True) ?hr ?hp (fun _ hk => hk) trivial (Below.refl _ _) (Nat.le_refl _) (by simp) ?_; (case hd => rfl); (case hg => rfl); (case hr => first | (go_simp; done) | (go_simp; rfl)); (case hp => exact (Reps.one (show Kd.M (Kd.int .i64) _ _ _ B [.int .i64 B] from rfl) (Reps.none _ _)))
   intro O bO G hb hg_ hnew_
   clear hg_ hnew_
   (first | rw [← V.1] at G | (simp only [Int.reduceToNat] at G; rw [← V.1] at G))
   have _ := Q_ (Kd.R_lower G (below_size (pb_ HB.1)))
   have _ := Q_ (below_step (pb_ HB.1) hb)
   clear HB
   rename_i d HB
   clear hb G
   refine hK.out _ _ trivial (fun hHeld => ?_)
   clear hK K
   refine no_ (some 41) ?_
   refine on_ 0 (some 35) (tm_ 13 1903) HT_ (fun K hK => ?_)
   refine Kd.R_lit_step (Kd.int .i64) _ 3 ?hg (N := 35) ?hd (xs := ([] : List Int)) (inner := []) (ok := fun _ => True) (okp := fun _ => True) ?hr ?hp (fun _ hk => hk) trivial (Below.refl _ _) (Nat.le_refl _) (by simp) ?_; (case hd => rfl); (case hg => rfl); (case hr => first | (go_simp; done) | (go_simp; rfl)); (case hp => exact (Reps.none _ _))
   intro Y bu A hb hg_ hnew_
   clear hg_ hnew_
   (first | rw [← aj.1] at A | (simp only [Int.reduceToNat] at A; rw [← aj.1] at A))
   have _ := Q_ (Kd.R_elder' (pr_ d.1) (Kd.R_base A) hb)
   have _ := Q_ (Kd.R_lower (Kd.R_new' A (Kd.R_lt (pr_ d.1))) (below_size (pb_ HB.1)))
   have _ := Q_ (below_step (pb_ HB.1) hb)
   clear d HB
   rename_i d p HB
   clear hb A
   refine hK.out _ _ trivial (fun hHeld => ?_)
   clear hK K
   refine no_ (some 35) ?_
   refine on_ 4 (some 39) (tm_ 13 1919) HT_ (fun K hK => ?_)
   refine Kd.R_append_rows_step (Kd.int .i64) (w0 := w) w.heap.size (by rfl) (.tmp 35) (.tmp 38) 39 3 (.int .i64 0) 8 rfl Try.underlying39 info3 rfl (by decide) (by omega) Y ac (c.take (a : Int).toNat) _ _ _ (fun k_ => some k_ ≠ (O : Value).ownBlock) (fun _ => False) rfl rfl ?aO ?aR (fun _ _ h => h) (fun _ h => h.elim) ?aF ?aB ?aS ?aL ?_
   (case aR => first | ((conv => (arg 5; rw [← show (c.take (a : Int).toNat).length = a.toNat from (by rw [List.length_take]; have h_ : (a : Int) ≤ (c.length : Int) := dt_; omega)])); exact cb_ x HB) | (rw [← show (c.take (a : Int).toNat).length = a.toNat from (by rw [List.length_take]; have h_ : (a : Int) ≤ (c.length : Int) := dt_; omega)]; exact cb_ x HB) | (exact cb_ x HB))
   (case aB => exact (pb_ HB.1))
   (case aF => exact (fun k_ hk => Kd.fresh' (Kd.R_lt (pr_ d.1)) k_ hk))
   (case aO => exact (pr_ (Kd.R_mono p.1 (fun _ hk => hk.2))))
   (case aS => exact (below_size (pb_ HB.1)))
   (case aL => have := ao.1; have hlx_ := (show (c.take (a : Int).toNat).length = a.toNat from (by rw [List.length_take]; have h_ : (a : Int) ≤ (c.length : Int) := dt_; omega)); omega)
   intro T bP ho hb hg hat
   rw [← ap.1] at ho
   have _ := Q_ (Kd.R_after (ok := (fun _ => True)) (pr_ d.1) hg hat)
   have _ := Q_ (hb)
   have _ := Q_ (ho)
   clear d HB p
   rename_i d HB m
   clear ho hb hg hat
   refine hK.out _ _ trivial (fun hHeld => ?_)
   clear hK K
   refine no_ (some 39) ?_
   exact norm_ (by simp only [putAll, Act.put, List.setIfInBounds_toArray, List.set_cons_zero, List.set_cons_succ]) (hCont (Y, T, O) _ ⟨(pr_ m.1), (pr_ (Kd.R_mono d.1 (fun _ hk => hk.2))), (pb_ HB.1)⟩)
 rintro ⟨Y, T, O⟩ bh ⟨h0_, h1_, h2_⟩
 have n0_ : Aside0 (Kd.R (Kd.int .i64) 3 bh w.heap.size (fun k_ => some k_ ≠ (O : Value).ownBlock) T D) := ⟨h0_⟩
 have n1_ : Aside0 (Kd.R (Kd.int .i64) 3 bh w.heap.size (fun k_ => some k_ ≠ (T : Value).ownBlock) O s) := ⟨h1_⟩
 have n2_ : Aside0 (Below w.heap.size w bh) := ⟨h2_⟩
 clear HB
 clear h0_ h1_ h2_
 have m := n0_
 have d := n1_
 have HB := n2_
 clear n0_ n1_ n2_
 have hHeld := trivial
 obtain ⟨aV, aX, aZ⟩ := Kd.R_slice d.1
 (first | subst aZ | (injection aZ with f1_ f2_ f3_; have f4_ := f1_.symm; have f5_ := f3_.symm; clear f1_ f2_ f3_; subst f4_; subst f5_))
 refine norm_ (a' := ?_) ?_ ?_
 rotate_left
 ·simp only [putAll, Act.put, List.setIfInBounds_toArray, List.set_cons_zero, List.set_cons_succ]
  rfl
 refine on_ 7 (some 42) (tf_ 11 13) HT_ (fun K hK => ?_)
 refine Kd.R_append_rows_step (Kd.int .i64) (w0 := w) w.heap.size (by rfl) (.tmp 39) (.tmp 41) 39 3 (.int .i64 0) 8 rfl Try.underlying39 info3 rfl (by decide) (by omega) T D s _ _ _ (fun k_ => some k_ ≠ (.slice aV s.length aX : Value).ownBlock) (fun _ => False) rfl rfl ?aO ?aR (fun _ _ h => h) (fun _ h => h.elim) ?aF ?aB ?aS ?aL ?_
 (case aR => exact pc_ ((Kd.R_reads' d.1).2.2))
 (case aB => exact (pb_ HB.1))
 (case aF => exact (fun k_ hk => Kd.fresh' (Kd.R_lt (pr_ d.1)) k_ hk))
 (case aO => exact (pr_ m.1))
 (case aS => exact (below_size (pb_ HB.1)))
 (case aL => have := a6.1; omega)
 intro br ca ho hb hg hat
 rw [← a9.1] at ho
 have _ := Q_ (Kd.R_after (ok := (fun _ => True)) (by (with_reducible repeat (first | apply Kd.R_alloc | apply Kd.R_drewN | apply Kd.R_drew)); exact Kd.R_mono d.1 (fun _ hk => ⟨trivial, hk⟩)) hg hat)
 have _ := Q_ (hb)
 have _ := Q_ (ho)
 clear d HB m
 rename_i d HB ax
 clear ho hb hg hat
 refine hK.out _ _ trivial (fun hHeld => ?_)
 clear hK K
 refine no_ (some 42) ?_
 refine on_ 11 (some 46) (tf_ 12 13) HT_ (fun K hK => ?_)
 refine Kd.R_append_rows_step (Kd.int .i64) (w0 := w) w.heap.size (by rfl) (.tmp 42) (.tmp 45) 39 3 (.int .i64 0) 8 rfl Try.underlying39 info3 rfl (by decide) (by omega) br u (c.drop (a : Int).toNat) _ _ _ (fun k_ => some k_ ≠ (.slice aV s.length aX : Value).ownBlock) (fun _ => False) rfl rfl ?aO ?aR (fun _ _ h => h) (fun _ h => h.elim) ?aF ?aB ?aS ?aL ?_
 (case aR => first | ((conv => (arg 5; rw [← show (c.drop (a : Int).toNat).length = (c.length - a.toNat) from List.length_drop])); exact cb_ ah HB) | (rw [← show (c.drop (a : Int).toNat).length = (c.length - a.toNat) from List.length_drop]; exact cb_ ah HB) | (exact cb_ ah HB))
 (case aB => exact (pb_ HB.1))
 (case aF => exact (fun k_ hk => Kd.fresh' (Kd.R_lt (pr_ d.1)) k_ hk))
 (case aO => exact (pr_ ax.1))
 (case aS => exact (below_size (pb_ HB.1)))
 (case aL => have := a7.1; have hlx_ := (show (c.drop (a : Int).toNat).length = (c.length - a.toNat) from List.length_drop); omega)
 intro bX cb ho hb hg hat
 rw [← ba.1] at ho
 have _ := Q_ (Kd.R_after (ok := (fun _ => True)) (pr_ d.1) hg hat)
 have _ := Q_ (hb)
 have _ := Q_ (ho)
 clear d HB ax
 rename_i d HB a2
 clear ho hb hg hat
 refine hK.out _ _ trivial (fun hHeld => ?_)
 clear hK K
 refine no_ (some 46) ?_
 refine pu1_ 12 4 13 8191 ?_
 refine done_ (done_of HT_.1 (by kernel_rfl)) ?_
 try go_wp2
 go_ret
 exact ⟨_, er_, pr_ (Kd.R_mono a2.1 (fun _ hk => trivial)), pb_ HB.1⟩

/-! ### spec_MovesFrom: function 70 -/
def spec_MovesFrom.l0 : Nat → Int → Bool → List Int → Int → Int → List Bool → List (S78) → Option (List Int)
 | 0, _, _, _, _, _, _, _ => none
 | k + 1, g, h, i, d, b, c, a => if d < (a.length : Int) then (if 0 ≤ d then (if ((rd_T78 a d).f0) = g then (if (((rd_T78 a d).f1) == h) = true then ((spec_l4Put.f k i ((rd_T78 a d).f2)).bind fun e => (spec_MovesFrom.l0 k g h e (wrap64 (d + 1)) b c a)) else (spec_MovesFrom.l0 k g h i (wrap64 (d + 1)) b c a)) else (spec_MovesFrom.l0 k g h i (wrap64 (d + 1)) b c a)) else (none)) else (some i)
def spec_MovesFrom.f (k : Nat) (a : Int) (b : List Bool) (c : List (S78)) (d : Int) (e : Bool) : Option (List Int) := spec_MovesFrom.l0 k d e (([] : List Int)) 0 a b c
theorem spec_MovesFrom.mono_l : ∀ k, (∀ a b c d e f g, LeO (spec_MovesFrom.l0 k a b c d e f g) (spec_MovesFrom.l0 (k + 1) a b c d e f g))
 | 0 => fun _ _ _ _ _ _ _ r h => by simp [spec_MovesFrom.l0] at h
 | k + 1 => by
  have ih0 := spec_MovesFrom.mono_l k
  ·intro a b c d e f g
   unfold spec_MovesFrom.l0
   exact mo2_ ih0 spec_l4Put.mono
theorem spec_MovesFrom.mono : ∀ a b c d e k, LeO (spec_MovesFrom.f k a b c d e) (spec_MovesFrom.f (k + 1) a b c d e) := by
 intro a b c d e k
 have ih0 := spec_MovesFrom.mono_l k
 unfold spec_MovesFrom.f
 exact mo2_ ih0 spec_l4Put.mono
theorem spec_MovesFrom.calls (k : Nat) (x : Int) (M : Option Addr) (P : Nat) (u : List Bool) (O : Option Addr) (Q : Nat) (b : List (S78)) (a1 : Int) (T : Bool) (r : List Int) (w : World) (hr0_1 : Kd.C Kd.bool w M u.length u) (W : u.length ≤ P) (hr0_2 : Kd.C k78 w O b.length b) (X : b.length ≤ Q) (h : spec_MovesFrom.f k x u b a1 T = some r) :
  Calls Try.prog 70 #[.agg #[.int .i64 x, .slice M u.length P, .slice O b.length Q], .int .i64 a1, .bool T] w fun e w' => ∃ v0_ : Value, e = .returned (v0_) ∧ Kd.R (Kd.int .i64) 3 w' w.heap.size (fun _ => True) v0_ r ∧ Below w.heap.size w w' := by
 have hu34 := Try.underlying34
 have aB := Q_ hr0_1
 have az := Q_ W
 clear hr0_1 W
 have v := Q_ hr0_2
 have aA := Q_ X
 clear hr0_2 X
 have HB := Q_ (Below.refl w.heap.size w)
 have H : (spec_MovesFrom.l0 k a1 T (([] : List Int)) 0 x u b) = some r := h
 clear h
 obtain ⟨ad, hy436⟩ : ∃ y_ : List Int, y_ = (([] : List Int)) := ⟨_, rfl⟩
 replace H : (spec_MovesFrom.l0 k a1 T ad 0 x u b) = some r := hb_ hy436 H
 have U := Q_ hy436
 clear hy436
 have H' := Q_ H
 clear H
 go_enter Try.func70, Try.ntmps70
 go_wp2_with (first | ((with_reducible refine gate_dst (N := 3) rfl ?_); refine bx_ 3 #[.int .i64 x, .slice M u.length P, .slice O b.length Q] 34 ?_; intro an hg w4 hbox hb; have _ := Q_ (below_step (pb_ HB.1) hb); have c := Q_ (hbox); have ae := Q_ (gw_ (w := w) hg (pb_ HB.1)); have l := ae; clear HB; rename_i HB; clear hb hbox hg) | ((with_reducible refine gate_dst (N := 9) rfl ?_); refine Kd.R_lit (Kd.int .i64) _ 3 ?hg (N := 9) ?hd (xs := ([] : List Int)) (inner := []) (ok := fun _ => True) (okp := fun _ => True) ?hr ?hp (fun _ hk => hk) trivial (Below.refl _ _) (Nat.le_refl _) (by simp) ?_; (case hd => rfl); (case hg => rfl); (case hr => first | (go_simp; done) | (go_simp; rfl)); (case hp => exact (Reps.none _ _)); intro aI w5 Y hb hg_ hnew_; clear hg_ hnew_; (first | rw [← U.1] at Y | (simp only [Int.reduceToNat] at Y; rw [← U.1] at Y)); have _ := Q_ (Kd.R_lower Y (below_size (pb1_ HB.1 l.1))); have _ := Q_ (bb_ c.1 hb); have _ := Q_ (below_step (pb1_ HB.1 l.1) hb); clear c HB; rename_i af c HB; clear hb Y))
 (try simp only [Act.put, s1_, s2_, s3_])
 go_loopg [7, 8] k (fun kq v7 v8 w' => ∃ (D : List Int) (a : Int), v8 = .int .i64 a ∧ Aside0 (spec_MovesFrom.l0 kq a1 T D a x u b = some r) ∧ Aside0 (kq ≤ k) ∧ Aside0 (Kd.R (Kd.int .i64) 3 w' w.heap.size (fun _ => True) v7 D) ∧ Aside0 (w'.heap[an]? = some (.cells #[.int .i64 x, (.slice M u.length P), (.slice O b.length Q)] 34 (0, 0))) ∧ Aside0 (Below w.heap.size w w'))
 case atStart => exact ⟨(ad), (0), el_, H', ⟨Nat.le_refl _⟩, ⟨pr_ af.1⟩, ⟨pk_ c.1⟩, ⟨pb1_ HB.1 l.1⟩⟩
 clear H'
 obtain ⟨D, a, rfl, HA, S, t, c, HB⟩ := hrel
 rcases gk with _ | k1
 ·exact absurd HA.1 (by simp [spec_MovesFrom.l0])
 have H := HA.1
 clear HA
 simp only [spec_MovesFrom.l0] at H
 by_cases c7 : a < (b.length : Int)
 rotate_left
 ·rw [if_neg c7] at H
  have ar := decide_eq_false c7
  clear c7
  obtain rfl := Option.some.inj H
  have aH := bc3_ c.1
  go_wp2
  go_ret
  exact ⟨_, er_, pr_ t.1, pb1_ HB.1 l.1⟩
 rw [if_pos c7] at H
 have ar := decide_eq_true c7
 clear c7
 by_cases c9 : 0 ≤ a
 rotate_left
 ·rw [if_neg c9] at H
  exact nn_ H
 rw [if_pos c9] at H
 have aG := decide_eq_true c9
 clear c9
 by_cases L : ((rd_T78 b a).f0) = a1
 rotate_left
 ·rw [if_neg L] at H
  have ai : (((rd_T78 b a).f0) == a1) = false := beq_eq_false_iff_ne.mpr L
  have aj : (((rd_T78 b a).f0) != a1) = true := bne_iff_ne.mpr L
  have H' := Q_ H
  clear H
  have aD := bc3_ c.1
  have q : 0 ≤ (a : Int) := dt_
  have s : a < (b.length : Int) := dt_
  obtain ⟨y, E, d, g, i, j⟩ := at_T78 v.1 a q s
  cases E
  replace d := bt_ HB d
  replace g := bt_ HB g
  replace i := bt_ HB i
  replace j := bt_ HB j
  replace q := eq_true q
  replace s := eq_true s
  go_wp2
  go_roundg k1
  case measure => have := S.1; omega
  case rel => exact ⟨(D), (wrap64 (a + 1)), el_, H', ⟨by have := S.1; omega⟩, ⟨pr_ t.1⟩, ⟨pk_ c.1⟩, ⟨pb1_ HB.1 l.1⟩⟩
 rw [if_pos L] at H
 have ai : (((rd_T78 b a).f0) == a1) = true := beq_iff_eq.mpr L
 have aj : (((rd_T78 b a).f0) != a1) = false := bne_eq_false_iff_eq.mpr L
 clear L
 by_cases z : (((rd_T78 b a).f1) == T) = true
 rotate_left
 ·rw [if_neg z] at H
  have ak : (((rd_T78 b a).f1) == T) = false := by simpa using z
  (try (have al : decide (((rd_T78 b a).f1) = T) = false := by simpa using z))
  (try (have am : (((rd_T78 b a).f1) == T) = false := by simpa using z))
  (try (have aC : ¬ (((rd_T78 b a).f1) = T) := by simpa using z))
  clear z
  have H' := Q_ H
  clear H
  have aE := bc3_ c.1
  have q : 0 ≤ (a : Int) := dt_
  have s : a < (b.length : Int) := dt_
  obtain ⟨y, E, d, g, i, j⟩ := at_T78 v.1 a q s
  cases E
  replace d := bt_ HB d
  replace g := bt_ HB g
  replace i := bt_ HB i
  replace j := bt_ HB j
  replace q := eq_true q
  replace s := eq_true s
  have A : 0 ≤ (a : Int) := dt_
  have B : a < (b.length : Int) := dt_
  obtain ⟨K, V, m, n, o, p⟩ := at_T78 v.1 a A B
  obtain rfl : y = K := (by injection V)
  replace m := bt_ HB m
  replace n := bt_ HB n
  replace o := bt_ HB o
  replace p := bt_ HB p
  replace A := eq_true A
  replace B := eq_true B
  go_wp2
  go_roundg k1
  case measure => have := S.1; omega
  case rel => exact ⟨(D), (wrap64 (a + 1)), el_, H', ⟨by have := S.1; omega⟩, ⟨pr_ t.1⟩, ⟨pk_ c.1⟩, ⟨pb1_ HB.1 l.1⟩⟩
 rw [if_pos z] at H
 have ak : (((rd_T78 b a).f1) == T) = true := z
 (try (have al : decide (((rd_T78 b a).f1) = T) = true := by simpa using z))
 (try (have am : (((rd_T78 b a).f1) == T) = true := by simpa using z))
 clear z
 obtain ⟨ac, ay, H⟩ := bs_ H
 (try dsimp only at H)
 have H' := Q_ H
 clear H
 have aF := bc3_ c.1
 have q : 0 ≤ (a : Int) := dt_
 have s : a < (b.length : Int) := dt_
 obtain ⟨y, E, d, g, i, j⟩ := at_T78 v.1 a q s
 cases E
 replace d := bt_ HB d
 replace g := bt_ HB g
 replace i := bt_ HB i
 replace j := bt_ HB j
 replace q := eq_true q
 replace s := eq_true s
 have A : 0 ≤ (a : Int) := dt_
 have B : a < (b.length : Int) := dt_
 obtain ⟨K, V, m, n, o, p⟩ := at_T78 v.1 a A B
 obtain rfl : y = K := (by injection V)
 replace m := bt_ HB m
 replace n := bt_ HB n
 replace o := bt_ HB o
 replace p := bt_ HB p
 replace A := eq_true A
 replace B := eq_true B
 have Z : 0 ≤ (a : Int) := dt_
 have aa : a < (b.length : Int) := dt_
 obtain ⟨ah, av, F, G, I, J⟩ := at_T78 v.1 a Z aa
 obtain rfl : y = ah := (by injection av)
 replace F := bt_ HB F
 replace G := bt_ HB G
 replace I := bt_ HB I
 replace J := bt_ HB J
 replace Z := eq_true Z
 replace aa := eq_true aa
 obtain ⟨aq, au, aw⟩ := Kd.R_slice t.1
 subst aw
 go_wp2_with (first | ((with_reducible refine gate_callee (f := 84) rfl ?_); refine gl_ (some 42) Try.func84 #[.slice aq D.length au, .int .i64 ((rd_T78 b a).f2)] ?_; (with_reducible refine (spec_l4Put.calls k1 _ _ D ((rd_T78 b a).f2) ac _ ?side1 ?side2 ay.1).mono ?_); (case side1 => exact pc_ ((Kd.R_reads' t.1).2.2)); (case side2 => exact (Kd.R_reads' t.1).2.1); rintro e aM ⟨aJ, rfl, ao, hb⟩; refine ⟨_, rfl, ?_⟩; have _ := Q_ (Kd.R_elder' (pr_ t.1) (Kd.R_base ao) hb); have _ := Q_ (Kd.R_lower (Kd.R_new' ao (Kd.R_lt (pr_ t.1))) (below_size (pb1_ HB.1 l.1))); have _ := Q_ (bb_ c.1 hb); have _ := Q_ (below_step (pb1_ HB.1 l.1) hb); clear t c HB; rename_i t ag c HB; (try clear hb ao)))
 go_roundg k1
 case measure => have := S.1; omega
 case rel => exact ⟨(ac), (wrap64 (a + 1)), el_, H', ⟨by have := S.1; omega⟩, ⟨pr_ (Kd.R_mono ag.1 (fun _ hk => trivial))⟩, ⟨pk_ c.1⟩, ⟨pb1_ HB.1 l.1⟩⟩

end Go.Proofs.Ytldcchjbaglppaa.Print
