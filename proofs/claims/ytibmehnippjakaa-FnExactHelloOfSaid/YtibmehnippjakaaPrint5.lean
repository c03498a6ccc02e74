-- Written by a program of this session (printx.py) out of the translation; Lean checks it.
import Derived.Test.YtibmehnippjakaaPrint0
import Derived.Test.YtibmehnippjakaaPrint2
import Derived.Test.YtibmehnippjakaaPrint4
namespace Go.Proofs.Ytibmehnippjakaa.Print
open Go.RowKit Go.Proofs.YtibmehnippjakaaW.PrintWords Go.Proofs.YtibmehnippjakaaW.PrintLast Go.Proofs.YtibmehnippjakaaW.PrintMore Go.Proofs.Ytibmehnippjakaa.Short
attribute [local go_sem] max2_int min2_int max_two min_two max_three min_three max_four min_four   -- for this text's walks alone
set_option linter.unusedVariables false
set_option maxHeartbeats 8000000
set_option maxRecDepth 100000
set_option linter.unusedSimpArgs false

/-! ### spec_HelloOf: function 5 -/
def spec_HelloOf.l0 : Nat → Int → List (S44) → Int → List Int → List Int → List (S59) → Int → Option (List Int × (List (S44)))
 | 0, _, _, _, _, _, _, _ => none
 | k + 1, j, i, h, a, b, c, d => if h < (b.length : Int) then (if 0 ≤ h then (if i.length < 4398046511104 then (spec_HelloOf.l0 k j (i ++ [(⟨rd b h, ([] : List Int)⟩ : S44)]) (wrap64 (h + 1)) a b c d) else (none)) else (none)) else ((some (([] : List Int) : List Int)).bind fun e => (if e.length + a.length < 17592186044416 then ((spec_AddGrease.f k i j).bind fun g => (some ((e ++ a), g))) else (none)))
def spec_HelloOf.f (k : Nat) (b : List Int) (c : List Int) (d : List (S59)) (a : Int) (g : Int) : Option (List Int × (List (S44))) := (spec_IsEndpoint.f k b c d a).bind fun e => (if e = true then (spec_HelloOf.l0 k g (([] : List (S44))) 0 b c d a) else (some (([] : List Int), ([] : List (S44)))))
theorem spec_HelloOf.mono_l : ∀ k, (∀ a b c d e f g, LeO (spec_HelloOf.l0 k a b c d e f g) (spec_HelloOf.l0 (k + 1) a b c d e f g))
 | 0 => fun _ _ _ _ _ _ _ r h => by simp [spec_HelloOf.l0] at h
 | k + 1 => by
  have ih0 := spec_HelloOf.mono_l k
  ·intro a b c d e f g
   unfold spec_HelloOf.l0
   exact mo3_ ih0 spec_AddGrease.mono spec_IsEndpoint.mono
theorem spec_HelloOf.mono : ∀ a b c d e k, LeO (spec_HelloOf.f k a b c d e) (spec_HelloOf.f (k + 1) a b c d e) := by
 intro a b c d e k
 have ih0 := spec_HelloOf.mono_l k
 unfold spec_HelloOf.f
 exact mo3_ ih0 spec_AddGrease.mono spec_IsEndpoint.mono
theorem spec_HelloOf.callsN (k : Nat) (y : Option Addr) (A : Nat) (m : List Int) (F : Option Addr) (B : Nat) (l : List Int) (z : Option Addr) (D : Nat) (q : List (S59)) (s : Int) (a1 : Int) (r1 : List Int) (r2 : List (S44)) (w : World) (hr0_0 : Kd.C (Kd.int .i64) w y m.length m) (aa : m.length ≤ A) (hr0_1 : Kd.C (Kd.int .i64) w F l.length l) (ab : l.length ≤ B) (hr0_2 : Kd.C k59 w z q.length q) (ac : q.length ≤ D) (h : spec_HelloOf.f k m l q s a1 = some (r1, r2)) :
  Calls Try.prog 5 #[.agg #[.slice y m.length A, .slice F l.length B, .slice z q.length D, .int .i64 s], .int .i64 a1] w fun e w' => ∃ v0_ v1_ : Value, e = .returned (.agg #[v0_, v1_]) ∧ Kd.R (Kd.int .i64) 3 w' w.heap.size (fun k_ => (w.heap.size ≤ k_)) v0_ r1 ∧ Kd.N k44 44 w' w.heap.size (fun k_ => (w.heap.size ≤ k_) ∧ some k_ ≠ (v0_ : Value).ownBlock) v1_ r2 ∧ Below w.heap.size w w' := by
 have hu33 := Try.underlying33
 have hu29 := Try.underlying29
 have hu44 := Try.underlying44
 have V := Q_ hr0_0
 have ax := Q_ aa
 clear hr0_0 aa
 have W := Q_ hr0_1
 have ay := Q_ ab
 clear hr0_1 ab
 have aD := Q_ hr0_2
 have az := Q_ ac
 clear hr0_2 ac
 have HB := Q_ (Below.refl w.heap.size w)
 have H : ((spec_IsEndpoint.f k m l q s).bind fun Q => (if Q = true then (spec_HelloOf.l0 k a1 (([] : List (S44))) 0 m l q s) else (some (([] : List Int), ([] : List (S44)))))) = some (r1, r2) := h
 clear h
 have HS_ := Q_ H
 clear H
 go_enter Try.func5, Try.ntmps5
 go_upto_region 1 with (first | ((with_reducible refine gate_dst (N := 2) rfl ?_); refine bx_ 2 #[.slice y m.length A, .slice F l.length B, .slice z q.length D, .int .i64 s] 33 ?_; intro n hg w3 hbox hb; have _ := Q_ (below_step (pb_ HB.1) hb); have a := Q_ (hbox); have av := Q_ (gw_ (w := w) hg (pb_ HB.1)); have d := av; clear HB; rename_i HB; clear hb hbox hg) | ((with_reducible refine gate_dst (N := 4) rfl ?_); refine bx_ 4 #[.slice none 0 0, .slice none 0 0] 29 ?_; intro j hg w4 hbox hb; have _ := Q_ (bb_ a.1 hb); have _ := Q_ (below_step (pb1_ HB.1 d.1) hb); have c := Q_ (hbox); have aw := Q_ (gw_ (w := w) hg (pb1_ HB.1 d.1)); have i := aw; have t := Q_ (nb_ hg a); have v := Q_ t.1.symm; clear a HB; rename_i a HB; clear hb hbox hg))
 (try simp only [Act.put, s1_, s2_, s3_])
 have H := HS_.1
 clear HS_
 obtain ⟨Q, A5, H⟩ := bs_ H
 (try dsimp only at H)
 have HS_ := Q_ H
 clear H
 have bc := t.1
 have bd := v.1
 have bb := bc4_ a.1
 go_upto_if 9 with (first | ((with_reducible refine gate_callee (f := 15) rfl ?_); refine gl_ (some 8) Try.func15 #[.agg #[.slice y m.length A, .slice F l.length B, .slice z q.length D, .int .i64 s]] ?_; (with_reducible refine (spec_IsEndpoint.calls k _ _ m _ _ l _ _ q s Q _ (cb_ V HB) ax.1 (cb_ W HB) ay.1 (cb_ aD HB) az.1 A5.1).mono ?_); rintro e w8 ⟨rfl, hb⟩; refine ⟨_, rfl, ?_⟩; have _ := Q_ (bb_ a.1 hb); have _ := Q_ (bb_ c.1 hb); have _ := Q_ (below_step (pb2_ HB.1 d.1 i.1) hb); clear a c HB; rename_i a c HB; (try clear hb)))
 (try simp only [Act.put, s1_, s2_, s3_])
 have H := HS_.1
 clear HS_
 by_cases c9 : Q = true
 rotate_left
 ·replace c9 := bf_ c9
  subst c9
  rw [if_neg ff_] at H
  simp only [Option.some.injEq, Prod.mk.injEq] at H
  obtain ⟨rfl, rfl⟩ := H
  have a5 := v.1
  have a8 := t.1
  have aZ := bc2_ c.1
  go_wp2
  refine bodyPost_ret (results_cell_row rfl _ _ j 29 #[.slice none 0 0, .slice none 0 0] (0, 0) _ rfl (pp_ c.1) Try.underlying29 rfl (by kernel_rfl)) rfl ?_
  exact ⟨_, _, er_, by first | exact Kd.R_nil _ _ _ _ _ | exact Kd.N_nil _ _ _ _ _ | exact Kd.V_nil _ _ _ _ _ | exact Kd.Q_nil _ _ _ _ _ | exact Kd.S_nil _ _ _ _ _, by first | exact Kd.S_nil _ _ _ _ _ | exact Kd.N_nil _ _ _ _ _ | exact Kd.V_nil _ _ _ _ _ | exact Kd.Q_nil _ _ _ _ _ | exact Kd.R_nil _ _ _ _ _, pb2_ HB.1 d.1 i.1⟩
 subst c9
 rw [if_pos rfl] at H
 obtain ⟨ar, hy223⟩ : ∃ y_ : List (S44), y_ = (([] : List (S44))) := ⟨_, rfl⟩
 replace H : (spec_HelloOf.l0 k a1 ar 0 m l q s) = some (r1, r2) := hb_ hy223 H
 have X := Q_ hy223
 clear hy223
 have H' := Q_ H
 clear H
 go_wp2_with (first | ((with_reducible refine gate_dst (N := 11) rfl ?_); refine Kd.N_lit k44 _ 44 ?hg (N' := 11) ?hd (xs := ([] : List (S44))) (inner := []) (ok := (fun k_ => (w.heap.size ≤ k_) ∧ k_ ≠ n ∧ k_ ≠ j)) (okp := (fun k_ => (w.heap.size ≤ k_) ∧ k_ ≠ n ∧ k_ ≠ j)) ?hr ?hp (fun _ hk => hk) ((show ∀ k_, w8.heap.size ≤ k_ → (fun k_ => (w.heap.size ≤ k_) ∧ k_ ≠ n ∧ k_ ≠ j) k_ from fun k_ hk => ⟨(Nat.le_trans (below_size (pb2_ HB.1 d.1 i.1)) hk), Kd.freshB (g := n) (o := .cells #[.slice y m.length A, .slice F l.length B, .slice z q.length D, .int .i64 s] 33 (0, 0)) (pk_ a.1) k_ hk, Kd.freshB (g := j) (o := .cells #[.slice none 0 0, .slice none 0 0] 29 (0, 0)) (pk_ c.1) k_ hk⟩) _ (Nat.le_refl _)) (Below.refl _ _) (Nat.le_refl _) (by simp) ?_; (case hd => rfl); (case hg => rfl); (case hr => first | (go_simp; done) | (go_simp; rfl)); (case hp => exact (Reps.none _ _)); intro be bk L hb hg_ hnew_; clear hg_ hnew_; (first | rw [← X.1] at L | (simp only [Int.reduceToNat] at L; rw [← X.1] at L)); have _ := Q_ (Kd.N_lower L (below_size (pb2_ HB.1 d.1 i.1))); have _ := Q_ (bb_ a.1 hb); have _ := Q_ (bb_ c.1 hb); have _ := Q_ (below_step (pb2_ HB.1 d.1 i.1) hb); clear a c HB; rename_i aA a c HB; clear hb L))
 (try simp only [Act.put, s1_, s2_, s3_])
 go_loopg [5, 6] k (fun kq v5 v6 w' => ∃ (x : List (S44)) (u : Int), v6 = .int .i64 u ∧ Aside0 (spec_HelloOf.l0 kq a1 x u m l q s = some (r1, r2)) ∧ Aside0 (kq ≤ k) ∧ Aside0 (Kd.N k44 44 w' w.heap.size (fun k_ => (w.heap.size ≤ k_) ∧ k_ ≠ n ∧ k_ ≠ j) v5 x) ∧ Aside0 (w'.heap[n]? = some (.cells #[(.slice y m.length A), (.slice F l.length B), (.slice z q.length D), .int .i64 s] 33 (0, 0))) ∧ Aside0 (w'.heap[j]? = some (.cells #[(.slice none 0 0), (.slice none 0 0)] 29 (0, 0))) ∧ Aside0 (Below w.heap.size w w'))
 case atStart => exact ⟨(ar), (0), el_, H', ⟨Nat.le_refl _⟩, ⟨by (with_reducible repeat (first | apply Kd.N_alloc | apply Kd.N_drewN | apply Kd.N_drew)); exact aA.1⟩, ⟨pk_ a.1⟩, ⟨pk_ c.1⟩, ⟨pb2_ HB.1 d.1 i.1⟩⟩
 clear H'
 obtain ⟨x, u, rfl, HA, aK, r, a, c, HB⟩ := hrel
 rcases gk with _ | k1
 ·exact absurd HA.1 (by simp [spec_HelloOf.l0])
 have H := HA.1
 clear HA
 simp only [spec_HelloOf.l0] at H
 by_cases T : u < (l.length : Int)
 ·rw [if_pos T] at H
  have I := decide_eq_true T
  clear T
  (first | rw [I] | (simp only [i64_w, i32_w]; rw [I]) | skip)
  by_cases ag : 0 ≤ u
  rotate_left
  ·rw [if_neg ag] at H
   exact nn_ H
  rw [if_pos ag] at H
  have aY := decide_eq_true ag
  clear ag
  by_cases ah : x.length < 4398046511104
  rotate_left
  ·rw [if_neg ah] at H
   exact nn_ H
  rw [if_pos ah] at H
  have aE := Q_ ah
  clear ah
  obtain ⟨au, hy227⟩ : ∃ y_ : List (S44), y_ = (x ++ [(⟨rd l u, ([] : List Int)⟩ : S44)]) := ⟨_, rfl⟩
  replace H : (spec_HelloOf.l0 k1 a1 au (wrap64 (u + 1)) m l q s) = some (r1, r2) := hb_ hy227 H
  have aH := Q_ hy227
  clear hy227
  have H' := Q_ H
  clear H
  have a6 := t.1
  have a9 := v.1
  have a0 := bc4_ a.1
  have ad : 0 ≤ (u : Int) := dt_
  have ae : u < (l.length : Int) := dt_
  obtain ⟨Z, aM, O⟩ := Kd.at_int W.1 u ad ae
  cases aM
  replace O := bt_ HB O
  replace ad := eq_true ad
  replace ae := eq_true ae
  go_wp2_with (first | ((with_reducible refine gate_builtin (b := .append) (xs := #[.tmp 19, .tmp 26]) rfl ?_); at_builtin; refine Kd.N_append k44 (w0 := w) w.heap.size rfl (.tmp 19) (.tmp 26) 27 44 (.agg #[(.int .i64 0), (.slice none 0 0)]) 32 rfl Try.underlying27 info44 rfl (by decide) (by omega) u5 x (⟨rd l u, ([] : List Int)⟩ : S44) [.int .i64 (rd l u), .slice none 0 0] (fun k_ => (w.heap.size ≤ k_) ∧ k_ ≠ n ∧ k_ ≠ j) (fun k_ => ((fun k_ => (w.heap.size ≤ k_) ∧ k_ ≠ n ∧ k_ ≠ j)) k_ ∧ some k_ ≠ (u5 : Value).ownBlock) rfl rfl ?aP (fun _ hk => hk) ?aF ?aO ?aB ?aS ?aL ?_; (case aP => exact (k44_mkF _ _ (⟨rd l u, ([] : List Int)⟩ : S44) (Nat.le_refl _) (Kd.F_nil _ _ _))); (case aB => exact (pb2_ HB.1 d.1 i.1)); (case aF => exact (fun k_ hk => ⟨(Nat.le_trans (below_size (pb2_ HB.1 d.1 i.1)) hk), Kd.freshB (g := n) (o := .cells #[.slice y m.length A, .slice (some Z) l.length B, .slice z q.length D, .int .i64 s] 33 (0, 0)) (pk_ a.1) k_ hk, Kd.freshB (g := j) (o := .cells #[.slice none 0 0, .slice none 0 0] 29 (0, 0)) (pk_ c.1) k_ hk⟩)); (case aO => exact (by (with_reducible repeat (first | apply Kd.N_alloc | apply Kd.N_drewN | apply Kd.N_drew)); exact r.1)); (case aS => exact (below_size (pb2_ HB.1 d.1 i.1))); (case aL => have := aE.1; omega); intro bf bl ho hb hg hat; rw [← aH.1] at ho; have _ := Q_ (blk_grown (g := n) (o := .cells #[.slice y m.length A, .slice (some Z) l.length B, .slice z q.length D, .int .i64 s] 33 (0, 0)) (pk_ a.1) hg (Kd.N_ne r.1 a.1 (by decide))); have _ := Q_ (blk_grown (g := j) (o := .cells #[.slice none 0 0, .slice none 0 0] 29 (0, 0)) (pk_ c.1) hg (Kd.N_ne r.1 c.1 (by decide))); have _ := Q_ (hb); have _ := Q_ (ho); clear a c HB r; rename_i a c HB aC; clear ho hb hg hat))
  go_roundg k1
  case measure => have := aK.1; omega
  case rel => exact ⟨(au), (wrap64 (u + 1)), el_, H', ⟨by have := aK.1; omega⟩, ⟨by (with_reducible repeat (first | apply Kd.N_alloc | apply Kd.N_drewN | apply Kd.N_drew)); exact aC.1⟩, ⟨pk_ a.1⟩, ⟨pk_ c.1⟩, ⟨pb2_ HB.1 d.1 i.1⟩⟩
 rw [if_neg T] at H
 have I := decide_eq_false T
 clear T
 (first | rw [I] | (simp only [i64_w, i32_w]; rw [I]) | skip)
 obtain ⟨P, hy230⟩ : ∃ y_ : List Int, y_ = (([] : List Int)) := ⟨_, rfl⟩
 replace H : (if P.length + m.length < 17592186044416 then ((spec_AddGrease.f k1 x a1).bind fun G => (some ((P ++ m), G))) else (none)) = some (r1, r2) := hb_ hy230 H
 have Y := Q_ hy230
 clear hy230
 by_cases ai : P.length + m.length < 17592186044416
 rotate_left
 ·rw [if_neg ai] at H
  exact nn_ H
 rw [if_pos ai] at H
 have aG := Q_ ai
 clear ai
 obtain ⟨S, hy233⟩ : ∃ y_ : List Int, y_ = (P ++ m) := ⟨_, rfl⟩
 replace H : ((spec_AddGrease.f k1 x a1).bind fun G => (some (S, G))) = some (r1, r2) := hb_ hy233 H
 have aI := Q_ hy233
 clear hy233
 obtain ⟨G, aX, H⟩ := bs_ H
 replace H : (some (S, G)) = some (r1, r2) := H
 simp only [Option.some.injEq, Prod.mk.injEq] at H
 obtain ⟨rfl, rfl⟩ := H
 have a7 := t.1
 have ba := v.1
 have a2 := bc4_ a.1
 go_wp2_with (first | ((with_reducible refine gate_dst (N := 28) rfl ?_); refine Kd.R_lit (Kd.int .i64) _ 3 ?hg (N := 28) ?hd (xs := ([] : List Int)) (inner := []) (ok := fun _ => True) (okp := fun _ => True) ?hr ?hp (fun _ hk => hk) trivial (Below.refl _ _) (Nat.le_refl _) (by simp) ?_; (case hd => rfl); (case hg => rfl); (case hr => first | (go_simp; done) | (go_simp; rfl)); (case hp => exact (Reps.none _ _)); intro aU bm J hb hg_ hnew_; clear hg_ hnew_; (first | rw [← Y.1] at J | (simp only [Int.reduceToNat] at J; rw [← Y.1] at J)); have _ := Q_ (Kd.N_elder' (by (with_reducible repeat (first | apply Kd.N_alloc | apply Kd.N_drewN | apply Kd.N_drew)); exact r.1) (Kd.R_base J) hb); have K := Q_ (Kd.R_lower (Kd.R_newM (M := fun k_ => (w.heap.size ≤ k_)) J (below_size (pb2_ HB.1 d.1 i.1)) (fun k_ h_ => h_)) (below_size (pb2_ HB.1 d.1 i.1))); have _ := Q_ (bb_ a.1 hb); have _ := Q_ (bb_ c.1 hb); have _ := Q_ (below_step (pb2_ HB.1 d.1 i.1) hb); clear r a c HB; rename_i r a c HB; clear hb J; have a3 := bc4_ a.1) | ((with_reducible refine gate_builtin (b := .append) (xs := #[.tmp 28, .tmp 30]) rfl ?_); at_builtin; refine Kd.R_append_rows (Kd.int .i64) (w0 := w) w.heap.size rfl (.tmp 28) (.tmp 30) 22 3 (.int .i64 0) 8 rfl Try.underlying22 info3 rfl (by decide) (by omega) aU P m _ _ _ (fun k_ => (w.heap.size ≤ k_)) (fun _ => False) rfl rfl ?aO ?aR (fun _ _ h => h) (fun _ h => h.elim) ?aF ?aB ?aS ?aL ?_; (case aR => exact cb_ V HB); (case aB => exact (pb2_ HB.1 d.1 i.1)); (case aF => exact (fun k_ hk => (Nat.le_trans (below_size (pb2_ HB.1 d.1 i.1)) hk))); (case aO => exact (pr_ (Kd.R_mono K.1 (fun _ hk => hk.1)))); (case aS => exact (below_size (pb2_ HB.1 d.1 i.1))); (case aL => have := aG.1; omega); intro aV bn ho hb hg hat; rw [← aI.1] at ho; have _ := Q_ (Kd.N_afterv (ok := (fun k_ => (w.heap.size ≤ k_) ∧ k_ ≠ n ∧ k_ ≠ j)) (by (with_reducible repeat (first | apply Kd.N_alloc | apply Kd.N_drewN | apply Kd.N_drew)); exact r.1) hg hat); have _ := Q_ (blk_grown (g := n) (o := .cells #[.slice y m.length A, .slice F l.length B, .slice z q.length D, .int .i64 s] 33 (0, 0)) (pk_ a.1) hg (Kd.R_ne K.1 a.1 (by decide))); have _ := Q_ (blk_grown (g := j) (o := .cells #[.slice none 0 0, .slice none 0 0] 29 (0, 0)) (pk_ c.1) hg (Kd.R_ne K.1 c.1 (by decide))); have _ := Q_ (hb); have E := Q_ (ho); clear r a c HB K; rename_i r a c HB; clear ho hb hg hat; obtain ⟨al, ao, aN⟩ := Kd.N_slice r.1; subst aN) | ((with_reducible refine gate_callee (f := 16) rfl ?_); refine gl_ (some 34) Try.func16 #[.slice al x.length ao, .int .i64 a1] ?_; (with_reducible refine (spec_AddGrease.calls k1 _ _ x a1 G _ ?side1 ?side2 aX.1).mono ?_); (case side1 => exact pc_ ((Kd.N_reads' r.1).2.2)); (case side2 => exact (Kd.N_reads' r.1).2.1); rintro e bo ⟨bg, rfl, aJ, hb⟩; refine ⟨_, rfl, ?_⟩; have _ := Q_ (Kd.N_elder' (by (with_reducible repeat (first | apply Kd.N_alloc | apply Kd.N_drewN | apply Kd.N_drew)); exact r.1) (Kd.N_base aJ) hb); have _ := Q_ (Kd.R_below (pr_ E.1) hb); have U := Q_ (Kd.N_lower (Kd.N_mono (ok' := fun k_ => (w.heap.size ≤ k_) ∧ some k_ ≠ (.slice al x.length ao : Value).ownBlock ∧ some k_ ≠ (aV : Value).ownBlock ∧ k_ ≠ n ∧ k_ ≠ j) aJ (fun k_ hk_ => ⟨(Nat.le_trans (below_size (pb2_ HB.1 d.1 i.1)) hk_), (Kd.fresh' (Kd.N_lt (by (with_reducible repeat (first | apply Kd.N_alloc | apply Kd.N_drewN | apply Kd.N_drew)); exact r.1)) k_ hk_), (Kd.fresh' (Kd.R_lt (pr_ E.1)) k_ hk_), (Kd.freshB (g := n) (o := .cells #[.slice y m.length A, .slice F l.length B, .slice z q.length D, .int .i64 s] 33 (0, 0)) (pk_ a.1) k_ hk_), (Kd.freshB (g := j) (o := .cells #[.slice none 0 0, .slice none 0 0] 29 (0, 0)) (pk_ c.1) k_ hk_)⟩)) (below_size (pb2_ HB.1 d.1 i.1))); have _ := Q_ (bb_ a.1 hb); have _ := Q_ (bb_ c.1 hb); have _ := Q_ (below_step (pb2_ HB.1 d.1 i.1) hb); clear r E a c HB; rename_i r E a c HB; (try clear hb aJ); obtain ⟨am, ap, aQ⟩ := Kd.N_slice U.1; subst aQ; obtain ⟨an, aq, aT⟩ := Kd.R_slice E.1; subst aT; have a4 := bc2_ c.1))
 refine bodyPost_ret (results_cell_row rfl _ _ j 29 #[.slice an S.length aq, .slice am G.length ap] (0, 0) _ rfl (pp_ c.1) Try.underlying29 rfl (by kernel_rfl)) rfl ?_
 exact ⟨_, _, er_, pr_ (rf2_ E.1 c.1), by (with_reducible repeat (first | apply Kd.N_alloc | apply Kd.N_drewN | apply Kd.N_drew)); exact Kd.N_mono (Kd.N_far (p := ⟨j, 1, none⟩) (Kd.N_far (p := ⟨j, 0, none⟩) (Kd.N_mono U.1 (fun k_ hk => (⟨hk, hk.2.2.2.2⟩ : _ ∧ k_ ≠ j))) (fun _ hk => hk.2) (.slice an S.length aq)) (fun _ hk => hk.2) (.slice am G.length ap)) (fun _ hk => ⟨hk.1.1, hk.1.2.2.1⟩), pb2_ HB.1 d.1 i.1⟩

theorem spec_HelloOf.calls (k : Nat) (d : Option Addr) (l : Nat) (a : List Int) (g : Option Addr) (m : Nat) (b : List Int) (i : Option Addr) (n : Nat) (c : List (S59)) (j : Int) (r : Int) (s : List Int) (t : List (S44)) (w : World) (hr0_0 : Kd.C (Kd.int .i64) w d a.length a) (o : a.length ≤ l) (hr0_1 : Kd.C (Kd.int .i64) w g b.length b) (p : b.length ≤ m) (hr0_2 : Kd.C k59 w i c.length c) (q : c.length ≤ n) (h : spec_HelloOf.f k a b c j r = some (s, t)) :
  Calls Try.prog 5 #[.agg #[.slice d a.length l, .slice g b.length m, .slice i c.length n, .int .i64 j], .int .i64 r] w fun e w' => ∃ v0_ v1_ : Value, e = .returned (.agg #[v0_, v1_]) ∧ Kd.R (Kd.int .i64) 3 w' w.heap.size (fun k_ => (w.heap.size ≤ k_)) v0_ s ∧ Kd.V k44 44 w' w.heap.size (fun k_ => (w.heap.size ≤ k_) ∧ some k_ ≠ (v0_ : Value).ownBlock) v1_ t ∧ Below w.heap.size w w' := by
 refine (spec_HelloOf.callsN k d l a g m b i n c j r s t w hr0_0 o hr0_1 p hr0_2 q h).mono ?_
 rintro e w' ⟨v0_, v1_, h1_, h2_, h3_, h4_⟩
 exact ⟨v0_, v1_, h1_, h2_, Kd.N_V h3_, h4_⟩


/-! ### laws_toIntS: function 17 -/
def laws_toIntS.l0 : Nat → List Int → List Int → Int → Option (List Int)
 | 0, _, _, _ => none
 | k + 1, b, c, a => if a < (b.length : Int) then (if 0 ≤ a then (if a < (c.length : Int) then (laws_toIntS.l0 k b (c.set (a : Int).toNat (rd b a)) (wrap64 (a + 1))) else (none)) else (none)) else (some c)
def laws_toIntS.f (k : Nat) (a : List Int) : Option (List Int) := if 0 ≤ (a.length : Int) then (if ((a.length : Int) : Int).toNat ≤ 35184372088832 then (laws_toIntS.l0 k a (List.replicate ((a.length : Int) : Int).toNat 0) 0) else (none)) else (none)
theorem laws_toIntS.mono_l : ∀ k, (∀ a b c, LeO (laws_toIntS.l0 k a b c) (laws_toIntS.l0 (k + 1) a b c))
 | 0 => fun _ _ _ r h => by simp [laws_toIntS.l0] at h
 | k + 1 => by
  have ih0 := laws_toIntS.mono_l k
  ·intro a b c
   unfold laws_toIntS.l0
   exact mo1_ ih0
theorem laws_toIntS.mono : ∀ a k, LeO (laws_toIntS.f k a) (laws_toIntS.f (k + 1) a) := by
 intro a k
 have ih0 := laws_toIntS.mono_l k
 unfold laws_toIntS.f
 exact mo1_ ih0
theorem laws_toIntS.calls (k : Nat) (W : Option Addr) (X : Nat) (b : List Int) (r : List Int) (w : World) (hr0 : Kd.C (Kd.int .i64) w W b.length b) (I : b.length ≤ X) (h : laws_toIntS.f k b = some r) :
  Calls Try.prog 17 #[.slice W b.length X] w fun e w' => ∃ v0_ : Value, e = .returned (v0_) ∧ Kd.R (Kd.int .i64) 3 w' w.heap.size (fun _ => True) v0_ r ∧ Below w.heap.size w w' := by
 have O := Q_ hr0
 have af := Q_ I
 clear hr0 I
 have HB := Q_ (Below.refl w.heap.size w)
 have H : (if 0 ≤ (b.length : Int) then (if ((b.length : Int) : Int).toNat ≤ 35184372088832 then (laws_toIntS.l0 k b (List.replicate ((b.length : Int) : Int).toNat 0) 0) else (none)) else (none)) = some r := h
 clear h
 by_cases A : 0 ≤ (b.length : Int)
 rotate_left
 ·rw [if_neg A] at H
  exact nn_ H
 rw [if_pos A] at H
 have Y := eq_true A
 have Z : decide (0 ≤ (b.length : Int)) = true := decide_eq_true A
 clear A
 by_cases B : ((b.length : Int) : Int).toNat ≤ 35184372088832
 rotate_left
 ·rw [if_neg B] at H
  exact nn_ H
 rw [if_pos B] at H
 have aa := eq_true B
 have ab : decide (((b.length : Int) : Int).toNat ≤ 35184372088832) = true := decide_eq_true B
 clear B
 obtain ⟨o, hy239⟩ : ∃ y_ : List Int, y_ = (List.replicate ((b.length : Int) : Int).toNat 0) := ⟨_, rfl⟩
 replace H : (laws_toIntS.l0 k b o 0) = some r := hb_ hy239 H
 have i := Q_ hy239
 clear hy239
 have H' := Q_ H
 clear H
 go_enter Try.func17, Try.ntmps17
 go_wp2_with (first | ((with_reducible refine gate_dst (N := 7) rfl ?_); refine Kd.R_make (Kd.int .i64) _ 3 rfl (N := 7) rfl 22 _ _ rfl (b.length : Int) rfl rfl Try.underlying22 (.int .i64 0) 8 info3 rfl (by decide) (by omega) 0 (ok := fun _ => True) (okp := fun _ => True) rfl (fun _ hk => hk) trivial dt_ (Nat.le_trans (Nat.mul_le_mul_right _ (dt_ : (b.length : Int).toNat ≤ 35184372088832)) (by omega)) (Below.refl _ _) (Nat.le_refl _) ?_; intro J w4 j hb hg_ hnew_; clear hg_ hnew_; (first | rw [← i.1] at j | (simp only [Int.reduceToNat] at j; rw [← i.1] at j)); have _ := Q_ (Kd.R_lower j (below_size (pb_ HB.1))); have _ := Q_ (below_step (pb_ HB.1) hb); clear HB; rename_i q HB; clear hb j))
 (try simp only [Act.put, s1_, s2_, s3_])
 go_loopg [4] k (fun kq v4 w' => ∃ (d : List Int) (a : Int), v4 = .int .i64 a ∧ Aside0 (laws_toIntS.l0 kq b d a = some r) ∧ Aside0 (kq ≤ k) ∧ Aside0 (Kd.R (Kd.int .i64) 3 w' w.heap.size (fun _ => True) J d) ∧ Aside0 (Below w.heap.size w w'))
 case atStart => exact ⟨(o), (0), el_, H', ⟨Nat.le_refl _⟩, ⟨pr_ q.1⟩, ⟨pb_ HB.1⟩⟩
 clear H'
 obtain ⟨d, a, rfl, HA, z, c, HB⟩ := hrel
 rcases gk with _ | k1
 ·exact absurd HA.1 (by simp [laws_toIntS.l0])
 have H := HA.1
 clear HA
 simp only [laws_toIntS.l0] at H
 by_cases y : a < (b.length : Int)
 rotate_left
 ·rw [if_neg y] at H
  have D := decide_eq_false y
  clear y
  obtain rfl := Option.some.inj H
  go_wp2
  go_ret
  exact ⟨_, er_, pr_ c.1, pb_ HB.1⟩
 rw [if_pos y] at H
 have D := decide_eq_true y
 clear y
 by_cases K : 0 ≤ a
 rotate_left
 ·rw [if_neg K] at H
  exact nn_ H
 rw [if_pos K] at H
 have ac := decide_eq_true K
 clear K
 by_cases L : a < (d.length : Int)
 rotate_left
 ·rw [if_neg L] at H
  exact nn_ H
 rw [if_pos L] at H
 have ad := decide_eq_true L
 clear L
 obtain ⟨n, hy243⟩ : ∃ y_ : List Int, y_ = (d.set (a : Int).toNat (rd b a)) := ⟨_, rfl⟩
 replace H : (laws_toIntS.l0 k1 b n (wrap64 (a + 1))) = some r := hb_ hy243 H
 have s := Q_ hy243
 clear hy243
 have H' := Q_ H
 clear H
 have l : 0 ≤ (a : Int) := dt_
 have m : a < (b.length : Int) := dt_
 obtain ⟨P, E, g⟩ := Kd.at_int O.1 a l m
 cases E
 replace g := bt_ HB g
 replace l := eq_true l
 replace m := eq_true m
 have U : 0 ≤ (a : Int) := dt_
 have V : (a : Int) < ((d.length : Int) : Int) := dt_
 obtain ⟨u, Q, F, G, gl9, ag, HG9⟩ := Kd.R_form c.1 (by omega)
 (first | cases F | (injection F with ea_ en_ ec_; (first | subst ea_ | (injection ea_ with ea_; subst ea_)); subst ec_; clear en_))
 have M := Q_ G
 have ae := Q_ HG9
 clear G gl9 HG9
 obtain ⟨T, S⟩ := Kd.R_celln 0 c.1 (a : Int) U V
 replace U := eq_true U
 replace V := eq_true V
 have HP10 := Kd.R_putg c.1 (a : Int) (rd b a)
 go_wp2_with (first | ((with_reducible refine gate_store (t := 3) (p := 20) rfl ?_); refine store_event (t := 3) (p := 20) (v := ?vo_w11) (w1 := (wr.setCell ⟨u, (a : Int).toNat, none⟩ (.int .i64 (rd b a)))) ?hg ?ho ?hn ?hr ?_; (case ho => rfl); (case hg => rfl); (case hn => rfl); (case hr => first | (go_simp; done) | (go_simp; rfl)); intro x hw; have hg : wr.grownBy x (some u) := (by rw [hw]; exact HP10.2); have hp_ : Kd.R (Kd.int .i64) 3 x w.heap.size (fun _ => True) (.slice (some ⟨u, 0, none⟩) d.length Q) n := (by rw [hw, s.1]; exact HP10.1); clear HP10; have _ := Q_ (hp_); have _ := Q_ ((by rw [hw]; exact below_set (HB.1) M.1 : Below w.heap.size w x)); clear c HB; rename_i c HB; clear hg hw hp_))
 go_roundg k1
 case measure => have := z.1; omega
 case rel => exact ⟨(n), (wrap64 (a + 1)), el_, H', ⟨by have := z.1; omega⟩, ⟨pr_ c.1⟩, ⟨pb_ HB.1⟩⟩

/-! ### laws_toBox: function 39 -/
def laws_toBox.f (k : Nat) (a : Int) (c : List Int) (d : List Int) (b : Bool) : Option (Int × List Int × List Int × Bool) := (laws_toIntS.f k c).bind fun e => ((laws_toIntS.f k d).bind fun g => (some (a, e, g, b)))
theorem laws_toBox.mono : ∀ a b c d k, LeO (laws_toBox.f k a b c d) (laws_toBox.f (k + 1) a b c d) := by
 intro a b c d k
 unfold laws_toBox.f
 exact mo1_ laws_toIntS.mono
theorem laws_toBox.calls (k : Nat) (l : Int) (A : Option Addr) (E : Nat) (q : List Int) (B : Option Addr) (F : Nat) (r : List Int) (m : Bool) (r1 : Int) (r2 : List Int) (r3 : List Int) (r4 : Bool) (w : World) (hr0_1 : Kd.C (Kd.int .i64) w A q.length q) (S : q.length ≤ E) (hr0_2 : Kd.C (Kd.int .i64) w B r.length r) (T : r.length ≤ F) (h : laws_toBox.f k l q r m = some (r1, r2, r3, r4)) :
  Calls Try.prog 39 #[.agg #[.int .i64 l, .slice A q.length E, .slice B r.length F, .bool m]] w fun e w' => ∃ v1_ v2_ : Value, e = .returned (.agg #[.int .i64 r1, v1_, v2_, .bool r4]) ∧ Kd.R (Kd.int .i64) 3 w' w.heap.size (fun k_ => some k_ ≠ (v2_ : Value).ownBlock) v1_ r2 ∧ Kd.R (Kd.int .i64) 3 w' w.heap.size (fun k_ => some k_ ≠ (v1_ : Value).ownBlock) v2_ r3 ∧ Below w.heap.size w w' := by
 have hu55 := Try.underlying55
 have hu59 := Try.underlying59
 have Z := Q_ hr0_1
 have X := Q_ S
 clear hr0_1 S
 have aa := Q_ hr0_2
 have Y := Q_ T
 clear hr0_2 T
 have HB := Q_ (Below.refl w.heap.size w)
 have H : ((laws_toIntS.f k q).bind fun s => ((laws_toIntS.f k r).bind fun u => (some (l, s, u, m)))) = some (r1, r2, r3, r4) := h
 clear h
 obtain ⟨s, A2, H⟩ := bs_ H
 (try dsimp only at H)
 obtain ⟨u, A3, H⟩ := bs_ H
 replace H : (some (l, s, u, m)) = some (r1, r2, r3, r4) := H
 simp only [Option.some.injEq, Prod.mk.injEq] at H
 obtain ⟨rfl, rfl, rfl, rfl⟩ := H
 go_enter Try.func39, Try.ntmps39
 go_wp2_with (first | ((with_reducible refine gate_dst (N := 1) rfl ?_); refine bx_ 1 #[.int .i64 l, .slice A q.length E, .slice B r.length F, .bool m] 55 ?_; intro Q hg w4 hbox hb; have _ := Q_ (below_step (pb_ HB.1) hb); have a := Q_ (hbox); have U := Q_ (gw_ (w := w) hg (pb_ HB.1)); have d := U; clear HB; rename_i HB; clear hb hbox hg) | ((with_reducible refine gate_dst (N := 2) rfl ?_); refine bx_ 2 #[.int .i64 0, .slice none 0 0, .slice none 0 0, .bool false] 59 ?_; intro i hg w5 hbox hb; have _ := Q_ (bb_ a.1 hb); have _ := Q_ (below_step (pb1_ HB.1 d.1) hb); have b := Q_ (hbox); have V := Q_ (gw_ (w := w) hg (pb1_ HB.1 d.1)); have j := V; have x := Q_ (nb_ hg a); have K := Q_ x.1.symm; clear a HB; rename_i a HB; clear hb hbox hg) | ((with_reducible refine gate_dst (N := 3) rfl ?_); refine bx_ 3 #[.int .i64 0, .slice none 0 0, .slice none 0 0, .bool false] 59 ?_; intro n hg w6 hbox hb; have _ := Q_ (bb_ a.1 hb); have _ := Q_ (bb_ b.1 hb); have _ := Q_ (below_step (pb2_ HB.1 d.1 j.1) hb); have c := Q_ (hbox); have W := Q_ (gw_ (w := w) hg (pb2_ HB.1 d.1 j.1)); have t := W; have y := Q_ (nb_ hg a); have L := Q_ y.1.symm; have z := Q_ (nb_ hg b); have M := Q_ z.1.symm; clear a b HB; rename_i a b HB; clear hb hbox hg; have aq := x.1; have au := K.1; have ar := y.1; have av := L.1; have ap := bc4_ a.1; have an := M.1; have ao := z.1; have ah := bc4_ c.1) | ((with_reducible refine gate_callee (f := 17) rfl ?_); refine gl_ (some 9) Try.func17 #[.slice A q.length E] ?_; (with_reducible refine (laws_toIntS.calls k _ _ q s _ ?side1 X.1 A2.1).mono ?_); (case side1 => exact Kd.C_below Z.1 (pb3_ HB.1 d.1 j.1 t.1)); rintro e aA ⟨aw, rfl, O, hb⟩; refine ⟨_, rfl, ?_⟩; have _ := Q_ (Kd.R_lower O (below_size (pb3_ HB.1 d.1 j.1 t.1))); have _ := Q_ (blk_below (g := Q) (o := .cells #[.int .i64 l, .slice A q.length E, .slice B r.length F, .bool m] 55 (0, 0)) (pp_ a.1) hb); have _ := Q_ (blk_below (g := i) (o := .cells #[.int .i64 0, .slice none 0 0, .slice none 0 0, .bool false] 59 (0, 0)) (pp_ b.1) hb); have _ := Q_ (blk_below (g := n) (o := .cells #[.int .i64 l, .slice none 0 0, .slice none 0 0, .bool false] 59 (0, 0)) (pp_ c.1) hb); have _ := Q_ (below_step (pb3_ HB.1 d.1 j.1 t.1) hb); clear a b c HB; rename_i v a b c HB; (try clear hb O); obtain ⟨D, G, ab⟩ := Kd.R_slice v.1; subst ab; have ai := bc4_ c.1; have aj := bc4_ a.1) | ((with_reducible refine gate_callee (f := 17) rfl ?_); refine gl_ (some 13) Try.func17 #[.slice B r.length F] ?_; (with_reducible refine (laws_toIntS.calls k _ _ r u _ ?side1 Y.1 A3.1).mono ?_); (case side1 => exact Kd.C_below aa.1 (pb3_ HB.1 d.1 j.1 t.1)); rintro e aB ⟨ax, rfl, O, hb⟩; refine ⟨_, rfl, ?_⟩; have _ := Q_ (Kd.R_elder' (pr_ (Kd.R_mono (Kd.R_far (p := ⟨n, 1, none⟩) (Kd.R_types v.1 c.1 (by decide)) (fun _ hk => hk.2) (.slice D s.length G)) (fun _ h_ => h_.1))) (Kd.R_base O) hb); have _ := Q_ (Kd.R_lower (Kd.R_new' O (Kd.R_lt (pr_ (Kd.R_mono (Kd.R_far (p := ⟨n, 1, none⟩) (Kd.R_types v.1 c.1 (by decide)) (fun _ hk => hk.2) (.slice D s.length G)) (fun _ h_ => h_.1))))) (below_size (pb3_ HB.1 d.1 j.1 t.1))); have _ := Q_ (blk_below (g := Q) (o := .cells #[.int .i64 l, .slice A q.length E, .slice B r.length F, .bool m] 55 (0, 0)) (pp_ a.1) hb); have _ := Q_ (blk_below (g := i) (o := .cells #[.int .i64 0, .slice none 0 0, .slice none 0 0, .bool false] 59 (0, 0)) (pp_ b.1) hb); have _ := Q_ (blk_below (g := n) (o := .cells #[.int .i64 l, .slice D s.length G, .slice none 0 0, .bool false] 59 (0, 0)) (pp_ c.1) hb); have _ := Q_ (below_step (pb3_ HB.1 d.1 j.1 t.1) hb); clear v a b c HB; rename_i v P a b c HB; (try clear hb O); obtain ⟨I, J, ac⟩ := Kd.R_slice P.1; subst ac; have ak := bc4_ c.1; have al := bc4_ a.1; have am := bc4_ b.1))
 refine bodyPost_ret (results_cell_row rfl _ _ i 59 #[.int .i64 l, .slice D s.length G, .slice I u.length J, .bool m] (0, 0) _ rfl (pp_ b.1) Try.underlying59 rfl (by kernel_rfl)) rfl ?_
 exact ⟨_, _, er_, pr_ (Kd.R_mono (Kd.R_far (p := ⟨i, 3, none⟩) (Kd.R_far (p := ⟨i, 2, none⟩) (Kd.R_far (p := ⟨i, 1, none⟩) (Kd.R_far (p := ⟨i, 0, none⟩) (Kd.R_far (p := ⟨n, 3, none⟩) (Kd.R_far (p := ⟨n, 2, none⟩) (Kd.R_types (Kd.R_types v.1 c.1 (by decide)) b.1 (by decide)) (fun _ hk => hk.1.2) (.slice I u.length J)) (fun _ hk => hk.1.2) (.bool m)) (fun _ hk => hk.2) (.int .i64 l)) (fun _ hk => hk.2) (.slice D s.length G)) (fun _ hk => hk.2) (.slice I u.length J)) (fun _ hk => hk.2) (.bool m)) (fun _ hk => hk.1.1.2)), pr_ (Kd.R_mono (Kd.R_far (p := ⟨i, 3, none⟩) (Kd.R_far (p := ⟨i, 2, none⟩) (Kd.R_far (p := ⟨i, 1, none⟩) (Kd.R_far (p := ⟨i, 0, none⟩) (Kd.R_far (p := ⟨n, 3, none⟩) (Kd.R_far (p := ⟨n, 2, none⟩) (Kd.R_types (Kd.R_types P.1 c.1 (by decide)) b.1 (by decide)) (fun _ hk => hk.1.2) (.slice I u.length J)) (fun _ hk => hk.1.2) (.bool m)) (fun _ hk => hk.2) (.int .i64 l)) (fun _ hk => hk.2) (.slice D s.length G)) (fun _ hk => hk.2) (.slice I u.length J)) (fun _ hk => hk.2) (.bool m)) (fun _ hk => hk.1.1.2)), pb3_ HB.1 d.1 j.1 t.1⟩

/-! ### laws_toBoxS: function 18 -/
def laws_toBoxS.l0 : Nat → List (S55) → List (S59) → Int → Option ((List (S59)))
 | 0, _, _, _ => none
 | k + 1, c, d, b => if b < (c.length : Int) then (if 0 ≤ b then ((laws_toBox.f k ((rd_T55 c b).f0) ((rd_T55 c b).f1) ((rd_T55 c b).f2) ((rd_T55 c b).f3)).bind fun a => (if b < (d.length : Int) then (laws_toBoxS.l0 k c (d.set (b : Int).toNat (⟨a.1, a.2.1, a.2.2.1, a.2.2.2⟩ : S59)) (wrap64 (b + 1))) else (none))) else (none)) else (some d)
def laws_toBoxS.f (k : Nat) (a : List (S55)) : Option ((List (S59))) := if 0 ≤ (a.length : Int) then (if ((a.length : Int) : Int).toNat ≤ 4398046511104 then (laws_toBoxS.l0 k a (List.replicate ((a.length : Int) : Int).toNat z59) 0) else (none)) else (none)
theorem laws_toBoxS.mono_l : ∀ k, (∀ a b c, LeO (laws_toBoxS.l0 k a b c) (laws_toBoxS.l0 (k + 1) a b c))
 | 0 => fun _ _ _ r h => by simp [laws_toBoxS.l0] at h
 | k + 1 => by
  have ih0 := laws_toBoxS.mono_l k
  ·intro a b c
   unfold laws_toBoxS.l0
   exact mo2_ ih0 laws_toBox.mono
theorem laws_toBoxS.mono : ∀ a k, LeO (laws_toBoxS.f k a) (laws_toBoxS.f (k + 1) a) := by
 intro a k
 have ih0 := laws_toBoxS.mono_l k
 unfold laws_toBoxS.f
 exact mo2_ ih0 laws_toBox.mono
theorem laws_toBoxS.calls (k : Nat) (A0 : Option Addr) (c0 : Nat) (g : List (S55)) (r : List (S59)) (w : World) (hr0 : Kd.C k55 w A0 g.length g) (aA : g.length ≤ c0) (h : laws_toBoxS.f k g = some r) :
  Calls Try.prog 18 #[.slice A0 g.length c0] w fun e w' => ∃ v0_ : Value, e = .returned (v0_) ∧ Kd.S k59 59 w' w.heap.size (fun _ => True) v0_ r ∧ Below w.heap.size w w' := by
 have hu55 := Try.underlying55
 have hu59 := Try.underlying59
 have aM := Q_ hr0
 have a0 := Q_ aA
 clear hr0 aA
 have HB := Q_ (Below.refl w.heap.size w)
 have H : (if 0 ≤ (g.length : Int) then (if ((g.length : Int) : Int).toNat ≤ 4398046511104 then (laws_toBoxS.l0 k g (List.replicate ((g.length : Int) : Int).toNat z59) 0) else (none)) else (none)) = some r := h
 clear h
 by_cases c2 : 0 ≤ (g.length : Int)
 rotate_left
 ·rw [if_neg c2] at H
  exact nn_ H
 rw [if_pos c2] at H
 have aS := eq_true c2
 have aT : decide (0 ≤ (g.length : Int)) = true := decide_eq_true c2
 clear c2
 by_cases c3 : ((g.length : Int) : Int).toNat ≤ 4398046511104
 rotate_left
 ·rw [if_neg c3] at H
  exact nn_ H
 rw [if_pos c3] at H
 have aU := eq_true c3
 have aV : decide (((g.length : Int) : Int).toNat ≤ 4398046511104) = true := decide_eq_true c3
 clear c3
 obtain ⟨aj, hy253⟩ : ∃ y_ : List (S59), y_ = (List.replicate ((g.length : Int) : Int).toNat z59) := ⟨_, rfl⟩
 replace H : (laws_toBoxS.l0 k g aj 0) = some r := hb_ hy253 H
 have L := Q_ hy253
 clear hy253
 have H' := Q_ H
 clear H
 go_enter Try.func18, Try.ntmps18
 go_wp2_with (first | ((with_reducible refine gate_dst (N := 7) rfl ?_); refine Kd.S_make k59 _ 59 rfl (N := 7) rfl 31 _ _ rfl (g.length : Int) rfl rfl Try.underlying31 (.agg #[(.int .i64 0), (.slice none 0 0), (.slice none 0 0), (.bool false)]) 64 info59 rfl (by decide) (by omega) z59 (ok := fun _ => True) (okp := fun _ => True) (k59_mkM _ _ _ z59 (Kd.R_nil _ _ _ _ _) (Kd.R_nil _ _ _ _ _)) (fun _ hk => hk) trivial dt_ (Nat.le_trans (Nat.mul_le_mul_right _ (dt_ : (g.length : Int).toNat ≤ 4398046511104)) (by omega)) (Below.refl _ _) (Nat.le_refl _) ?_; intro aB w4 M hb hg_ hnew_; clear hg_ hnew_; (first | rw [← L.1] at M | (simp only [Int.reduceToNat] at M; rw [← L.1] at M)); have _ := Q_ (Kd.S_lower M (below_size (pb_ HB.1))); have _ := Q_ (below_step (pb_ HB.1) hb); clear HB; rename_i ak HB; clear hb M))
 (try simp only [Act.put, s1_, s2_, s3_])
 go_loopg [4] k (fun kq v4 w' => ∃ (d : List (S59)) (a : Int), v4 = .int .i64 a ∧ Aside0 (laws_toBoxS.l0 kq g d a = some r) ∧ Aside0 (kq ≤ k) ∧ Aside0 (Kd.S k59 59 w' w.heap.size (fun _ => True) aB d) ∧ Aside0 (Below w.heap.size w w'))
 case atStart => exact ⟨(aj), (0), el_, H', ⟨Nat.le_refl _⟩, ⟨ps_ ak.1⟩, ⟨pb_ HB.1⟩⟩
 clear H'
 obtain ⟨d, a, rfl, HA, au, b, HB⟩ := hrel
 rcases gk with _ | k1
 ·exact absurd HA.1 (by simp [laws_toBoxS.l0])
 have H := HA.1
 clear HA
 simp only [laws_toBoxS.l0] at H
 by_cases c6 : a < (g.length : Int)
 rotate_left
 ·rw [if_neg c6] at H
  have ay := decide_eq_false c6
  clear c6
  obtain rfl := Option.some.inj H
  go_wp2
  go_ret
  exact ⟨_, er_, ps_ b.1, pb_ HB.1⟩
 rw [if_pos c6] at H
 have ay := decide_eq_true c6
 clear c6
 by_cases c7 : 0 ≤ a
 rotate_left
 ·rw [if_neg c7] at H
  exact nn_ H
 rw [if_pos c7] at H
 have aW := decide_eq_true c7
 clear c7
 obtain ⟨⟨n, B, D, o⟩, A8, H⟩ := bs_ H
 (try dsimp only at H)
 by_cases c9 : a < (d.length : Int)
 rotate_left
 ·rw [if_neg c9] at H
  exact nn_ H
 rw [if_pos c9] at H
 have aX := decide_eq_true c9
 clear c9
 obtain ⟨Q, hy265⟩ : ∃ y_ : List (S59), y_ = (d.set (a : Int).toNat (⟨n, B, D, o⟩ : S59)) := ⟨_, rfl⟩
 replace H : (laws_toBoxS.l0 k1 g Q (wrap64 (a + 1))) = some r := hb_ hy265 H
 have al := Q_ hy265
 clear hy265
 have H' := Q_ H
 clear H
 have O : 0 ≤ (a : Int) := dt_
 have P : a < (g.length : Int) := dt_
 obtain ⟨aN, R, U, T, V, az, u, x, y, z, G, J, I, K⟩ := at_U55 aM.1 a O P
 cases az
 replace u := bt_ HB u
 replace x := bt_ HB x
 replace y := bt_ HB y
 replace z := bt_ HB z
 replace O := eq_true O
 replace P := eq_true P
 go_wp2_with (first | ((with_reducible refine gate_callee (f := 39) rfl ?_); refine gl_ (some 20) Try.func39 #[.agg #[.int .i64 ((rd_T55 g a).f0), .slice R ((rd_T55 g a).f1).length U, .slice T ((rd_T55 g a).f2).length V, .bool ((rd_T55 g a).f3)]] ?_; (with_reducible refine (laws_toBox.calls k1 ((rd_T55 g a).f0) _ _ ((rd_T55 g a).f1) _ _ ((rd_T55 g a).f2) ((rd_T55 g a).f3) n B D o _ (cb_ J HB) G.1 (cb_ K HB) I.1 A8.1).mono ?_); rintro e m ⟨E, F, rfl, am, an, hb⟩; refine ⟨_, rfl, ?_⟩; have _ := Q_ (Kd.S_mono (Kd.S_told (Kd.S_told (Kd.S_old (ps_ b.1) hb) (Kd.R_base am)) (Kd.R_base an)) (fun _ h_ => h_.1)); have _ := Q_ (Kd.R_lower am (below_size (pb_ HB.1))); have _ := Q_ (Kd.R_lower an (below_size (pb_ HB.1))); have _ := Q_ (below_step (pb_ HB.1) hb); clear b HB; rename_i b q s HB; (try clear hb am an); have ao : 0 ≤ (a : Int) := dt_; have ap : (a : Int) < ((d.length : Int) : Int) := dt_; obtain ⟨c, ae, af, ag, gl10, aY, HG10⟩ := Kd.S_form b.1 (by omega); (first | cases af | (injection af with ea_ en_ ec_; (first | subst ea_ | (injection ea_ with ea_; subst ea_)); subst ec_; clear en_)); have A := Q_ ag; have aQ := Q_ HG10; clear ag gl10 HG10; obtain ⟨_, ce10, hcl10, ah, i, hfr10, _, _⟩ := Kd.S_elem b.1 z59 (a : Int) ao ap; obtain ⟨ve10_1, ve10_2, rfl, ge10_1, ge10_2⟩ := k59_openM ah; have aI : m.cell? ⟨c, (a : Int).toNat * 4, none⟩ = some (.int .i64 ((rd_T59 d a).f0)) := i 0 _ rfl; have aJ : m.cell? ⟨c, (a : Int).toNat * 4 + 1, none⟩ = some (ve10_1) := i 1 _ rfl; have aK : m.cell? ⟨c, (a : Int).toNat * 4 + 2, none⟩ = some (ve10_2) := i 2 _ rfl; have aL : m.cell? ⟨c, (a : Int).toNat * 4 + 3, none⟩ = some (.bool ((rd_T59 d a).f3)) := i 3 _ rfl; have aE : m.frozen? ⟨c, (a : Int).toNat * 4, none⟩ = false := hfr10 0; have aF : m.frozen? ⟨c, (a : Int).toNat * 4 + 1, none⟩ = false := hfr10 1; have aG : m.frozen? ⟨c, (a : Int).toNat * 4 + 2, none⟩ = false := hfr10 2; have aH : m.frozen? ⟨c, (a : Int).toNat * 4 + 3, none⟩ = false := hfr10 3; clear hcl10 i hfr10; (try clear ah); replace ao := eq_true ao; replace ap := eq_true ap; have n_ := Q_ (Kd.S_mono (ok' := (fun k_ => some k_ ≠ (E : Value).ownBlock ∧ some k_ ≠ (F : Value).ownBlock)) b.1 (fun k_ hk => ⟨hk.1.2, hk.2⟩)); clear b; have b := n_; clear n_; have av := Q_ (show Kd.S k59 59 m w.heap.size (fun k_ => ((fun _ => True)) k_ ∧ ¬ ((fun k_ => some k_ = (E : Value).ownBlock ∨ some k_ = (F : Value).ownBlock)) k_) (.slice (some ⟨c, 0, none⟩) d.length ae) d from (by (with_reducible repeat (first | apply Kd.S_alloc | apply Kd.S_drewN | apply Kd.S_drew)); exact Kd.S_mono b.1 (fun k_ hk => ⟨trivial, fun e_ => e_.elim (fun h_ => hk.1 h_) (fun h_ => hk.2 h_)⟩))); obtain ⟨aO, ce12, hcl12, ai, l, hfr12, hoki12, hH12⟩ := Kd.S_elem av.1 z59 (a : Int) dt_ (by have h_ : (a : Int) < ((d.length : Int) : Int) := dt_; first | exact h_ | (have e_ := (Kd.S_reads' b.1).1; omega) | simpa using h_); obtain ⟨ve12_1, ve12_2, rfl, ge12_1, ge12_2⟩ := k59_openM ai; have HP12 := Kd.S_seg hH12 dt_ (by have h_ : (a : Int) < ((d.length : Int) : Int) := dt_; first | exact h_ | (have e_ := (Kd.S_reads' b.1).1; omega) | simpa using h_) (seg := [.int .i64 n, E, F, .bool o]) (j := 0) (show 4 ≤ 4 from by decide) (x' := (⟨n, B, D, o⟩ : S59)) (k59_mkM _ _ _ (⟨n, B, D, o⟩ : S59) (Kd.R_mono (Kd.R_tight rfl (Kd.R_mono (ok' := fun k_ => ((fun _ => True)) k_ ∧ k_ ≠ c) (Kd.R_apart' (q.1) (Kd.S_typed b.1) (by decide)) (fun k_ hk => ⟨trivial, fun e_ => (hk.2) (by rw [e_]; rfl)⟩))) (fun _ h_ => Or.inr (Or.inl h_))) (Kd.R_mono (Kd.R_tight rfl (Kd.R_mono (ok' := fun k_ => ((fun _ => True)) k_ ∧ k_ ≠ c) (Kd.R_apart' (s.1) (Kd.S_typed b.1) (by decide)) (fun k_ hk => ⟨trivial, fun e_ => (hk.2) (by rw [e_]; rfl)⟩))) (fun _ h_ => Or.inr (Or.inr (h_))))) (fun _ hk => hk) (fun k_ hk_ => hk_.elim (fun h_ => ((Kd.R_mono (ok' := fun k_ => ((fun _ => True)) k_ ∧ k_ ≠ c) (Kd.R_apart' (q.1) (Kd.S_typed b.1) (by decide)) (fun k_ hk => ⟨trivial, fun e_ => (hk.2) (by rw [e_]; rfl)⟩))).1 k_ h_.symm) (fun h_ => ((Kd.R_mono (ok' := fun k_ => ((fun _ => True)) k_ ∧ k_ ≠ c) (Kd.R_apart' (s.1) (Kd.S_typed b.1) (by decide)) (fun k_ hk => ⟨trivial, fun e_ => (hk.2) (by rw [e_]; rfl)⟩))).1 k_ h_.symm)); have aa := l 0 _ rfl; (try simp only [show (k59).sz = 4 from rfl, Nat.mul_one, Nat.add_zero] at aa); have W := hfr12 0; (try simp only [show (k59).sz = 4 from rfl, Nat.mul_one, Nat.add_zero] at W); have ab := l 1 _ rfl; (try simp only [show (k59).sz = 4 from rfl, Nat.mul_one, Nat.add_zero] at ab); have X := hfr12 1; (try simp only [show (k59).sz = 4 from rfl, Nat.mul_one, Nat.add_zero] at X); have ac := l 2 _ rfl; (try simp only [show (k59).sz = 4 from rfl, Nat.mul_one, Nat.add_zero] at ac); have Y := hfr12 2; (try simp only [show (k59).sz = 4 from rfl, Nat.mul_one, Nat.add_zero] at Y); have ad := l 3 _ rfl; (try simp only [show (k59).sz = 4 from rfl, Nat.mul_one, Nat.add_zero] at ad); have Z := hfr12 3; (try simp only [show (k59).sz = 4 from rfl, Nat.mul_one, Nat.add_zero] at Z); clear hcl12 l hfr12 hoki12 hH12; (try clear ai)) | ((with_reducible refine gate_store (t := 59) (p := 21) rfl ?_); refine store_event (t := 59) (p := 21) (v := ?vo_w13) (w1 := ((((m.setCell ⟨c, (a : Int).toNat * 4, none⟩ (.int .i64 n)).setCell ⟨c, (a : Int).toNat * 4 + 1, none⟩ (E)).setCell ⟨c, (a : Int).toNat * 4 + 2, none⟩ (F)).setCell ⟨c, (a : Int).toNat * 4 + 3, none⟩ (.bool o))) ?hg ?ho ?hn ?hr ?_; (case ho => rfl); (case hg => rfl); (case hn => rfl); (case hr => first | (go_simp; done) | (go_simp; rfl) | (obtain ⟨Ae_, ce_, ee_⟩ := Kd.R_slice q.1; subst ee_; obtain ⟨Ae_, ce_, ee_⟩ := Kd.R_slice s.1; subst ee_; go_simp; first | done | rfl)); intro aq hw; have hg : m.grownBy aq (some c) := (by rw [hw]; exact HP12.2); have hp_ : Kd.S k59 59 aq w.heap.size (fun _ => True) (.slice (some ⟨c, 0, none⟩) d.length ae) Q := (by rw [hw, al.1]; exact HP12.1); clear HP12; have _ := Q_ (hp_); have _ := Q_ ((by rw [hw]; exact below_set (below_set (below_set (below_set (HB.1) A.1) A.1) A.1) A.1 : Below w.heap.size w aq)); clear b HB q s; rename_i b HB; clear hg hw hp_))
 go_roundg k1
 case measure => have := au.1; omega
 case rel => exact ⟨(Q), (wrap64 (a + 1)), el_, H', ⟨by have := au.1; omega⟩, ⟨ps_ b.1⟩, ⟨pb_ HB.1⟩⟩

/-! ### laws_toEndpoint: function 6 -/
def laws_toEndpoint.f (k : Nat) (b : List Int) (c : List Int) (d : List (S55)) (a : Int) : Option (List Int × List Int × (List (S59)) × Int) := (laws_toIntS.f k b).bind fun e => ((laws_toIntS.f k c).bind fun g => ((laws_toBoxS.f k d).bind fun h => (some (e, g, h, a))))
theorem laws_toEndpoint.mono : ∀ a b c d k, LeO (laws_toEndpoint.f k a b c d) (laws_toEndpoint.f (k + 1) a b c d) := by
 intro a b c d k
 unfold laws_toEndpoint.f
 exact mo2_ laws_toBoxS.mono laws_toIntS.mono
theorem laws_toEndpoint.calls (k : Nat) (I : Option Addr) (M : Nat) (s : List Int) (J : Option Addr) (O : Nat) (t : List Int) (K : Option Addr) (P : Nat) (u : List (S55)) (m : Int) (r1 : List Int) (r2 : List Int) (r3 : List (S59)) (r4 : Int) (w : World) (hr0_0 : Kd.C (Kd.int .i64) w I s.length s) (Z : s.length ≤ M) (hr0_1 : Kd.C (Kd.int .i64) w J t.length t) (aa : t.length ≤ O) (hr0_2 : Kd.C k55 w K u.length u) (ab : u.length ≤ P) (h : laws_toEndpoint.f k s t u m = some (r1, r2, r3, r4)) :
  Calls Try.prog 6 #[.agg #[.slice I s.length M, .slice J t.length O, .slice K u.length P, .int .i64 m]] w fun e w' => ∃ v0_ v1_ v2_ : Value, e = .returned (.agg #[v0_, v1_, v2_, .int .i64 r4]) ∧ Kd.R (Kd.int .i64) 3 w' w.heap.size (fun k_ => some k_ ≠ (v1_ : Value).ownBlock) v0_ r1 ∧ Kd.R (Kd.int .i64) 3 w' w.heap.size (fun k_ => some k_ ≠ (v0_ : Value).ownBlock) v1_ r2 ∧ Kd.S k59 59 w' w.heap.size (fun k_ => some k_ ≠ (v0_ : Value).ownBlock ∧ some k_ ≠ (v1_ : Value).ownBlock) v2_ r3 ∧ Below w.heap.size w w' := by
 have hu25 := Try.underlying25
 have hu33 := Try.underlying33
 have ai := Q_ hr0_0
 have af := Q_ Z
 clear hr0_0 Z
 have aj := Q_ hr0_1
 have ag := Q_ aa
 clear hr0_1 aa
 have ak := Q_ hr0_2
 have ah := Q_ ab
 clear hr0_2 ab
 have HB := Q_ (Below.refl w.heap.size w)
 have H : ((laws_toIntS.f k s).bind fun x => ((laws_toIntS.f k t).bind fun q => ((laws_toBoxS.f k u).bind fun v => (some (x, q, v, m))))) = some (r1, r2, r3, r4) := h
 clear h
 obtain ⟨x, A2, H⟩ := bs_ H
 (try dsimp only at H)
 obtain ⟨q, A3, H⟩ := bs_ H
 (try dsimp only at H)
 obtain ⟨v, A4, H⟩ := bs_ H
 replace H : (some (x, q, v, m)) = some (r1, r2, r3, r4) := H
 simp only [Option.some.injEq, Prod.mk.injEq] at H
 obtain ⟨rfl, rfl, rfl, rfl⟩ := H
 go_enter Try.func6, Try.ntmps6
 go_wp2_with (first | ((with_reducible refine gate_dst (N := 1) rfl ?_); refine bx_ 1 #[.slice I s.length M, .slice J t.length O, .slice K u.length P, .int .i64 m] 25 ?_; intro Y hg w5 hbox hb; have _ := Q_ (below_step (pb_ HB.1) hb); have a := Q_ (hbox); have ac := Q_ (gw_ (w := w) hg (pb_ HB.1)); have i := ac; clear HB; rename_i HB; clear hb hbox hg) | ((with_reducible refine gate_dst (N := 2) rfl ?_); refine bx_ 2 #[.slice none 0 0, .slice none 0 0, .slice none 0 0, .int .i64 0] 33 ?_; intro d hg w6 hbox hb; have _ := Q_ (bb_ a.1 hb); have _ := Q_ (below_step (pb1_ HB.1 i.1) hb); have c := Q_ (hbox); have ad := Q_ (gw_ (w := w) hg (pb1_ HB.1 i.1)); have l := ad; have D := Q_ (nb_ hg a); have U := Q_ D.1.symm; clear a HB; rename_i a HB; clear hb hbox hg) | ((with_reducible refine gate_dst (N := 3) rfl ?_); refine bx_ 3 #[.slice none 0 0, .slice none 0 0, .slice none 0 0, .int .i64 0] 33 ?_; intro j hg w7 hbox hb; have _ := Q_ (bb_ a.1 hb); have _ := Q_ (bb_ c.1 hb); have _ := Q_ (below_step (pb2_ HB.1 i.1 l.1) hb); have b := Q_ (hbox); have ae := Q_ (gw_ (w := w) hg (pb2_ HB.1 i.1 l.1)); have r := ae; have E := Q_ (nb_ hg a); have V := Q_ E.1.symm; have F := Q_ (nb_ hg c); have W := Q_ F.1.symm; clear a c HB; rename_i a c HB; clear hb hbox hg; have aE := D.1; have aG := U.1; have aF := E.1; have aH := V.1; have au := bc4_ a.1) | ((with_reducible refine gate_callee (f := 17) rfl ?_); refine gl_ (some 6) Try.func17 #[.slice I s.length M] ?_; (with_reducible refine (laws_toIntS.calls k _ _ s x _ (cb_ ai HB) af.1 A2.1).mono ?_); rintro e aO ⟨aI, rfl, T, hb⟩; refine ⟨_, rfl, ?_⟩; have _ := Q_ (Kd.R_lower T (below_size (pb3_ HB.1 i.1 l.1 r.1))); have _ := Q_ (bb_ a.1 hb); have _ := Q_ (bb_ c.1 hb); have _ := Q_ (bb_ b.1 hb); have _ := Q_ (below_step (pb3_ HB.1 i.1 l.1 r.1) hb); clear a c b HB; rename_i n a c b HB; (try clear hb T); obtain ⟨L, Q, al⟩ := Kd.R_slice n.1; subst al; have aC := W.1; have aD := F.1; have av := bc4_ b.1; have aw := bc4_ a.1) | ((with_reducible refine gate_callee (f := 17) rfl ?_); refine gl_ (some 10) Try.func17 #[.slice J t.length O] ?_; (with_reducible refine (laws_toIntS.calls k _ _ t q _ ?side1 ag.1 A3.1).mono ?_); (case side1 => exact Kd.C_below aj.1 (pb3_ HB.1 i.1 l.1 r.1)); rintro e aP ⟨aJ, rfl, T, hb⟩; refine ⟨_, rfl, ?_⟩; have _ := Q_ (Kd.R_elder' (pr_ (rf1_ n.1 b.1)) (Kd.R_base T) hb); have _ := Q_ (Kd.R_lower (Kd.R_new' T (Kd.R_lt (pr_ (rf1_ n.1 b.1)))) (below_size (pb3_ HB.1 i.1 l.1 r.1))); have _ := Q_ (blk_below (g := Y) (o := .cells #[.slice I s.length M, .slice J t.length O, .slice K u.length P, .int .i64 m] 25 (0, 0)) (pp_ a.1) hb); have _ := Q_ (blk_below (g := d) (o := .cells #[.slice none 0 0, .slice none 0 0, .slice none 0 0, .int .i64 0] 33 (0, 0)) (pp_ c.1) hb); have _ := Q_ (blk_below (g := j) (o := .cells #[.slice L x.length Q, .slice none 0 0, .slice none 0 0, .int .i64 0] 33 (0, 0)) (pp_ b.1) hb); have _ := Q_ (below_step (pb3_ HB.1 i.1 l.1 r.1) hb); clear n a c b HB; rename_i n A a c b HB; (try clear hb T); obtain ⟨y, z, am⟩ := Kd.R_slice A.1; subst am; have ax := bc4_ b.1; have ay := bc4_ a.1) | ((with_reducible refine gate_callee (f := 18) rfl ?_); refine gl_ (some 14) Try.func18 #[.slice K u.length P] ?_; (with_reducible refine (laws_toBoxS.calls k _ _ u v _ ?side1 ah.1 A4.1).mono ?_); (case side1 => exact Kd.C_below ak.1 (pb3_ HB.1 i.1 l.1 r.1)); rintro e aQ ⟨aK, rfl, T, hb⟩; refine ⟨_, rfl, ?_⟩; have _ := Q_ (Kd.R_below (pr_ (Kd.R_mono (Kd.R_far (p := ⟨j, 1, none⟩) (Kd.R_types n.1 b.1 (by decide)) (fun _ hk => hk.2) (.slice y q.length z)) (fun _ h_ => h_.1))) hb); have _ := Q_ (Kd.R_below (pr_ (Kd.R_mono (Kd.R_far (p := ⟨j, 1, none⟩) (Kd.R_types A.1 b.1 (by decide)) (fun _ hk => hk.2) (.slice y q.length z)) (fun _ h_ => h_.1))) hb); have _ := Q_ (Kd.S_lower (Kd.S_new' (Kd.S_new' T (Kd.R_lt (pr_ (Kd.R_mono (Kd.R_far (p := ⟨j, 1, none⟩) (Kd.R_types n.1 b.1 (by decide)) (fun _ hk => hk.2) (.slice y q.length z)) (fun _ h_ => h_.1))))) (Kd.R_lt (pr_ (Kd.R_mono (Kd.R_far (p := ⟨j, 1, none⟩) (Kd.R_types A.1 b.1 (by decide)) (fun _ hk => hk.2) (.slice y q.length z)) (fun _ h_ => h_.1))))) (below_size (pb3_ HB.1 i.1 l.1 r.1))); have _ := Q_ (blk_below (g := Y) (o := .cells #[.slice I s.length M, .slice J t.length O, .slice K u.length P, .int .i64 m] 25 (0, 0)) (pp_ a.1) hb); have _ := Q_ (blk_below (g := d) (o := .cells #[.slice none 0 0, .slice none 0 0, .slice none 0 0, .int .i64 0] 33 (0, 0)) (pp_ c.1) hb); have _ := Q_ (blk_below (g := j) (o := .cells #[.slice L x.length Q, .slice y q.length z, .slice none 0 0, .int .i64 0] 33 (0, 0)) (pp_ b.1) hb); have _ := Q_ (below_step (pb3_ HB.1 i.1 l.1 r.1) hb); clear n A a c b HB; rename_i n A X a c b HB; (try clear hb T); obtain ⟨B, G, an⟩ := Kd.S_slice X.1; subst an; have az := bc4_ b.1; have aA := bc4_ a.1; have aB := bc4_ c.1))
 refine bodyPost_ret (results_cell_row rfl _ _ d 33 #[.slice L x.length Q, .slice y q.length z, .slice B v.length G, .int .i64 m] (0, 0) _ rfl (pp_ c.1) Try.underlying33 rfl (by kernel_rfl)) rfl ?_
 exact ⟨_, _, _, er_, pr_ (Kd.R_mono (Kd.R_far (p := ⟨d, 3, none⟩) (Kd.R_far (p := ⟨d, 2, none⟩) (Kd.R_far (p := ⟨d, 1, none⟩) (Kd.R_far (p := ⟨d, 0, none⟩) (Kd.R_far (p := ⟨j, 3, none⟩) (Kd.R_far (p := ⟨j, 2, none⟩) (Kd.R_types (Kd.R_types n.1 b.1 (by decide)) c.1 (by decide)) (fun _ hk => hk.1.2) (.slice B v.length G)) (fun _ hk => hk.1.2) (.int .i64 m)) (fun _ hk => hk.2) (.slice L x.length Q)) (fun _ hk => hk.2) (.slice y q.length z)) (fun _ hk => hk.2) (.slice B v.length G)) (fun _ hk => hk.2) (.int .i64 m)) (fun _ hk => hk.1.1.2)), pr_ (Kd.R_mono (Kd.R_far (p := ⟨d, 3, none⟩) (Kd.R_far (p := ⟨d, 2, none⟩) (Kd.R_far (p := ⟨d, 1, none⟩) (Kd.R_far (p := ⟨d, 0, none⟩) (Kd.R_far (p := ⟨j, 3, none⟩) (Kd.R_far (p := ⟨j, 2, none⟩) (Kd.R_types (Kd.R_types A.1 b.1 (by decide)) c.1 (by decide)) (fun _ hk => hk.1.2) (.slice B v.length G)) (fun _ hk => hk.1.2) (.int .i64 m)) (fun _ hk => hk.2) (.slice L x.length Q)) (fun _ hk => hk.2) (.slice y q.length z)) (fun _ hk => hk.2) (.slice B v.length G)) (fun _ hk => hk.2) (.int .i64 m)) (fun _ hk => hk.1.1.2)), by (with_reducible repeat (first | apply Kd.S_alloc | apply Kd.S_drewN | apply Kd.S_drew)); exact Kd.S_mono (Kd.S_far (p := ⟨d, 3, none⟩) (Kd.S_far (p := ⟨d, 2, none⟩) (Kd.S_far (p := ⟨d, 1, none⟩) (Kd.S_far (p := ⟨d, 0, none⟩) (Kd.S_far (p := ⟨j, 3, none⟩) (Kd.S_far (p := ⟨j, 2, none⟩) (Kd.S_types (Kd.S_types X.1 b.1 (by decide)) c.1 (by decide)) (fun _ hk => hk.1.2) (.slice B v.length G)) (fun _ hk => hk.1.2) (.int .i64 m)) (fun _ hk => hk.2) (.slice L x.length Q)) (fun _ hk => hk.2) (.slice y q.length z)) (fun _ hk => hk.2) (.slice B v.length G)) (fun _ hk => hk.2) (.int .i64 m)) (fun _ hk => ⟨hk.1.1.1.2, hk.1.1.2⟩), pb3_ HB.1 i.1 l.1 r.1⟩

/-! ### impl_InRange: function 46 -/
def impl_InRange.f (a : Int) (b : Int) (c : Int) : Option (Bool) := if b ≤ a then (some (decide (a ≤ c))) else (some false)
theorem impl_InRange.calls (b : Int) (d : Int) (g : Int) (r : Bool) (w : World) (h : impl_InRange.f b d g = some r) :
  Calls Try.prog 46 #[.int .i64 b, .int .i64 d, .int .i64 g] w fun e w' => e = .returned (.bool r) ∧ Drawn0 w w' := by
 have H : (if d ≤ b then (some (decide (b ≤ g))) else (some false)) = some r := h
 clear h
 by_cases a : d ≤ b
 rotate_left
 ·rw [if_neg a] at H
  have c := decide_eq_false a
  clear a
  obtain rfl := Option.some.inj H
  go_enter Try.func46, Try.ntmps46
  go_wp2
  go_ret
  exact ⟨by first | rfl | (simp; done) | (simp [*]; done), by repeat (first | exact Drawn0.refl _ | apply Drawn0.step)⟩
 rw [if_pos a] at H
 have c := decide_eq_true a
 clear a
 obtain rfl := Option.some.inj H
 go_enter Try.func46, Try.ntmps46
 go_wp2
 go_ret
 exact ⟨by first | rfl | (simp; done) | (simp [*]; done), by repeat (first | exact Drawn0.refl _ | apply Drawn0.step)⟩

/-! ### impl_AreVersions: function 40 -/
def impl_AreVersions.l0 : Nat → List Int → List Int → Int → Int → Option (Bool)
 | 0, _, _, _, _ => none
 | k + 1, c, d, e, a => if a < e then (if 0 ≤ a then (if a < (d.length : Int) then ((impl_InRange.f (rd d a) 1 9).bind fun b => (if b = true then (if a > 0 then (if 0 ≤ (wrap64 (a - 1)) then (if (wrap64 (a - 1)) < (c.length : Int) then (if (rd c (wrap64 (a - 1))) ≥ (rd d a) then (some false) else (impl_AreVersions.l0 k c d e (wrap64 (a + 1)))) else (none)) else (none)) else (impl_AreVersions.l0 k c d e (wrap64 (a + 1)))) else (some false))) else (none)) else (none)) else (some (decide ((c.length : Int) > 0)))
def impl_AreVersions.f (k : Nat) (a : List Int) : Option (Bool) := impl_AreVersions.l0 k a a (a.length : Int) 0
theorem impl_AreVersions.mono_l : ∀ k, (∀ a b c d, LeO (impl_AreVersions.l0 k a b c d) (impl_AreVersions.l0 (k + 1) a b c d))
 | 0 => fun _ _ _ _ r h => by simp [impl_AreVersions.l0] at h
 | k + 1 => by
  have ih0 := impl_AreVersions.mono_l k
  ·intro a b c d
   unfold impl_AreVersions.l0
   exact mo1_ ih0
theorem impl_AreVersions.mono : ∀ a k, LeO (impl_AreVersions.f k a) (impl_AreVersions.f (k + 1) a) := by
 intro a k
 have ih0 := impl_AreVersions.mono_l k
 unfold impl_AreVersions.f
 exact mo1_ ih0
theorem impl_AreVersions.calls (k : Nat) (M : Option Addr) (N : Nat) (d : List Int) (r : Bool) (w : World) (hr0 : Kd.C (Kd.int .i64) w M d.length d) (B : d.length ≤ N) (h : impl_AreVersions.f k d = some r) :
  Calls Try.prog 40 #[.slice M d.length N] w fun e w' => e = .returned (.bool r) ∧ Drawn0 w w' := by
 have s := Q_ hr0
 have R := Q_ B
 clear hr0 B
 have H : (impl_AreVersions.l0 k d d (d.length : Int) 0) = some r := h
 clear h
 have H' := Q_ H
 clear H
 go_enter Try.func40, Try.ntmps40
 go_wp2
 go_loopg [7] k (fun kq S w' => ∃ (a : Int), S = .int .i64 a ∧ Aside0 (impl_AreVersions.l0 kq d d (d.length : Int) a = some r) ∧ Aside0 (kq ≤ k) ∧ Drawn0 w w')
 case atStart => exact ⟨(0), el_, H', ⟨Nat.le_refl _⟩, by repeat (first | exact Drawn0.refl _ | apply Drawn0.step)⟩
 clear H'
 obtain ⟨a, rfl, HA, q, ⟨m1, rfl⟩⟩ := hrel
 rcases gk with _ | k1
 ·exact absurd HA.1 (by simp [impl_AreVersions.l0])
 have H := HA.1
 clear HA
 simp only [impl_AreVersions.l0] at H
 by_cases v : a < (d.length : Int)
 rotate_left
 ·rw [if_neg v] at H
  have y := decide_eq_false v
  clear v
  obtain rfl := Option.some.inj H
  go_wp2
  go_ret
  exact ⟨by first | rfl | (simp; done) | (simp [*]; done), by repeat (first | exact Drawn0.refl _ | apply Drawn0.step)⟩
 rw [if_pos v] at H
 have y := decide_eq_true v
 clear v
 by_cases G : 0 ≤ a
 rotate_left
 ·rw [if_neg G] at H
  exact nn_ H
 rw [if_pos G] at H
 have O := decide_eq_true G
 clear G
 by_cases I : a < (d.length : Int)
 rotate_left
 ·rw [if_neg I] at H
  exact nn_ H
 rw [if_pos I] at H
 have P := decide_eq_true I
 clear I
 obtain ⟨E, F, H⟩ := bs_ H
 (try dsimp only at H)
 by_cases J : E = true
 rotate_left
 ·replace J := bf_ J
  subst J
  rw [if_neg ff_] at H
  obtain rfl := Option.some.inj H
  have b : 0 ≤ (a : Int) := dt_
  have c : a < (d.length : Int) := dt_
  obtain ⟨m, j, l⟩ := Kd.at_int s.1 a b c
  cases j
  replace b := eq_true b
  replace c := eq_true c
  go_wp2_with (first | ((with_reducible refine gate_callee (f := 46) rfl ?_); refine gl_ (some 13) Try.func46 #[.int .i64 (rd d a), .int .i64 1, .int .i64 9] ?_; (with_reducible refine (impl_InRange.calls (rd d a) 1 9 false _ F.1).mono ?_); rintro e w' ⟨rfl, ⟨nd, rfl⟩⟩; refine ⟨_, rfl, ?_⟩))
  go_ret
  exact ⟨by first | rfl | (simp; done) | (simp [*]; done), by repeat (first | exact Drawn0.refl _ | apply Drawn0.step)⟩
 subst J
 rw [if_pos rfl] at H
 by_cases x : a > 0
 rotate_left
 ·rw [if_neg x] at H
  have z := decide_eq_false x
  clear x
  have H' := Q_ H
  clear H
  have b : 0 ≤ (a : Int) := dt_
  have c : a < (d.length : Int) := dt_
  obtain ⟨m, j, l⟩ := Kd.at_int s.1 a b c
  cases j
  replace b := eq_true b
  replace c := eq_true c
  go_wp2_with (first | ((with_reducible refine gate_callee (f := 46) rfl ?_); refine gl_ (some 13) Try.func46 #[.int .i64 (rd d a), .int .i64 1, .int .i64 9] ?_; (with_reducible refine (impl_InRange.calls (rd d a) 1 9 true _ F.1).mono ?_); rintro e w' ⟨rfl, ⟨nd, rfl⟩⟩; refine ⟨_, rfl, ?_⟩))
  go_roundg k1
  case measure => have := q.1; omega
  case rel => exact ⟨(wrap64 (a + 1)), el_, H', ⟨by have := q.1; omega⟩, by repeat (first | exact Drawn0.refl _ | apply Drawn0.step)⟩
 rw [if_pos x] at H
 have z := decide_eq_true x
 clear x
 obtain ⟨i, hji8⟩ : ∃ j_ : Int, (wrap64 (a - 1)) = j_ := ⟨_, rfl⟩
 replace H : (if 0 ≤ (i) then (if (i) < (d.length : Int) then (if (rd d (i)) ≥ (rd d a) then (some false) else (impl_AreVersions.l0 k1 d d (d.length : Int) (wrap64 (a + 1)))) else (none)) else (none)) = some r := by first | (rw [hji8] at H; exact H) | (simp only [hji8] at H ⊢; exact H)
 (try rw [hji8] at F)
 have hji8w : (IntKind.i64.wrap (a - 1)) = i := (i64_w _).trans hji8
 by_cases K : 0 ≤ (i)
 rotate_left
 ·rw [if_neg K] at H
  exact nn_ H
 rw [if_pos K] at H
 have Q := decide_eq_true K
 clear K
 by_cases t : (i) < (d.length : Int)
 rotate_left
 ·rw [if_neg t] at H
  exact nn_ H
 rw [if_pos t] at H
 have L := decide_eq_true t
 clear t
 have HS_ := Q_ H
 clear H
 have b : 0 ≤ (a : Int) := dt_
 have c : a < (d.length : Int) := dt_
 obtain ⟨m, j, l⟩ := Kd.at_int s.1 a b c
 cases j
 replace b := eq_true b
 replace c := eq_true c
 go_upto_if 27 with (first | ((with_reducible refine gate_callee (f := 46) rfl ?_); refine gl_ (some 13) Try.func46 #[.int .i64 (rd d a), .int .i64 1, .int .i64 9] ?_; (with_reducible refine (impl_InRange.calls (rd d a) 1 9 true _ F.1).mono ?_); rintro e w' ⟨rfl, ⟨nd, rfl⟩⟩; refine ⟨_, rfl, ?_⟩; have o : 0 ≤ ((i) : Int) := dt_; have p : (i) < (d.length : Int) := dt_; obtain ⟨u, A, D⟩ := Kd.at_int s.1 (i) o p; obtain rfl : m = u := (by injection A); replace o := eq_true o; replace p := eq_true p))
 (try simp only [Act.put, s1_, s2_, s3_])
 have H := HS_.1
 clear HS_
 by_cases n : (rd d (i)) ≥ (rd d a)
 rotate_left
 ·rw [if_neg n] at H
  have g := decide_eq_false n
  clear n
  (first | rw [g] | (simp only [i64_w, i32_w]; rw [g]) | skip)
  have H' := Q_ H
  clear H
  go_wp2
  go_roundg k1
  case measure => have := q.1; omega
  case rel => exact ⟨(wrap64 (a + 1)), el_, H', ⟨by have := q.1; omega⟩, by repeat (first | exact Drawn0.refl _ | apply Drawn0.step)⟩
 rw [if_pos n] at H
 have g := decide_eq_true n
 clear n
 (first | rw [g] | (simp only [i64_w, i32_w]; rw [g]) | skip)
 obtain rfl := Option.some.inj H
 go_wp2
 go_ret
 exact ⟨by first | rfl | (simp; done) | (simp only [← hji8] <;> (first | rfl | simp)) | (simp [*]; done), by repeat (first | exact Drawn0.refl _ | apply Drawn0.step)⟩

/-! ### impl_areNumbers_1: function 100002 -/
def impl_areNumbers_1.f (d : Int) (a : Int) (b : Int) : Option (Bool) := (impl_InRange.f d a b).bind fun c => (some (!c))
theorem impl_areNumbers_1.calls (k : Int) (B1 : Nat) (a : Int) (B2 : Nat) (b : Int) (r : Bool) (w : World) (hbv1 : w.heap[B1]? = some (.cells #[.int .i64 a] 3 (0, 0))) (hbv2 : w.heap[B2]? = some (.cells #[.int .i64 b] 3 (0, 0))) (hnv1_2 : B1 ≠ B2) (h : impl_areNumbers_1.f k a b = some r) :
  Calls Try.prog 75 #[.int .i64 k, .pointer (some ⟨B1, 0, none⟩), .pointer (some ⟨B2, 0, none⟩)] w fun e w' => e = .returned (.bool r) ∧ Drawn0 w w' := by
 have i := Q_ hbv1
 clear hbv1
 have j := Q_ hbv2
 clear hbv2
 have d := Q_ hnv1_2
 have g := Q_ (Ne.symm hnv1_2)
 clear hnv1_2
 have H : ((impl_InRange.f k a b).bind fun c => (some (!c))) = some r := h
 clear h
 obtain ⟨c, s, H⟩ := bs_ H
 replace H : (some (!c)) = some r := H
 obtain rfl := Option.some.inj H
 have p := d.1
 have q := g.1
 have l : w.cell? ⟨B1, 0, none⟩ = some (.int .i64 a) := (blk_cell i.1 0).trans rfl
 have n := blk_frozen i.1 0
 have m : w.cell? ⟨B2, 0, none⟩ = some (.int .i64 b) := (blk_cell j.1 0).trans rfl
 have o := blk_frozen j.1 0
 go_enter Try.func75, Try.ntmps75
 go_wp2_with (first | ((with_reducible refine gate_callee (f := 46) rfl ?_); refine gl_ (some 8) Try.func46 #[.int .i64 k, .int .i64 a, .int .i64 b] ?_; (with_reducible refine (impl_InRange.calls k a b c _ s.1).mono ?_); rintro e w' ⟨rfl, ⟨nd, rfl⟩⟩; refine ⟨_, rfl, ?_⟩))
 go_ret
 exact ⟨by first | rfl | (simp; done) | (simp [*]; done), by repeat (first | exact Drawn0.refl _ | apply Drawn0.step)⟩

end Go.Proofs.Ytibmehnippjakaa.Print
