-- Written by a program of this session (printx.py) out of the translation; Lean checks it.
import Derived.Test.YtldcchjbaglppaaPrint0
import Derived.Test.YtldcchjbaglppaaPrint7
import Derived.Test.YtldcchjbaglppaaPrint10
import Derived.Test.YtldcchjbaglppaaPrint17
import Derived.Test.YtldcchjbaglppaaPrint18
import Derived.Test.YtldcchjbaglppaaPrint19
namespace Go.Proofs.Ytldcchjbaglppaa.Print
open Go.RowKit Go.Proofs.YtldcchjbaglppaaW.PrintWords Go.Proofs.YtldcchjbaglppaaW.PrintLast Go.Proofs.YtldcchjbaglppaaW.PrintMore Go.Proofs.Ytldcchjbaglppaa.Short
attribute [local go_sem] max2_int min2_int max_two min_two max_three min_three max_four min_four   -- for this text's walks alone
set_option linter.unusedVariables false
set_option maxHeartbeats 8000000
set_option maxRecDepth 100000
set_option linter.unusedSimpArgs false

/-! ### laws_FnLines: function 6 -/
mutual
def laws_FnLines.j0 : Nat → List Int → List (S34) → List Int → Bool → Option (Bool)
 | 0, _, _, _, _ => none
 | k + 1, d, e, c, g => if g = true then (some false) else ((impl_ChainFollows.f k e).bind fun a => (if a = true then ((impl_BreaksAt.f k e).bind fun b => (if b = (-1) then (if (c.length : Int) > 0 then (if 0 < (c.length : Int) then (if (c.length : Int) = (wrap64 ((e.length : Int) - (rd c 0))) then (laws_FnLines.j1 k d) else (some false)) else (none)) else (laws_FnLines.j1 k d)) else (some false))) else (laws_FnLines.j1 k d)))
def laws_FnLines.j1 : Nat → List Int → Option (Bool)
 | 0, _ => none
 | k + 1, d => (spec_DrawFarFollows.f k d).bind fun a => ((impl_ChainFollows.f k a.1).bind fun c => (if c = true then ((impl_FarFollows.f k a.1 a.2.1 a.2.2).bind fun b => (if a.2.1 ≥ 0 then (if a.2.1 ≤ a.2.2 then (laws_FnLines.j2 k d (b != (decide (a.2.2 < (a.1.length : Int))))) else (laws_FnLines.j2 k d (b != false))) else (laws_FnLines.j2 k d (b != false)))) else (laws_FnLines.j2 k d false)))
def laws_FnLines.j2 : Nat → List Int → Bool → Option (Bool)
 | 0, _, _ => none
 | k + 1, e, d => if d = true then (some false) else ((spec_DrawNextOnly.f k e).bind fun a => ((impl_NextOnly.f k a.1 a.2).bind fun b => (if b = true then ((impl_ChainFollows.f k a.1).bind fun c => (some (!c))) else (some true))))
end
def laws_FnLines.f (k : Nat) (d : List Int) : Option (Bool) := (laws_big.f d).bind fun e => (if e = true then (some true) else ((spec_DrawWorksWith.f k d).bind fun a => ((impl_WorksWith.f k a.1 a.2.1 a.2.2.1 a.2.2.2).bind fun b => ((impl_LatestFor.f k a.1 a.2.1 a.2.2.1 a.2.2.2).bind fun c => (if c = (-1) then (if (b.length : Int) = 0 then (if c ≥ 0 then (if 0 ≤ (wrap64 ((b.length : Int) - 1)) then (if (wrap64 ((b.length : Int) - 1)) < (b.length : Int) then (laws_FnLines.j0 k d a.1 b ((rd b (wrap64 ((b.length : Int) - 1))) != c)) else (none)) else (none)) else (laws_FnLines.j0 k d a.1 b false)) else (laws_FnLines.j0 k d a.1 b true)) else (if (b.length : Int) = 0 then (laws_FnLines.j0 k d a.1 b true) else (if c ≥ 0 then (if 0 ≤ (wrap64 ((b.length : Int) - 1)) then (if (wrap64 ((b.length : Int) - 1)) < (b.length : Int) then (laws_FnLines.j0 k d a.1 b ((rd b (wrap64 ((b.length : Int) - 1))) != c)) else (none)) else (none)) else (laws_FnLines.j0 k d a.1 b false))))))))
theorem laws_FnLines.mono_l : ∀ k, (∀ a b c d, LeO (laws_FnLines.j0 k a b c d) (laws_FnLines.j0 (k + 1) a b c d)) ∧ (∀ a, LeO (laws_FnLines.j1 k a) (laws_FnLines.j1 (k + 1) a)) ∧ (∀ a b, LeO (laws_FnLines.j2 k a b) (laws_FnLines.j2 (k + 1) a b))
 | 0 => ⟨fun _ _ _ _ r h => by simp [laws_FnLines.j0] at h, fun _ r h => by simp [laws_FnLines.j1] at h, fun _ _ r h => by simp [laws_FnLines.j2] at h⟩
 | k + 1 => by
  obtain ⟨ih0, ih1, ih2⟩ := laws_FnLines.mono_l k
  refine ⟨?_, ?_, ?_⟩
  ·intro a b c d
   unfold laws_FnLines.j0
   repeat' first
   | (with_reducible exact ih0 _ _ _ _)
   | (with_reducible exact ih1 _)
   | (with_reducible exact ih2 _ _)
   | (with_reducible exact impl_BreaksAt.mono _ _)
   | (with_reducible exact impl_ChainFollows.mono _ _)
   | (with_reducible exact impl_FarFollows.mono _ _ _ _)
   | (with_reducible exact impl_LatestFor.mono _ _ _ _ _)
   | (with_reducible exact impl_NextOnly.mono _ _ _)
   | (with_reducible exact impl_WorksWith.mono _ _ _ _ _)
   | (with_reducible exact spec_DrawFarFollows.mono _ _)
   | (with_reducible exact spec_DrawNextOnly.mono _ _)
   | (with_reducible exact spec_DrawWorksWith.mono _ _)
   | (with_reducible exact LeO.refl _)
   | (with_reducible exact LeO.none _)
   | (with_reducible refine LeO.ite ?_ ?_)
   | (with_reducible refine LeO.bind ?_ (fun _ => ?_))
   | exact ih0 _ _ _ _
   | exact ih1 _
   | exact ih2 _ _
   | exact impl_BreaksAt.mono _ _
   | exact impl_ChainFollows.mono _ _
   | exact impl_FarFollows.mono _ _ _ _
   | exact impl_LatestFor.mono _ _ _ _ _
   | exact impl_NextOnly.mono _ _ _
   | exact impl_WorksWith.mono _ _ _ _ _
   | exact spec_DrawFarFollows.mono _ _
   | exact spec_DrawNextOnly.mono _ _
   | exact spec_DrawWorksWith.mono _ _
   | exact LeO.none _
   | refine LeO.ite ?_ ?_
   | refine LeO.bind ?_ (fun _ => ?_)
  ·intro a
   unfold laws_FnLines.j1
   repeat' first
   | (with_reducible exact ih0 _ _ _ _)
   | (with_reducible exact ih1 _)
   | (with_reducible exact ih2 _ _)
   | (with_reducible exact impl_BreaksAt.mono _ _)
   | (with_reducible exact impl_ChainFollows.mono _ _)
   | (with_reducible exact impl_FarFollows.mono _ _ _ _)
   | (with_reducible exact impl_LatestFor.mono _ _ _ _ _)
   | (with_reducible exact impl_NextOnly.mono _ _ _)
   | (with_reducible exact impl_WorksWith.mono _ _ _ _ _)
   | (with_reducible exact spec_DrawFarFollows.mono _ _)
   | (with_reducible exact spec_DrawNextOnly.mono _ _)
   | (with_reducible exact spec_DrawWorksWith.mono _ _)
   | (with_reducible exact LeO.refl _)
   | (with_reducible exact LeO.none _)
   | (with_reducible refine LeO.ite ?_ ?_)
   | (with_reducible refine LeO.bind ?_ (fun _ => ?_))
   | exact ih0 _ _ _ _
   | exact ih1 _
   | exact ih2 _ _
   | exact impl_BreaksAt.mono _ _
   | exact impl_ChainFollows.mono _ _
   | exact impl_FarFollows.mono _ _ _ _
   | exact impl_LatestFor.mono _ _ _ _ _
   | exact impl_NextOnly.mono _ _ _
   | exact impl_WorksWith.mono _ _ _ _ _
   | exact spec_DrawFarFollows.mono _ _
   | exact spec_DrawNextOnly.mono _ _
   | exact spec_DrawWorksWith.mono _ _
   | exact LeO.none _
   | refine LeO.ite ?_ ?_
   | refine LeO.bind ?_ (fun _ => ?_)
  ·intro a b
   unfold laws_FnLines.j2
   repeat' first
   | (with_reducible exact ih0 _ _ _ _)
   | (with_reducible exact ih1 _)
   | (with_reducible exact ih2 _ _)
   | (with_reducible exact impl_BreaksAt.mono _ _)
   | (with_reducible exact impl_ChainFollows.mono _ _)
   | (with_reducible exact impl_FarFollows.mono _ _ _ _)
   | (with_reducible exact impl_LatestFor.mono _ _ _ _ _)
   | (with_reducible exact impl_NextOnly.mono _ _ _)
   | (with_reducible exact impl_WorksWith.mono _ _ _ _ _)
   | (with_reducible exact spec_DrawFarFollows.mono _ _)
   | (with_reducible exact spec_DrawNextOnly.mono _ _)
   | (with_reducible exact spec_DrawWorksWith.mono _ _)
   | (with_reducible exact LeO.refl _)
   | (with_reducible exact LeO.none _)
   | (with_reducible refine LeO.ite ?_ ?_)
   | (with_reducible refine LeO.bind ?_ (fun _ => ?_))
   | exact ih0 _ _ _ _
   | exact ih1 _
   | exact ih2 _ _
   | exact impl_BreaksAt.mono _ _
   | exact impl_ChainFollows.mono _ _
   | exact impl_FarFollows.mono _ _ _ _
   | exact impl_LatestFor.mono _ _ _ _ _
   | exact impl_NextOnly.mono _ _ _
   | exact impl_WorksWith.mono _ _ _ _ _
   | exact spec_DrawFarFollows.mono _ _
   | exact spec_DrawNextOnly.mono _ _
   | exact spec_DrawWorksWith.mono _ _
   | exact LeO.none _
   | refine LeO.ite ?_ ?_
   | refine LeO.bind ?_ (fun _ => ?_)
theorem laws_FnLines.mono : ∀ a k, LeO (laws_FnLines.f k a) (laws_FnLines.f (k + 1) a) := by
 intro a k
 obtain ⟨ih0, ih1, ih2⟩ := laws_FnLines.mono_l k
 unfold laws_FnLines.f
 repeat' first
   | (with_reducible exact ih0 _ _ _ _)
   | (with_reducible exact ih1 _)
   | (with_reducible exact ih2 _ _)
   | (with_reducible exact impl_BreaksAt.mono _ _)
   | (with_reducible exact impl_ChainFollows.mono _ _)
   | (with_reducible exact impl_FarFollows.mono _ _ _ _)
   | (with_reducible exact impl_LatestFor.mono _ _ _ _ _)
   | (with_reducible exact impl_NextOnly.mono _ _ _)
   | (with_reducible exact impl_WorksWith.mono _ _ _ _ _)
   | (with_reducible exact spec_DrawFarFollows.mono _ _)
   | (with_reducible exact spec_DrawNextOnly.mono _ _)
   | (with_reducible exact spec_DrawWorksWith.mono _ _)
   | (with_reducible exact LeO.refl _)
   | (with_reducible exact LeO.none _)
   | (with_reducible refine LeO.ite ?_ ?_)
   | (with_reducible refine LeO.bind ?_ (fun _ => ?_))
   | exact ih0 _ _ _ _
   | exact ih1 _
   | exact ih2 _ _
   | exact impl_BreaksAt.mono _ _
   | exact impl_ChainFollows.mono _ _
   | exact impl_FarFollows.mono _ _ _ _
   | exact impl_LatestFor.mono _ _ _ _ _
   | exact impl_NextOnly.mono _ _ _
   | exact impl_WorksWith.mono _ _ _ _ _
   | exact spec_DrawFarFollows.mono _ _
   | exact spec_DrawNextOnly.mono _ _
   | exact spec_DrawWorksWith.mono _ _
   | exact LeO.none _
   | refine LeO.ite ?_ ?_
   | refine LeO.bind ?_ (fun _ => ?_)
theorem laws_FnLines.calls (k : Nat) (A0 : Option Addr) (c0 : Nat) (T : List Int) (r : Bool) (w : World) (hr0 : Kd.C (Kd.int .u8) w A0 T.length T) (bS : T.length ≤ c0) (h : laws_FnLines.f k T = some r) :
  Calls Try.prog 6 #[.slice A0 T.length c0] w fun e w' => e = .returned (.bool r) ∧ Below w.heap.size w w' := by
 have hu34 := Try.underlying34
 have aM := Q_ hr0
 have aL := Q_ bS
 clear hr0 bS
 have HB := Q_ (Below.refl w.heap.size w)
 have H : ((laws_big.f T).bind fun av => (if av = true then (some true) else ((spec_DrawWorksWith.f k T).bind fun A => ((impl_WorksWith.f k A.1 A.2.1 A.2.2.1 A.2.2.2).bind fun i => ((impl_LatestFor.f k A.1 A.2.1 A.2.2.1 A.2.2.2).bind fun B => (if B = (-1) then (if (i.length : Int) = 0 then (if B ≥ 0 then (if 0 ≤ (wrap64 ((i.length : Int) - 1)) then (if (wrap64 ((i.length : Int) - 1)) < (i.length : Int) then (laws_FnLines.j0 k T A.1 i ((rd i (wrap64 ((i.length : Int) - 1))) != B)) else (none)) else (none)) else (laws_FnLines.j0 k T A.1 i false)) else (laws_FnLines.j0 k T A.1 i true)) else (if (i.length : Int) = 0 then (laws_FnLines.j0 k T A.1 i true) else (if B ≥ 0 then (if 0 ≤ (wrap64 ((i.length : Int) - 1)) then (if (wrap64 ((i.length : Int) - 1)) < (i.length : Int) then (laws_FnLines.j0 k T A.1 i ((rd i (wrap64 ((i.length : Int) - 1))) != B)) else (none)) else (none)) else (laws_FnLines.j0 k T A.1 i false))))))))) = some r := h
 clear h
 obtain ⟨av, A2, H⟩ := bs_ H
 (try dsimp only at H)
 have HS_ := Q_ H
 clear H
 go_enter Try.func6, Try.ntmps6
 go_upto_if 13 with (first | ((with_reducible refine gate_callee (f := 26) rfl ?_); refine gl_ (some 13) Try.func26 #[.slice A0 T.length c0] ?_; (with_reducible refine (laws_big.calls _ _ T av _ (pc_ aM.1) aL.1 A2.1).mono ?_); rintro e w' ⟨rfl, ⟨nd, rfl⟩⟩; refine ⟨_, rfl, ?_⟩))
 (try simp only [Act.put, s1_, s2_, s3_])
 have H := HS_.1
 clear HS_
 by_cases c3 : av = true
 ·subst c3
  rw [if_pos rfl] at H
  obtain rfl := Option.some.inj H
  go_wp2
  go_ret
  exact ⟨er_, pb_ HB.1⟩
 replace c3 := bf_ c3
 subst c3
 rw [if_neg ff_] at H
 obtain ⟨⟨u, K, x, y⟩, A4, H⟩ := bs_ H
 (try dsimp only at H)
 obtain ⟨i, A5, H⟩ := bs_ H
 (try dsimp only at H)
 obtain ⟨B, A6, H⟩ := bs_ H
 (try dsimp only at H)
 have a2 := Q_ H
 clear H
 go_upto_region 6 with (first | ((with_reducible refine gate_callee (f := 27) rfl ?_); refine gl_ (some 16) Try.func27 #[.slice A0 T.length c0] ?_; (with_reducible refine (spec_DrawWorksWith.calls k _ _ T u K x y _ ?side1 aL.1 A4.1).mono ?_); (case side1 => exact pc_ (Kd.C_below aM.1 (pb_ HB.1))); rintro e w8 ⟨cA, cB, cC, rfl, ae, aD, bT, hb⟩; refine ⟨_, rfl, ?_⟩; have _ := Q_ (Kd.S_lower ae (below_size (pb_ HB.1))); have _ := Q_ (Kd.R_lower aD (below_size (pb_ HB.1))); have _ := Q_ (Kd.R_lower bT (below_size (pb_ HB.1))); have _ := Q_ (below_step (pb_ HB.1) hb); clear HB; rename_i m q s HB; (try clear hb ae aD bT)) | ((with_reducible refine gate_dst (N := 4) rfl ?_); (try (refine gate_guard (by rfl) ?_; dsimp only)); refine bx_ 4 #[.int .i64 0, .slice none 0 0, .slice none 0 0] 34 ?_; intro t hg w9 hbox hb; have _ := Q_ (Kd.S_below (Kd.S_elderB (ps_ m.1) t (Nat.le_of_eq hg.symm)) hb); have _ := Q_ (Kd.R_below (pr_ q.1) hb); have _ := Q_ (Kd.R_below (pr_ s.1) hb); have _ := Q_ (below_step (pb_ HB.1) hb); have d := Q_ (hbox); have a1 := Q_ (gw_ (w := w) hg (pb_ HB.1)); have j := a1; clear m q s HB; rename_i m q s HB; clear hb hbox hg; have cf := bc3_ d.1; obtain ⟨G, E, bz⟩ := Kd.R_slice q.1; subst bz; obtain ⟨I, F, bA⟩ := Kd.R_slice s.1; subst bA; obtain ⟨W, Q, bB⟩ := Kd.S_slice m.1; subst bB) | ((with_reducible refine gate_callee (f := 18) rfl ?_); refine gl_ (some 21) Try.func18 #[.slice W u.length Q, .agg #[.int .i64 K, .slice G x.length E, .slice I y.length F]] ?_; (with_reducible refine (impl_WorksWith.calls k _ _ u K _ _ x _ _ y i _ ?side1 ?side2 ?side3 ?side4 ?side5 ?side6 A5.1).mono ?_); (case side1 => refine (Kd.S_reads' (e := 34) (base := w.heap.size) (ok := fun k_ => ((some k_ ≠ (.slice G x.length E : Value).ownBlock ∧ some k_ ≠ (.slice I y.length F : Value).ownBlock) ∧ k_ ≠ t)) (n := u.length) (c := Q) ?_).2.2; exact (by (with_reducible repeat (first | apply Kd.S_alloc | apply Kd.S_drewN | apply Kd.S_drew)); exact (Kd.S_mono (Kd.S_far (p := ⟨t, 2, none⟩) (Kd.S_far (p := ⟨t, 1, none⟩) (Kd.S_far (p := ⟨t, 0, none⟩) (Kd.S_mono m.1 (fun k_ hk => (⟨hk, hk.2⟩ : _ ∧ k_ ≠ t))) (fun _ hk => hk.2) (.int .i64 K)) (fun _ hk => hk.2) (.slice G x.length E)) (fun _ hk => hk.2) (.slice I y.length F)) (fun _ h_ => h_.1)))); (case side2 => exact (Kd.S_reads' m.1).2.1); (case side3 => refine (Kd.R_reads' (e := 4) (base := w.heap.size) (ok := fun k_ => True) (n := x.length) (c := E) ?_).2.2; exact (pr_ (rf3_ q.1 d.1))); (case side4 => exact (Kd.R_reads' q.1).2.1); (case side5 => refine (Kd.R_reads' (e := 78) (base := w.heap.size) (ok := fun k_ => True) (n := y.length) (c := F) ?_).2.2; exact (pr_ (rf3_ s.1 d.1))); (case side6 => exact (Kd.R_reads' s.1).2.1); rintro e cK ⟨bY, rfl, ae, hb⟩; refine ⟨_, rfl, ?_⟩; have _ := Q_ (Kd.S_below (by (with_reducible repeat (first | apply Kd.S_alloc | apply Kd.S_drewN | apply Kd.S_drew)); exact (Kd.S_mono (Kd.S_far (p := ⟨t, 2, none⟩) (Kd.S_far (p := ⟨t, 1, none⟩) (Kd.S_far (p := ⟨t, 0, none⟩) (Kd.S_mono m.1 (fun k_ hk => (⟨hk, hk.2⟩ : _ ∧ k_ ≠ t))) (fun _ hk => hk.2) (.int .i64 K)) (fun _ hk => hk.2) (.slice G x.length E)) (fun _ hk => hk.2) (.slice I y.length F)) (fun _ h_ => h_.1))) hb); have _ := Q_ (Kd.R_below (pr_ (rf3_ q.1 d.1)) hb); have _ := Q_ (Kd.R_below (pr_ (rf3_ s.1 d.1)) hb); have v := Q_ (Kd.R_lower ae (below_size (pb1_ HB.1 j.1))); have _ := Q_ (blk_below (g := t) (o := .cells #[.int .i64 K, .slice G x.length E, .slice I y.length F] 34 (0, 0)) (pp_ d.1) hb); have _ := Q_ (below_step (pb1_ HB.1 j.1) hb); clear m q s d HB; rename_i m q s d HB; (try clear hb ae); have cg := bc3_ d.1) | ((with_reducible refine gate_callee (f := 14) rfl ?_); refine gl_ (some 24) Try.func14 #[.slice W u.length Q, .agg #[.int .i64 K, .slice G x.length E, .slice I y.length F]] ?_; (with_reducible refine (impl_LatestFor.calls k _ _ u K _ _ x _ _ y B _ ?side1 ?side2 ?side3 ?side4 ?side5 ?side6 A6.1).mono ?_); (case side1 => exact pc_ ((Kd.S_reads' m.1).2.2)); (case side2 => exact (Kd.S_reads' m.1).2.1); (case side3 => exact pc_ ((Kd.R_reads' q.1).2.2)); (case side4 => exact (Kd.R_reads' q.1).2.1); (case side5 => exact pc_ ((Kd.R_reads' s.1).2.2)); (case side6 => exact (Kd.R_reads' s.1).2.1); rintro e cL ⟨rfl, hb⟩; refine ⟨_, rfl, ?_⟩; have _ := Q_ (Kd.S_below (ps_ m.1) hb); have _ := Q_ (Kd.R_below (pr_ q.1) hb); have _ := Q_ (Kd.R_below (pr_ s.1) hb); have _ := Q_ (Kd.R_below (pr_ v.1) hb); have _ := Q_ (bb_ d.1 hb); have _ := Q_ (below_step (pb1_ HB.1 j.1) hb); clear m q s v d HB; rename_i m q s v d HB; (try clear hb)))
 (try simp only [Act.put, s1_, s2_, s3_])
 go_cut [44] (fun ch wc => ∃ (kq : Nat) (aj : Bool), ch = .bool aj ∧ Aside0 (laws_FnLines.j0 kq T u i aj = some r) ∧ Aside0 (kq ≤ k) ∧ Aside0 (Kd.S k34 34 wc w.heap.size (fun k_ => some k_ ≠ ((.slice G x.length E) : Value).ownBlock ∧ some k_ ≠ ((.slice I y.length F) : Value).ownBlock ∧ k_ ≠ t) (.slice W u.length Q) u) ∧ Aside0 (Kd.R (Kd.int .i64) 3 wc w.heap.size (fun _ => True) bY i) ∧ Aside0 (Kd.R Kd.bool 4 wc w.heap.size (fun _ => True) (.slice G x.length E) x) ∧ Aside0 (Kd.R k78 78 wc w.heap.size (fun _ => True) (.slice I y.length F) y) ∧ Aside0 (wc.heap[t]? = some (.cells #[.int .i64 K, (.slice G x.length E), (.slice I y.length F)] 34 (0, 0))) ∧ Aside0 (Below w.heap.size w wc))
 case first =>
  have H := a2.1
  clear a2
  by_cases ap : B = (-1)
  rotate_left
  ·rw [if_neg ap] at H
   have X : (B == (-1)) = false := beq_eq_false_iff_ne.mpr ap
   have Y : (B != (-1)) = true := bne_iff_ne.mpr ap
   (first | rw [X] | (simp only [i64_w, i32_w]; rw [X]) | rw [Y] | (have c_ := Y; rw [bne] at c_; rw [c_]; clear c_) | skip)
   by_cases ak : (i.length : Int) = 0
   ·rw [if_pos ak] at H
    have a3 : ((i.length : Int) == 0) = true := beq_iff_eq.mpr ak
    have a4 : ((i.length : Int) != 0) = false := bne_eq_false_iff_eq.mpr ak
    clear ak
    have H' := Q_ H
    clear H
    obtain ⟨cj, cs, bC⟩ := Kd.R_slice v.1
    subst bC
    go_wp2
    go_meet
    case rel => exact ⟨_, (true), el_, H', ⟨by first | omega | exact Nat.le_refl _⟩, ⟨by (with_reducible repeat (first | apply Kd.S_alloc | apply Kd.S_drewN | apply Kd.S_drew)); exact Kd.S_mono m.1 (fun _ hk => ⟨hk.1.1, ⟨hk.1.2, hk.2⟩⟩)⟩, ⟨pr_ v.1⟩, ⟨pr_ q.1⟩, ⟨pr_ s.1⟩, ⟨pk_ d.1⟩, ⟨pb1_ HB.1 j.1⟩⟩
   rw [if_neg ak] at H
   have a3 : ((i.length : Int) == 0) = false := beq_eq_false_iff_ne.mpr ak
   have a4 : ((i.length : Int) != 0) = true := bne_iff_ne.mpr ak
   have b7 : ¬ (i = []) := fun h_ => ak (by rw [h_]; rfl)
   by_cases aw : B ≥ 0
   rotate_left
   ·rw [if_neg aw] at H
    have a5 := decide_eq_false aw
    clear aw
    have H' := Q_ H
    clear H
    obtain ⟨ck, ct, bD⟩ := Kd.R_slice v.1
    subst bD
    go_wp2
    go_meet
    case rel => exact ⟨_, (false), el_, H', ⟨by first | omega | exact Nat.le_refl _⟩, ⟨by (with_reducible repeat (first | apply Kd.S_alloc | apply Kd.S_drewN | apply Kd.S_drew)); exact Kd.S_mono m.1 (fun _ hk => ⟨hk.1.1, ⟨hk.1.2, hk.2⟩⟩)⟩, ⟨pr_ v.1⟩, ⟨pr_ q.1⟩, ⟨pr_ s.1⟩, ⟨pk_ d.1⟩, ⟨pb1_ HB.1 j.1⟩⟩
   rw [if_pos aw] at H
   have a5 := decide_eq_true aw
   clear aw
   obtain ⟨O, hji22⟩ : ∃ j_ : Int, (wrap64 ((i.length : Int) - 1)) = j_ := ⟨_, rfl⟩
   replace H : (if 0 ≤ (O) then (if (O) < (i.length : Int) then (laws_FnLines.j0 k T u i ((rd i (O)) != B)) else (none)) else (none)) = some r := by first | (rw [hji22] at H; exact H) | (simp only [hji22] at H ⊢; exact H)
   have hji22w : (IntKind.i64.wrap ((i.length : Int) - 1)) = O := (i64_w _).trans hji22
   by_cases aN : 0 ≤ (O)
   rotate_left
   ·rw [if_neg aN] at H
    exact nn_ H
   rw [if_pos aN] at H
   have b8 := decide_eq_true aN
   clear aN
   by_cases aO : (O) < (i.length : Int)
   rotate_left
   ·rw [if_neg aO] at H
    exact nn_ H
   rw [if_pos aO] at H
   have b9 := decide_eq_true aO
   clear aO
   have H' := Q_ H
   clear H
   obtain ⟨cl, cu, bE⟩ := Kd.R_slice v.1
   subst bE
   have aF : 0 ≤ ((O) : Int) := dt_
   have aI : (O) < (i.length : Int) := dt_
   obtain ⟨b5, bw, bV⟩ := Kd.at_int (Kd.R_reads' v.1).2.2 (O) aF aI
   cases bw
   replace aF := eq_true aF
   replace aI := eq_true aI
   go_wp2
   go_meet
   case rel => exact ⟨_, (((rd i (O)) != B)), (by first | rfl | (simp; done) | (simp only [← hji22] <;> (first | rfl | simp)) | (simp [*]; done)), H', ⟨by first | omega | exact Nat.le_refl _⟩, ⟨by (with_reducible repeat (first | apply Kd.S_alloc | apply Kd.S_drewN | apply Kd.S_drew)); exact Kd.S_mono m.1 (fun _ hk => ⟨hk.1.1, ⟨hk.1.2, hk.2⟩⟩)⟩, ⟨pr_ v.1⟩, ⟨pr_ q.1⟩, ⟨pr_ s.1⟩, ⟨pk_ d.1⟩, ⟨pb1_ HB.1 j.1⟩⟩
  rw [if_pos ap] at H
  have X : (B == (-1)) = true := beq_iff_eq.mpr ap
  have Y : (B != (-1)) = false := bne_eq_false_iff_eq.mpr ap
  clear ap
  (first | rw [X] | (simp only [i64_w, i32_w]; rw [X]) | rw [Y] | (have c_ := Y; rw [bne] at c_; rw [c_]; clear c_) | skip)
  by_cases al : (i.length : Int) = 0
  rotate_left
  ·rw [if_neg al] at H
   have a6 : ((i.length : Int) == 0) = false := beq_eq_false_iff_ne.mpr al
   have a7 : ((i.length : Int) != 0) = true := bne_iff_ne.mpr al
   have ca : ¬ (i = []) := fun h_ => al (by rw [h_]; rfl)
   have H' := Q_ H
   clear H
   obtain ⟨cm, cv, bF⟩ := Kd.R_slice v.1
   subst bF
   go_wp2
   go_meet
   case rel => exact ⟨_, (true), el_, H', ⟨by first | omega | exact Nat.le_refl _⟩, ⟨by (with_reducible repeat (first | apply Kd.S_alloc | apply Kd.S_drewN | apply Kd.S_drew)); exact Kd.S_mono m.1 (fun _ hk => ⟨hk.1.1, ⟨hk.1.2, hk.2⟩⟩)⟩, ⟨pr_ v.1⟩, ⟨pr_ q.1⟩, ⟨pr_ s.1⟩, ⟨pk_ d.1⟩, ⟨pb1_ HB.1 j.1⟩⟩
  rw [if_pos al] at H
  have a6 : ((i.length : Int) == 0) = true := beq_iff_eq.mpr al
  have a7 : ((i.length : Int) != 0) = false := bne_eq_false_iff_eq.mpr al
  clear al
  by_cases ax : B ≥ 0
  rotate_left
  ·rw [if_neg ax] at H
   have a8 := decide_eq_false ax
   clear ax
   have H' := Q_ H
   clear H
   obtain ⟨cn, cw, bG⟩ := Kd.R_slice v.1
   subst bG
   go_wp2
   go_meet
   case rel => exact ⟨_, (false), el_, H', ⟨by first | omega | exact Nat.le_refl _⟩, ⟨by (with_reducible repeat (first | apply Kd.S_alloc | apply Kd.S_drewN | apply Kd.S_drew)); exact Kd.S_mono m.1 (fun _ hk => ⟨hk.1.1, ⟨hk.1.2, hk.2⟩⟩)⟩, ⟨pr_ v.1⟩, ⟨pr_ q.1⟩, ⟨pr_ s.1⟩, ⟨pk_ d.1⟩, ⟨pb1_ HB.1 j.1⟩⟩
  rw [if_pos ax] at H
  have a8 := decide_eq_true ax
  clear ax
  obtain ⟨P, hji30⟩ : ∃ j_ : Int, (wrap64 ((i.length : Int) - 1)) = j_ := ⟨_, rfl⟩
  replace H : (if 0 ≤ (P) then (if (P) < (i.length : Int) then (laws_FnLines.j0 k T u i ((rd i (P)) != B)) else (none)) else (none)) = some r := by first | (rw [hji30] at H; exact H) | (simp only [hji30] at H ⊢; exact H)
  have hji30w : (IntKind.i64.wrap ((i.length : Int) - 1)) = P := (i64_w _).trans hji30
  by_cases aP : 0 ≤ (P)
  rotate_left
  ·rw [if_neg aP] at H
   exact nn_ H
  rw [if_pos aP] at H
  have cb := decide_eq_true aP
  clear aP
  by_cases aQ : (P) < (i.length : Int)
  rotate_left
  ·rw [if_neg aQ] at H
   exact nn_ H
  rw [if_pos aQ] at H
  have cc := decide_eq_true aQ
  clear aQ
  have H' := Q_ H
  clear H
  obtain ⟨co, cx, bH⟩ := Kd.R_slice v.1
  subst bH
  have aE : 0 ≤ ((P) : Int) := dt_
  have aH : (P) < (i.length : Int) := dt_
  obtain ⟨b4, bv, bU⟩ := Kd.at_int (Kd.R_reads' v.1).2.2 (P) aE aH
  cases bv
  replace aE := eq_true aE
  replace aH := eq_true aH
  go_wp2
  go_meet
  case rel => exact ⟨_, (((rd i (P)) != B)), (by first | rfl | (simp; done) | (simp only [← hji30] <;> (first | rfl | simp)) | (simp [*]; done)), H', ⟨by first | omega | exact Nat.le_refl _⟩, ⟨by (with_reducible repeat (first | apply Kd.S_alloc | apply Kd.S_drewN | apply Kd.S_drew)); exact Kd.S_mono m.1 (fun _ hk => ⟨hk.1.1, ⟨hk.1.2, hk.2⟩⟩)⟩, ⟨pr_ v.1⟩, ⟨pr_ q.1⟩, ⟨pr_ s.1⟩, ⟨pk_ d.1⟩, ⟨pb1_ HB.1 j.1⟩⟩
 clear a2
 obtain ⟨kq, aj, rfl, HA, ao, z, J, a, b, d, HB⟩ := hcut
 rcases kq with _ | kj6
 ·exact absurd HA.1 (by simp [laws_FnLines.j0])
 have H := HA.1
 clear HA
 simp only [laws_FnLines.j0] at H
 by_cases aR : aj = true
 ·subst aR
  rw [if_pos rfl] at H
  obtain rfl := Option.some.inj H
  go_wp2
  go_ret
  exact ⟨er_, pb1_ HB.1 j.1⟩
 replace aR := bf_ aR
 subst aR
 rw [if_neg ff_] at H
 obtain ⟨aX, b0, H⟩ := bs_ H
 (try dsimp only at H)
 have aB := Q_ H
 clear H
 go_upto_if 46 with (first | ((with_reducible refine gate_callee (f := 28) rfl ?_); refine gl_ (some 46) Try.func28 #[.slice W u.length Q] ?_; (with_reducible refine (impl_ChainFollows.calls kj6 _ _ u aX _ ?side1 ?side2 b0.1).mono ?_); (case side1 => exact pc_ ((Kd.S_reads' z.1).2.2)); (case side2 => exact (Kd.S_reads' z.1).2.1); rintro e cM ⟨rfl, hb⟩; refine ⟨_, rfl, ?_⟩; have _ := Q_ (Kd.S_below (ps_ z.1) hb); have _ := Q_ (Kd.R_below (pr_ J.1) hb); have _ := Q_ (Kd.R_below (pr_ a.1) hb); have _ := Q_ (Kd.R_below (pr_ b.1) hb); have _ := Q_ (bb_ d.1 hb); have _ := Q_ (below_step (pb1_ HB.1 j.1) hb); clear z J a b d HB; rename_i z J a b d HB; (try clear hb)))
 (try simp only [Act.put, s1_, s2_, s3_])
 go_cut [] (fun wc => ∃ (kq : Nat), Aside0 (laws_FnLines.j1 kq T = some r) ∧ Aside0 (kq ≤ kj6) ∧ Aside0 (Kd.R Kd.bool 4 wc w.heap.size (fun _ => True) (.slice G x.length E) x) ∧ Aside0 (Kd.R k78 78 wc w.heap.size (fun _ => True) (.slice I y.length F) y) ∧ Aside0 (wc.heap[t]? = some (.cells #[.int .i64 K, (.slice G x.length E), (.slice I y.length F)] 34 (0, 0))) ∧ Aside0 (Below w.heap.size w wc))
 case first =>
  have H := aB.1
  clear aB
  by_cases aS : aX = true
  rotate_left
  ·replace aS := bf_ aS
   subst aS
   rw [if_neg ff_] at H
   have H' := Q_ H
   clear H
   go_wp2
   go_meet
   case rel => exact ⟨_, H', ⟨by have := ao.1; first | omega | exact Nat.le_refl _⟩, ⟨pr_ a.1⟩, ⟨pr_ b.1⟩, ⟨pk_ d.1⟩, ⟨pb1_ HB.1 j.1⟩⟩
  subst aS
  rw [if_pos rfl] at H
  obtain ⟨U, aZ, H⟩ := bs_ H
  (try dsimp only at H)
  by_cases aq : U = (-1)
  rotate_left
  ·rw [if_neg aq] at H
   have Z : (U == (-1)) = false := beq_eq_false_iff_ne.mpr aq
   have aa : (U != (-1)) = true := bne_iff_ne.mpr aq
   (first | rw [Z] | (simp only [i64_w, i32_w]; rw [Z]) | rw [aa] | (have c_ := aa; rw [bne] at c_; rw [c_]; clear c_) | skip)
   obtain rfl := Option.some.inj H
   go_wp2_with (first | ((with_reducible refine gate_callee (f := 29) rfl ?_); refine gl_ (some 48) Try.func29 #[.slice W u.length Q] ?_; (with_reducible refine (impl_BreaksAt.calls kj6 _ _ u U _ ?side1 ?side2 aZ.1).mono ?_); (case side1 => exact pc_ ((Kd.S_reads' z.1).2.2)); (case side2 => exact (Kd.S_reads' z.1).2.1); rintro e cN ⟨rfl, hb⟩; refine ⟨_, rfl, ?_⟩; have _ := Q_ (Kd.S_below (ps_ z.1) hb); have _ := Q_ (Kd.R_below (pr_ J.1) hb); have _ := Q_ (Kd.R_below (pr_ a.1) hb); have _ := Q_ (Kd.R_below (pr_ b.1) hb); have _ := Q_ (bb_ d.1 hb); have _ := Q_ (below_step (pb1_ HB.1 j.1) hb); clear z J a b d HB; rename_i z J a b d HB; (try clear hb)))
   go_ret
   exact ⟨er_, pb1_ HB.1 j.1⟩
  rw [if_pos aq] at H
  have Z : (U == (-1)) = true := beq_iff_eq.mpr aq
  have aa : (U != (-1)) = false := bne_eq_false_iff_eq.mpr aq
  clear aq
  (first | rw [Z] | (simp only [i64_w, i32_w]; rw [Z]) | rw [aa] | (have c_ := aa; rw [bne] at c_; rw [c_]; clear c_) | skip)
  by_cases ay : (i.length : Int) > 0
  rotate_left
  ·rw [if_neg ay] at H
   have a9 := decide_eq_false ay
   have ba : decide (0 < i.length) = false := decide_eq_false (by omega)
   clear ay
   have H' := Q_ H
   clear H
   go_wp2_with (first | ((with_reducible refine gate_callee (f := 29) rfl ?_); refine gl_ (some 48) Try.func29 #[.slice W u.length Q] ?_; (with_reducible refine (impl_BreaksAt.calls kj6 _ _ u U _ ?side1 ?side2 aZ.1).mono ?_); (case side1 => exact pc_ ((Kd.S_reads' z.1).2.2)); (case side2 => exact (Kd.S_reads' z.1).2.1); rintro e cO ⟨rfl, hb⟩; refine ⟨_, rfl, ?_⟩; have _ := Q_ (Kd.S_below (ps_ z.1) hb); have _ := Q_ (Kd.R_below (pr_ J.1) hb); have _ := Q_ (Kd.R_below (pr_ a.1) hb); have _ := Q_ (Kd.R_below (pr_ b.1) hb); have _ := Q_ (bb_ d.1 hb); have _ := Q_ (below_step (pb1_ HB.1 j.1) hb); clear z J a b d HB; rename_i z J a b d HB; (try clear hb); obtain ⟨cp, cy, bI⟩ := Kd.R_slice J.1; subst bI))
   go_meet
   case rel => exact ⟨_, H', ⟨by have := ao.1; first | omega | exact Nat.le_refl _⟩, ⟨pr_ a.1⟩, ⟨pr_ b.1⟩, ⟨pk_ d.1⟩, ⟨pb1_ HB.1 j.1⟩⟩
  rw [if_pos ay] at H
  have a9 := decide_eq_true ay
  have ba : decide (0 < i.length) = true := decide_eq_true (by omega)
  clear ay
  by_cases aT : 0 < (i.length : Int)
  rotate_left
  ·rw [if_neg aT] at H
   exact nn_ H
  rw [if_pos aT] at H
  have cd := decide_eq_true aT
  have ce : decide (0 < i.length) = true := decide_eq_true (by omega)
  clear aT
  have HS_ := Q_ H
  clear H
  go_upto_if 65 with (first | ((with_reducible refine gate_callee (f := 29) rfl ?_); refine gl_ (some 48) Try.func29 #[.slice W u.length Q] ?_; (with_reducible refine (impl_BreaksAt.calls kj6 _ _ u U _ ?side1 ?side2 aZ.1).mono ?_); (case side1 => exact pc_ ((Kd.S_reads' z.1).2.2)); (case side2 => exact (Kd.S_reads' z.1).2.1); rintro e cP ⟨rfl, hb⟩; refine ⟨_, rfl, ?_⟩; have _ := Q_ (Kd.S_below (ps_ z.1) hb); have _ := Q_ (Kd.R_below (pr_ J.1) hb); have _ := Q_ (Kd.R_below (pr_ a.1) hb); have _ := Q_ (Kd.R_below (pr_ b.1) hb); have _ := Q_ (bb_ d.1 hb); have _ := Q_ (below_step (pb1_ HB.1 j.1) hb); clear z J a b d HB; rename_i z J a b d HB; (try clear hb); obtain ⟨cq, cz, bJ⟩ := Kd.R_slice J.1; subst bJ; have aG : 0 ≤ (0 : Int) := (by omega); have aJ : 0 < (i.length : Int) := dt_; obtain ⟨b6, bx, am⟩ := Kd.at_int (Kd.R_reads' J.1).2.2 0 aG aJ; cases bx; have qi777 : (0 < i.length) = True := eq_true (by omega); (try rw [show ((0 : Int)).toNat = 0 from rfl] at am); (try rw [Addr.add_zero'] at am); replace aG := eq_true aG; replace aJ := eq_true aJ))
  (try simp only [Act.put, s1_, s2_, s3_])
  have H := HS_.1
  clear HS_
  by_cases ar : (i.length : Int) = (wrap64 ((u.length : Int) - (rd i 0)))
  ·rw [if_pos ar] at H
   have ab : ((i.length : Int) == (wrap64 ((u.length : Int) - (rd i 0)))) = true := beq_iff_eq.mpr ar
   have ac : ((i.length : Int) != (wrap64 ((u.length : Int) - (rd i 0)))) = false := bne_eq_false_iff_eq.mpr ar
   clear ar
   (first | rw [ab] | (simp only [i64_w, i32_w]; rw [ab]) | rw [ac] | (have c_ := ac; rw [bne] at c_; rw [c_]; clear c_) | skip)
   have H' := Q_ H
   clear H
   go_wp2
   go_meet
   case rel => exact ⟨_, H', ⟨by have := ao.1; first | omega | exact Nat.le_refl _⟩, ⟨pr_ a.1⟩, ⟨pr_ b.1⟩, ⟨pk_ d.1⟩, ⟨pb1_ HB.1 j.1⟩⟩
  rw [if_neg ar] at H
  have ab : ((i.length : Int) == (wrap64 ((u.length : Int) - (rd i 0)))) = false := beq_eq_false_iff_ne.mpr ar
  have ac : ((i.length : Int) != (wrap64 ((u.length : Int) - (rd i 0)))) = true := bne_iff_ne.mpr ar
  (first | rw [ab] | (simp only [i64_w, i32_w]; rw [ab]) | rw [ac] | (have c_ := ac; rw [bne] at c_; rw [c_]; clear c_) | skip)
  obtain rfl := Option.some.inj H
  go_wp2
  go_ret
  exact ⟨er_, pb1_ HB.1 j.1⟩
 clear aB
 obtain ⟨kq, HA, au, a, b, d, HB⟩ := hcut
 rcases kq with _ | kj35
 ·exact absurd HA.1 (by simp [laws_FnLines.j1])
 have H := HA.1
 clear HA
 simp only [laws_FnLines.j1] at H
 obtain ⟨⟨L, af, ag⟩, b1, H⟩ := bs_ H
 (try dsimp only at H)
 have aC := Q_ H
 clear H
 go_upto_region 12 with (first | ((with_reducible refine gate_callee (f := 30) rfl ?_); refine gl_ (some 68) Try.func30 #[.slice A0 T.length c0] ?_; (with_reducible refine (spec_DrawFarFollows.calls kj35 _ _ T L af ag _ (cb_ aM HB) aL.1 b1.1).mono ?_); rintro e cQ ⟨cD, rfl, ae, hb⟩; refine ⟨_, rfl, ?_⟩; have _ := Q_ (Kd.R_below (pr_ a.1) hb); have _ := Q_ (Kd.R_below (pr_ b.1) hb); have _ := Q_ (Kd.S_lower (Kd.S_newB (Kd.S_new' (Kd.S_new' ae (Kd.R_lt (pr_ a.1))) (Kd.R_lt (pr_ b.1))) (g := t) (o := .cells #[.int .i64 K, .slice G x.length E, .slice I y.length F] 34 (0, 0)) (pk_ d.1)) (below_size (pb1_ HB.1 j.1))); have _ := Q_ (bb_ d.1 hb); have _ := Q_ (below_step (pb1_ HB.1 j.1) hb); clear a b d HB; rename_i a b l d HB; (try clear hb ae)))
 (try simp only [Act.put, s1_, s2_, s3_])
 go_cut [93] (fun ci wc => ∃ (kq : Nat) (V : Bool), ci = .bool V ∧ Aside0 (laws_FnLines.j2 kq T V = some r) ∧ Aside0 (kq ≤ kj35) ∧ Aside0 (Kd.R Kd.bool 4 wc w.heap.size (fun _ => True) (.slice G x.length E) x) ∧ Aside0 (Kd.R k78 78 wc w.heap.size (fun _ => True) (.slice I y.length F) y) ∧ Aside0 (wc.heap[t]? = some (.cells #[.int .i64 K, (.slice G x.length E), (.slice I y.length F)] 34 (0, 0))) ∧ Aside0 (Below w.heap.size w wc))
 case first =>
  have H := aC.1
  clear aC
  obtain ⟨bW, aK, H⟩ := bs_ H
  (try dsimp only at H)
  by_cases aU : bW = true
  rotate_left
  ·replace aU := bf_ aU
   subst aU
   rw [if_neg ff_] at H
   have H' := Q_ H
   clear H
   obtain ⟨bf, bn, bK⟩ := Kd.S_slice l.1
   subst bK
   go_wp2_with (first | ((with_reducible refine gate_callee (f := 28) rfl ?_); refine gl_ (some 73) Try.func28 #[.slice bf L.length bn] ?_; (with_reducible refine (impl_ChainFollows.calls kj35 _ _ L false _ ?side1 ?side2 aK.1).mono ?_); (case side1 => exact pc_ ((Kd.S_reads' l.1).2.2)); (case side2 => exact (Kd.S_reads' l.1).2.1); rintro e cR ⟨rfl, hb⟩; refine ⟨_, rfl, ?_⟩; have _ := Q_ (Kd.R_below (pr_ a.1) hb); have _ := Q_ (Kd.R_below (pr_ b.1) hb); have _ := Q_ (Kd.S_below (ps_ l.1) hb); have _ := Q_ (bb_ d.1 hb); have _ := Q_ (below_step (pb1_ HB.1 j.1) hb); clear a b l d HB; rename_i a b l d HB; (try clear hb)))
   go_meet
   case rel => exact ⟨_, (false), el_, H', ⟨by have := ao.1; have := au.1; first | omega | exact Nat.le_refl _⟩, ⟨pr_ a.1⟩, ⟨pr_ b.1⟩, ⟨pk_ d.1⟩, ⟨pb1_ HB.1 j.1⟩⟩
  subst aU
  rw [if_pos rfl] at H
  obtain ⟨ah, a0, H⟩ := bs_ H
  (try dsimp only at H)
  by_cases az : af ≥ 0
  rotate_left
  ·rw [if_neg az] at H
   have ad := decide_eq_false az
   clear az
   (first | rw [ad] | (simp only [i64_w, i32_w]; rw [ad]) | skip)
   have H' := Q_ H
   clear H
   obtain ⟨bg, bo, bL⟩ := Kd.S_slice l.1
   subst bL
   go_wp2_with (first | ((with_reducible refine gate_callee (f := 28) rfl ?_); refine gl_ (some 73) Try.func28 #[.slice bg L.length bo] ?_; (with_reducible refine (impl_ChainFollows.calls kj35 _ _ L true _ ?side1 ?side2 aK.1).mono ?_); (case side1 => exact pc_ ((Kd.S_reads' l.1).2.2)); (case side2 => exact (Kd.S_reads' l.1).2.1); rintro e cS ⟨rfl, hb⟩; refine ⟨_, rfl, ?_⟩; have _ := Q_ (Kd.R_below (pr_ a.1) hb); have _ := Q_ (Kd.R_below (pr_ b.1) hb); have _ := Q_ (Kd.S_below (ps_ l.1) hb); have _ := Q_ (bb_ d.1 hb); have _ := Q_ (below_step (pb1_ HB.1 j.1) hb); clear a b l d HB; rename_i a b l d HB; (try clear hb)) | (go_at_call 25; (with_reducible refine (impl_FarFollows.calls kj35 _ _ L af ag ah _ ?side1 ?side2 a0.1).mono ?_); (case side1 => exact pc_ ((Kd.S_reads' l.1).2.2)); (case side2 => exact (Kd.S_reads' l.1).2.1); rintro e cT ⟨rfl, hb⟩; have _ := Q_ (Kd.R_below (pr_ a.1) hb); have _ := Q_ (Kd.R_below (pr_ b.1) hb); have _ := Q_ (Kd.S_below (ps_ l.1) hb); have _ := Q_ (bb_ d.1 hb); have _ := Q_ (below_step (pb1_ HB.1 j.1) hb); clear a b l d HB; rename_i a b l d HB; (try clear hb)))
   go_meet
   case rel => exact ⟨_, ((ah != false)), el_, H', ⟨by have := ao.1; have := au.1; first | omega | exact Nat.le_refl _⟩, ⟨pr_ a.1⟩, ⟨pr_ b.1⟩, ⟨pk_ d.1⟩, ⟨pb1_ HB.1 j.1⟩⟩
  rw [if_pos az] at H
  have ad := decide_eq_true az
  clear az
  (first | rw [ad] | (simp only [i64_w, i32_w]; rw [ad]) | skip)
  by_cases aA : af ≤ ag
  rotate_left
  ·rw [if_neg aA] at H
   have bb := decide_eq_false aA
   clear aA
   have H' := Q_ H
   clear H
   obtain ⟨bh, bp, bM⟩ := Kd.S_slice l.1
   subst bM
   go_wp2_with (first | ((with_reducible refine gate_callee (f := 28) rfl ?_); refine gl_ (some 73) Try.func28 #[.slice bh L.length bp] ?_; (with_reducible refine (impl_ChainFollows.calls kj35 _ _ L true _ ?side1 ?side2 aK.1).mono ?_); (case side1 => exact pc_ ((Kd.S_reads' l.1).2.2)); (case side2 => exact (Kd.S_reads' l.1).2.1); rintro e cU ⟨rfl, hb⟩; refine ⟨_, rfl, ?_⟩; have _ := Q_ (Kd.R_below (pr_ a.1) hb); have _ := Q_ (Kd.R_below (pr_ b.1) hb); have _ := Q_ (Kd.S_below (ps_ l.1) hb); have _ := Q_ (bb_ d.1 hb); have _ := Q_ (below_step (pb1_ HB.1 j.1) hb); clear a b l d HB; rename_i a b l d HB; (try clear hb)) | (go_at_call 25; (with_reducible refine (impl_FarFollows.calls kj35 _ _ L af ag ah _ ?side1 ?side2 a0.1).mono ?_); (case side1 => exact pc_ ((Kd.S_reads' l.1).2.2)); (case side2 => exact (Kd.S_reads' l.1).2.1); rintro e cV ⟨rfl, hb⟩; have _ := Q_ (Kd.R_below (pr_ a.1) hb); have _ := Q_ (Kd.R_below (pr_ b.1) hb); have _ := Q_ (Kd.S_below (ps_ l.1) hb); have _ := Q_ (bb_ d.1 hb); have _ := Q_ (below_step (pb1_ HB.1 j.1) hb); clear a b l d HB; rename_i a b l d HB; (try clear hb)))
   go_meet
   case rel => exact ⟨_, ((ah != false)), el_, H', ⟨by have := ao.1; have := au.1; first | omega | exact Nat.le_refl _⟩, ⟨pr_ a.1⟩, ⟨pr_ b.1⟩, ⟨pk_ d.1⟩, ⟨pb1_ HB.1 j.1⟩⟩
  rw [if_pos aA] at H
  have bb := decide_eq_true aA
  clear aA
  have H' := Q_ H
  clear H
  obtain ⟨bi, bq, bN⟩ := Kd.S_slice l.1
  subst bN
  go_wp2_with (first | ((with_reducible refine gate_callee (f := 28) rfl ?_); refine gl_ (some 73) Try.func28 #[.slice bi L.length bq] ?_; (with_reducible refine (impl_ChainFollows.calls kj35 _ _ L true _ ?side1 ?side2 aK.1).mono ?_); (case side1 => exact pc_ ((Kd.S_reads' l.1).2.2)); (case side2 => exact (Kd.S_reads' l.1).2.1); rintro e cW ⟨rfl, hb⟩; refine ⟨_, rfl, ?_⟩; have _ := Q_ (Kd.R_below (pr_ a.1) hb); have _ := Q_ (Kd.R_below (pr_ b.1) hb); have _ := Q_ (Kd.S_below (ps_ l.1) hb); have _ := Q_ (bb_ d.1 hb); have _ := Q_ (below_step (pb1_ HB.1 j.1) hb); clear a b l d HB; rename_i a b l d HB; (try clear hb)) | (go_at_call 25; (with_reducible refine (impl_FarFollows.calls kj35 _ _ L af ag ah _ ?side1 ?side2 a0.1).mono ?_); (case side1 => exact pc_ ((Kd.S_reads' l.1).2.2)); (case side2 => exact (Kd.S_reads' l.1).2.1); rintro e cX ⟨rfl, hb⟩; have _ := Q_ (Kd.R_below (pr_ a.1) hb); have _ := Q_ (Kd.R_below (pr_ b.1) hb); have _ := Q_ (Kd.S_below (ps_ l.1) hb); have _ := Q_ (bb_ d.1 hb); have _ := Q_ (below_step (pb1_ HB.1 j.1) hb); clear a b l d HB; rename_i a b l d HB; (try clear hb)))
  go_meet
  case rel => exact ⟨_, ((ah != (decide (ag < (L.length : Int))))), el_, H', ⟨by have := ao.1; have := au.1; first | omega | exact Nat.le_refl _⟩, ⟨pr_ a.1⟩, ⟨pr_ b.1⟩, ⟨pk_ d.1⟩, ⟨pb1_ HB.1 j.1⟩⟩
 clear aC
 obtain ⟨kq, V, rfl, HA, cr, a, b, d, HB⟩ := hcut
 rcases kq with _ | kj49
 ·exact absurd HA.1 (by simp [laws_FnLines.j2])
 have H := HA.1
 clear HA
 simp only [laws_FnLines.j2] at H
 by_cases aV : V = true
 ·subst aV
  rw [if_pos rfl] at H
  obtain rfl := Option.some.inj H
  go_wp2
  go_ret
  exact ⟨er_, pb1_ HB.1 j.1⟩
 replace aV := bf_ aV
 subst aV
 rw [if_neg ff_] at H
 obtain ⟨⟨ai, an⟩, b2, H⟩ := bs_ H
 (try dsimp only at H)
 have HS_ := Q_ H
 clear H
 go_upto_region 15 with (first | ((with_reducible refine gate_callee (f := 31) rfl ?_); refine gl_ (some 96) Try.func31 #[.slice A0 T.length c0] ?_; (with_reducible refine (spec_DrawNextOnly.calls kj49 _ _ T ai an _ (cb_ aM HB) aL.1 b2.1).mono ?_); rintro e cY ⟨cE, cF, rfl, ae, aD, hb⟩; refine ⟨_, rfl, ?_⟩; have _ := Q_ (Kd.R_below (pr_ a.1) hb); have _ := Q_ (Kd.R_below (pr_ b.1) hb); have _ := Q_ (Kd.S_lower (Kd.S_newB (Kd.S_new' (Kd.S_new' ae (Kd.R_lt (pr_ a.1))) (Kd.R_lt (pr_ b.1))) (g := t) (o := .cells #[.int .i64 K, .slice G x.length E, .slice I y.length F] 34 (0, 0)) (pk_ d.1)) (below_size (pb1_ HB.1 j.1))); have _ := Q_ (Kd.S_lower (Kd.S_newB (Kd.S_new' (Kd.S_new' aD (Kd.R_lt (pr_ a.1))) (Kd.R_lt (pr_ b.1))) (g := t) (o := .cells #[.int .i64 K, .slice G x.length E, .slice I y.length F] 34 (0, 0)) (pk_ d.1)) (below_size (pb1_ HB.1 j.1))); have _ := Q_ (bb_ d.1 hb); have _ := Q_ (below_step (pb1_ HB.1 j.1) hb); clear a b d HB; rename_i a b D M d HB; (try clear hb ae aD)))
 (try simp only [Act.put, s1_, s2_, s3_])
 have H := HS_.1
 clear HS_
 obtain ⟨bX, be, H⟩ := bs_ H
 (try dsimp only at H)
 by_cases aW : bX = true
 rotate_left
 ·replace aW := bf_ aW
  subst aW
  rw [if_neg ff_] at H
  obtain rfl := Option.some.inj H
  obtain ⟨bj, br, bO⟩ := Kd.S_slice D.1
  subst bO
  obtain ⟨bk, bs, bP⟩ := Kd.S_slice M.1
  subst bP
  go_wp2_with (first | ((with_reducible refine gate_callee (f := 32) rfl ?_); refine gl_ (some 101) Try.func32 #[.slice bj ai.length br, .slice bk an.length bs] ?_; (with_reducible refine (impl_NextOnly.calls kj49 _ _ ai _ _ an false _ ?side1 ?side2 ?side3 ?side4 be.1).mono ?_); (case side1 => exact pc_ ((Kd.S_reads' D.1).2.2)); (case side2 => exact (Kd.S_reads' D.1).2.1); (case side3 => exact pc_ ((Kd.S_reads' M.1).2.2)); (case side4 => exact (Kd.S_reads' M.1).2.1); rintro e cZ ⟨rfl, hb⟩; refine ⟨_, rfl, ?_⟩; have _ := Q_ (Kd.R_below (pr_ a.1) hb); have _ := Q_ (Kd.R_below (pr_ b.1) hb); have _ := Q_ (bb_ d.1 hb); have _ := Q_ (below_step (pb1_ HB.1 j.1) hb); clear a b d HB D M; rename_i a b d HB; (try clear hb)))
  go_ret
  exact ⟨er_, pb1_ HB.1 j.1⟩
 subst aW
 rw [if_pos rfl] at H
 obtain ⟨aY, b3, H⟩ := bs_ H
 replace H : (some (!aY)) = some r := H
 obtain rfl := Option.some.inj H
 obtain ⟨bl, bt, bQ⟩ := Kd.S_slice D.1
 subst bQ
 obtain ⟨bm, bu, bR⟩ := Kd.S_slice M.1
 subst bR
 go_wp2_with (first | ((with_reducible refine gate_callee (f := 32) rfl ?_); refine gl_ (some 101) Try.func32 #[.slice bl ai.length bt, .slice bm an.length bu] ?_; (with_reducible refine (impl_NextOnly.calls kj49 _ _ ai _ _ an true _ ?side1 ?side2 ?side3 ?side4 be.1).mono ?_); (case side1 => exact pc_ ((Kd.S_reads' D.1).2.2)); (case side2 => exact (Kd.S_reads' D.1).2.1); (case side3 => exact pc_ ((Kd.S_reads' M.1).2.2)); (case side4 => exact (Kd.S_reads' M.1).2.1); rintro e c1 ⟨rfl, hb⟩; refine ⟨_, rfl, ?_⟩; have _ := Q_ (Kd.R_below (pr_ a.1) hb); have _ := Q_ (Kd.R_below (pr_ b.1) hb); have _ := Q_ (Kd.S_below (ps_ D.1) hb); have _ := Q_ (bb_ d.1 hb); have _ := Q_ (below_step (pb1_ HB.1 j.1) hb); clear a b D d HB M; rename_i a b D d HB; (try clear hb)) | (go_at_call 28; (with_reducible refine (impl_ChainFollows.calls kj49 _ _ ai aY _ ?side1 ?side2 b3.1).mono ?_); (case side1 => exact pc_ ((Kd.S_reads' D.1).2.2)); (case side2 => exact (Kd.S_reads' D.1).2.1); rintro e c2 ⟨rfl, hb⟩; have _ := Q_ (Kd.R_below (pr_ a.1) hb); have _ := Q_ (Kd.R_below (pr_ b.1) hb); have _ := Q_ (bb_ d.1 hb); have _ := Q_ (below_step (pb1_ HB.1 j.1) hb); clear a b d HB D; rename_i a b d HB; (try clear hb)))
 go_ret
 exact ⟨er_, pb1_ HB.1 j.1⟩

/-- THE ONE PURE STATEMENT of laws_FnLines: yours. -/
def laws_FnLines.Pure : Prop := ∀ (a : List Int), a.length ≤ maxLen → a.length * 1 ≤ 140737488351232 → (∀ x ∈ a, (Lit.int .u8 x).wf = true) → ∃ k, laws_FnLines.f k a = some true
theorem laws_FnLines.walk (P : laws_FnLines.Pure) (a : Option Addr) (len0 cap0 : Nat) (z0 : List Int) (w : World) (w0 : (a = none ∧ len0 = 0 ∧ cap0 = 0 ∧ z0 = []) ∨ ∃ x, a = some x ∧ len0 ≤ cap0 ∧ cap0 ≤ maxLen ∧ z0.length = cap0 ∧ (∀ i, i < z0.length → w.cell? (x.add i) = some (.int .u8 (z0.getD i 0))) ∧ ∀ n ∈ z0, (Lit.int .u8 n).wf = true) (j : len0 * 1 ≤ 140737488351232) :
  Calls Try.prog 6 #[.slice a len0 cap0] w fun e w' => e = .returned (.bool true) ∧ Below w.heap.size w w' := by
 obtain ⟨g, rfl, hr0, c, f, b⟩ := ReadsInt.ofRowC w0
 obtain ⟨k, h⟩ := P g c j f
 refine (laws_FnLines.calls k _ _ g true w (Kd.C_of_reads (d := (0 : Int)) (h1 := fun _ => rfl) hr0) b h).mono ?_
 rintro e w' ⟨rfl, hd⟩
 exact ⟨rfl, hd⟩

end Go.Proofs.Ytldcchjbaglppaa.Print
