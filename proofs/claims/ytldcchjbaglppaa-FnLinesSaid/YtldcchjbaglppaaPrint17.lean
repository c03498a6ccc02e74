-- Written by a program of this session (printx.py) out of the translation; Lean checks it.
import Derived.Test.YtldcchjbaglppaaPrint0
import Derived.Test.YtldcchjbaglppaaPrint1
import Derived.Test.YtldcchjbaglppaaPrint9
import Derived.Test.YtldcchjbaglppaaPrint10
import Derived.Test.YtldcchjbaglppaaPrint12
import Derived.Test.YtldcchjbaglppaaPrint15
import Derived.Test.YtldcchjbaglppaaPrint16
namespace Go.Proofs.Ytldcchjbaglppaa.Print
open Go.RowKit Go.Proofs.YtldcchjbaglppaaW.PrintWords Go.Proofs.YtldcchjbaglppaaW.PrintLast Go.Proofs.YtldcchjbaglppaaW.PrintMore Go.Proofs.Ytldcchjbaglppaa.Short
attribute [local go_sem] max2_int min2_int max_two min_two max_three min_three max_four min_four   -- for this text's walks alone
set_option linter.unusedVariables false
set_option maxHeartbeats 8000000
set_option maxRecDepth 100000
set_option linter.unusedSimpArgs false

/-! ### spec_DrawWorksWith: function 27 -/
def spec_DrawWorksWith.f (k : Nat) (h : List Int) : Option ((List (S34)) × Int × List Bool × (List (S78))) := (spec_l1New.f k h).bind fun b => ((spec_l30Line.f k b.1 b.2.1 b.2.2).bind fun a => ((spec_l1Once.f b.1 a.2.1 a.2.2 3).bind fun c => (if c.1 = true then ((spec_l14Pair.f k b.1 c.2.1 c.2.2).bind fun e => (some (a.1, e.2.2.2.1, e.2.2.2.2.1, e.2.2.2.2.2.1))) else ((spec_l1Below.f b.1 c.2.1 c.2.2 (a.1.length : Int)).bind fun d => (if 0 ≤ d.1 then (if d.1 < (a.1.length : Int) then ((spec_DualOf.f k ((rd_T34 a.1 d.1).f0) ((rd_T34 a.1 d.1).f1) ((rd_T34 a.1 d.1).f2)).bind fun g => (some (a.1, g.1, g.2.1, g.2.2))) else (none)) else (none))))))
theorem spec_DrawWorksWith.mono : ∀ a k, LeO (spec_DrawWorksWith.f k a) (spec_DrawWorksWith.f (k + 1) a) := by
 intro a k
 unfold spec_DrawWorksWith.f
 exact mo4_ spec_DualOf.mono spec_l14Pair.mono spec_l1New.mono spec_l30Line.mono
theorem spec_DrawWorksWith.calls (k : Nat) (A0 : Option Addr) (c0 : Nat) (l0 : List Int) (r1 : List (S34)) (r2 : Int) (r3 : List Bool) (r4 : List (S78)) (w : World) (hr0 : Kd.C (Kd.int .u8) w A0 l0.length l0) (bh : l0.length ≤ c0) (h : spec_DrawWorksWith.f k l0 = some (r1, r2, r3, r4)) :
  Calls Try.prog 27 #[.slice A0 l0.length c0] w fun e w' => ∃ v0_ v2_ v3_ : Value, e = .returned (.tuple #[v0_, .agg #[.int .i64 r2, v2_, v3_]]) ∧ Kd.S k34 34 w' w.heap.size (fun k_ => some k_ ≠ (v2_ : Value).ownBlock ∧ some k_ ≠ (v3_ : Value).ownBlock) v0_ r1 ∧ Kd.R Kd.bool 4 w' w.heap.size (fun _ => True) v2_ r3 ∧ Kd.R k78 78 w' w.heap.size (fun _ => True) v3_ r4 ∧ Below w.heap.size w w' := by
 have hu34 := Try.underlying34
 have bJ := Q_ hr0
 have bI := Q_ bh
 clear hr0 bh
 have HB := Q_ (Below.refl w.heap.size w)
 have H : ((spec_l1New.f k l0).bind fun ag => ((spec_l30Line.f k ag.1 ag.2.1 ag.2.2).bind fun ad => ((spec_l1Once.f ag.1 ad.2.1 ad.2.2 3).bind fun ai => (if ai.1 = true then ((spec_l14Pair.f k ag.1 ai.2.1 ai.2.2).bind fun aw => (some (ad.1, aw.2.2.2.1, aw.2.2.2.2.1, aw.2.2.2.2.2.1))) else ((spec_l1Below.f ag.1 ai.2.1 ai.2.2 (ad.1.length : Int)).bind fun aj => (if 0 ≤ aj.1 then (if aj.1 < (ad.1.length : Int) then ((spec_DualOf.f k ((rd_T34 ad.1 aj.1).f0) ((rd_T34 ad.1 aj.1).f1) ((rd_T34 ad.1 aj.1).f2)).bind fun ax => (some (ad.1, ax.1, ax.2.1, ax.2.2))) else (none)) else (none))))))) = some (r1, r2, r3, r4) := h
 clear h
 have HS_ := Q_ H
 clear H
 go_enter Try.func27, Try.ntmps27
 go_upto_region 1 with (first | ((with_reducible refine gate_dst (N := 3) rfl ?_); refine bx_ 3 #[.int .i64 0, .slice none 0 0, .slice none 0 0] 34 ?_; intro m hg w2 hbox hb; have _ := Q_ (below_step (pb_ HB.1) hb); have d := Q_ (hbox); have a3 := Q_ (gw_ (w := w) hg (pb_ HB.1)); have r := a3; clear HB; rename_i HB; clear hb hbox hg))
 (try simp only [Act.put, s1_, s2_, s3_])
 have H := HS_.1
 clear HS_
 obtain ⟨⟨ae, a0, a1⟩, A3, H⟩ := bs_ H
 (try dsimp only at H)
 have HS_ := Q_ H
 clear H
 go_upto_region 2 with (first | ((with_reducible refine gate_callee (f := 49) rfl ?_); refine gl_ (some 9) Try.func49 #[.slice A0 l0.length c0] ?_; (with_reducible refine (spec_l1New.calls k _ _ l0 ae a0 a1 w _ ?side1 bJ.1 bI.1 A3.1).mono ?_); (case side1 => exact qb1_ HB.1 r.1); rintro e w4 ⟨g613, rfl, hi, hb, hb2⟩; refine ⟨_, rfl, ?_⟩; have _ := Q_ (bb_ d.1 hb2); have _ := Q_ (hb); have _ := Q_ (hi); have _ := Q_ (IsS87.ne_blk hi (bb_ d.1 hb2) (by decide)); have _ := Q_ (Ne.symm (IsS87.ne_blk hi (bb_ d.1 hb2) (by decide))); clear d HB; rename_i d HB c l V; (try clear hb hb2 hi)))
 (try simp only [Act.put, s1_, s2_, s3_])
 have H := HS_.1
 clear HS_
 obtain ⟨⟨U, aN, aO⟩, A5, H⟩ := bs_ H
 (try dsimp only at H)
 have HS_ := Q_ H
 clear H
 go_upto_region 3 with (first | ((with_reducible refine gate_callee (f := 50) rfl ?_); refine gl_ (some 11) Try.func50 #[.pointer (some ⟨g613, 0, none⟩)] ?_; (with_reducible refine (spec_l30Line.calls k g613 ae a0 a1 U aN aO w _ ?side1 ?side2 A5.1).mono ?_); (case side1 => exact qs87_1_ c.1 l.1); (case side2 => exact qb2_ HB.1 (IsS87.ge c.1) r.1); rintro e w6 ⟨bC, rfl, ak, hi, hb, hk⟩; refine ⟨_, rfl, ?_⟩; have _ := Q_ (KeepBut.blk hk (g' := m) (o := .cells #[.int .i64 0, .slice none 0 0, .slice none 0 0] 34 (0, 0)) (pk_ d.1) V.1 (by simp)); have _ := Q_ (Kd.S_lower (Kd.S_newB ak (g := m) (o := .cells #[.int .i64 0, .slice none 0 0, .slice none 0 0] 34 (0, 0)) (pk_ d.1)) (below_size (qb2_ HB.1 (IsS87.ge c.1) r.1))); have _ := Q_ (hb); have _ := Q_ (hi); clear d HB c; rename_i d j HB c; (try clear hb hk hi ak)))
 (try simp only [Act.put, s1_, s2_, s3_])
 have H := HS_.1
 clear HS_
 obtain ⟨⟨a2, ap, aq⟩, A7, H⟩ := bs_ H
 (try dsimp only at H)
 have HS_ := Q_ H
 clear H
 go_upto_if 13 with (first | ((with_reducible refine gate_callee (f := 51) rfl ?_); refine gl_ (some 13) Try.func51 #[.pointer (some ⟨g613, 0, none⟩), .int .i64 3] ?_; (with_reducible refine (spec_l1Once.calls g613 ae aN aO 3 a2 ap aq w _ ?side1 ?side2 A7.1).mono ?_); (case side1 => exact qs87_1_ c.1 l.1); (case side2 => exact qb2_ HB.1 (IsS87.ge c.1) r.1); rintro e w8 ⟨rfl, hi, hb, hk⟩; refine ⟨_, rfl, ?_⟩; have _ := Q_ (KeepBut.blk hk (g' := m) (o := .cells #[.int .i64 0, .slice none 0 0, .slice none 0 0] 34 (0, 0)) (pk_ d.1) V.1 (by simp)); have _ := Q_ (Kd.S_mono (Kd.S_keep (IsS87.apartS (show IsS87 w _ g613 ae aN aO from qs87_1_ c.1 l.1) (ps_ j.1) (by decide)) hk (fun _ h => h.2)) (fun _ h => h.1)); have _ := Q_ (hb); have _ := Q_ (hi); clear d j HB c; rename_i d j HB c; (try clear hb hk hi)))
 (try simp only [Act.put, s1_, s2_, s3_])
 have H := HS_.1
 clear HS_
 by_cases c9 : a2 = true
 rotate_left
 ·replace c9 := bf_ c9
  subst c9
  rw [if_neg ff_] at H
  obtain ⟨⟨Z, bA, bB⟩, bF, H⟩ := bs_ H
  (try dsimp only at H)
  by_cases aR : 0 ≤ Z
  rotate_left
  ·rw [if_neg aR] at H
   exact nn_ H
  rw [if_pos aR] at H
  have aK := decide_eq_true aR
  clear aR
  (first | rw [aK] | (simp only [i64_w, i32_w]; rw [aK]) | skip)
  by_cases aS : Z < (U.length : Int)
  rotate_left
  ·rw [if_neg aS] at H
   exact nn_ H
  rw [if_pos aS] at H
  have bM := decide_eq_true aS
  clear aS
  obtain ⟨⟨aC, aD, aE⟩, bG, H⟩ := bs_ H
  replace H : (some (U, aC, aD, aE)) = some (r1, r2, r3, r4) := H
  simp only [Option.some.injEq, Prod.mk.injEq] at H
  obtain ⟨rfl, rfl, rfl, rfl⟩ := H
  obtain ⟨b6, b7, ba⟩ := Kd.S_slice j.1
  subst ba
  go_wp2_with (first | ((with_reducible refine gate_callee (f := 54) rfl ?_); refine gl_ (some 26) Try.func54 #[.pointer (some ⟨g613, 0, none⟩), .int .i64 (U.length : Int)] ?_; (with_reducible refine (spec_l1Below.calls g613 ae ap aq (U.length : Int) Z bA bB w _ ?side1 ?side2 bF.1).mono ?_); (case side1 => exact qs87_1_ c.1 l.1); (case side2 => exact qb2_ HB.1 (IsS87.ge c.1) r.1); rintro e ck ⟨rfl, hi, hb, hk⟩; refine ⟨_, rfl, ?_⟩; have _ := Q_ (KeepBut.blk hk (g' := m) (o := .cells #[.int .i64 0, .slice none 0 0, .slice none 0 0] 34 (0, 0)) (pk_ d.1) V.1 (by simp)); have _ := Q_ (Kd.S_mono (Kd.S_keep (IsS87.apartS (show IsS87 w _ g613 ae ap aq from qs87_1_ c.1 l.1) (ps_ j.1) (by decide)) hk (fun _ h => h.2)) (fun _ h => h.1)); have _ := Q_ (hb); have _ := Q_ (hi); clear d j HB c; rename_i d j HB c; (try clear hb hk hi); have ay : 0 ≤ (Z : Int) := dt_; have az : Z < (U.length : Int) := dt_; obtain ⟨bK, aP, aT, aQ, aU, a9, bu, aL, aM, aG, aa, aH, ab⟩ := at_U34 (Kd.S_reads' j.1).2.2 Z ay az; cases a9; obtain ⟨ce643, hce643, hMe643, an⟩ := Kd.S_get j.1 z34 Z ay (by first | exact az | exact dt_ | (have e_ := (Kd.S_reads' j.1).1; omega)); obtain ⟨ve643_1, ve643_2, rfl, ge643_1, ge643_2⟩ := k34_openM hMe643; have hv643_1 := an 1 _ rfl; rw [add_field _ _ 1 (by omega)] at hv643_1; replace hv643_1 := Option.some.inj (hv643_1.symm.trans aL); rw [hv643_1] at ge643_1; have HL643_1 := Q_ (show Kd.R Kd.bool 4 _ _ _ _ ((rd_T34 U Z).f1) from ge643_1); clear hv643_1 ge643_1; have hv643_2 := an 2 _ rfl; rw [add_field _ _ 2 (by omega)] at hv643_2; replace hv643_2 := Option.some.inj (hv643_2.symm.trans aM); rw [hv643_2] at ge643_2; have HL643_2 := Q_ (show Kd.R k78 78 _ _ _ _ ((rd_T34 U Z).f2) from ge643_2); clear hv643_2 ge643_2; clear an hce643; replace ay := eq_true ay; replace az := eq_true az) | ((with_reducible refine gate_callee (f := 53) rfl ?_); refine gl_ (some 29) Try.func53 #[.agg #[.int .i64 ((rd_T34 U Z).f0), .slice aP ((rd_T34 U Z).f1).length aT, .slice aQ ((rd_T34 U Z).f2).length aU]] ?_; (with_reducible refine (spec_DualOf.calls k ((rd_T34 U Z).f0) _ _ ((rd_T34 U Z).f1) _ _ ((rd_T34 U Z).f2) aC aD aE _ ?side1 ?side2 ?side3 ?side4 bG.1).mono ?_); (case side1 => repeat (first | exact (by repeat (first | (with_reducible exact aa.1) | (with_reducible refine Kd.C_alloc ?_ _) | (with_reducible refine Kd.C_drewN ?_ _) | (with_reducible refine Kd.C_drew ?_) | exact aa.1)) | (with_reducible refine Kd.C_alloc ?_ _) | (with_reducible refine Kd.C_drewN ?_ _) | (with_reducible refine Kd.C_drew ?_))); (case side2 => exact aG.1); (case side3 => repeat (first | exact (by repeat (first | (with_reducible exact ab.1) | (with_reducible refine Kd.C_alloc ?_ _) | (with_reducible refine Kd.C_drewN ?_ _) | (with_reducible refine Kd.C_drew ?_) | exact ab.1)) | (with_reducible refine Kd.C_alloc ?_ _) | (with_reducible refine Kd.C_drewN ?_ _) | (with_reducible refine Kd.C_drew ?_))); (case side4 => exact aH.1); rintro e cl ⟨cf, cg, rfl, ak, ao, hb⟩; refine ⟨_, rfl, ?_⟩; have _ := Q_ (Kd.S_mono (Kd.S_told (Kd.S_told (Kd.S_old (ps_ j.1) hb) (Kd.R_base ak)) (Kd.R_base ao)) (fun _ h_ => h_.1)); have _ := Q_ (Kd.R_elder' (pr_ HL643_1.1) (Kd.R_base ak) hb); have _ := Q_ (Kd.R_elder' (pr_ HL643_2.1) (Kd.R_base ao) hb); have _ := Q_ (Kd.R_lower (Kd.R_new' ak (Kd.R_lt (pr_ HL643_1.1))) (below_size (qb2_ HB.1 (IsS87.ge c.1) r.1))); have _ := Q_ (Kd.R_lower (Kd.R_new' ao (Kd.R_lt (pr_ HL643_2.1))) (below_size (qb2_ HB.1 (IsS87.ge c.1) r.1))); have _ := Q_ (bb_ d.1 hb); have _ := Q_ (IsS87.below (qs87_1_ c.1 l.1) hb); have _ := Q_ (Kd.C_below (by repeat (first | (with_reducible exact aa.1) | (with_reducible refine Kd.C_alloc ?_ _) | (with_reducible refine Kd.C_drewN ?_ _) | (with_reducible refine Kd.C_drew ?_) | exact aa.1)) hb); have _ := Q_ (Kd.C_below (by repeat (first | (with_reducible exact ab.1) | (with_reducible refine Kd.C_alloc ?_ _) | (with_reducible refine Kd.C_drewN ?_ _) | (with_reducible refine Kd.C_drew ?_) | exact ab.1)) hb); have _ := Q_ (below_step (qb2_ HB.1 (IsS87.ge c.1) r.1) hb); clear j HL643_1 HL643_2 d c aa ab HB; rename_i j HL643_1 HL643_2 aI aJ d c aa ab HB; (try clear hb ak ao); have bT := V.1; have bZ := l.1; have bN := bc3_ d.1; obtain ⟨aV, aX, bb⟩ := Kd.R_slice aI.1; subst bb; obtain ⟨aW, aY, bc⟩ := Kd.R_slice aJ.1; subst bc))
  refine bodyPost_ret (results_tc rfl _ _ m 34 #[.int .i64 aC, .slice aV aD.length aX, .slice aW aE.length aY] (0, 0) _ rfl (pp_ d.1) Try.underlying34 rfl (by kernel_rfl)) rfl ?_
  exact ⟨_, _, _, er_, by (with_reducible repeat (first | apply Kd.S_alloc | apply Kd.S_drewN | apply Kd.S_drew)); exact Kd.S_mono (Kd.S_far (p := ⟨m, 2, none⟩) (Kd.S_far (p := ⟨m, 1, none⟩) (Kd.S_far (p := ⟨m, 0, none⟩) (Kd.S_mono j.1 (fun k_ hk => (⟨hk, hk.1.1.2⟩ : _ ∧ k_ ≠ m))) (fun _ hk => hk.2) (.int .i64 aC)) (fun _ hk => hk.2) (.slice aV aD.length aX)) (fun _ hk => hk.2) (.slice aW aE.length aY)) (fun _ hk => ⟨hk.1.1.2, hk.1.2⟩), pr_ (Kd.R_mono (rf3_ aI.1 d.1) (fun _ hk => trivial)), pr_ (Kd.R_mono (rf3_ aJ.1 d.1) (fun _ hk => trivial)), qb2_ HB.1 (IsS87.ge c.1) r.1⟩
 subst c9
 rw [if_pos rfl] at H
 obtain ⟨⟨Q, A, B, D, s, t, aA, aB⟩, bH, H⟩ := bs_ H
 replace H : (some (U, D, s, t)) = some (r1, r2, r3, r4) := H
 simp only [Option.some.injEq, Prod.mk.injEq] at H
 obtain ⟨rfl, rfl, rfl, rfl⟩ := H
 try go_wp2_with (first | ((with_reducible refine gate_callee (f := 52) rfl ?_); refine gl_ (some 16) Try.func52 #[.pointer (some ⟨g613, 0, none⟩)] ?_; (with_reducible refine (spec_l14Pair.calls k g613 ae ap aq Q A B D s t aA aB w _ ?side1 ?side2 bH.1).mono ?_); (case side1 => exact qs87_1_ c.1 l.1); (case side2 => exact qb2_ HB.1 (IsS87.ge c.1) r.1); rintro e cm ⟨cb, cc, cd, ce, rfl, ak, ao, a6, a7, hi, hb, hk⟩; refine ⟨_, rfl, ?_⟩; have _ := Q_ (KeepBut.blk hk (g' := m) (o := .cells #[.int .i64 0, .slice none 0 0, .slice none 0 0] 34 (0, 0)) (pk_ d.1) V.1 (by simp)); have _ := Q_ (Kd.S_mono (Kd.S_told (Kd.S_told (Kd.S_told (Kd.S_told (Kd.S_oldK (IsS87.apartS (show IsS87 w _ g613 ae ap aq from qs87_1_ c.1 l.1) (ps_ j.1) (by decide)) hk) (Kd.R_base ak)) (Kd.R_base ao)) (Kd.R_base a6)) (Kd.R_base a7)) (fun _ h_ => h_.1)); have _ := Q_ (Kd.R_lower ak (below_size (qb2_ HB.1 (IsS87.ge c.1) r.1))); have _ := Q_ (Kd.R_lower ao (below_size (qb2_ HB.1 (IsS87.ge c.1) r.1))); have _ := Q_ (Kd.R_lower a6 (below_size (qb2_ HB.1 (IsS87.ge c.1) r.1))); have _ := Q_ (Kd.R_lower a7 (below_size (qb2_ HB.1 (IsS87.ge c.1) r.1))); have _ := Q_ (hb); have _ := Q_ (hi); clear d j HB c; rename_i d j O P F G HB c; (try clear hb hk hi ak ao a6 a7)) | ((with_reducible refine gate_dst (N := 6) rfl ?_); refine bx_ 6 #[.int .i64 0, .slice none 0 0, .slice none 0 0] 34 ?_; intro b hg cn hbox hb; have _ := Q_ (Kd.S_below (Kd.S_elderB (ps_ j.1) b (Nat.le_of_eq hg.symm)) hb); have _ := Q_ (Kd.R_below (pr_ O.1) hb); have _ := Q_ (Kd.R_below (pr_ P.1) hb); have _ := Q_ (Kd.R_below (pr_ F.1) hb); have _ := Q_ (Kd.R_below (pr_ G.1) hb); have _ := Q_ (bb_ d.1 hb); have _ := Q_ (IsS87.below (qs87_1_ c.1 l.1) hb); have _ := Q_ (below_step (qb2_ HB.1 (IsS87.ge c.1) r.1) hb); have E := Q_ (hbox); have a4 := Q_ ((by rw [hg]; exact (below_size (qb2_ HB.1 (IsS87.ge c.1) r.1)) : w.heap.size ≤ b)); have am := a4; have W := Q_ (nb_ hg d); have ac := Q_ W.1.symm; have Y := Q_ ((by rw [hg]; exact Nat.ne_of_lt (IsS87.lt (show IsS87 w _ g613 ae aA aB from qs87_1_ c.1 l.1)) : g613 ≠ b)); have ar := Q_ Y.1.symm; clear j O P F G d c HB; rename_i j O P F G d c HB; clear hb hbox hg) | ((with_reducible refine gate_dst (N := 7) rfl ?_); refine bx_ 7 #[.int .i64 0, .slice none 0 0, .slice none 0 0] 34 ?_; intro a hg al hbox hb; have _ := Q_ (Kd.S_below (Kd.S_elderB (ps_ j.1) a (Nat.le_of_eq hg.symm)) hb); have _ := Q_ (Kd.R_below (pr_ O.1) hb); have _ := Q_ (Kd.R_below (pr_ P.1) hb); have _ := Q_ (Kd.R_below (pr_ F.1) hb); have _ := Q_ (Kd.R_below (pr_ G.1) hb); have _ := Q_ (bb_ d.1 hb); have _ := Q_ (IsS87.below (qs87_2_ c.1 l.1 Y.1) hb); have _ := Q_ (bb_ E.1 hb); have _ := Q_ (below_step (qb3_ HB.1 (IsS87.ge c.1) r.1 am.1) hb); have T := Q_ (hbox); have a5 := Q_ ((by rw [hg]; exact (below_size (qb3_ HB.1 (IsS87.ge c.1) r.1 am.1)) : w.heap.size ≤ a)); have aF := a5; have X := Q_ (nb_ hg d); have q := Q_ X.1.symm; have ah := Q_ (nb_ hg E); have av := Q_ ah.1.symm; have af := Q_ ((by rw [hg]; exact Nat.ne_of_lt (IsS87.lt (show IsS87 w _ g613 ae aA aB from qs87_2_ c.1 l.1 Y.1)) : g613 ≠ a)); have au := Q_ af.1.symm; clear j O P F G d c E HB; rename_i j O P F G d c E HB; clear hb hbox hg; have bU := ac.1; have b0 := W.1; have bV := ah.1; have b1 := av.1; have bW := ar.1; have b2 := Y.1; have bO := bc3_ E.1; obtain ⟨I, L, bd⟩ := Kd.R_slice O.1; subst bd; obtain ⟨J, M, be⟩ := Kd.R_slice P.1; subst be; have bX := q.1; have b3 := X.1; have bY := au.1; have b4 := af.1; have bP := bc3_ T.1; obtain ⟨u, y, bf⟩ := Kd.R_slice F.1; subst bf; obtain ⟨x, z, bg⟩ := Kd.R_slice G.1; subst bg))
 have n0_ : Aside0 (Kd.S k34 34 ((((((al.setCell ⟨b, 0, none⟩ (.int .i64 Q)).setCell ⟨b, 1, none⟩ (.slice I A.length L)).setCell ⟨b, 2, none⟩ (.slice J B.length M)).setCell ⟨a, 0, none⟩ (.int .i64 D)).setCell ⟨a, 1, none⟩ (.slice u s.length y)).setCell ⟨a, 2, none⟩ (.slice x t.length z)) w.heap.size (fun k_ => some k_ ≠ (.slice I A.length L : Value).ownBlock ∧ some k_ ≠ (.slice J B.length M : Value).ownBlock ∧ some k_ ≠ (.slice u s.length y : Value).ownBlock ∧ some k_ ≠ (.slice x t.length z : Value).ownBlock ∧ k_ ≠ m ∧ k_ ≠ b ∧ k_ ≠ a) bC U) := ⟨by (with_reducible repeat (first | apply Kd.S_alloc | apply Kd.S_drewN | apply Kd.S_drew)); exact Kd.S_mono (Kd.S_far (p := ⟨a, 2, none⟩) (Kd.S_far (p := ⟨a, 1, none⟩) (Kd.S_far (p := ⟨a, 0, none⟩) (Kd.S_far (p := ⟨b, 2, none⟩) (Kd.S_far (p := ⟨b, 1, none⟩) (Kd.S_far (p := ⟨b, 0, none⟩) (Kd.S_mono (Kd.S_mono j.1 (fun k_ hk => (⟨hk, hk.1.2⟩ : _ ∧ k_ ≠ b))) (fun k_ hk => (⟨hk, hk.1.2⟩ : _ ∧ k_ ≠ a))) (fun _ hk => hk.1.2) (.int .i64 Q)) (fun _ hk => hk.1.2) (.slice I A.length L)) (fun _ hk => hk.1.2) (.slice J B.length M)) (fun _ hk => hk.2) (.int .i64 D)) (fun _ hk => hk.2) (.slice u s.length y)) (fun _ hk => hk.2) (.slice x t.length z)) (fun _ hk => ⟨hk.1.1.1.1.1.1.1.2, ⟨hk.1.1.1.1.1.1.2, ⟨hk.1.1.1.1.1.2, ⟨hk.1.1.1.1.2, ⟨hk.1.1.1.1.1.1.1.1.2, ⟨hk.1.1.1.2, hk.1.1.2⟩⟩⟩⟩⟩⟩)⟩
 have n1_ : Aside0 (Kd.R Kd.bool 4 ((((((al.setCell ⟨b, 0, none⟩ (.int .i64 Q)).setCell ⟨b, 1, none⟩ (.slice I A.length L)).setCell ⟨b, 2, none⟩ (.slice J B.length M)).setCell ⟨a, 0, none⟩ (.int .i64 D)).setCell ⟨a, 1, none⟩ (.slice u s.length y)).setCell ⟨a, 2, none⟩ (.slice x t.length z)) w.heap.size (fun k_ => some k_ ≠ (.slice u s.length y : Value).ownBlock) (.slice I A.length L) A) := ⟨pr_ (Kd.R_mono (Kd.R_far (p := ⟨a, 2, none⟩) (Kd.R_far (p := ⟨a, 1, none⟩) (Kd.R_far (p := ⟨a, 0, none⟩) (Kd.R_far (p := ⟨b, 2, none⟩) (Kd.R_far (p := ⟨b, 1, none⟩) (Kd.R_far (p := ⟨b, 0, none⟩) (Kd.R_types (Kd.R_types O.1 E.1 (by decide)) T.1 (by decide)) (fun _ hk => hk.1.2) (.int .i64 Q)) (fun _ hk => hk.1.2) (.slice I A.length L)) (fun _ hk => hk.1.2) (.slice J B.length M)) (fun _ hk => hk.2) (.int .i64 D)) (fun _ hk => hk.2) (.slice u s.length y)) (fun _ hk => hk.2) (.slice x t.length z)) (fun _ hk => hk.1.1))⟩
 have n2_ : Aside0 (Kd.R k78 78 ((((((al.setCell ⟨b, 0, none⟩ (.int .i64 Q)).setCell ⟨b, 1, none⟩ (.slice I A.length L)).setCell ⟨b, 2, none⟩ (.slice J B.length M)).setCell ⟨a, 0, none⟩ (.int .i64 D)).setCell ⟨a, 1, none⟩ (.slice u s.length y)).setCell ⟨a, 2, none⟩ (.slice x t.length z)) w.heap.size (fun k_ => some k_ ≠ (.slice x t.length z : Value).ownBlock) (.slice J B.length M) B) := ⟨pr_ (Kd.R_mono (Kd.R_far (p := ⟨a, 2, none⟩) (Kd.R_far (p := ⟨a, 1, none⟩) (Kd.R_far (p := ⟨a, 0, none⟩) (Kd.R_far (p := ⟨b, 2, none⟩) (Kd.R_far (p := ⟨b, 1, none⟩) (Kd.R_far (p := ⟨b, 0, none⟩) (Kd.R_types (Kd.R_types P.1 E.1 (by decide)) T.1 (by decide)) (fun _ hk => hk.1.2) (.int .i64 Q)) (fun _ hk => hk.1.2) (.slice I A.length L)) (fun _ hk => hk.1.2) (.slice J B.length M)) (fun _ hk => hk.2) (.int .i64 D)) (fun _ hk => hk.2) (.slice u s.length y)) (fun _ hk => hk.2) (.slice x t.length z)) (fun _ hk => hk.1.1))⟩
 have n3_ : Aside0 (Kd.R Kd.bool 4 ((((((al.setCell ⟨b, 0, none⟩ (.int .i64 Q)).setCell ⟨b, 1, none⟩ (.slice I A.length L)).setCell ⟨b, 2, none⟩ (.slice J B.length M)).setCell ⟨a, 0, none⟩ (.int .i64 D)).setCell ⟨a, 1, none⟩ (.slice u s.length y)).setCell ⟨a, 2, none⟩ (.slice x t.length z)) w.heap.size (fun k_ => some k_ ≠ (.slice I A.length L : Value).ownBlock) (.slice u s.length y) s) := ⟨pr_ (Kd.R_mono (Kd.R_far (p := ⟨a, 2, none⟩) (Kd.R_far (p := ⟨a, 1, none⟩) (Kd.R_far (p := ⟨a, 0, none⟩) (Kd.R_far (p := ⟨b, 2, none⟩) (Kd.R_far (p := ⟨b, 1, none⟩) (Kd.R_far (p := ⟨b, 0, none⟩) (Kd.R_types (Kd.R_types F.1 E.1 (by decide)) T.1 (by decide)) (fun _ hk => hk.1.2) (.int .i64 Q)) (fun _ hk => hk.1.2) (.slice I A.length L)) (fun _ hk => hk.1.2) (.slice J B.length M)) (fun _ hk => hk.2) (.int .i64 D)) (fun _ hk => hk.2) (.slice u s.length y)) (fun _ hk => hk.2) (.slice x t.length z)) (fun _ hk => hk.1.1))⟩
 have n4_ : Aside0 (Kd.R k78 78 ((((((al.setCell ⟨b, 0, none⟩ (.int .i64 Q)).setCell ⟨b, 1, none⟩ (.slice I A.length L)).setCell ⟨b, 2, none⟩ (.slice J B.length M)).setCell ⟨a, 0, none⟩ (.int .i64 D)).setCell ⟨a, 1, none⟩ (.slice u s.length y)).setCell ⟨a, 2, none⟩ (.slice x t.length z)) w.heap.size (fun k_ => some k_ ≠ (.slice J B.length M : Value).ownBlock) (.slice x t.length z) t) := ⟨pr_ (Kd.R_mono (Kd.R_far (p := ⟨a, 2, none⟩) (Kd.R_far (p := ⟨a, 1, none⟩) (Kd.R_far (p := ⟨a, 0, none⟩) (Kd.R_far (p := ⟨b, 2, none⟩) (Kd.R_far (p := ⟨b, 1, none⟩) (Kd.R_far (p := ⟨b, 0, none⟩) (Kd.R_types (Kd.R_types G.1 E.1 (by decide)) T.1 (by decide)) (fun _ hk => hk.1.2) (.int .i64 Q)) (fun _ hk => hk.1.2) (.slice I A.length L)) (fun _ hk => hk.1.2) (.slice J B.length M)) (fun _ hk => hk.2) (.int .i64 D)) (fun _ hk => hk.2) (.slice u s.length y)) (fun _ hk => hk.2) (.slice x t.length z)) (fun _ hk => hk.1.1))⟩
 have n5_ : Aside0 (((((((al.setCell ⟨b, 0, none⟩ (.int .i64 Q)).setCell ⟨b, 1, none⟩ (.slice I A.length L)).setCell ⟨b, 2, none⟩ (.slice J B.length M)).setCell ⟨a, 0, none⟩ (.int .i64 D)).setCell ⟨a, 1, none⟩ (.slice u s.length y)).setCell ⟨a, 2, none⟩ (.slice x t.length z)).heap[m]? = some (.cells #[.int .i64 0, .slice none 0 0, .slice none 0 0] 34 (0, 0))) := ⟨pp_ d.1⟩
 have n6_ : Aside0 (((((((al.setCell ⟨b, 0, none⟩ (.int .i64 Q)).setCell ⟨b, 1, none⟩ (.slice I A.length L)).setCell ⟨b, 2, none⟩ (.slice J B.length M)).setCell ⟨a, 0, none⟩ (.int .i64 D)).setCell ⟨a, 1, none⟩ (.slice u s.length y)).setCell ⟨a, 2, none⟩ (.slice x t.length z)).heap[b]? = some (.cells #[.int .i64 Q, .slice I A.length L, .slice J B.length M] 34 (0, 0))) := ⟨pp_ E.1⟩
 have n7_ : Aside0 (((((((al.setCell ⟨b, 0, none⟩ (.int .i64 Q)).setCell ⟨b, 1, none⟩ (.slice I A.length L)).setCell ⟨b, 2, none⟩ (.slice J B.length M)).setCell ⟨a, 0, none⟩ (.int .i64 D)).setCell ⟨a, 1, none⟩ (.slice u s.length y)).setCell ⟨a, 2, none⟩ (.slice x t.length z)).heap[a]? = some (.cells #[.int .i64 D, .slice u s.length y, .slice x t.length z] 34 (0, 0))) := ⟨pp_ T.1⟩
 have n8_ : Aside0 (IsS87 w ((((((al.setCell ⟨b, 0, none⟩ (.int .i64 Q)).setCell ⟨b, 1, none⟩ (.slice I A.length L)).setCell ⟨b, 2, none⟩ (.slice J B.length M)).setCell ⟨a, 0, none⟩ (.int .i64 D)).setCell ⟨a, 1, none⟩ (.slice u s.length y)).setCell ⟨a, 2, none⟩ (.slice x t.length z)) g613 ae aA aB) := ⟨qs87_3_ c.1 l.1 Y.1 af.1⟩
 have n9_ : Aside0 (Below w.heap.size w ((((((al.setCell ⟨b, 0, none⟩ (.int .i64 Q)).setCell ⟨b, 1, none⟩ (.slice I A.length L)).setCell ⟨b, 2, none⟩ (.slice J B.length M)).setCell ⟨a, 0, none⟩ (.int .i64 D)).setCell ⟨a, 1, none⟩ (.slice u s.length y)).setCell ⟨a, 2, none⟩ (.slice x t.length z))) := ⟨qb4_ HB.1 (IsS87.ge c.1) r.1 am.1 aF.1⟩
 (try clear j)
 (try clear O)
 (try clear P)
 (try clear F)
 (try clear G)
 (try clear d)
 (try clear E)
 (try clear T)
 (try clear c)
 (try clear HB)
 generalize ((((((al.setCell ⟨b, 0, none⟩ (.int .i64 Q)).setCell ⟨b, 1, none⟩ (.slice I A.length L)).setCell ⟨b, 2, none⟩ (.slice J B.length M)).setCell ⟨a, 0, none⟩ (.int .i64 D)).setCell ⟨a, 1, none⟩ (.slice u s.length y)).setCell ⟨a, 2, none⟩ (.slice x t.length z)) = b5 at n0_ n1_ n2_ n3_ n4_ n5_ n6_ n7_ n8_ n9_ ⊢
 have j := n0_
 have O := n1_
 have P := n2_
 have F := n3_
 have G := n4_
 have d := n5_
 have E := n6_
 have T := n7_
 have c := n8_
 have HB := n9_
 clear n0_ n1_ n2_ n3_ n4_ n5_ n6_ n7_ n8_ n9_
 have _ := Q_ (Kd.S_drew j.1)
 have _ := Q_ (Kd.R_drew O.1)
 have _ := Q_ (Kd.R_drew P.1)
 have _ := Q_ (Kd.R_drew F.1)
 have _ := Q_ (Kd.R_drew G.1)
 have _ := Q_ (blk_drew d.1)
 have _ := Q_ (blk_drew E.1)
 have _ := Q_ (blk_drew T.1)
 have _ := Q_ (IsS87.drew c.1)
 have _ := Q_ (below_drew1 HB.1)
 clear j O P F G d E T c HB
 rename_i j O P F G d E T c HB
 refine start_ (n := 4) (S := fun w' => w'.cell? ⟨a, 0, none⟩ = some (.int .i64 D) ∧ w'.cell? ⟨a, 1, none⟩ = some (.slice u s.length y) ∧ w'.cell? ⟨a, 2, none⟩ = some (.slice x t.length z)) (ds := []) (tf_ 0 4) (by kernel_rfl) rfl rfl (sb_ T.1) (fun hHeld => ?_)
 generalize b5.drew = a8 at j O P F G d E T c HB hHeld ⊢
 refine pure_ (i := 0) (N := some 19) (v := ?_) (a' := ?_) #[true, false, false, false] rfl rfl (by kernel_rfl) (fun _ _ _ h => h) (Or.inl ⟨by rfl, ?_⟩) ?_ ?_
 rotate_left
 ·intro w'
  go_simp
  (try (simp only [Instr.field]; simp only [underlying, hu34]; go_simp; simp only [asAgg]; go_simp))
  with_reducible rfl
 rotate_left
 ·simp only [Act.put, List.setIfInBounds_toArray, List.set_cons_zero, List.set_cons_succ, i64_w, i32_w]
  rfl
 refine pure_ (i := 2) (N := some 2) (v := ?_) (a' := ?_) #[true, false, true, false] rfl rfl (by kernel_rfl) (fun _ _ _ h => h) (Or.inl ⟨by rfl, ?_⟩) ?_ ?_
 rotate_left
 ·intro w'
  go_simp
  (try (simp only [Instr.field]; simp only [underlying, hu34]; go_simp; simp only [asAgg]; go_simp))
  with_reducible rfl
 rotate_left
 ·simp only [Act.put, List.setIfInBounds_toArray, List.set_cons_zero, List.set_cons_succ, i64_w, i32_w]
  rfl
 refine take_ (i := 1) (N := some 20) (v := ?_) (a' := ?_) #[true, true, true, false] rfl rfl (by kernel_rfl) (fun _ _ _ h => h) (Or.inl ⟨by rfl, ?_⟩) hHeld ?_ ?_
 rotate_left
 ·rintro w' ⟨s0, s1, s2⟩
  go_simp
  (try (simp only [Instr.field]; simp only [underlying, hu34]; go_simp; simp only [asAgg]; go_simp))
  with_reducible rfl
 rotate_left
 ·simp only [Act.put, List.setIfInBounds_toArray, List.set_cons_zero, List.set_cons_succ, i64_w, i32_w]
  rfl
 refine one_ (i := 3) (N := none) #[true, true, true, true] rfl rfl (by kernel_rfl) (by decide) (fun K hK => ?_)
 have b8 : a8.cell? ⟨m, 0, none⟩ = some (.int .i64 0) := (blk_cell d.1 0).trans rfl
 have bQ := blk_frozen d.1 0
 have bo := ac.1
 have bp := q.1
 have bi := W.1
 have bj := X.1
 have b9 : a8.cell? ⟨m, 1, none⟩ = some (.slice none 0 0) := (blk_cell d.1 1).trans rfl
 have bR := blk_frozen d.1 1
 have bq := ac.1
 have br := q.1
 have bk := W.1
 have bl := X.1
 have ca : a8.cell? ⟨m, 2, none⟩ = some (.slice none 0 0) := (blk_cell d.1 2).trans rfl
 have bS := blk_frozen d.1 2
 have bs := ac.1
 have bt := q.1
 have bm := W.1
 have bn := X.1
 refine skip_ (w1 := ?_) (by rfl) rfl ?_ ?_
 rotate_left
 ·go_simp
  rfl
 refine hK.out _ _ ⟨((cell_far (p := ⟨m, _, none⟩) q.1 _).trans (((cell_far (p := ⟨m, _, none⟩) q.1 _).trans (((cell_far (p := ⟨m, _, none⟩) q.1 _).trans (hHeld.1)))))), ((cell_far (p := ⟨m, _, none⟩) q.1 _).trans (((cell_far (p := ⟨m, _, none⟩) q.1 _).trans (((cell_far (p := ⟨m, _, none⟩) q.1 _).trans (hHeld.2.1)))))), ((cell_far (p := ⟨m, _, none⟩) q.1 _).trans (((cell_far (p := ⟨m, _, none⟩) q.1 _).trans (((cell_far (p := ⟨m, _, none⟩) q.1 _).trans (hHeld.2.2))))))⟩ (fun hHeld => ?_)
 clear hK K
 refine done_ (by kernel_rfl) ?_
 try go_wp2
 refine bodyPost_ret (results_tc rfl _ _ m 34 #[.int .i64 D, .slice u s.length y, .slice x t.length z] (0, 0) _ rfl (pp_ d.1) Try.underlying34 rfl (by kernel_rfl)) rfl ?_
 exact ⟨_, _, _, er_, by (with_reducible repeat (first | apply Kd.S_alloc | apply Kd.S_drewN | apply Kd.S_drew)); exact Kd.S_mono (Kd.S_far (p := ⟨m, 2, none⟩) (Kd.S_far (p := ⟨m, 1, none⟩) (Kd.S_far (p := ⟨m, 0, none⟩) (Kd.S_mono j.1 (fun k_ hk => (⟨hk, hk.2.2.2.2.1⟩ : _ ∧ k_ ≠ m))) (fun _ hk => hk.2) (.int .i64 D)) (fun _ hk => hk.2) (.slice u s.length y)) (fun _ hk => hk.2) (.slice x t.length z)) (fun _ hk => ⟨hk.1.2.2.1, hk.1.2.2.2.1⟩), pr_ (Kd.R_mono (rf3_ F.1 d.1) (fun _ hk => trivial)), pr_ (Kd.R_mono (rf3_ G.1 d.1) (fun _ hk => trivial)), qb4_ HB.1 (IsS87.ge c.1) r.1 am.1 aF.1⟩

/-! ### impl_ChainFollows: function 28 -/
def impl_ChainFollows.l0 : Nat → List (S34) → Int → Option (Bool)
 | 0, _, _ => none
 | k + 1, a, b => if b < (a.length : Int) then (if 0 ≤ b then (if 0 ≤ (wrap64 (b - 1)) then (if (wrap64 (b - 1)) < (a.length : Int) then ((impl_Follows.f k ((rd_T34 a b).f0) ((rd_T34 a b).f1) ((rd_T34 a b).f2) ((rd_T34 a (wrap64 (b - 1))).f0) ((rd_T34 a (wrap64 (b - 1))).f1) ((rd_T34 a (wrap64 (b - 1))).f2)).bind fun c => (if c = true then (impl_ChainFollows.l0 k a (wrap64 (b + 1))) else (some false))) else (none)) else (none)) else (none)) else (if (a.length : Int) > 0 then (if 0 < (a.length : Int) then ((impl_IsMachine.f k ((rd_T34 a 0).f0) ((rd_T34 a 0).f1) ((rd_T34 a 0).f2)).bind fun d => (some d)) else (none)) else (some false))
def impl_ChainFollows.f (k : Nat) (a : List (S34)) : Option (Bool) := impl_ChainFollows.l0 k a 1
theorem impl_ChainFollows.mono_l : ∀ k, (∀ a b, LeO (impl_ChainFollows.l0 k a b) (impl_ChainFollows.l0 (k + 1) a b))
 | 0 => fun _ _ r h => by simp [impl_ChainFollows.l0] at h
 | k + 1 => by
  have ih0 := impl_ChainFollows.mono_l k
  ·intro a b
   unfold impl_ChainFollows.l0
   exact mo3_ ih0 impl_Follows.mono impl_IsMachine.mono
theorem impl_ChainFollows.mono : ∀ a k, LeO (impl_ChainFollows.f k a) (impl_ChainFollows.f (k + 1) a) := by
 intro a k
 have ih0 := impl_ChainFollows.mono_l k
 unfold impl_ChainFollows.f
 exact mo3_ ih0 impl_Follows.mono impl_IsMachine.mono
def impl_ChainFollows.T4 : Bool × List (List Nat × List Nat) := (true, [([], []), ([], []), ([0, 1], [0, 1]), ([2], [2]), ([], []), ([], []), ([5], [5]), ([4, 6], [4, 6]), ([7], [7]), ([3, 8], [3, 8]), ([9], [9])])
def impl_ChainFollows.B4 : List Nat := [0, 0, 3, 7, 0, 0, 32, 112, 240, 511, 1023]
theorem impl_ChainFollows.tab4 : rtab .any (opsOf Try.f28 4) = impl_ChainFollows.T4 := by kernel_rfl
theorem impl_ChainFollows.bits4 : waitsOk impl_ChainFollows.T4.2 impl_ChainFollows.B4 = true := by kernel_rfl
theorem impl_ChainFollows.calls (k : Nat) (A0 : Option Addr) (c0 : Nat) (d : List (S34)) (r : Bool) (w : World) (hr0 : Kd.C k34 w A0 d.length d) (av : d.length ≤ c0) (h : impl_ChainFollows.f k d = some r) :
  Calls Try.prog 28 #[.slice A0 d.length c0] w fun e w' => e = .returned (.bool r) ∧ Below w.heap.size w w' := by
 have hu34 := Try.underlying34
 have ai := Q_ hr0
 have aN := Q_ av
 clear hr0 av
 have HB := Q_ (Below.refl w.heap.size w)
 have H : (impl_ChainFollows.l0 k d 1) = some r := h
 clear h
 have H' := Q_ H
 clear H
 go_enter Try.func28, Try.ntmps28
 go_wp2
 go_loopg [3] k (fun kq v3 w' => ∃ (a : Int), v3 = .int .i64 a ∧ Aside0 (impl_ChainFollows.l0 kq d a = some r) ∧ Aside0 (kq ≤ k) ∧ Aside0 (Below w.heap.size w w'))
 case atStart => exact ⟨(1), el_, H', ⟨Nat.le_refl _⟩, ⟨pb_ HB.1⟩⟩
 clear H'
 obtain ⟨a, rfl, HA, am, HB⟩ := hrel
 rcases gk with _ | k1
 ·exact absurd HA.1 (by simp [impl_ChainFollows.l0])
 have H := HA.1
 clear HA
 simp only [impl_ChainFollows.l0] at H
 by_cases c2 : a < (d.length : Int)
 rotate_left
 ·rw [if_neg c2] at H
  have an := decide_eq_false c2
  clear c2
  by_cases c3 : (d.length : Int) > 0
  rotate_left
  ·rw [if_neg c3] at H
   have ao := decide_eq_false c3
   have ap : decide (0 < d.length) = false := decide_eq_false (by omega)
   clear c3
   obtain rfl := Option.some.inj H
   go_wp2
   go_ret
   exact ⟨er_, pb_ HB.1⟩
  rw [if_pos c3] at H
  have ao := decide_eq_true c3
  have ap : decide (0 < d.length) = true := decide_eq_true (by omega)
  clear c3
  by_cases c4 : 0 < (d.length : Int)
  rotate_left
  ·rw [if_neg c4] at H
   exact nn_ H
  rw [if_pos c4] at H
  have aI := decide_eq_true c4
  have aJ : decide (0 < d.length) = true := decide_eq_true (by omega)
  clear c4
  obtain ⟨ah, A5, H⟩ := bs_ H
  replace H : (some ah) = some r := H
  obtain rfl := Option.some.inj H
  have ab : 0 ≤ (0 : Int) := (by omega)
  have ae : 0 < (d.length : Int) := dt_
  obtain ⟨aE, aw, az, ax, aA, au, g, i, j, V, X, W, Y⟩ := at_U34 ai.1 0 ab ae
  cases au
  have qi654 : (0 < d.length) = True := eq_true (by omega)
  (try rw [show ((0 : Int)).toNat = 0 from rfl] at g)
  (try rw [show 0 * 3 = 0 from rfl] at g)
  (try rw [Addr.add_zero'] at g)
  (try rw [show ((0 : Int)).toNat = 0 from rfl] at i)
  (try rw [show 0 * 3 = 0 from rfl] at i)
  (try rw [Addr.add_zero'] at i)
  (try rw [show ((0 : Int)).toNat = 0 from rfl] at j)
  (try rw [show 0 * 3 = 0 from rfl] at j)
  (try rw [Addr.add_zero'] at j)
  replace g := bt_ HB g
  replace i := bt_ HB i
  replace j := bt_ HB j
  replace ab := eq_true ab
  replace ae := eq_true ae
  go_wp2_with (first | (go_at_call 55; (with_reducible refine (impl_IsMachine.calls k1 ((rd_T34 d 0).f0) _ _ ((rd_T34 d 0).f1) _ _ ((rd_T34 d 0).f2) ah _ (cb_ X HB) V.1 (cb_ Y HB) W.1 A5.1).mono ?_); rintro e w6 ⟨rfl, hb⟩; have _ := Q_ (below_step (pb_ HB.1) hb); clear HB; rename_i HB; (try clear hb)))
  go_ret
  exact ⟨er_, pb_ HB.1⟩
 rw [if_pos c2] at H
 have an := decide_eq_true c2
 clear c2
 by_cases c7 : 0 ≤ a
 rotate_left
 ·rw [if_neg c7] at H
  exact nn_ H
 rw [if_pos c7] at H
 have aK := decide_eq_true c7
 clear c7
 obtain ⟨b, hji8⟩ : ∃ j_ : Int, (wrap64 (a - 1)) = j_ := ⟨_, rfl⟩
 replace H : (if 0 ≤ (b) then (if (b) < (d.length : Int) then ((impl_Follows.f k1 ((rd_T34 d a).f0) ((rd_T34 d a).f1) ((rd_T34 d a).f2) ((rd_T34 d (b)).f0) ((rd_T34 d (b)).f1) ((rd_T34 d (b)).f2)).bind fun P => (if P = true then (impl_ChainFollows.l0 k1 d (wrap64 (a + 1))) else (some false))) else (none)) else (none)) = some r := by first | (rw [hji8] at H; exact H) | (simp only [hji8] at H ⊢; exact H)
 have hji8w : (IntKind.i64.wrap (a - 1)) = b := (i64_w _).trans hji8
 by_cases c9 : 0 ≤ (b)
 rotate_left
 ·rw [if_neg c9] at H
  exact nn_ H
 rw [if_pos c9] at H
 have aL := decide_eq_true c9
 clear c9
 by_cases af : (b) < (d.length : Int)
 rotate_left
 ·rw [if_neg af] at H
  exact nn_ H
 rw [if_pos af] at H
 have aF := decide_eq_true af
 clear af
 obtain ⟨P, aD, H⟩ := bs_ H
 (try dsimp only at H)
 have HS_ := Q_ H
 clear H
 try go_wp2
 have _ := Q_ (below_drew1 HB.1)
 clear HB
 rename_i HB
 have Z : 0 ≤ (a : Int) := dt_
 have ac : a < (d.length : Int) := dt_
 obtain ⟨c, F, L, G, M, aq, l, m, o, Q, t, R, u⟩ := at_U34 ai.1 a Z ac
 have A := o
 have z := m
 have y := l
 cases aq
 replace l := bt_ HB l
 replace m := bt_ HB m
 replace o := bt_ HB o
 replace Z := eq_true Z
 replace ac := eq_true ac
 have aa : 0 ≤ ((b) : Int) := dt_
 have ad : (b) < (d.length : Int) := dt_
 obtain ⟨aj, I, N, J, O, ar, p, q, s, T, v, U, x⟩ := at_U34 ai.1 (b) aa ad
 have E := s
 have D := q
 have B := p
 obtain rfl : c = aj := (by injection ar)
 replace p := bt_ HB p
 replace q := bt_ HB q
 replace s := bt_ HB s
 replace aa := eq_true aa
 replace ad := eq_true ad
 refine start_ (n := 11) (S := fun w' => w'.cell? (c.add ((a).toNat * 3)) = some (.int .i64 ((rd_T34 d a).f0)) ∧ w'.cell? ⟨(c.add ((a).toNat * 3)).block, (c.add ((a).toNat * 3)).off + 1, none⟩ = some (.slice F ((rd_T34 d a).f1).length L) ∧ w'.cell? ⟨(c.add ((a).toNat * 3)).block, (c.add ((a).toNat * 3)).off + 2, none⟩ = some (.slice G ((rd_T34 d a).f2).length M) ∧ w'.cell? (c.add (((b)).toNat * 3)) = some (.int .i64 ((rd_T34 d (b)).f0)) ∧ w'.cell? ⟨(c.add (((b)).toNat * 3)).block, (c.add (((b)).toNat * 3)).off + 1, none⟩ = some (.slice I ((rd_T34 d (b)).f1).length N) ∧ w'.cell? ⟨(c.add (((b)).toNat * 3)).block, (c.add (((b)).toNat * 3)).off + 2, none⟩ = some (.slice J ((rd_T34 d (b)).f2).length O)) (ds := []) (tf_ 0 11) (by kernel_rfl) rfl rfl ⟨(bt_ HB y), (bt_ HB z), (bt_ HB A), (bt_ HB B), (bt_ HB D), (bt_ HB E)⟩ (fun hHeld => ?_); refine with_tabW impl_ChainFollows.tab4 impl_ChainFollows.bits4 (fun HT_ HW_ => ?_)
 generalize wr.drew = aP at HB t u v x l m o p q s hHeld ⊢
 refine pu1_ 0 10 11 1 ?_
 refine pu1_ 1 11 11 3 ?_
 refine pu1_ 2 12 11 7 ?_
 refine pu1_ 4 14 11 23 ?_
 refine pu1_ 5 15 11 55 ?_
 refine pu1_ 6 16 11 119 ?_
 refine pu1_ 7 17 11 247 ?_
 refine ta1_ 3 13 11 255 hHeld ?_
 refine ta1_ 8 18 11 511 hHeld ?_
 refine on_ 9 (some 19) (tf_ 10 11) HT_ (fun K hK => ?_)
 refine goes_ Try.func48 (by kernel_rfl) rfl #[.agg #[.int .i64 ((rd_T34 d a).f0), .slice F ((rd_T34 d a).f1).length L, .slice G ((rd_T34 d a).f2).length M], .agg #[.int .i64 ((rd_T34 d (b)).f0), .slice I ((rd_T34 d (b)).f1).length N, .slice J ((rd_T34 d (b)).f2).length O]] (by rfl) rfl rfl (by (try simp only [List.map_toArray, List.map_cons, List.map_nil]); first | done | (simp only [hji8]; rfl) | rfl | (simp only [List.length_drop, List.length_take]; rfl)) ?_
 with_reducible refine (impl_Follows.calls k1 ((rd_T34 d a).f0) _ _ ((rd_T34 d a).f1) _ _ ((rd_T34 d a).f2) ((rd_T34 d (b)).f0) _ _ ((rd_T34 d (b)).f1) _ _ ((rd_T34 d (b)).f2) P _ (cb_ t HB) Q.1 (cb_ u HB) R.1 (cb_ v HB) T.1 (cb_ x HB) U.1 aD.1).mono ?_
 rintro e aQ ⟨rfl, hb⟩
 refine ⟨_, rfl, ?_⟩
 have _ := Q_ (below_step (pb_ HB.1) hb)
 clear HB
 rename_i HB
 (try clear hb)
 refine hK.out _ _ ⟨(bt_ HB y), (bt_ HB z), (bt_ HB A), (bt_ HB B), (bt_ HB D), (bt_ HB E)⟩ (fun hHeld => ?_)
 clear hK K
 refine no_ (some 19) ?_
 refine pu1_ 10 20 11 2047 ?_
 refine done_ (done_of HT_.1 (by kernel_rfl)) ?_
 go_upto_if 20 with (fail)
 have H := HS_.1
 clear HS_
 by_cases ag : P = true
 rotate_left
 ·replace ag := bf_ ag
  subst ag
  rw [if_neg ff_] at H
  obtain rfl := Option.some.inj H
  go_wp2
  go_ret
  exact ⟨by first | rfl | (simp [errW_none, errW_some] <;> rfl) | (simp only [← hji8]; first | rfl | (simp [errW_none, errW_some] <;> rfl)) | (simp [*, errW_none, errW_some] <;> rfl), pb_ HB.1⟩
 subst ag
 rw [if_pos rfl] at H
 have H' := Q_ H
 clear H
 go_wp2
 go_roundg k1
 case measure => have := am.1; omega
 case rel => exact ⟨(wrap64 (a + 1)), el_, H', ⟨by have := am.1; omega⟩, ⟨pb_ HB.1⟩⟩

/-! ### impl_BreaksAt: function 29 -/
def impl_BreaksAt.l0 : Nat → List (S34) → Int → Option (Int)
 | 0, _, _ => none
 | k + 1, b, a => if a < (b.length : Int) then (if 0 ≤ a then (if 0 ≤ (wrap64 (a - 1)) then (if (wrap64 (a - 1)) < (b.length : Int) then ((impl_Follows.f k ((rd_T34 b a).f0) ((rd_T34 b a).f1) ((rd_T34 b a).f2) ((rd_T34 b (wrap64 (a - 1))).f0) ((rd_T34 b (wrap64 (a - 1))).f1) ((rd_T34 b (wrap64 (a - 1))).f2)).bind fun c => (if c = true then (impl_BreaksAt.l0 k b (wrap64 (a + 1))) else (some a))) else (none)) else (none)) else (none)) else (some (-1))
def impl_BreaksAt.f (k : Nat) (a : List (S34)) : Option (Int) := impl_BreaksAt.l0 k a 1
theorem impl_BreaksAt.mono_l : ∀ k, (∀ a b, LeO (impl_BreaksAt.l0 k a b) (impl_BreaksAt.l0 (k + 1) a b))
 | 0 => fun _ _ r h => by simp [impl_BreaksAt.l0] at h
 | k + 1 => by
  have ih0 := impl_BreaksAt.mono_l k
  ·intro a b
   unfold impl_BreaksAt.l0
   exact mo2_ ih0 impl_Follows.mono
theorem impl_BreaksAt.mono : ∀ a k, LeO (impl_BreaksAt.f k a) (impl_BreaksAt.f (k + 1) a) := by
 intro a k
 have ih0 := impl_BreaksAt.mono_l k
 unfold impl_BreaksAt.f
 exact mo2_ ih0 impl_Follows.mono
def impl_BreaksAt.T4 : Bool × List (List Nat × List Nat) := (true, [([], []), ([], []), ([0, 1], [0, 1]), ([2], [2]), ([], []), ([], []), ([5], [5]), ([4, 6], [4, 6]), ([7], [7]), ([3, 8], [3, 8]), ([9], [9])])
def impl_BreaksAt.B4 : List Nat := [0, 0, 3, 7, 0, 0, 32, 112, 240, 511, 1023]
theorem impl_BreaksAt.tab4 : rtab .any (opsOf Try.f29 4) = impl_BreaksAt.T4 := by kernel_rfl
theorem impl_BreaksAt.bits4 : waitsOk impl_BreaksAt.T4.2 impl_BreaksAt.B4 = true := by kernel_rfl
theorem impl_BreaksAt.calls (k : Nat) (A0 : Option Addr) (c0 : Nat) (d : List (S34)) (r : Int) (w : World) (hr0 : Kd.C k34 w A0 d.length d) (ae : d.length ≤ c0) (h : impl_BreaksAt.f k d = some r) :
  Calls Try.prog 29 #[.slice A0 d.length c0] w fun e w' => e = .returned (.int .i64 r) ∧ Below w.heap.size w w' := by
 have hu34 := Try.underlying34
 have aa := Q_ hr0
 have ao := Q_ ae
 clear hr0 ae
 have HB := Q_ (Below.refl w.heap.size w)
 have H : (impl_BreaksAt.l0 k d 1) = some r := h
 clear h
 have H' := Q_ H
 clear H
 go_enter Try.func29, Try.ntmps29
 go_wp2
 go_loopg [3] k (fun kq v3 w' => ∃ (a : Int), v3 = .int .i64 a ∧ Aside0 (impl_BreaksAt.l0 kq d a = some r) ∧ Aside0 (kq ≤ k) ∧ Aside0 (Below w.heap.size w w'))
 case atStart => exact ⟨(1), el_, H', ⟨Nat.le_refl _⟩, ⟨pb_ HB.1⟩⟩
 clear H'
 obtain ⟨a, rfl, HA, Z, HB⟩ := hrel
 rcases gk with _ | k1
 ·exact absurd HA.1 (by simp [impl_BreaksAt.l0])
 have H := HA.1
 clear HA
 simp only [impl_BreaksAt.l0] at H
 by_cases Y : a < (d.length : Int)
 rotate_left
 ·rw [if_neg Y] at H
  have ab := decide_eq_false Y
  clear Y
  obtain rfl := Option.some.inj H
  go_wp2
  go_ret
  exact ⟨er_, pb_ HB.1⟩
 rw [if_pos Y] at H
 have ab := decide_eq_true Y
 clear Y
 by_cases c3 : 0 ≤ a
 rotate_left
 ·rw [if_neg c3] at H
  exact nn_ H
 rw [if_pos c3] at H
 have ak := decide_eq_true c3
 clear c3
 obtain ⟨b, hji4⟩ : ∃ j_ : Int, (wrap64 (a - 1)) = j_ := ⟨_, rfl⟩
 replace H : (if 0 ≤ (b) then (if (b) < (d.length : Int) then ((impl_Follows.f k1 ((rd_T34 d a).f0) ((rd_T34 d a).f1) ((rd_T34 d a).f2) ((rd_T34 d (b)).f0) ((rd_T34 d (b)).f1) ((rd_T34 d (b)).f2)).bind fun M => (if M = true then (impl_BreaksAt.l0 k1 d (wrap64 (a + 1))) else (some a))) else (none)) else (none)) = some r := by first | (rw [hji4] at H; exact H) | (simp only [hji4] at H ⊢; exact H)
 have hji4w : (IntKind.i64.wrap (a - 1)) = b := (i64_w _).trans hji4
 by_cases c5 : 0 ≤ (b)
 rotate_left
 ·rw [if_neg c5] at H
  exact nn_ H
 rw [if_pos c5] at H
 have al := decide_eq_true c5
 clear c5
 by_cases c6 : (b) < (d.length : Int)
 rotate_left
 ·rw [if_neg c6] at H
  exact nn_ H
 rw [if_pos c6] at H
 have am := decide_eq_true c6
 clear c6
 obtain ⟨M, A7, H⟩ := bs_ H
 (try dsimp only at H)
 have HS_ := Q_ H
 clear H
 try go_wp2
 have _ := Q_ (below_drew1 HB.1)
 clear HB
 rename_i HB
 have R : 0 ≤ (a : Int) := dt_
 have U : a < (d.length : Int) := dt_
 obtain ⟨c, B, G, D, I, ac, g, i, j, N, p, O, q⟩ := at_U34 aa.1 a R U
 have x := j
 have v := i
 have u := g
 cases ac
 replace g := bt_ HB g
 replace i := bt_ HB i
 replace j := bt_ HB j
 replace R := eq_true R
 replace U := eq_true U
 have T : 0 ≤ ((b) : Int) := dt_
 have V : (b) < (d.length : Int) := dt_
 obtain ⟨X, E, J, F, L, ad, l, m, o, P, s, Q, t⟩ := at_U34 aa.1 (b) T V
 have A := o
 have z := m
 have y := l
 obtain rfl : c = X := (by injection ad)
 replace l := bt_ HB l
 replace m := bt_ HB m
 replace o := bt_ HB o
 replace T := eq_true T
 replace V := eq_true V
 refine start_ (n := 11) (S := fun w' => w'.cell? (c.add ((a).toNat * 3)) = some (.int .i64 ((rd_T34 d a).f0)) ∧ w'.cell? ⟨(c.add ((a).toNat * 3)).block, (c.add ((a).toNat * 3)).off + 1, none⟩ = some (.slice B ((rd_T34 d a).f1).length G) ∧ w'.cell? ⟨(c.add ((a).toNat * 3)).block, (c.add ((a).toNat * 3)).off + 2, none⟩ = some (.slice D ((rd_T34 d a).f2).length I) ∧ w'.cell? (c.add (((b)).toNat * 3)) = some (.int .i64 ((rd_T34 d (b)).f0)) ∧ w'.cell? ⟨(c.add (((b)).toNat * 3)).block, (c.add (((b)).toNat * 3)).off + 1, none⟩ = some (.slice E ((rd_T34 d (b)).f1).length J) ∧ w'.cell? ⟨(c.add (((b)).toNat * 3)).block, (c.add (((b)).toNat * 3)).off + 2, none⟩ = some (.slice F ((rd_T34 d (b)).f2).length L)) (ds := []) (tf_ 0 11) (by kernel_rfl) rfl rfl ⟨(bt_ HB u), (bt_ HB v), (bt_ HB x), (bt_ HB y), (bt_ HB z), (bt_ HB A)⟩ (fun hHeld => ?_); refine with_tabW impl_BreaksAt.tab4 impl_BreaksAt.bits4 (fun HT_ HW_ => ?_)
 generalize wr.drew = w8 at HB p q s t g i j l m o hHeld ⊢
 refine pu1_ 0 10 11 1 ?_
 refine pu1_ 1 11 11 3 ?_
 refine pu1_ 2 12 11 7 ?_
 refine pu1_ 4 14 11 23 ?_
 refine pu1_ 5 15 11 55 ?_
 refine pu1_ 6 16 11 119 ?_
 refine pu1_ 7 17 11 247 ?_
 refine ta1_ 3 13 11 255 hHeld ?_
 refine ta1_ 8 18 11 511 hHeld ?_
 refine on_ 9 (some 19) (tf_ 10 11) HT_ (fun K hK => ?_)
 refine goes_ Try.func48 (by kernel_rfl) rfl #[.agg #[.int .i64 ((rd_T34 d a).f0), .slice B ((rd_T34 d a).f1).length G, .slice D ((rd_T34 d a).f2).length I], .agg #[.int .i64 ((rd_T34 d (b)).f0), .slice E ((rd_T34 d (b)).f1).length J, .slice F ((rd_T34 d (b)).f2).length L]] (by rfl) rfl rfl (by (try simp only [List.map_toArray, List.map_cons, List.map_nil]); first | done | (simp only [hji4]; rfl) | rfl | (simp only [List.length_drop, List.length_take]; rfl)) ?_
 with_reducible refine (impl_Follows.calls k1 ((rd_T34 d a).f0) _ _ ((rd_T34 d a).f1) _ _ ((rd_T34 d a).f2) ((rd_T34 d (b)).f0) _ _ ((rd_T34 d (b)).f1) _ _ ((rd_T34 d (b)).f2) M _ (cb_ p HB) N.1 (cb_ q HB) O.1 (cb_ s HB) P.1 (cb_ t HB) Q.1 A7.1).mono ?_
 rintro e w9 ⟨rfl, hb⟩
 refine ⟨_, rfl, ?_⟩
 have _ := Q_ (below_step (pb_ HB.1) hb)
 clear HB
 rename_i HB
 (try clear hb)
 refine hK.out _ _ ⟨(bt_ HB u), (bt_ HB v), (bt_ HB x), (bt_ HB y), (bt_ HB z), (bt_ HB A)⟩ (fun hHeld => ?_)
 clear hK K
 refine no_ (some 19) ?_
 refine pu1_ 10 20 11 2047 ?_
 refine done_ (done_of HT_.1 (by kernel_rfl)) ?_
 go_upto_if 20 with (fail)
 have H := HS_.1
 clear HS_
 by_cases W : M = true
 rotate_left
 ·replace W := bf_ W
  subst W
  rw [if_neg ff_] at H
  obtain rfl := Option.some.inj H
  go_wp2
  go_ret
  exact ⟨by first | rfl | (simp [errW_none, errW_some] <;> rfl) | (simp only [← hji4]; first | rfl | (simp [errW_none, errW_some] <;> rfl)) | (simp [*, errW_none, errW_some] <;> rfl), pb_ HB.1⟩
 subst W
 rw [if_pos rfl] at H
 have H' := Q_ H
 clear H
 go_wp2
 go_roundg k1
 case measure => have := Z.1; omega
 case rel => exact ⟨(wrap64 (a + 1)), el_, H', ⟨by have := Z.1; omega⟩, ⟨pb_ HB.1⟩⟩

/-! ### spec_DrawFarFollows: function 30 -/
def spec_DrawFarFollows.f (k : Nat) (e : List Int) : Option ((List (S34)) × Int × Int) := (spec_l1New.f k e).bind fun a => ((spec_l30Line.f k a.1 a.2.1 a.2.2).bind fun c => ((spec_l1Below.f a.1 c.2.1 c.2.2 3).bind fun b => ((spec_l1Below.f a.1 b.2.1 b.2.2 4).bind fun d => (some (c.1, b.1, wrap64 ((wrap64 (b.1 + d.1)) - 1))))))
theorem spec_DrawFarFollows.mono : ∀ a k, LeO (spec_DrawFarFollows.f k a) (spec_DrawFarFollows.f (k + 1) a) := by
 intro a k
 unfold spec_DrawFarFollows.f
 exact mo2_ spec_l1New.mono spec_l30Line.mono
theorem spec_DrawFarFollows.calls (k : Nat) (A : Option Addr) (E : Nat) (o : List Int) (F : List (S34)) (G : Int) (I : Int) (w : World) (hr0 : Kd.C (Kd.int .u8) w A o.length o) (s : o.length ≤ E) (h : spec_DrawFarFollows.f k o = some (F, G, I)) :
  Calls Try.prog 30 #[.slice A o.length E] w fun e w' => ∃ v0_ : Value, e = .returned (.tuple #[v0_, .int .i64 G, .int .i64 I]) ∧ Kd.S k34 34 w' w.heap.size (fun _ => True) v0_ F ∧ Below w.heap.size w w' := by
 have D := Q_ hr0
 have B := Q_ s
 clear hr0 s
 have HB := Q_ (Below.refl w.heap.size w)
 have H : ((spec_l1New.f k o).bind fun c => ((spec_l30Line.f k c.1 c.2.1 c.2.2).bind fun i => ((spec_l1Below.f c.1 i.2.1 i.2.2 3).bind fun g => ((spec_l1Below.f c.1 g.2.1 g.2.2 4).bind fun r => (some (i.1, g.1, wrap64 ((wrap64 (g.1 + r.1)) - 1))))))) = some (F, G, I) := h
 clear h
 obtain ⟨⟨d, p, q⟩, K, H⟩ := bs_ H
 (try dsimp only at H)
 obtain ⟨⟨u, j, l⟩, L, H⟩ := bs_ H
 (try dsimp only at H)
 obtain ⟨⟨v, m, n⟩, M, H⟩ := bs_ H
 (try dsimp only at H)
 obtain ⟨⟨x, y, z⟩, N, H⟩ := bs_ H
 (try dsimp only at H)
 simp only [Option.some.injEq, Prod.mk.injEq] at H
 obtain ⟨rfl, rfl, rfl⟩ := H
 go_enter Try.func30, Try.ntmps30
 go_wp2_with (first | ((with_reducible refine gate_callee (f := 49) rfl ?_); refine gl_ (some 9) Try.func49 #[.slice A o.length E] ?_; (with_reducible refine (spec_l1New.calls k _ _ o d p q w _ ?side1 D.1 B.1 K.1).mono ?_); (case side1 => exact qb0_ HB.1); rintro e O ⟨g662, rfl, hi, hb, hb2⟩; refine ⟨_, rfl, ?_⟩; have _ := Q_ (hb); have _ := Q_ (hi); clear HB; rename_i HB a; (try clear hb hb2 hi)) | ((with_reducible refine gate_callee (f := 50) rfl ?_); refine gl_ (some 11) Try.func50 #[.pointer (some ⟨g662, 0, none⟩)] ?_; (with_reducible refine (spec_l30Line.calls k g662 d p q u j l w _ ?side1 ?side2 L.1).mono ?_); (case side1 => exact qs87_0_ a.1); (case side2 => exact qb1_ HB.1 (IsS87.ge a.1)); rintro e P ⟨J, rfl, t, hi, hb, hk⟩; refine ⟨_, rfl, ?_⟩; have _ := Q_ (Kd.S_lower t (below_size (qb1_ HB.1 (IsS87.ge a.1)))); have _ := Q_ (hb); have _ := Q_ (hi); clear HB a; rename_i b HB a; (try clear hb hk hi t)) | ((with_reducible refine gate_callee (f := 54) rfl ?_); refine gl_ (some 13) Try.func54 #[.pointer (some ⟨g662, 0, none⟩), .int .i64 3] ?_; (with_reducible refine (spec_l1Below.calls g662 d j l 3 v m n w _ ?side1 ?side2 M.1).mono ?_); (case side1 => exact qs87_0_ a.1); (case side2 => exact qb1_ HB.1 (IsS87.ge a.1)); rintro e Q ⟨rfl, hi, hb, hk⟩; refine ⟨_, rfl, ?_⟩; have _ := Q_ (Kd.S_mono (Kd.S_keep (IsS87.apartS (show IsS87 w _ g662 d j l from qs87_0_ a.1) (ps_ b.1) (by decide)) hk (fun _ h => h.2)) (fun _ h => h.1)); have _ := Q_ (hb); have _ := Q_ (hi); clear b HB a; rename_i b HB a; (try clear hb hk hi)) | ((with_reducible refine gate_callee (f := 54) rfl ?_); refine gl_ (some 18) Try.func54 #[.pointer (some ⟨g662, 0, none⟩), .int .i64 4] ?_; (with_reducible refine (spec_l1Below.calls g662 d m n 4 x y z w _ ?side1 ?side2 N.1).mono ?_); (case side1 => exact qs87_0_ a.1); (case side2 => exact qb1_ HB.1 (IsS87.ge a.1)); rintro e R ⟨rfl, hi, hb, hk⟩; refine ⟨_, rfl, ?_⟩; have _ := Q_ (Kd.S_mono (Kd.S_keep (IsS87.apartS (show IsS87 w _ g662 d m n from qs87_0_ a.1) (ps_ b.1) (by decide)) hk (fun _ h => h.2)) (fun _ h => h.1)); have _ := Q_ (hb); have _ := Q_ (hi); clear b HB a; rename_i b HB a; (try clear hb hk hi)))
 go_ret3
 exact ⟨_, er_, ps_ b.1, qb1_ HB.1 (IsS87.ge a.1)⟩

end Go.Proofs.Ytldcchjbaglppaa.Print
