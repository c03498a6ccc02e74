-- Written by a program of this session (printx.py) out of the translation; Lean checks it.
import Derived.Test.YtldcchjbaglppaaPrint0
import Derived.Test.YtldcchjbaglppaaPrint10
import Derived.Test.YtldcchjbaglppaaPrint11
import Derived.Test.YtldcchjbaglppaaPrint14
namespace Go.Proofs.Ytldcchjbaglppaa.Print
open Go.RowKit Go.Proofs.YtldcchjbaglppaaW.PrintWords Go.Proofs.YtldcchjbaglppaaW.PrintLast Go.Proofs.YtldcchjbaglppaaW.PrintMore Go.Proofs.Ytldcchjbaglppaa.Short
attribute [local go_sem] max2_int min2_int max_two min_two max_three min_three max_four min_four   -- for this text's walks alone
set_option linter.unusedVariables false
set_option maxHeartbeats 8000000
set_option maxRecDepth 100000
set_option linter.unusedSimpArgs false

/-! ### spec_l30Line: function 50 -/
def spec_l30Line.l0 : Nat → List (S34) → Int → List Int → Int → Int → Option ((List (S34)) × Int × Int)
 | 0, _, _, _, _, _ => none
 | k + 1, e, i, d, g, h => if i > 0 then (if 0 ≤ (wrap64 ((e.length : Int) - 1)) then (if (wrap64 ((e.length : Int) - 1)) < (e.length : Int) then ((spec_l15Next.f k d g h ((rd_T34 e (wrap64 ((e.length : Int) - 1))).f0) ((rd_T34 e (wrap64 ((e.length : Int) - 1))).f1) ((rd_T34 e (wrap64 ((e.length : Int) - 1))).f2)).bind fun a => ((spec_l1Once.f d a.2.2.2.1 a.2.2.2.2 8).bind fun b => (if b.1 = true then ((spec_l13Draw.f k d b.2.1 b.2.2).bind fun c => (if e.length < 2513169434916 then (spec_l30Line.l0 k (e ++ [(⟨c.1, c.2.1, c.2.2.1⟩ : S34)]) (wrap64 (i - 1)) d c.2.2.2.1 c.2.2.2.2) else (none))) else (if e.length < 2513169434916 then (spec_l30Line.l0 k (e ++ [(⟨a.1, a.2.1, a.2.2.1⟩ : S34)]) (wrap64 (i - 1)) d b.2.1 b.2.2) else (none))))) else (none)) else (none)) else (some (e, g, h))
def spec_l30Line.f (k : Nat) (c : List Int) (d : Int) (e : Int) : Option ((List (S34)) × Int × Int) := (spec_l13Draw.f k c d e).bind fun a => ((spec_l1Below.f c a.2.2.2.1 a.2.2.2.2 3).bind fun b => (spec_l30Line.l0 k (([(⟨a.1, a.2.1, a.2.2.1⟩ : S34)] : List (S34))) (wrap64 (1 + b.1)) c b.2.1 b.2.2))
theorem spec_l30Line.mono_l : ∀ k, (∀ a b c d e, LeO (spec_l30Line.l0 k a b c d e) (spec_l30Line.l0 (k + 1) a b c d e))
 | 0 => fun _ _ _ _ _ r h => by simp [spec_l30Line.l0] at h
 | k + 1 => by
  have ih0 := spec_l30Line.mono_l k
  ·intro a b c d e
   unfold spec_l30Line.l0
   exact mo3_ ih0 spec_l13Draw.mono spec_l15Next.mono
theorem spec_l30Line.mono : ∀ a b c k, LeO (spec_l30Line.f k a b c) (spec_l30Line.f (k + 1) a b c) := by
 intro a b c k
 have ih0 := spec_l30Line.mono_l k
 unfold spec_l30Line.f
 exact mo3_ ih0 spec_l13Draw.mono spec_l15Next.mono
theorem spec_l30Line.calls (k : Nat) (g : Nat) (m : List Int) (az : Int) (aA : Int) (r1 : List (S34)) (r2 : Int) (r3 : Int) (w0 w : World) (hI : IsS87 w0 w g m az aA) (hB : Below w0.heap.size w0 w) (h : spec_l30Line.f k m az aA = some (r1, r2, r3)) :
  Calls Try.prog 50 #[.pointer (some ⟨g, 0, none⟩)] w fun e w' => ∃ v0_ : Value, e = .returned (v0_) ∧ Kd.S k34 34 w' w.heap.size (fun _ => True) v0_ r1 ∧ IsS87 w0 w' g m r2 r3 ∧ Below w0.heap.size w0 w' ∧ KeepBut w w' g none := by
 have hu34 := Try.underlying34
 have i := Q_ hI
 have HK := Q_ (KeepBut.refl w g none)
 have HL := Q_ hB.size
 clear hI
 have HW0 := Q_ hB.size
 have HB := Q_ hB
 clear hB
 have H : ((spec_l13Draw.f k m az aA).bind fun ai => ((spec_l1Below.f m ai.2.2.2.1 ai.2.2.2.2 3).bind fun X => (spec_l30Line.l0 k (([(⟨ai.1, ai.2.1, ai.2.2.1⟩ : S34)] : List (S34))) (wrap64 (1 + X.1)) m X.2.1 X.2.2))) = some (r1, r2, r3) := h
 clear h
 obtain ⟨⟨aw, an, ao, aB, aC⟩, A2, H⟩ := bs_ H
 (try dsimp only at H)
 obtain ⟨a1, hy515⟩ : ∃ y_ : List (S34), y_ = (([(⟨aw, an, ao⟩ : S34)] : List (S34))) := ⟨_, rfl⟩
 replace H : ((spec_l1Below.f m aB aC 3).bind fun X => (spec_l30Line.l0 k a1 (wrap64 (1 + X.1)) m X.2.1 X.2.2)) = some (r1, r2, r3) := hb_ hy515 H
 have a8 := Q_ hy515
 clear hy515
 obtain ⟨⟨aX, aY, aZ⟩, A3, H⟩ := bs_ H
 (try dsimp only at H)
 have H' := Q_ H
 clear H
 go_enter Try.func50, Try.ntmps50
 go_wp2_with (first | ((with_reducible refine gate_callee (f := 66) rfl ?_); refine gl_ (some 7) Try.func66 #[.pointer (some ⟨g, 0, none⟩)] ?_; (with_reducible refine (spec_l13Draw.calls k g m az aA aw an ao aB aC w0 _ ?side1 ?side2 A2.1).mono ?_); (case side1 => exact qs87_0_ i.1); (case side2 => exact qb1_ HB.1 (IsS87.ge i.1)); rintro e w4 ⟨bJ, bK, rfl, aa, ab, hi, hb, hk⟩; refine ⟨_, rfl, ?_⟩; have _ := Q_ (Kd.R_lower aa (keep_size (w := w) (g := g) (row := none) (qk0_ HK.1))); have _ := Q_ (Kd.R_lower ab (keep_size (w := w) (g := g) (row := none) (qk0_ HK.1))); have _ := Q_ (KeepBut.trans (qk0_ HK.1) hk (.inl rfl)); have _ := Q_ (hb); have _ := Q_ (hi); clear HK HB i; rename_i ap aq HK HB i; (try clear hb hk hi aa ab); obtain ⟨bc, bg, bu⟩ := Kd.R_slice ap.1; subst bu; obtain ⟨bd, bh, bv⟩ := Kd.R_slice aq.1; subst bv) | ((with_reducible refine gate_dst (N := 8) rfl ?_); refine lit1_ k34 w.heap.size 34 8 rfl rfl (⟨aw, an, ao⟩ : S34) [.int .i64 aw, .slice bc an.length bg, .slice bd ao.length bh] (fun _ => True) (fun k_ => some k_ = (.slice bc an.length bg : Value).ownBlock ∨ some k_ = (.slice bd ao.length bh : Value).ownBlock) ?hr ?aP (fun k_ hk_ => hk_.elim (fun h_ => ((Kd.R_mono (ok' := fun k_ => ((fun _ => True)) k_ ∧ some k_ ≠ (.slice none 0 0 : Value).ownBlock) (ap.1) (fun k_ hk => ⟨trivial, (by simp [Value.ownBlock])⟩))).1 k_ h_.symm) (fun h_ => ((Kd.R_mono (ok' := fun k_ => ((fun _ => True)) k_ ∧ some k_ ≠ (.slice none 0 0 : Value).ownBlock) (aq.1) (fun k_ hk => ⟨trivial, (by simp [Value.ownBlock])⟩))).1 k_ h_.symm)) ?aF (Below.refl _ _) ?aS ?_; (case hr => first | (go_simp; done) | (go_simp; rfl)); (case aP => exact k34_mkM _ _ _ (⟨aw, an, ao⟩ : S34) (Kd.R_mono (Kd.R_tight rfl (Kd.R_mono (ok' := fun k_ => ((fun _ => True)) k_ ∧ some k_ ≠ (.slice none 0 0 : Value).ownBlock) (ap.1) (fun k_ hk => ⟨trivial, (by simp [Value.ownBlock])⟩))) (fun _ h_ => Or.inl h_)) (Kd.R_mono (Kd.R_tight rfl (Kd.R_mono (ok' := fun k_ => ((fun _ => True)) k_ ∧ some k_ ≠ (.slice none 0 0 : Value).ownBlock) (aq.1) (fun k_ hk => ⟨trivial, (by simp [Value.ownBlock])⟩))) (fun _ h_ => Or.inr (h_)))); (case aF => exact (fun _ _ => trivial)); (case aS => exact (keep_size (w := w) (g := g) (row := none) (qk0_ HK.1))); intro bL w5 ho hb hg hat; rw [← a8.1] at ho; have _ := Q_ (IsS87.grown (qs87_0_ i.1) hg (by simp [Value.ownBlock])); have _ := Q_ (below_weaken (qb1_ HB.1 (IsS87.ge i.1)) HL.1 hb); have _ := Q_ (KeepBut.trans (qk0_ HK.1) (KeepBut.of_grown hg g) (.inl (by simp [Value.ownBlock]))); have _ := Q_ (ho); clear i HB HK ap aq; rename_i i HB HK ar; clear ho hb hg hat) | ((with_reducible refine gate_callee (f := 54) rfl ?_); refine gl_ (some 10) Try.func54 #[.pointer (some ⟨g, 0, none⟩), .int .i64 3] ?_; (with_reducible refine (spec_l1Below.calls g m aB aC 3 aX aY aZ w0 _ ?side1 ?side2 A3.1).mono ?_); (case side1 => exact qs87_0_ i.1); (case side2 => exact qb1_ HB.1 (IsS87.ge i.1)); rintro e w8 ⟨rfl, hi, hb, hk⟩; refine ⟨_, rfl, ?_⟩; have _ := Q_ (Kd.S_mono (Kd.S_keep (IsS87.apartS (show IsS87 w0 _ g m aB aC from qs87_0_ i.1) (ps_ ar.1) (by decide)) hk (fun _ h => h.2)) (fun _ h => h.1)); have _ := Q_ (KeepBut.trans (qk0_ HK.1) hk (.inl rfl)); have _ := Q_ (hb); have _ := Q_ (hi); clear ar HK HB i; rename_i ar HK HB i; (try clear hb hk hi)))
 (try simp only [Act.put, s1_, s2_, s3_])
 go_loopg [3, 4] k (fun kq v3 v4 w' => ∃ (d : List (S34)) (T : Int) (z : Int) (A : Int), v4 = .int .i64 T ∧ Aside0 (spec_l30Line.l0 kq d T m z A = some (r1, r2, r3)) ∧ Aside0 (kq ≤ k) ∧ Aside0 (Kd.S k34 34 w' w.heap.size (fun _ => True) v3 d) ∧ Aside0 (IsS87 w0 w' g m z A) ∧ Aside0 (KeepBut w w' g none) ∧ Aside0 (Below w0.heap.size w0 w'))
 case atStart => exact ⟨(a1), (wrap64 (1 + aX)), (aY), (aZ), el_, H', ⟨Nat.le_refl _⟩, ⟨ps_ ar.1⟩, ⟨qs87_0_ i.1⟩, ⟨qk0_ HK.1⟩, ⟨qb1_ HB.1 (IsS87.ge i.1)⟩⟩
 clear H'
 obtain ⟨d, T, z, A, rfl, HA, aK, l, i, HK, HB⟩ := hrel
 rcases gk with _ | k1
 ·exact absurd HA.1 (by simp [spec_l30Line.l0])
 have H := HA.1
 clear HA
 simp only [spec_l30Line.l0] at H
 by_cases c9 : T > 0
 rotate_left
 ·rw [if_neg c9] at H
  have bf := decide_eq_false c9
  clear c9
  simp only [Option.some.injEq, Prod.mk.injEq] at H
  obtain ⟨rfl, rfl, rfl⟩ := H
  go_wp2
  go_ret
  exact ⟨_, er_, ps_ l.1, qs87_0_ i.1, qb1_ HB.1 (IsS87.ge i.1), qk0_ HK.1⟩
 rw [if_pos c9] at H
 have bf := decide_eq_true c9
 clear c9
 obtain ⟨r, hji10⟩ : ∃ j_ : Int, (wrap64 ((d.length : Int) - 1)) = j_ := ⟨_, rfl⟩
 replace H : (if 0 ≤ (r) then (if (r) < (d.length : Int) then ((spec_l15Next.f k1 m z A ((rd_T34 d (r)).f0) ((rd_T34 d (r)).f1) ((rd_T34 d (r)).f2)).bind fun aj => ((spec_l1Once.f m aj.2.2.2.1 aj.2.2.2.2 8).bind fun ak => (if ak.1 = true then ((spec_l13Draw.f k1 m ak.2.1 ak.2.2).bind fun al => (if d.length < 2513169434916 then (spec_l30Line.l0 k1 (d ++ [(⟨al.1, al.2.1, al.2.2.1⟩ : S34)]) (wrap64 (T - 1)) m al.2.2.2.1 al.2.2.2.2) else (none))) else (if d.length < 2513169434916 then (spec_l30Line.l0 k1 (d ++ [(⟨aj.1, aj.2.1, aj.2.2.1⟩ : S34)]) (wrap64 (T - 1)) m ak.2.1 ak.2.2) else (none))))) else (none)) else (none)) = some (r1, r2, r3) := by first | (rw [hji10] at H; exact H) | (simp only [hji10] at H ⊢; exact H)
 have hji10w : (IntKind.i64.wrap ((d.length : Int) - 1)) = r := (i64_w _).trans hji10
 by_cases aM : 0 ≤ (r)
 rotate_left
 ·rw [if_neg aM] at H
  exact nn_ H
 rw [if_pos aM] at H
 have bs := decide_eq_true aM
 clear aM
 by_cases aN : (r) < (d.length : Int)
 rotate_left
 ·rw [if_neg aN] at H
  exact nn_ H
 rw [if_pos aN] at H
 have bt := decide_eq_true aN
 clear aN
 obtain ⟨⟨Q, s, u, ac, ad⟩, bp, H⟩ := bs_ H
 (try dsimp only at H)
 have HS_ := Q_ H
 clear H
 obtain ⟨bI, O, bj⟩ := Kd.S_slice l.1
 subst bj
 have ax : 0 ≤ ((r) : Int) := dt_
 have ay : (r) < (d.length : Int) := dt_
 obtain ⟨K, ae, ag, af, ah, bi, bo, aI, aJ, aG, av, aH, be⟩ := at_U34 (Kd.S_reads' l.1).2.2 (r) ax ay
 cases bi
 obtain ⟨ce521, hce521, hMe521, au⟩ := Kd.S_get l.1 z34 (r) ax (by first | exact ay | exact dt_ | (have e_ := (Kd.S_reads' l.1).1; omega))
 obtain ⟨ve521_1, ve521_2, rfl, ge521_1, ge521_2⟩ := k34_openM hMe521
 have hv521_1 := au 1 _ rfl
 rw [add_field _ _ 1 (by omega)] at hv521_1
 replace hv521_1 := Option.some.inj (hv521_1.symm.trans aI)
 rw [hv521_1] at ge521_1
 have HL521_1 := Q_ (show Kd.R Kd.bool 4 _ _ _ _ ((rd_T34 d (r)).f1) from ge521_1)
 clear hv521_1 ge521_1
 have hv521_2 := au 2 _ rfl
 rw [add_field _ _ 2 (by omega)] at hv521_2
 replace hv521_2 := Option.some.inj (hv521_2.symm.trans aJ)
 rw [hv521_2] at ge521_2
 have HL521_2 := Q_ (show Kd.R k78 78 _ _ _ _ ((rd_T34 d (r)).f2) from ge521_2)
 clear hv521_2 ge521_2
 clear au hce521
 replace ax := eq_true ax
 replace ay := eq_true ay
 go_upto_region 6 with (first | ((with_reducible refine gate_callee (f := 67) rfl ?_); refine goesL_ (some 23) rfl rfl Try.func67 (by kernel_rfl) rfl #[.pointer (some ⟨g, 0, none⟩), .agg #[.int .i64 ((rd_T34 d (r)).f0), .slice ae ((rd_T34 d (r)).f1).length ag, .slice af ((rd_T34 d (r)).f2).length ah]] rfl (by (try simp only [List.map_toArray, List.map_cons, List.map_nil]); first | done | (simp only [hji10]; rfl) | rfl | (simp only [List.length_drop, List.length_take]; rfl)) ?_; (with_reducible refine (spec_l15Next.calls k1 g m z A ((rd_T34 d (r)).f0) _ _ ((rd_T34 d (r)).f1) _ _ ((rd_T34 d (r)).f2) Q s u ac ad w0 _ ?side1 ?side2 ?side3 ?side4 ?side5 ?side6 ?side7 bp.1).mono ?_); (case side1 => exact qs87_0_ i.1); (case side2 => exact qb1_ HB.1 (IsS87.ge i.1)); (case side3 => repeat (first | exact (by repeat (first | (with_reducible exact av.1) | (with_reducible refine Kd.C_alloc ?_ _) | (with_reducible refine Kd.C_drewN ?_ _) | (with_reducible refine Kd.C_drew ?_) | exact av.1)) | (with_reducible refine Kd.C_alloc ?_ _) | (with_reducible refine Kd.C_drewN ?_ _) | (with_reducible refine Kd.C_drew ?_))); (case side4 => exact aG.1); (case side5 => exact far_slice (IsS87.own_ne i.1 HL521_1.1 (by decide))); (case side6 => exact Kd.C_foot_own (IsS87.apart (show IsS87 w0 _ g m z A from qs87_0_ i.1) (pr_ HL521_2.1) (by decide)) (fun _ h_ => h_.2)); (case side7 => exact aH.1); rintro e bW ⟨bM, bN, rfl, aa, ab, hi, hb, hk⟩; refine ⟨_, rfl, ?_⟩; have _ := Q_ (Kd.S_mono (Kd.S_told (Kd.S_told (Kd.S_oldK (IsS87.apartS (show IsS87 w0 _ g m z A from qs87_0_ i.1) (ps_ l.1) (by decide)) hk) (Kd.R_base aa)) (Kd.R_base ab)) (fun _ h_ => h_.1)); have _ := Q_ (Kd.R_mono (Kd.R_told (Kd.R_oldK (IsS87.apart (show IsS87 w0 _ g m z A from qs87_0_ i.1) (pr_ HL521_1.1) (by decide)) hk) (Kd.R_base aa)) (fun _ h_ => h_.1)); have _ := Q_ (Kd.R_mono (Kd.R_told (Kd.R_oldK (IsS87.apart (show IsS87 w0 _ g m z A from qs87_0_ i.1) (pr_ HL521_2.1) (by decide)) hk) (Kd.R_base ab)) (fun _ h_ => h_.1)); have _ := Q_ (Kd.R_lower (Kd.R_new' aa (Kd.R_lt (pr_ HL521_1.1))) (keep_size (w := w) (g := g) (row := none) (qk0_ HK.1))); have _ := Q_ (Kd.R_lower (Kd.R_new' ab (Kd.R_lt (pr_ HL521_2.1))) (keep_size (w := w) (g := g) (row := none) (qk0_ HK.1))); have _ := Q_ (KeepBut.trans (qk0_ HK.1) hk (.inl rfl)); have _ := Q_ (hb); have _ := Q_ (hi); clear l HL521_1 HL521_2 HK HB i; rename_i l HL521_1 HL521_2 n q HK HB i; (try clear hb hk hi aa ab)) | ((with_reducible refine gate_dst (N := 5) rfl ?_); refine bx_ 5 #[.int .i64 0, .slice none 0 0, .slice none 0 0] 34 ?_; intro a hg bX hbox hb; have _ := Q_ (Kd.S_below (Kd.S_elderB (ps_ l.1) a (Nat.le_of_eq hg.symm)) hb); have _ := Q_ (Kd.R_below (pr_ HL521_1.1) hb); have _ := Q_ (Kd.R_below (pr_ HL521_2.1) hb); have _ := Q_ (Kd.R_below (pr_ n.1) hb); have _ := Q_ (Kd.R_below (pr_ q.1) hb); have _ := Q_ (IsS87.below (qs87_0_ i.1) hb); have _ := Q_ (KeepBut.trans (qk0_ HK.1) (KeepBut.of_below hb g none) (.inl rfl)); have _ := Q_ (below_step (qb1_ HB.1 (IsS87.ge i.1)) hb); have c := Q_ (hbox); have L := Q_ ((by rw [hg]; exact (keep_size (w := w) (g := g) (row := none) (qk0_ HK.1)) : w.heap.size ≤ a)); have U := Q_ (Nat.le_trans HW0.1 L.1); have j := Q_ ((by rw [hg]; exact Nat.ne_of_lt (IsS87.lt (show IsS87 w0 _ g m ac ad from qs87_0_ i.1)) : g ≠ a)); have P := Q_ j.1.symm; clear l HL521_1 HL521_2 n q i HK HB; rename_i l HL521_1 HL521_2 n q i HK HB; clear hb hbox hg; have bB := P.1; have bE := j.1; have bw := bc3_ c.1; obtain ⟨B, F, bk⟩ := Kd.R_slice n.1; subst bk; obtain ⟨C, G, bl⟩ := Kd.R_slice q.1; subst bl))
 (try simp only [Act.put, s1_, s2_, s3_])
 have H := HS_.1
 clear HS_
 obtain ⟨⟨a0, Y, Z⟩, bq, H⟩ := bs_ H
 (try dsimp only at H)
 have HS_ := Q_ H
 clear H
 go_upto_if 25 with (first | ((with_reducible refine gate_callee (f := 51) rfl ?_); refine gl_ (some 25) Try.func51 #[.pointer (some ⟨g, 0, none⟩), .int .i64 8] ?_; (with_reducible refine (spec_l1Once.calls g m ac ad 8 a0 Y Z w0 _ ?side1 ?side2 bq.1).mono ?_); (case side1 => exact qs87_1_ i.1 j.1); (case side2 => exact qb2_ HB.1 (IsS87.ge i.1) U.1); rintro e bY ⟨rfl, hi, hb, hk⟩; refine ⟨_, rfl, ?_⟩; have _ := Q_ (Kd.S_mono (Kd.S_keep (IsS87.apartS (show IsS87 w0 _ g m ac ad from qs87_1_ i.1 j.1) (by (with_reducible repeat (first | apply Kd.S_alloc | apply Kd.S_drewN | apply Kd.S_drew)); exact (Kd.S_mono (Kd.S_far (p := ⟨a, 2, none⟩) (Kd.S_far (p := ⟨a, 1, none⟩) (Kd.S_far (p := ⟨a, 0, none⟩) (Kd.S_mono l.1 (fun k_ hk => (⟨hk, hk.2⟩ : _ ∧ k_ ≠ a))) (fun _ hk => hk.2) (.int .i64 Q)) (fun _ hk => hk.2) (.slice B s.length F)) (fun _ hk => hk.2) (.slice C u.length G)) (fun _ h_ => h_.1))) (by decide)) hk (fun _ h => h.2)) (fun _ h => h.1)); have _ := Q_ (Kd.R_mono (Kd.R_keep (IsS87.apart (show IsS87 w0 _ g m ac ad from qs87_1_ i.1 j.1) (pr_ (rf3_ HL521_1.1 c.1)) (by decide)) hk (fun _ h => h.2)) (fun _ h => h.1)); have _ := Q_ (Kd.R_mono (Kd.R_keep (IsS87.apart (show IsS87 w0 _ g m ac ad from qs87_1_ i.1 j.1) (pr_ (rf3_ HL521_2.1 c.1)) (by decide)) hk (fun _ h => h.2)) (fun _ h => h.1)); have _ := Q_ (Kd.R_mono (Kd.R_keep (IsS87.apart (show IsS87 w0 _ g m ac ad from qs87_1_ i.1 j.1) (pr_ (rf3_ n.1 c.1)) (by decide)) hk (fun _ h => h.2)) (fun _ h => h.1)); have _ := Q_ (Kd.R_mono (Kd.R_keep (IsS87.apart (show IsS87 w0 _ g m ac ad from qs87_1_ i.1 j.1) (pr_ (rf3_ q.1 c.1)) (by decide)) hk (fun _ h => h.2)) (fun _ h => h.1)); have _ := Q_ (KeepBut.blk hk (g' := a) (o := .cells #[.int .i64 Q, .slice B s.length F, .slice C u.length G] 34 (0, 0)) (pp_ c.1) P.1 (by simp)); have _ := Q_ (KeepBut.trans (qk1_ HK.1 L.1) hk (.inl rfl)); have _ := Q_ (hb); have _ := Q_ (hi); clear l HL521_1 HL521_2 n q c HK HB i; rename_i l HL521_1 HL521_2 n q c HK HB i; (try clear hb hk hi)))
 (try simp only [Act.put, s1_, s2_, s3_])
 have H := HS_.1
 clear HS_
 by_cases aQ : a0 = true
 rotate_left
 ·replace aQ := bf_ aQ
  subst aQ
  rw [if_neg ff_] at H
  by_cases aR : d.length < 2513169434916
  rotate_left
  ·rw [if_neg aR] at H
   exact nn_ H
  rw [if_pos aR] at H
  have a6 := Q_ aR
  clear aR
  obtain ⟨a3, hy547⟩ : ∃ y_ : List (S34), y_ = (d ++ [(⟨Q, s, u⟩ : S34)]) := ⟨_, rfl⟩
  replace H : (spec_l30Line.l0 k1 a3 (wrap64 (T - 1)) m Y Z) = some (r1, r2, r3) := hb_ hy547 H
  have ba := Q_ hy547
  clear hy547
  have H' := Q_ H
  clear H
  have bC := P.1
  have bF := j.1
  have bx := bc3_ c.1
  go_wp2_with (first | ((with_reducible refine gate_builtin (b := .append) (xs := #[.tmp 28, .tmp 30]) rfl ?_); at_builtin; refine Kd.S_append k34 w.heap.size rfl (.tmp 28) (.tmp 30) 30 34 (.agg #[(.int .i64 0), (.slice none 0 0), (.slice none 0 0)]) 56 rfl Try.underlying30 info34 rfl (by decide) (by omega) (.slice (some K) d.length O) d (⟨Q, s, u⟩ : S34) [.int .i64 Q, .slice B s.length F, .slice C u.length G] (fun k_ => k_ ≠ a) (fun k_ => some k_ = (.slice B s.length F : Value).ownBlock ∨ some k_ = (.slice C u.length G : Value).ownBlock) rfl rfl ?aP (fun k_ hk_ => hk_.elim (fun h_ => ((Kd.R_mono (ok' := fun k_ => ((fun k_ => k_ ≠ a)) k_ ∧ some k_ ≠ (.slice (some K) d.length O : Value).ownBlock) (Kd.R_types (Kd.R_apart' (n.1) (Kd.S_typed l.1) (by decide)) c.1 (by decide)) (fun k_ hk => ⟨hk.2, hk.1.2⟩))).1 k_ h_.symm) (fun h_ => ((Kd.R_mono (ok' := fun k_ => ((fun k_ => k_ ≠ a)) k_ ∧ some k_ ≠ (.slice (some K) d.length O : Value).ownBlock) (Kd.R_types (Kd.R_apart' (q.1) (Kd.S_typed l.1) (by decide)) c.1 (by decide)) (fun k_ hk => ⟨hk.2, hk.1.2⟩))).1 k_ h_.symm)) ?aF ?aO (Below.refl _ _) ?aS ?aL ?_; (case aP => exact k34_mkM _ _ _ (⟨Q, s, u⟩ : S34) (Kd.R_mono (Kd.R_tight rfl (Kd.R_mono (ok' := fun k_ => ((fun k_ => k_ ≠ a)) k_ ∧ some k_ ≠ (.slice (some K) d.length O : Value).ownBlock) (Kd.R_types (Kd.R_apart' (n.1) (Kd.S_typed l.1) (by decide)) c.1 (by decide)) (fun k_ hk => ⟨hk.2, hk.1.2⟩))) (fun _ h_ => Or.inl h_)) (Kd.R_mono (Kd.R_tight rfl (Kd.R_mono (ok' := fun k_ => ((fun k_ => k_ ≠ a)) k_ ∧ some k_ ≠ (.slice (some K) d.length O : Value).ownBlock) (Kd.R_types (Kd.R_apart' (q.1) (Kd.S_typed l.1) (by decide)) c.1 (by decide)) (fun k_ hk => ⟨hk.2, hk.1.2⟩))) (fun _ h_ => Or.inr (h_)))); (case aF => exact (fun k_ hk => Kd.freshB (g := a) (o := .cells #[.int .i64 Q, .slice B s.length F, .slice C u.length G] 34 (0, 0)) (pk_ c.1) k_ hk)); (case aO => exact (by (with_reducible repeat (first | apply Kd.S_alloc | apply Kd.S_drewN | apply Kd.S_drew)); exact Kd.S_mono l.1 (fun k_ hk => ⟨hk.2, fun e_ => e_.elim (fun h_ => hk.1.1.2 h_) (fun h_ => hk.1.2 h_)⟩))); (case aS => exact (keep_size (w := w) (g := g) (row := none) (qk1_ HK.1 L.1))); (case aL => have := a6.1; omega); intro bR bZ ho hb hg hat; rw [← ba.1] at ho; have _ := Q_ (IsS87.grown (qs87_1_ i.1 j.1) hg (IsS87.own_neS i.1 l.1 (by decide))); have _ := Q_ (Kd.R_after (ok := (fun k_ => some k_ ≠ (.slice B s.length F : Value).ownBlock)) (by (with_reducible repeat (first | apply Kd.R_alloc | apply Kd.R_drewN | apply Kd.R_drew)); exact Kd.R_mono HL521_1.1 (fun _ hk => ⟨hk.2, hk.1.2⟩)) hg hat); have _ := Q_ (Kd.R_after (ok := (fun k_ => some k_ ≠ (.slice C u.length G : Value).ownBlock)) (by (with_reducible repeat (first | apply Kd.R_alloc | apply Kd.R_drewN | apply Kd.R_drew)); exact Kd.R_mono HL521_2.1 (fun _ hk => ⟨hk.2, hk.1.2⟩)) hg hat); have _ := Q_ (blk_grown (g := a) (o := .cells #[.int .i64 Q, .slice B s.length F, .slice C u.length G] 34 (0, 0)) (pk_ c.1) hg (Kd.S_away l.1 (fun _ hk => hk.2))); have _ := Q_ (below_weaken (qb2_ HB.1 (IsS87.ge i.1) U.1) HL.1 hb); have _ := Q_ (KeepBut.trans (qk1_ HK.1 L.1) (KeepBut.of_grown hg g) (Kd.S_base2 l.1)); have a5 := Q_ (ho); clear i HL521_1 HL521_2 c HB HK l n q; rename_i i HL521_1 HL521_2 c HB HK; clear ho hb hg hat))
  go_roundg k1
  case measure => have := aK.1; omega
  case rel => exact ⟨(a3), (wrap64 (T - 1)), (Y), (Z), el_, H', ⟨by have := aK.1; omega⟩, ⟨ps_ (Kd.S_mono a5.1 (fun _ hk => trivial))⟩, ⟨qs87_1_ i.1 j.1⟩, ⟨qk1_ HK.1 L.1⟩, ⟨qb2_ HB.1 (IsS87.ge i.1) U.1⟩⟩
 subst aQ
 rw [if_pos rfl] at H
 obtain ⟨⟨M, x, y, aD, aE⟩, br, H⟩ := bs_ H
 (try dsimp only at H)
 by_cases aT : d.length < 2513169434916
 rotate_left
 ·rw [if_neg aT] at H
  exact nn_ H
 rw [if_pos aT] at H
 have a7 := Q_ aT
 clear aT
 obtain ⟨a2, hy544⟩ : ∃ y_ : List (S34), y_ = (d ++ [(⟨M, x, y⟩ : S34)]) := ⟨_, rfl⟩
 replace H : (spec_l30Line.l0 k1 a2 (wrap64 (T - 1)) m aD aE) = some (r1, r2, r3) := hb_ hy544 H
 have a9 := Q_ hy544
 clear hy544
 have H' := Q_ H
 clear H
 go_wp2_with (first | ((with_reducible refine gate_callee (f := 66) rfl ?_); refine gl_ (some 27) Try.func66 #[.pointer (some ⟨g, 0, none⟩)] ?_; (with_reducible refine (spec_l13Draw.calls k1 g m Y Z M x y aD aE w0 _ ?side1 ?side2 br.1).mono ?_); (case side1 => exact qs87_1_ i.1 j.1); (case side2 => exact qb2_ HB.1 (IsS87.ge i.1) U.1); rintro e bH ⟨bO, bP, rfl, aa, ab, hi, hb, hk⟩; refine ⟨_, rfl, ?_⟩; have _ := Q_ (Kd.S_mono (Kd.S_told (Kd.S_told (Kd.S_oldK (IsS87.apartS (show IsS87 w0 _ g m Y Z from qs87_1_ i.1 j.1) (ps_ l.1) (by decide)) hk) (Kd.R_base aa)) (Kd.R_base ab)) (fun _ h_ => h_.1)); have _ := Q_ (Kd.R_mono (Kd.R_told (Kd.R_oldK (IsS87.apart (show IsS87 w0 _ g m Y Z from qs87_1_ i.1 j.1) (pr_ HL521_1.1) (by decide)) hk) (Kd.R_base aa)) (fun _ h_ => h_.1)); have _ := Q_ (Kd.R_mono (Kd.R_told (Kd.R_oldK (IsS87.apart (show IsS87 w0 _ g m Y Z from qs87_1_ i.1 j.1) (pr_ HL521_2.1) (by decide)) hk) (Kd.R_base ab)) (fun _ h_ => h_.1)); have _ := Q_ (Kd.R_mono (Kd.R_told (Kd.R_oldK (IsS87.apart (show IsS87 w0 _ g m Y Z from qs87_1_ i.1 j.1) (pr_ n.1) (by decide)) hk) (Kd.R_base aa)) (fun _ h_ => h_.1)); have _ := Q_ (Kd.R_mono (Kd.R_told (Kd.R_oldK (IsS87.apart (show IsS87 w0 _ g m Y Z from qs87_1_ i.1 j.1) (pr_ q.1) (by decide)) hk) (Kd.R_base ab)) (fun _ h_ => h_.1)); have _ := Q_ (KeepBut.blk hk (g' := a) (o := .cells #[.int .i64 Q, .slice B s.length F, .slice C u.length G] 34 (0, 0)) (pk_ c.1) P.1 (by simp)); have _ := Q_ (Kd.R_lower (Kd.R_new' (Kd.R_new' aa (Kd.R_lt (pr_ HL521_1.1))) (Kd.R_lt (pr_ n.1))) (keep_size (w := w) (g := g) (row := none) (qk1_ HK.1 L.1))); have _ := Q_ (Kd.R_lower (Kd.R_new' (Kd.R_new' ab (Kd.R_lt (pr_ HL521_2.1))) (Kd.R_lt (pr_ q.1))) (keep_size (w := w) (g := g) (row := none) (qk1_ HK.1 L.1))); have _ := Q_ (KeepBut.trans (qk1_ HK.1 L.1) hk (.inl rfl)); have _ := Q_ (hb); have _ := Q_ (hi); clear l HL521_1 HL521_2 n q c HK HB i; rename_i l HL521_1 HL521_2 n q c V W HK HB i; (try clear hb hk hi aa ab); have bD := P.1; have bG := j.1; have bz := bc3_ c.1; obtain ⟨D, I, bm⟩ := Kd.R_slice V.1; subst bm; obtain ⟨E, J, bn⟩ := Kd.R_slice W.1; subst bn) | ((with_reducible refine gate_store (t := 34) (p := 5) rfl ?_); refine store_event (t := 34) (p := 5) (v := ?vo_w35) (w1 := (((bH.setCell ⟨a, 0, none⟩ (.int .i64 M)).setCell ⟨a, 1, none⟩ (.slice D x.length I)).setCell ⟨a, 2, none⟩ (.slice E y.length J))) ?hg ?ho ?hn ?hr ?_; (case ho => rfl); (case hg => rfl); (case hn => rfl); (case hr => first | (go_simp; done) | (go_simp; rfl)); intro am hw; have n0_ : Aside0 (Kd.S k34 34 am w.heap.size (fun k_ => some k_ ≠ (.slice B s.length F : Value).ownBlock ∧ some k_ ≠ (.slice C u.length G : Value).ownBlock ∧ some k_ ≠ (.slice D x.length I : Value).ownBlock ∧ some k_ ≠ (.slice E y.length J : Value).ownBlock ∧ k_ ≠ a) (.slice (some K) d.length O) d) := ⟨(by rw [hw]; exact (by (with_reducible repeat (first | apply Kd.S_alloc | apply Kd.S_drewN | apply Kd.S_drew)); exact Kd.S_mono (Kd.S_far (p := ⟨a, 2, none⟩) (Kd.S_far (p := ⟨a, 1, none⟩) (Kd.S_far (p := ⟨a, 0, none⟩) (Kd.S_mono l.1 (fun k_ hk => (⟨hk, hk.1.1.2⟩ : _ ∧ k_ ≠ a))) (fun _ hk => hk.2) (.int .i64 M)) (fun _ hk => hk.2) (.slice D x.length I)) (fun _ hk => hk.2) (.slice E y.length J)) (fun _ hk => ⟨hk.1.1.1.1.1.2, ⟨hk.1.1.1.1.2, ⟨hk.1.1.2, ⟨hk.1.2, hk.1.1.1.2⟩⟩⟩⟩)))⟩; have n1_ : Aside0 (Kd.R Kd.bool 4 am w.heap.size (fun k_ => some k_ ≠ (.slice (some K) d.length O : Value).ownBlock ∧ some k_ ≠ (.slice B s.length F : Value).ownBlock ∧ some k_ ≠ (.slice D x.length I : Value).ownBlock) (.slice ae ((rd_T34 d (r)).f1).length ag) ((rd_T34 d (r)).f1)) := ⟨(by rw [hw]; exact (by (with_reducible repeat (first | apply Kd.R_alloc | apply Kd.R_drewN | apply Kd.R_drew)); exact Kd.R_mono (Kd.R_far (p := ⟨a, 2, none⟩) (Kd.R_far (p := ⟨a, 1, none⟩) (Kd.R_far (p := ⟨a, 0, none⟩) (Kd.R_types HL521_1.1 c.1 (by decide)) (fun _ hk => hk.2) (.int .i64 M)) (fun _ hk => hk.2) (.slice D x.length I)) (fun _ hk => hk.2) (.slice E y.length J)) (fun _ hk => ⟨hk.1.1.1.2, ⟨hk.1.1.2, hk.1.2⟩⟩)))⟩; have n2_ : Aside0 (Kd.R k78 78 am w.heap.size (fun k_ => some k_ ≠ (.slice (some K) d.length O : Value).ownBlock ∧ some k_ ≠ (.slice C u.length G : Value).ownBlock ∧ some k_ ≠ (.slice E y.length J : Value).ownBlock) (.slice af ((rd_T34 d (r)).f2).length ah) ((rd_T34 d (r)).f2)) := ⟨(by rw [hw]; exact (by (with_reducible repeat (first | apply Kd.R_alloc | apply Kd.R_drewN | apply Kd.R_drew)); exact Kd.R_mono (Kd.R_far (p := ⟨a, 2, none⟩) (Kd.R_far (p := ⟨a, 1, none⟩) (Kd.R_far (p := ⟨a, 0, none⟩) (Kd.R_types HL521_2.1 c.1 (by decide)) (fun _ hk => hk.2) (.int .i64 M)) (fun _ hk => hk.2) (.slice D x.length I)) (fun _ hk => hk.2) (.slice E y.length J)) (fun _ hk => ⟨hk.1.1.1.2, ⟨hk.1.1.2, hk.1.2⟩⟩)))⟩; have n3_ : Aside0 (Kd.R Kd.bool 4 am w.heap.size (fun k_ => some k_ ≠ (.slice ae ((rd_T34 d (r)).f1).length ag : Value).ownBlock ∧ some k_ ≠ (.slice D x.length I : Value).ownBlock) (.slice B s.length F) s) := ⟨(by rw [hw]; exact (by (with_reducible repeat (first | apply Kd.R_alloc | apply Kd.R_drewN | apply Kd.R_drew)); exact Kd.R_mono (Kd.R_far (p := ⟨a, 2, none⟩) (Kd.R_far (p := ⟨a, 1, none⟩) (Kd.R_far (p := ⟨a, 0, none⟩) (Kd.R_types n.1 c.1 (by decide)) (fun _ hk => hk.2) (.int .i64 M)) (fun _ hk => hk.2) (.slice D x.length I)) (fun _ hk => hk.2) (.slice E y.length J)) (fun _ hk => ⟨hk.1.1.2, hk.1.2⟩)))⟩; have n4_ : Aside0 (Kd.R k78 78 am w.heap.size (fun k_ => some k_ ≠ (.slice af ((rd_T34 d (r)).f2).length ah : Value).ownBlock ∧ some k_ ≠ (.slice E y.length J : Value).ownBlock) (.slice C u.length G) u) := ⟨(by rw [hw]; exact (by (with_reducible repeat (first | apply Kd.R_alloc | apply Kd.R_drewN | apply Kd.R_drew)); exact Kd.R_mono (Kd.R_far (p := ⟨a, 2, none⟩) (Kd.R_far (p := ⟨a, 1, none⟩) (Kd.R_far (p := ⟨a, 0, none⟩) (Kd.R_types q.1 c.1 (by decide)) (fun _ hk => hk.2) (.int .i64 M)) (fun _ hk => hk.2) (.slice D x.length I)) (fun _ hk => hk.2) (.slice E y.length J)) (fun _ hk => ⟨hk.1.1.2, hk.1.2⟩)))⟩; have n5_ : Aside0 (Kd.R Kd.bool 4 am w.heap.size (fun k_ => some k_ ≠ (.slice ae ((rd_T34 d (r)).f1).length ag : Value).ownBlock ∧ some k_ ≠ (.slice B s.length F : Value).ownBlock) (.slice D x.length I) x) := ⟨(by rw [hw]; exact (by (with_reducible repeat (first | apply Kd.R_alloc | apply Kd.R_drewN | apply Kd.R_drew)); exact Kd.R_mono (Kd.R_far (p := ⟨a, 2, none⟩) (Kd.R_far (p := ⟨a, 1, none⟩) (Kd.R_far (p := ⟨a, 0, none⟩) (Kd.R_types V.1 c.1 (by decide)) (fun _ hk => hk.2) (.int .i64 M)) (fun _ hk => hk.2) (.slice D x.length I)) (fun _ hk => hk.2) (.slice E y.length J)) (fun _ hk => ⟨hk.1.1.2, hk.1.2⟩)))⟩; have n6_ : Aside0 (Kd.R k78 78 am w.heap.size (fun k_ => some k_ ≠ (.slice af ((rd_T34 d (r)).f2).length ah : Value).ownBlock ∧ some k_ ≠ (.slice C u.length G : Value).ownBlock) (.slice E y.length J) y) := ⟨(by rw [hw]; exact (by (with_reducible repeat (first | apply Kd.R_alloc | apply Kd.R_drewN | apply Kd.R_drew)); exact Kd.R_mono (Kd.R_far (p := ⟨a, 2, none⟩) (Kd.R_far (p := ⟨a, 1, none⟩) (Kd.R_far (p := ⟨a, 0, none⟩) (Kd.R_types W.1 c.1 (by decide)) (fun _ hk => hk.2) (.int .i64 M)) (fun _ hk => hk.2) (.slice D x.length I)) (fun _ hk => hk.2) (.slice E y.length J)) (fun _ hk => ⟨hk.1.1.2, hk.1.2⟩)))⟩; have n7_ : Aside0 (am.heap[a]? = some (.cells #[.int .i64 M, .slice D x.length I, .slice E y.length J] 34 (0, 0))) := ⟨(by rw [hw]; exact (pp_ c.1))⟩; have n8_ : Aside0 (IsS87 w0 am g m aD aE) := ⟨(by rw [hw]; exact (qs87_1_ i.1 j.1))⟩; have n9_ : Aside0 (KeepBut w am g none) := ⟨(by rw [hw]; exact (qk1_ HK.1 L.1))⟩; have n10_ : Aside0 (Below w0.heap.size w0 am) := ⟨(by rw [hw]; exact (qb2_ HB.1 (IsS87.ge i.1) U.1))⟩; clear hw; clear l; clear HL521_1; clear HL521_2; clear n; clear q; clear V; clear W; clear c; clear i; clear HK; clear HB; have l := n0_; have HL521_1 := n1_; have HL521_2 := n2_; have n := n3_; have q := n4_; have V := n5_; have W := n6_; have c := n7_; have i := n8_; have HK := n9_; have HB := n10_; clear n0_ n1_ n2_ n3_ n4_ n5_ n6_ n7_ n8_ n9_ n10_; have bA := bc3_ c.1) | ((with_reducible refine gate_builtin (b := .append) (xs := #[.tmp 28, .tmp 30]) rfl ?_); at_builtin; refine Kd.S_append k34 w.heap.size rfl (.tmp 28) (.tmp 30) 30 34 (.agg #[(.int .i64 0), (.slice none 0 0), (.slice none 0 0)]) 56 rfl Try.underlying30 info34 rfl (by decide) (by omega) (.slice (some K) d.length O) d (⟨M, x, y⟩ : S34) [.int .i64 M, .slice D x.length I, .slice E y.length J] (fun k_ => some k_ ≠ (.slice B s.length F : Value).ownBlock ∧ some k_ ≠ (.slice C u.length G : Value).ownBlock ∧ k_ ≠ a) (fun k_ => some k_ = (.slice D x.length I : Value).ownBlock ∨ some k_ = (.slice E y.length J : Value).ownBlock) rfl rfl ?aP (fun k_ hk_ => hk_.elim (fun h_ => ((Kd.R_mono (ok' := fun k_ => ((fun k_ => some k_ ≠ (.slice B s.length F : Value).ownBlock ∧ some k_ ≠ (.slice C u.length G : Value).ownBlock ∧ k_ ≠ a)) k_ ∧ some k_ ≠ (.slice (some K) d.length O : Value).ownBlock) (Kd.R_types (Kd.R_apart' (Kd.R_apart' (V.1) (Kd.R_typed q.1) (by decide)) (Kd.S_typed l.1) (by decide)) c.1 (by decide)) (fun k_ hk => ⟨⟨hk.1.1.1.2, ⟨hk.1.1.2, hk.2⟩⟩, hk.1.2⟩))).1 k_ h_.symm) (fun h_ => ((Kd.R_mono (ok' := fun k_ => ((fun k_ => some k_ ≠ (.slice B s.length F : Value).ownBlock ∧ some k_ ≠ (.slice C u.length G : Value).ownBlock ∧ k_ ≠ a)) k_ ∧ some k_ ≠ (.slice (some K) d.length O : Value).ownBlock) (Kd.R_types (Kd.R_apart' (Kd.R_apart' (W.1) (Kd.R_typed n.1) (by decide)) (Kd.S_typed l.1) (by decide)) c.1 (by decide)) (fun k_ hk => ⟨⟨hk.1.1.2, ⟨hk.1.1.1.2, hk.2⟩⟩, hk.1.2⟩))).1 k_ h_.symm)) ?aF ?aO (Below.refl _ _) ?aS ?aL ?_; (case aP => exact k34_mkM _ _ _ (⟨M, x, y⟩ : S34) (Kd.R_mono (Kd.R_tight rfl (Kd.R_mono (ok' := fun k_ => ((fun k_ => some k_ ≠ (.slice B s.length F : Value).ownBlock ∧ some k_ ≠ (.slice C u.length G : Value).ownBlock ∧ k_ ≠ a)) k_ ∧ some k_ ≠ (.slice (some K) d.length O : Value).ownBlock) (Kd.R_types (Kd.R_apart' (Kd.R_apart' (V.1) (Kd.R_typed q.1) (by decide)) (Kd.S_typed l.1) (by decide)) c.1 (by decide)) (fun k_ hk => ⟨⟨hk.1.1.1.2, ⟨hk.1.1.2, hk.2⟩⟩, hk.1.2⟩))) (fun _ h_ => Or.inl h_)) (Kd.R_mono (Kd.R_tight rfl (Kd.R_mono (ok' := fun k_ => ((fun k_ => some k_ ≠ (.slice B s.length F : Value).ownBlock ∧ some k_ ≠ (.slice C u.length G : Value).ownBlock ∧ k_ ≠ a)) k_ ∧ some k_ ≠ (.slice (some K) d.length O : Value).ownBlock) (Kd.R_types (Kd.R_apart' (Kd.R_apart' (W.1) (Kd.R_typed n.1) (by decide)) (Kd.S_typed l.1) (by decide)) c.1 (by decide)) (fun k_ hk => ⟨⟨hk.1.1.2, ⟨hk.1.1.1.2, hk.2⟩⟩, hk.1.2⟩))) (fun _ h_ => Or.inr (h_)))); (case aF => exact (fun k_ hk => ⟨Kd.fresh' (Kd.R_lt (pr_ n.1)) k_ hk, Kd.fresh' (Kd.R_lt (pr_ q.1)) k_ hk, Kd.freshB (g := a) (o := .cells #[.int .i64 M, .slice D x.length I, .slice E y.length J] 34 (0, 0)) (pk_ c.1) k_ hk⟩)); (case aO => exact (by (with_reducible repeat (first | apply Kd.S_alloc | apply Kd.S_drewN | apply Kd.S_drew)); exact Kd.S_mono l.1 (fun k_ hk => ⟨⟨hk.1, ⟨hk.2.1, hk.2.2.2.2⟩⟩, fun e_ => e_.elim (fun h_ => hk.2.2.1 h_) (fun h_ => hk.2.2.2.1 h_)⟩))); (case aS => exact (keep_size (w := w) (g := g) (row := none) (qk1_ HK.1 L.1))); (case aL => have := a7.1; omega); intro bQ b0 ho hb hg hat; rw [← a9.1] at ho; have _ := Q_ (IsS87.grown (qs87_1_ i.1 j.1) hg (IsS87.own_neS i.1 l.1 (by decide))); have _ := Q_ (Kd.R_after (ok := (fun k_ => some k_ ≠ (.slice B s.length F : Value).ownBlock ∧ some k_ ≠ (.slice D x.length I : Value).ownBlock)) (by (with_reducible repeat (first | apply Kd.R_alloc | apply Kd.R_drewN | apply Kd.R_drew)); exact Kd.R_mono HL521_1.1 (fun _ hk => ⟨⟨hk.2.1, hk.2.2⟩, hk.1⟩)) hg hat); have _ := Q_ (Kd.R_after (ok := (fun k_ => some k_ ≠ (.slice C u.length G : Value).ownBlock ∧ some k_ ≠ (.slice E y.length J : Value).ownBlock)) (by (with_reducible repeat (first | apply Kd.R_alloc | apply Kd.R_drewN | apply Kd.R_drew)); exact Kd.R_mono HL521_2.1 (fun _ hk => ⟨⟨hk.2.1, hk.2.2⟩, hk.1⟩)) hg hat); have _ := Q_ (Kd.R_over' (pr_ n.1) (Kd.S_typed (ps_ l.1)) (by decide) hg); have _ := Q_ (Kd.R_over' (pr_ q.1) (Kd.S_typed (ps_ l.1)) (by decide) hg); have _ := Q_ (blk_grown (g := a) (o := .cells #[.int .i64 M, .slice D x.length I, .slice E y.length J] 34 (0, 0)) (pk_ c.1) hg (Kd.S_away l.1 (fun _ hk => hk.2.2.2.2))); have _ := Q_ (below_weaken (qb2_ HB.1 (IsS87.ge i.1) U.1) HL.1 hb); have _ := Q_ (KeepBut.trans (qk1_ HK.1 L.1) (KeepBut.of_grown hg g) (Kd.S_base2 l.1)); have a4 := Q_ (ho); clear i HL521_1 HL521_2 n q c HB HK l V W; rename_i i HL521_1 HL521_2 n q c HB HK; clear ho hb hg hat))
 go_roundg k1
 case measure => have := aK.1; omega
 case rel => exact ⟨(a2), (wrap64 (T - 1)), (aD), (aE), el_, H', ⟨by have := aK.1; omega⟩, ⟨ps_ (Kd.S_mono a4.1 (fun _ hk => trivial))⟩, ⟨qs87_1_ i.1 j.1⟩, ⟨qk1_ HK.1 L.1⟩, ⟨qb2_ HB.1 (IsS87.ge i.1) U.1⟩⟩

end Go.Proofs.Ytldcchjbaglppaa.Print
