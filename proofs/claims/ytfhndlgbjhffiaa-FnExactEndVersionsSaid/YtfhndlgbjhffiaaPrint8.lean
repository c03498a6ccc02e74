-- Written by a program of this session (printx.py) out of the translation; Lean checks it.
import Derived.Test.YtfhndlgbjhffiaaPrint0
import Derived.Test.YtfhndlgbjhffiaaPrint7
namespace Go.Proofs.Ytfhndlgbjhffiaa.Print
open Go.RowKit Go.Proofs.YtfhndlgbjhffiaaW.PrintWords Go.Proofs.YtfhndlgbjhffiaaW.PrintLast Go.Proofs.YtfhndlgbjhffiaaW.PrintMore Go.Proofs.Ytfhndlgbjhffiaa.Short
attribute [local go_sem] max2_int min2_int max_two min_two max_three min_three max_four min_four   -- for this text's walks alone
set_option linter.unusedVariables false
set_option maxHeartbeats 8000000
set_option maxRecDepth 100000
set_option linter.unusedSimpArgs false

/-! ### laws_markLoggedS: function 38, by shapes -/
def sh89 (x y : S89) : Prop := y.f3.f0.f2.length = x.f3.f0.f2.length ∧ y.f3.f2.length = x.f3.f2.length
theorem sh89_refl (x : S89) : sh89 x x := ⟨rfl, rfl⟩
theorem sh89_trans (x y z : S89) (a : sh89 x y) (b : sh89 y z) : sh89 x z := by
 obtain ⟨c, d⟩ := a
 obtain ⟨b0, b1⟩ := b
 exact ⟨b0.trans c, b1.trans d⟩
theorem sh_k89 : Sh k89 sh89 := Sh.imp (Sh.iso (Sh.pair (Sh.int .i64) (Sh.pair (Sh.int .i64) (Sh.pair Sh.bool (Sh.iso (Sh.pair (Sh.iso (Sh.pair Sh.bool (Sh.pair (Sh.int .i64) (Sh.slice (Sh.int .i64) 3))) (fun x : S84 => (x.f0, x.f1, x.f2)) (fun p => ⟨p.1, p.2.1, p.2.2⟩) (fun _ => rfl)) (Sh.pair (Sh.int .i64) (Sh.slice (Sh.int .i64) 3))) (fun x : S86 => (x.f0, x.f1, x.f2)) (fun p => ⟨p.1, p.2.1, p.2.2⟩) (fun _ => rfl))))) (fun x : S89 => (x.f0, x.f1, x.f2, x.f3)) (fun p => ⟨p.1, p.2.1, p.2.2.1, p.2.2.2⟩) (fun _ => rfl)) (fun x y h => ⟨h.2.2.2.1.2.2.1, h.2.2.2.2.2.1⟩)
def markE89 (x : S89) (k : Int) : Int := (cnt x.f3.f2.length (wrap64 ((cnt x.f3.f0.f2.length (wrap64 ((wrap64 ((wrap64 ((wrap64 ((wrap64 (k + 1)) + 1)) + 1)) + 1)) + 1))) + 1)))
def markC89 : List S89 → Int → Int
 | [], k => k
 | x :: l, k => markC89 l (markE89 x k)
theorem markE89_like {x y : S89} (h : sh89 x y) (k : Int) : markE89 y k = markE89 x k := by
 obtain ⟨h0, h1⟩ := h
 unfold markE89
 rw [h0, h1]
theorem markC89_like {xs ys : List S89} (h : RowsS sh89 xs ys) (k : Int) : markC89 ys k = markC89 xs k := by
 induction xs generalizing ys k with
 | nil =>
  have := h.1
  rw [List.length_eq_zero_iff.1 this]
 | cons x xs ih =>
  cases ys with
  | nil => have := h.1; simp at this
  | cons y ys =>
   obtain ⟨y', hy, hs⟩ := h.2 0 x rfl
   obtain rfl : y = y' := by simpa using hy
   have ht : RowsS sh89 xs ys := h.drop 1
   simp only [markC89]
   rw [markE89_like hs, ih ht]
theorem laws_markLoggedS.callsM (P0_ : Nat → Prop) (u9000_ : Value) (i : List S89) (l : Int) (w0 w : World) (hB : Below w0.heap.size w0 w) (q : Kd.R k89 89 w w0.heap.size P0_ u9000_ i) :
  Calls Try.prog 38 #[u9000_, .int .i64 l] w fun e w' => e = .returned (.int .i64 (markC89 i l)) ∧ Below w0.heap.size w0 w' ∧ Kept w w' (fun k_ => P0_ k_) ∧ Marked w w' := by
 have hu89 := Try.underlying89
 have k := Q_ q
 have HK := Q_ (Kept.refl w (fun k_ => P0_ k_))
 have HM := Q_ (Marked.refl w)
 have HB := Q_ hB
 clear hB q
 go_enter Try.func38, Try.ntmps38
 go_wp2
 go_loopg [1, 5] (i.length + 1) (fun kq F G w' => ∃ (d : List S89) (c a : Int) (i_1 : Nat), F = .int .i64 c ∧ G = .int .i64 a ∧ Aside0 (a = (i_1 : Int)) ∧ Aside0 (i_1 + kq = i.length + 1 ∧ i_1 ≤ i.length) ∧ Aside0 (RowsS sh89 i d) ∧ Aside0 (markC89 (i.drop i_1) c = markC89 i l) ∧ Aside0 (Kd.R k89 89 w' w0.heap.size P0_ u9000_ d) ∧ Aside0 (Kept w w' (fun k_ => P0_ k_)) ∧ Aside0 (Marked w w') ∧ Aside0 (Below w0.heap.size w0 w'))
 case atStart => exact ⟨i, l, 0, 0, el_, el_, ⟨rfl⟩, ⟨by omega, by omega⟩, ⟨RowsS.refl (fun _ => sh89_refl _) i⟩, ⟨rfl⟩, ⟨pr_ k.1⟩, ⟨qm_ HK.1⟩, ⟨qn_ HM.1⟩, ⟨pb_ HB.1⟩⟩
 clear k
 obtain ⟨d, c, a, i_1, rfl, rfl, HI, HN, HS, HV, HO, HK, HM, HB⟩ := hrel
 rcases gk with _ | k1
 ·exact absurd HN.1 (by omega)
 have HL := Q_ (show d.length = i.length from HS.1.1)
 have HLG := Q_ (R_long HO.1)
 by_cases r : a < (d.length : Int)
 rotate_left
 ·have m := decide_eq_false r
  have e_ : c = markC89 i l := by
   have h_ := HV.1
   have h1_ := HI.1
   have hlen := HL.1
   rw [show i_1 = i.length by have := HN.1.2; omega] at h_
   simpa [markC89] using h_
  subst e_
  obtain ⟨A, C, u⟩ := Kd.R_slice HO.1
  subst u
  go_wp2
  go_ret
  exact ⟨el_, pb_ HB.1, qm_ HK.1, qn_ HM.1⟩
 have m := decide_eq_true r
 have s : 0 ≤ (a : Int) := by have := HI.1; omega
 have y : (a : Int) < ((d.length : Int) : Int) := r
 have z : decide (0 ≤ a) = true := decide_eq_true s
 have HII := Q_ (show i_1 < i.length from by have := HI.1; have := HL.1; omega)
 have HTI := Q_ (show a.toNat = i_1 from by have := HI.1; omega)
 have HW5 := Q_ (wi_ HI.1 HII.1 (HL.1 ▸ HLG.1))
 obtain ⟨B, E, x⟩ := Kd.R_slice HO.1
 subst x
 obtain ⟨b, D, n, o, gl6, HG6⟩ := Kd.R_form HO.1 (by omega)
 (first | cases n | (injection n with ea_ en_ ec_; (first | subst ea_ | (injection ea_ with ea_; subst ea_)); subst ec_; clear en_))
 have j := Q_ o
 have PG6 := Q_ (HO.1.1 b rfl)
 clear o gl6 HG6 r
 have HP6 := Q_ s
 have h := Q_ y
 have HE := Q_ (HS.1.at z89 HII.1)
 obtain ⟨E0, hE0⟩ : ∃ e_ : S89, e_ = i.getD i_1 z89 := ⟨_, rfl⟩
 rw [← hE0, ← HTI.1] at HE
 have g := Q_ hE0
 clear hE0
 obtain ⟨ca, hcla, hMa, hcca, hfra⟩ := Kd.R_elem HO.1 z89 a HP6.1 h.1
 obtain ⟨Ea, hEa⟩ : ∃ e_ : S89, e_ = d.getD (a : Int).toNat z89 := ⟨_, rfl⟩
 rw [← hEa] at hMa HE
 clear hEa
 obtain ⟨va_5, va_7, rfl, ga_5, ga_7⟩ := k89_openM hMa
 have hxa : wr.cell? ⟨b, (a : Int).toNat * 8, none⟩ = some (.int .i64 Ea.f0) := hcca 0 _ rfl
 have hfa : wr.frozen? ⟨b, (a : Int).toNat * 8, none⟩ = false := hfra 0
 clear hcla hcca hfra
 clear ga_5 ga_7
 try clear hMa
 replace s := eq_true s
 replace y := eq_true y
 go_wp2_with (first
  | ((with_reducible refine gate_store (t := 3) (p := 16) rfl ?_); refine store_event (t := 3) (p := 16) (v := ?vo_a) (w1 := ?w1_a) ?hg ?ho ?hn ?hr ?_; (case ho => rfl); (case hg => rfl); (case hn => rfl); (case hr => first | (go_simp; done) | (go_simp; rfl)); intro wa_ hw; have hms_ : Marked _ wa_ := (by rw [hw]; exact Marked.set hxa (.inr (.inl ⟨_, _, _, rfl, rfl⟩))); have n1_ := Q_ (show Below w0.heap.size w0 wa_ from by rw [hw]; exact below_set HB.1 j.1); have n2_ := Q_ (show Kept w wa_ (fun k_ => P0_ k_) from by rw [hw]; exact Kept.setCell HK.1 (.inl PG6.1) _); have n3_ := Q_ (HM.1.trans hms_); obtain ⟨Xa, HOa, hra⟩ := R_like sh_k89 hms_ HO.1; have HSa := Q_ (RowsS.trans sh89_trans HS.1 hra); clear HO HS hra HE; have HO := Q_ HOa; have HS := HSa; clear HOa HSa; have HE := Q_ (HS.1.at z89 HII.1); rw [← g.1, ← HTI.1] at HE; clear HB HK HM hms_ hxa hfa hw; have HB := n1_; have HK := n2_; have HM := n3_; clear n1_ n2_ n3_; obtain ⟨cb, hclb, hMb, hccb, hfrb⟩ := Kd.R_elem HO.1 z89 a HP6.1 h.1; obtain ⟨Eb, hEb⟩ : ∃ e_ : S89, e_ = Xa.getD (a : Int).toNat z89 := ⟨_, rfl⟩; rw [← hEb] at hMb HE; clear hEb; obtain ⟨vb_5, vb_7, rfl, gb_5, gb_7⟩ := k89_openM hMb; have hxb : wa_.cell? ⟨b, (a : Int).toNat * 8 + 1, none⟩ = some (.int .i64 Eb.f1) := hccb 1 _ rfl; have hfb : wa_.frozen? ⟨b, (a : Int).toNat * 8 + 1, none⟩ = false := hfrb 1; clear hclb hccb hfrb; clear gb_5 gb_7; try clear hMb)
  | ((with_reducible refine gate_store (t := 3) (p := 23) rfl ?_); refine store_event (t := 3) (p := 23) (v := ?vo_b) (w1 := ?w1_b) ?hg ?ho ?hn ?hr ?_; (case ho => rfl); (case hg => rfl); (case hn => rfl); (case hr => first | (go_simp; done) | (go_simp; rfl)); intro wb_ hw; have hms_ : Marked _ wb_ := (by rw [hw]; exact Marked.set hxb (.inr (.inl ⟨_, _, _, rfl, rfl⟩))); have n1_ := Q_ (show Below w0.heap.size w0 wb_ from by rw [hw]; exact below_set HB.1 j.1); have n2_ := Q_ (show Kept w wb_ (fun k_ => P0_ k_) from by rw [hw]; exact Kept.setCell HK.1 (.inl PG6.1) _); have n3_ := Q_ (HM.1.trans hms_); obtain ⟨Xb, HOb, hrb⟩ := R_like sh_k89 hms_ HO.1; have HSb := Q_ (RowsS.trans sh89_trans HS.1 hrb); clear HO HS hrb HE; have HO := Q_ HOb; have HS := HSb; clear HOb HSb; have HE := Q_ (HS.1.at z89 HII.1); rw [← g.1, ← HTI.1] at HE; clear HB HK HM hms_ hxb hfb hw; have HB := n1_; have HK := n2_; have HM := n3_; clear n1_ n2_ n3_; obtain ⟨cc, hclc, hMc, hccc, hfrc⟩ := Kd.R_elem HO.1 z89 a HP6.1 h.1; obtain ⟨Ec, hEc⟩ : ∃ e_ : S89, e_ = Xb.getD (a : Int).toNat z89 := ⟨_, rfl⟩; rw [← hEc] at hMc HE; clear hEc; obtain ⟨vc_5, vc_7, rfl, gc_5, gc_7⟩ := k89_openM hMc; have hxc : wb_.cell? ⟨b, (a : Int).toNat * 8 + 2, none⟩ = some (.bool Ec.f2) := hccc 2 _ rfl; have hfc : wb_.frozen? ⟨b, (a : Int).toNat * 8 + 2, none⟩ = false := hfrc 2; clear hclc hccc hfrc; clear gc_5 gc_7; try clear hMc)
  | ((with_reducible refine gate_store (t := 4) (p := 32) rfl ?_); refine store_event (t := 4) (p := 32) (v := ?vo_c) (w1 := ?w1_c) ?hg ?ho ?hn ?hr ?_; (case ho => rfl); (case hg => rfl); (case hn => rfl); (case hr => first | (go_simp; done) | (go_simp; rfl)); intro wc_ hw; have hms_ : Marked _ wc_ := (by rw [hw]; exact Marked.set hxc (.inr (.inr ⟨_, _, rfl, rfl⟩))); have n1_ := Q_ (show Below w0.heap.size w0 wc_ from by rw [hw]; exact below_set HB.1 j.1); have n2_ := Q_ (show Kept w wc_ (fun k_ => P0_ k_) from by rw [hw]; exact Kept.setCell HK.1 (.inl PG6.1) _); have n3_ := Q_ (HM.1.trans hms_); obtain ⟨Xc, HOc, hrc⟩ := R_like sh_k89 hms_ HO.1; have HSc := Q_ (RowsS.trans sh89_trans HS.1 hrc); clear HO HS hrc HE; have HO := Q_ HOc; have HS := HSc; clear HOc HSc; have HE := Q_ (HS.1.at z89 HII.1); rw [← g.1, ← HTI.1] at HE; clear HB HK HM hms_ hxc hfc hw; have HB := n1_; have HK := n2_; have HM := n3_; clear n1_ n2_ n3_; obtain ⟨cd, hcld, hMd, hccd, hfrd⟩ := Kd.R_elem HO.1 z89 a HP6.1 h.1; obtain ⟨Ed, hEd⟩ : ∃ e_ : S89, e_ = Xc.getD (a : Int).toNat z89 := ⟨_, rfl⟩; rw [← hEd] at hMd HE; clear hEd; obtain ⟨vd_5, vd_7, rfl, gd_5, gd_7⟩ := k89_openM hMd; have hxd : wc_.cell? ⟨b, (a : Int).toNat * 8 + 3, none⟩ = some (.bool Ed.f3.f0.f0) := hccd 3 _ rfl; have hfd : wc_.frozen? ⟨b, (a : Int).toNat * 8 + 3, none⟩ = false := hfrd 3; clear hcld hccd hfrd; clear gd_5 gd_7; try clear hMd)
  | ((with_reducible refine gate_store (t := 4) (p := 43) rfl ?_); refine store_event (t := 4) (p := 43) (v := ?vo_d) (w1 := ?w1_d) ?hg ?ho ?hn ?hr ?_; (case ho => rfl); (case hg => rfl); (case hn => rfl); (case hr => first | (go_simp; done) | (go_simp; rfl)); intro wd_ hw; have hms_ : Marked _ wd_ := (by rw [hw]; exact Marked.set hxd (.inr (.inr ⟨_, _, rfl, rfl⟩))); have n1_ := Q_ (show Below w0.heap.size w0 wd_ from by rw [hw]; exact below_set HB.1 j.1); have n2_ := Q_ (show Kept w wd_ (fun k_ => P0_ k_) from by rw [hw]; exact Kept.setCell HK.1 (.inl PG6.1) _); have n3_ := Q_ (HM.1.trans hms_); obtain ⟨Xd, HOd, hrd⟩ := R_like sh_k89 hms_ HO.1; have HSd := Q_ (RowsS.trans sh89_trans HS.1 hrd); clear HO HS hrd HE; have HO := Q_ HOd; have HS := HSd; clear HOd HSd; have HE := Q_ (HS.1.at z89 HII.1); rw [← g.1, ← HTI.1] at HE; clear HB HK HM hms_ hxd hfd hw; have HB := n1_; have HK := n2_; have HM := n3_; clear n1_ n2_ n3_; obtain ⟨ce, hcle, hMe, hcce, hfre⟩ := Kd.R_elem HO.1 z89 a HP6.1 h.1; obtain ⟨Ee, hEe⟩ : ∃ e_ : S89, e_ = Xd.getD (a : Int).toNat z89 := ⟨_, rfl⟩; rw [← hEe] at hMe HE; clear hEe; obtain ⟨ve_5, ve_7, rfl, ge_5, ge_7⟩ := k89_openM hMe; have hxe : wd_.cell? ⟨b, (a : Int).toNat * 8 + 4, none⟩ = some (.int .i64 Ee.f3.f0.f1) := hcce 4 _ rfl; have hfe : wd_.frozen? ⟨b, (a : Int).toNat * 8 + 4, none⟩ = false := hfre 4; clear hcle hcce hfre; clear ge_5 ge_7; try clear hMe)
  | ((with_reducible refine gate_store (t := 3) (p := 52) rfl ?_); refine store_event (t := 3) (p := 52) (v := ?vo_e) (w1 := ?w1_e) ?hg ?ho ?hn ?hr ?_; (case ho => rfl); (case hg => rfl); (case hn => rfl); (case hr => first | (go_simp; done) | (go_simp; rfl)); intro we_ hw; have hms_ : Marked _ we_ := (by rw [hw]; exact Marked.set hxe (.inr (.inl ⟨_, _, _, rfl, rfl⟩))); have n1_ := Q_ (show Below w0.heap.size w0 we_ from by rw [hw]; exact below_set HB.1 j.1); have n2_ := Q_ (show Kept w we_ (fun k_ => P0_ k_) from by rw [hw]; exact Kept.setCell HK.1 (.inl PG6.1) _); have n3_ := Q_ (HM.1.trans hms_); obtain ⟨Xe, HOe, hre⟩ := R_like sh_k89 hms_ HO.1; have HSe := Q_ (RowsS.trans sh89_trans HS.1 hre); clear HO HS hre HE; have HO := Q_ HOe; have HS := HSe; clear HOe HSe; have HE := Q_ (HS.1.at z89 HII.1); rw [← g.1, ← HTI.1] at HE; clear HB HK HM hms_ hxe hfe hw; have HB := n1_; have HK := n2_; have HM := n3_; clear n1_ n2_ n3_; obtain ⟨cf, hclf, hMf, hccf, hfrf⟩ := Kd.R_elem HO.1 z89 a HP6.1 h.1; obtain ⟨Ef, hEf⟩ : ∃ e_ : S89, e_ = Xe.getD (a : Int).toNat z89 := ⟨_, rfl⟩; rw [← hEf] at hMf HE; clear hEf; obtain ⟨vf_5, vf_7, rfl, gf_5, gf_7⟩ := k89_openM hMf; obtain ⟨Af, bf, ef⟩ := Kd.R_slice gf_5; subst ef; have hxf : we_.cell? ⟨b, (a : Int).toNat * 8 + 5, none⟩ = some (.slice Af Ef.f3.f0.f2.length bf) := hccf 5 _ rfl; have HGf := Q_ (Kd.R_mono gf_5 (fun k_ h_ => h_.1)); clear hclf hccf hfrf; clear gf_5 gf_7; try clear hMf)
  | ((with_reducible refine gate_callee (f := 12) rfl ?_); refine goesL_ (some 63) rfl rfl Try.func12 (by kernel_rfl) rfl #[(.slice Af Ef.f3.f0.f2.length bf), .int .i64 (wrap64 ((wrap64 ((wrap64 ((wrap64 ((wrap64 (c + 1)) + 1)) + 1)) + 1)) + 1))] rfl mp_ ?_; (with_reducible refine (laws_markIntS.callsM P0_ (.slice Af Ef.f3.f0.f2.length bf) Ef.f3.f0.f2 (wrap64 ((wrap64 ((wrap64 ((wrap64 ((wrap64 (c + 1)) + 1)) + 1)) + 1)) + 1)) w0 _ ?side1 ?side2).mono ?_); (case side1 => exact pb_ HB.1); (case side2 => exact pr_ HGf.1); rintro e wf_ ⟨he_, hb, hkp, hms0_⟩; rw [HE.1.1] at he_; subst he_; refine ⟨_, rfl, ?_⟩; have hms_ := Marked.trans (qn_ (Marked.refl _)) hms0_; have n1_ := Q_ hb; have n2_ := Q_ (Kept.then_ (S := (fun k_ => P0_ k_)) (qm_ HK.1) hkp (fun k_ hs_ => .inl hs_)); have n3_ := Q_ (Marked.trans (qn_ HM.1) hms0_); obtain ⟨Xf, HOf, hrf⟩ := R_like sh_k89 hms_ HO.1; have HSf := Q_ (RowsS.trans sh89_trans HS.1 hrf); clear HO HS hrf HE; have HO := Q_ HOf; have HS := HSf; clear HOf HSf; have HE := Q_ (HS.1.at z89 HII.1); rw [← g.1, ← HTI.1] at HE; clear HB HK HM hms_ hms0_ hb hkp hxf HGf; have HB := n1_; have HK := n2_; have HM := n3_; clear n1_ n2_ n3_; obtain ⟨cg, hclg, hMg, hccg, hfrg⟩ := Kd.R_elem HO.1 z89 a HP6.1 h.1; obtain ⟨Eg, hEg⟩ : ∃ e_ : S89, e_ = Xf.getD (a : Int).toNat z89 := ⟨_, rfl⟩; rw [← hEg] at hMg HE; clear hEg; obtain ⟨vg_5, vg_7, rfl, gg_5, gg_7⟩ := k89_openM hMg; have hxg : wf_.cell? ⟨b, (a : Int).toNat * 8 + 6, none⟩ = some (.int .i64 Eg.f3.f1) := hccg 6 _ rfl; have hfg : wf_.frozen? ⟨b, (a : Int).toNat * 8 + 6, none⟩ = false := hfrg 6; clear hclg hccg hfrg; clear gg_5 gg_7; try clear hMg)
  | ((with_reducible refine gate_store (t := 3) (p := 69) rfl ?_); refine store_event (t := 3) (p := 69) (v := ?vo_g) (w1 := ?w1_g) ?hg ?ho ?hn ?hr ?_; (case ho => rfl); (case hg => rfl); (case hn => rfl); (case hr => first | (go_simp; done) | (go_simp; rfl)); intro wg_ hw; have hms_ : Marked _ wg_ := (by rw [hw]; exact Marked.set hxg (.inr (.inl ⟨_, _, _, rfl, rfl⟩))); have n1_ := Q_ (show Below w0.heap.size w0 wg_ from by rw [hw]; exact below_set HB.1 j.1); have n2_ := Q_ (show Kept w wg_ (fun k_ => P0_ k_) from by rw [hw]; exact Kept.setCell HK.1 (.inl PG6.1) _); have n3_ := Q_ (HM.1.trans hms_); obtain ⟨Xg, HOg, hrg⟩ := R_like sh_k89 hms_ HO.1; have HSg := Q_ (RowsS.trans sh89_trans HS.1 hrg); clear HO HS hrg HE; have HO := Q_ HOg; have HS := HSg; clear HOg HSg; have HE := Q_ (HS.1.at z89 HII.1); rw [← g.1, ← HTI.1] at HE; clear HB HK HM hms_ hxg hfg hw; have HB := n1_; have HK := n2_; have HM := n3_; clear n1_ n2_ n3_; obtain ⟨ch, hclh, hMh, hcch, hfrh⟩ := Kd.R_elem HO.1 z89 a HP6.1 h.1; obtain ⟨Eh, hEh⟩ : ∃ e_ : S89, e_ = Xg.getD (a : Int).toNat z89 := ⟨_, rfl⟩; rw [← hEh] at hMh HE; clear hEh; obtain ⟨vh_5, vh_7, rfl, gh_5, gh_7⟩ := k89_openM hMh; obtain ⟨Ah, bh, eh⟩ := Kd.R_slice gh_7; subst eh; have hxh : wg_.cell? ⟨b, (a : Int).toNat * 8 + 7, none⟩ = some (.slice Ah Eh.f3.f2.length bh) := hcch 7 _ rfl; have HGh := Q_ (Kd.R_mono gh_7 (fun k_ h_ => h_.1)); clear hclh hcch hfrh; clear gh_5 gh_7; try clear hMh)
  | ((with_reducible refine gate_callee (f := 12) rfl ?_); refine goesL_ (some 79) rfl rfl Try.func12 (by kernel_rfl) rfl #[(.slice Ah Eh.f3.f2.length bh), .int .i64 (wrap64 ((cnt E0.f3.f0.f2.length (wrap64 ((wrap64 ((wrap64 ((wrap64 ((wrap64 (c + 1)) + 1)) + 1)) + 1)) + 1))) + 1))] rfl mp_ ?_; (with_reducible refine (laws_markIntS.callsM P0_ (.slice Ah Eh.f3.f2.length bh) Eh.f3.f2 (wrap64 ((cnt E0.f3.f0.f2.length (wrap64 ((wrap64 ((wrap64 ((wrap64 ((wrap64 (c + 1)) + 1)) + 1)) + 1)) + 1))) + 1)) w0 _ ?side1 ?side2).mono ?_); (case side1 => exact pb_ HB.1); (case side2 => exact pr_ HGh.1); rintro e wh_ ⟨he_, hb, hkp, hms0_⟩; rw [HE.1.2] at he_; subst he_; refine ⟨_, rfl, ?_⟩; have hms_ := Marked.trans (qn_ (Marked.refl _)) hms0_; have n1_ := Q_ hb; have n2_ := Q_ (Kept.then_ (S := (fun k_ => P0_ k_)) (qm_ HK.1) hkp (fun k_ hs_ => .inl hs_)); have n3_ := Q_ (Marked.trans (qn_ HM.1) hms0_); obtain ⟨Xh, HOh, hrh⟩ := R_like sh_k89 hms_ HO.1; have HSh := Q_ (RowsS.trans sh89_trans HS.1 hrh); clear HO HS hrh HE; have HO := Q_ HOh; have HS := HSh; clear HOh HSh; have HE := Q_ (HS.1.at z89 HII.1); rw [← g.1, ← HTI.1] at HE; clear HB HK HM hms_ hms0_ hb hkp hxh HGh; have HB := n1_; have HK := n2_; have HM := n3_; clear n1_ n2_ n3_))
 go_roundg k1
 case measure => omega
 case rel => exact ⟨_, (cnt E0.f3.f2.length (wrap64 ((cnt E0.f3.f0.f2.length (wrap64 ((wrap64 ((wrap64 ((wrap64 ((wrap64 (c + 1)) + 1)) + 1)) + 1)) + 1))) + 1))), (wrap64 (a + 1)), i_1 + 1, el_, el_, HW5, ⟨by have := HN.1.1; omega, by have := HII.1; omega⟩, HS, ⟨by have h_ := HV.1; rw [getD_cons_drop z89 HII.1, ← g.1] at h_; exact h_⟩, ⟨pr_ HO.1⟩, ⟨qm_ HK.1⟩, ⟨qn_ HM.1⟩, ⟨pb_ HB.1⟩⟩


/-! ### laws_markWorld: function 11, by shapes -/
theorem laws_markWorld.callsM (P0_0_ : Nat → Prop) (u9000_ : Value) (c : List Int) (P0_1_ : Nat → Prop) (u9001_ : Value) (j : List Int) (C : Int) (P0_3_ : Nat → Prop) (u9002_ : Value) (k : List S56) (o : Int) (P0_5_ : Nat → Prop) (u9003_ : Value) (m : List Int) (p : Int) (q : Bool) (D : Int) (E : Int) (P0_10_ : Nat → Prop) (u9004_ : Value) (l : List S86) (P0_11_ : Nat → Prop) (u9005_ : Value) (n : List S89) (u : Int) (v : Int) (x : Int) (r : Int) (w0 w : World) (hB : Below w0.heap.size w0 w) (y : Kd.R (Kd.int .i64) 3 w w0.heap.size P0_0_ u9000_ c) (z : Kd.R (Kd.int .i64) 3 w w0.heap.size P0_1_ u9001_ j) (A : Kd.R k56 56 w w0.heap.size P0_3_ u9002_ k) (B : Kd.R (Kd.int .i64) 3 w w0.heap.size P0_5_ u9003_ m) (s : Kd.R k86 86 w w0.heap.size P0_10_ u9004_ l) (t : Kd.R k89 89 w w0.heap.size P0_11_ u9005_ n) :
  Calls Try.prog 11 #[.agg #[u9000_, u9001_, .int .i64 C, u9002_, .int .i64 o, u9003_, .int .i64 p, .bool q, .int .i64 D, .int .i64 E, u9004_, u9005_, .int .i64 u, .int .i64 v, .int .i64 x], .int .i64 r] w fun e w' => e = .returned (.int .i64 (markC89 n (markC86 l (cnt m.length (markC56 k (cnt j.length (cnt c.length r))))))) ∧ Below w0.heap.size w0 w' ∧ Kept w w' (fun k_ => (P0_0_ k_ ∨ P0_1_ k_ ∨ P0_3_ k_ ∨ P0_5_ k_ ∨ P0_10_ k_ ∨ P0_11_ k_)) ∧ Marked w w' := by
 have hu37 := Try.underlying37
 have hu33 := Try.underlying33
 have d := Q_ (show Kd.R (Kd.int .i64) 3 w w0.heap.size (fun k_ => P0_0_ k_ ∧ k_ < w.heap.size) u9000_ c from Kd.R_mono (Kd.R_bound y) (fun k_ hk => ⟨hk.1, hk.2.2.1⟩))
 have HS0 := Q_ (show c.length = c.length from rfl)
 have g := Q_ (show Kd.R (Kd.int .i64) 3 w w0.heap.size (fun k_ => P0_1_ k_ ∧ k_ < w.heap.size) u9001_ j from Kd.R_mono (Kd.R_bound z) (fun k_ hk => ⟨hk.1, hk.2.2.1⟩))
 have HS1 := Q_ (show j.length = j.length from rfl)
 have h := Q_ (show Kd.R k56 56 w w0.heap.size (fun k_ => P0_3_ k_ ∧ k_ < w.heap.size) u9002_ k from Kd.R_mono (Kd.R_bound A) (fun k_ hk => ⟨hk.1, hk.2.2.1⟩))
 have HS3 := Q_ (show RowsS sh56 k k from RowsS.refl (fun _ => sh56_refl _) _)
 have i := Q_ (show Kd.R (Kd.int .i64) 3 w w0.heap.size (fun k_ => P0_5_ k_ ∧ k_ < w.heap.size) u9003_ m from Kd.R_mono (Kd.R_bound B) (fun k_ hk => ⟨hk.1, hk.2.2.1⟩))
 have HS5 := Q_ (show m.length = m.length from rfl)
 have a := Q_ (show Kd.R k86 86 w w0.heap.size (fun k_ => P0_10_ k_ ∧ k_ < w.heap.size) u9004_ l from Kd.R_mono (Kd.R_bound s) (fun k_ hk => ⟨hk.1, hk.2.2.1⟩))
 have HS10 := Q_ (show RowsS sh86 l l from RowsS.refl (fun _ => sh86_refl _) _)
 have b := Q_ (show Kd.R k89 89 w w0.heap.size (fun k_ => P0_11_ k_ ∧ k_ < w.heap.size) u9005_ n from Kd.R_mono (Kd.R_bound t) (fun k_ hk => ⟨hk.1, hk.2.2.1⟩))
 have HS11 := Q_ (show RowsS sh89 n n from RowsS.refl (fun _ => sh89_refl _) _)
 have HK := Q_ (Kept.refl w (fun k_ => (P0_0_ k_ ∨ P0_1_ k_ ∨ P0_3_ k_ ∨ P0_5_ k_ ∨ P0_10_ k_ ∨ P0_11_ k_)))
 have HM := Q_ (Marked.refl w)
 have HB := Q_ hB
 clear hB y z A B s t
 go_enter Try.func11, Try.ntmps11
 go_wp2_with (first
  | ((with_reducible refine gate_dst (N := 2) rfl ?_); refine bx_ 2 #[u9000_, u9001_, .int .i64 C, u9002_, .int .i64 o, u9003_, .int .i64 p, .bool q, .int .i64 D, .int .i64 E, u9004_, u9005_, .int .i64 u, .int .i64 v, .int .i64 x] 37 ?_; intro gb hg wx hbox hb; have m0_ := Q_ (Kd.R_below (pr_ d.1) hb); have m1_ := Q_ (Kd.R_below (pr_ g.1) hb); have m3_ := Q_ (Kd.R_below (pr_ h.1) hb); have m5_ := Q_ (Kd.R_below (pr_ i.1) hb); have m10_ := Q_ (Kd.R_below (pr_ a.1) hb); have m11_ := Q_ (Kd.R_below (pr_ b.1) hb); have hk_ := Q_ (Kept.below (qm_ HK.1) hb); have hm_ := Q_ (Marked.below (qn_ HM.1) hb); have hb_ := Q_ (below_step (pb_ HB.1) hb); have BK := Q_ hbox; have GW := Q_ (show w.heap.size ≤ gb from by rw [hg]; exact (qn_ HM.1 : Marked w _).size); clear d g h i a b HK HM HB hb hbox hg; have d := m0_; have g := m1_; have h := m3_; have i := m5_; have a := m10_; have b := m11_; have HK := hk_; have HM := hm_; have HB := hb_; clear m0_ m1_ m3_ m5_ m10_ m11_ hk_ hm_ hb_; have hcz := bc15_ BK.1)
  | ((with_reducible refine gate_callee (f := 12) rfl ?_); refine goesL_ (some 8) rfl rfl Try.func12 (by kernel_rfl) rfl #[u9000_, .int .i64 r] rfl mp_ ?_; (with_reducible refine (laws_markIntS.callsM (fun k_ => P0_0_ k_ ∧ k_ < w.heap.size) u9000_ c r w0 _ ?side1 ?side2).mono ?_); (case side1 => exact pb_ HB.1); (case side2 => exact pr_ d.1); rintro e wa_ ⟨he_, hb, hkp, hms0_⟩; rw [HS0.1] at he_; subst he_; refine ⟨_, rfl, ?_⟩; have hms_ := Marked.trans (qn_ (Marked.refl _)) hms0_; obtain ⟨Xa0, h0_, r0_⟩ := R_like (Sh.int .i64) hms_ d.1; have n0_ := Q_ (r0_.1.trans HS0.1); clear d HS0 r0_; have d := Q_ h0_; have HS0 := n0_; clear h0_ n0_; obtain ⟨Xa1, h1_, r1_⟩ := R_like (Sh.int .i64) hms_ g.1; have n1_ := Q_ (r1_.1.trans HS1.1); clear g HS1 r1_; have g := Q_ h1_; have HS1 := n1_; clear h1_ n1_; obtain ⟨Xa3, h3_, r3_⟩ := R_like sh_k56 hms_ h.1; have n3_ := Q_ (RowsS.trans sh56_trans HS3.1 r3_); clear h HS3 r3_; have h := Q_ h3_; have HS3 := n3_; clear h3_ n3_; obtain ⟨Xa5, h5_, r5_⟩ := R_like (Sh.int .i64) hms_ i.1; have n5_ := Q_ (r5_.1.trans HS5.1); clear i HS5 r5_; have i := Q_ h5_; have HS5 := n5_; clear h5_ n5_; obtain ⟨Xa10, h10_, r10_⟩ := R_like sh_k86 hms_ a.1; have n10_ := Q_ (RowsS.trans sh86_trans HS10.1 r10_); clear a HS10 r10_; have a := Q_ h10_; have HS10 := n10_; clear h10_ n10_; obtain ⟨Xa11, h11_, r11_⟩ := R_like sh_k89 hms_ b.1; have n11_ := Q_ (RowsS.trans sh89_trans HS11.1 r11_); clear b HS11 r11_; have b := Q_ h11_; have HS11 := n11_; clear h11_ n11_; have hb2_ := Q_ (blk_kept BK.1 hkp (fun h_ => by have := h_.2; have := GW.1; omega)); have hk_ := Q_ (Kept.then_ (S := (fun k_ => (P0_0_ k_ ∨ P0_1_ k_ ∨ P0_3_ k_ ∨ P0_5_ k_ ∨ P0_10_ k_ ∨ P0_11_ k_))) (qm_ HK.1) hkp (fun k_ hs_ => .inl (.inl hs_.1))); have hm_ := Q_ (Marked.trans (qn_ HM.1) hms0_); have hb_ := Q_ hb; clear HK HM HB BK hb hkp hms_ hms0_; have HK := hk_; have HM := hm_; have HB := hb_; clear hk_ hm_ hb_; have BK := hb2_; clear hb2_; have hcza := bc15_ BK.1)
  | ((with_reducible refine gate_callee (f := 12) rfl ?_); refine goesL_ (some 12) rfl rfl Try.func12 (by kernel_rfl) rfl #[u9001_, .int .i64 (cnt c.length r)] rfl mp_ ?_; (with_reducible refine (laws_markIntS.callsM (fun k_ => P0_1_ k_ ∧ k_ < w.heap.size) u9001_ Xa1 (cnt c.length r) w0 _ ?side1 ?side2).mono ?_); (case side1 => exact pb_ HB.1); (case side2 => exact pr_ g.1); rintro e wb_ ⟨he_, hb, hkp, hms0_⟩; rw [HS1.1] at he_; subst he_; refine ⟨_, rfl, ?_⟩; have hms_ := Marked.trans (qn_ (Marked.refl _)) hms0_; obtain ⟨Xb0, h0_, r0_⟩ := R_like (Sh.int .i64) hms_ d.1; have n0_ := Q_ (r0_.1.trans HS0.1); clear d HS0 r0_; have d := Q_ h0_; have HS0 := n0_; clear h0_ n0_; obtain ⟨Xb1, h1_, r1_⟩ := R_like (Sh.int .i64) hms_ g.1; have n1_ := Q_ (r1_.1.trans HS1.1); clear g HS1 r1_; have g := Q_ h1_; have HS1 := n1_; clear h1_ n1_; obtain ⟨Xb3, h3_, r3_⟩ := R_like sh_k56 hms_ h.1; have n3_ := Q_ (RowsS.trans sh56_trans HS3.1 r3_); clear h HS3 r3_; have h := Q_ h3_; have HS3 := n3_; clear h3_ n3_; obtain ⟨Xb5, h5_, r5_⟩ := R_like (Sh.int .i64) hms_ i.1; have n5_ := Q_ (r5_.1.trans HS5.1); clear i HS5 r5_; have i := Q_ h5_; have HS5 := n5_; clear h5_ n5_; obtain ⟨Xb10, h10_, r10_⟩ := R_like sh_k86 hms_ a.1; have n10_ := Q_ (RowsS.trans sh86_trans HS10.1 r10_); clear a HS10 r10_; have a := Q_ h10_; have HS10 := n10_; clear h10_ n10_; obtain ⟨Xb11, h11_, r11_⟩ := R_like sh_k89 hms_ b.1; have n11_ := Q_ (RowsS.trans sh89_trans HS11.1 r11_); clear b HS11 r11_; have b := Q_ h11_; have HS11 := n11_; clear h11_ n11_; have hb2_ := Q_ (blk_kept BK.1 hkp (fun h_ => by have := h_.2; have := GW.1; omega)); have hk_ := Q_ (Kept.then_ (S := (fun k_ => (P0_0_ k_ ∨ P0_1_ k_ ∨ P0_3_ k_ ∨ P0_5_ k_ ∨ P0_10_ k_ ∨ P0_11_ k_))) (qm_ HK.1) hkp (fun k_ hs_ => .inl (.inr (.inl hs_.1)))); have hm_ := Q_ (Marked.trans (qn_ HM.1) hms0_); have hb_ := Q_ hb; clear HK HM HB BK hb hkp hms_ hms0_; have HK := hk_; have HM := hm_; have HB := hb_; clear hk_ hm_ hb_; have BK := hb2_; clear hb2_; have hczb := bc15_ BK.1)
  | ((with_reducible refine gate_callee (f := 35) rfl ?_); refine goesL_ (some 16) rfl rfl Try.func35 (by kernel_rfl) rfl #[u9002_, .int .i64 (cnt j.length (cnt c.length r))] rfl mp_ ?_; (with_reducible refine (laws_markEndpointS.callsM (fun k_ => P0_3_ k_ ∧ k_ < w.heap.size) u9002_ Xb3 (cnt j.length (cnt c.length r)) w0 _ ?side1 ?side2).mono ?_); (case side1 => exact pb_ HB.1); (case side2 => exact pr_ h.1); rintro e wc_ ⟨he_, hb, hkp, hms0_⟩; rw [markC56_like HS3.1] at he_; subst he_; refine ⟨_, rfl, ?_⟩; have hms_ := Marked.trans (qn_ (Marked.refl _)) hms0_; obtain ⟨Xc0, h0_, r0_⟩ := R_like (Sh.int .i64) hms_ d.1; have n0_ := Q_ (r0_.1.trans HS0.1); clear d HS0 r0_; have d := Q_ h0_; have HS0 := n0_; clear h0_ n0_; obtain ⟨Xc1, h1_, r1_⟩ := R_like (Sh.int .i64) hms_ g.1; have n1_ := Q_ (r1_.1.trans HS1.1); clear g HS1 r1_; have g := Q_ h1_; have HS1 := n1_; clear h1_ n1_; obtain ⟨Xc3, h3_, r3_⟩ := R_like sh_k56 hms_ h.1; have n3_ := Q_ (RowsS.trans sh56_trans HS3.1 r3_); clear h HS3 r3_; have h := Q_ h3_; have HS3 := n3_; clear h3_ n3_; obtain ⟨Xc5, h5_, r5_⟩ := R_like (Sh.int .i64) hms_ i.1; have n5_ := Q_ (r5_.1.trans HS5.1); clear i HS5 r5_; have i := Q_ h5_; have HS5 := n5_; clear h5_ n5_; obtain ⟨Xc10, h10_, r10_⟩ := R_like sh_k86 hms_ a.1; have n10_ := Q_ (RowsS.trans sh86_trans HS10.1 r10_); clear a HS10 r10_; have a := Q_ h10_; have HS10 := n10_; clear h10_ n10_; obtain ⟨Xc11, h11_, r11_⟩ := R_like sh_k89 hms_ b.1; have n11_ := Q_ (RowsS.trans sh89_trans HS11.1 r11_); clear b HS11 r11_; have b := Q_ h11_; have HS11 := n11_; clear h11_ n11_; have hb2_ := Q_ (blk_kept BK.1 hkp (fun h_ => by have := h_.2; have := GW.1; omega)); have hk_ := Q_ (Kept.then_ (S := (fun k_ => (P0_0_ k_ ∨ P0_1_ k_ ∨ P0_3_ k_ ∨ P0_5_ k_ ∨ P0_10_ k_ ∨ P0_11_ k_))) (qm_ HK.1) hkp (fun k_ hs_ => .inl (.inr (.inr (.inl hs_.1))))); have hm_ := Q_ (Marked.trans (qn_ HM.1) hms0_); have hb_ := Q_ hb; clear HK HM HB BK hb hkp hms_ hms0_; have HK := hk_; have HM := hm_; have HB := hb_; clear hk_ hm_ hb_; have BK := hb2_; clear hb2_; have hczc := bc15_ BK.1)
  | ((with_reducible refine gate_callee (f := 36) rfl ?_); refine goesL_ (some 20) rfl rfl Try.func36 (by kernel_rfl) rfl #[.agg #[.int .i64 o, u9003_, .int .i64 p, .bool q], .int .i64 (markC56 k (cnt j.length (cnt c.length r)))] rfl mp_ ?_; (with_reducible refine (laws_markRollout.callsM o (fun k_ => P0_5_ k_ ∧ k_ < w.heap.size) u9003_ Xc5 p q (markC56 k (cnt j.length (cnt c.length r))) w0 _ ?side1 ?side2).mono ?_); (case side1 => exact pb_ HB.1); (case side2 => exact pr_ i.1); rintro e wd_ ⟨he_, hb, hkp, hms0_⟩; rw [HS5.1] at he_; subst he_; refine ⟨_, rfl, ?_⟩; have hms_ := Marked.trans (qn_ (Marked.refl _)) hms0_; obtain ⟨Xd0, h0_, r0_⟩ := R_like (Sh.int .i64) hms_ d.1; have n0_ := Q_ (r0_.1.trans HS0.1); clear d HS0 r0_; have d := Q_ h0_; have HS0 := n0_; clear h0_ n0_; obtain ⟨Xd1, h1_, r1_⟩ := R_like (Sh.int .i64) hms_ g.1; have n1_ := Q_ (r1_.1.trans HS1.1); clear g HS1 r1_; have g := Q_ h1_; have HS1 := n1_; clear h1_ n1_; obtain ⟨Xd3, h3_, r3_⟩ := R_like sh_k56 hms_ h.1; have n3_ := Q_ (RowsS.trans sh56_trans HS3.1 r3_); clear h HS3 r3_; have h := Q_ h3_; have HS3 := n3_; clear h3_ n3_; obtain ⟨Xd5, h5_, r5_⟩ := R_like (Sh.int .i64) hms_ i.1; have n5_ := Q_ (r5_.1.trans HS5.1); clear i HS5 r5_; have i := Q_ h5_; have HS5 := n5_; clear h5_ n5_; obtain ⟨Xd10, h10_, r10_⟩ := R_like sh_k86 hms_ a.1; have n10_ := Q_ (RowsS.trans sh86_trans HS10.1 r10_); clear a HS10 r10_; have a := Q_ h10_; have HS10 := n10_; clear h10_ n10_; obtain ⟨Xd11, h11_, r11_⟩ := R_like sh_k89 hms_ b.1; have n11_ := Q_ (RowsS.trans sh89_trans HS11.1 r11_); clear b HS11 r11_; have b := Q_ h11_; have HS11 := n11_; clear h11_ n11_; have hb2_ := Q_ (blk_kept BK.1 hkp (fun h_ => by have := h_.2; have := GW.1; omega)); have hk_ := Q_ (Kept.then_ (S := (fun k_ => (P0_0_ k_ ∨ P0_1_ k_ ∨ P0_3_ k_ ∨ P0_5_ k_ ∨ P0_10_ k_ ∨ P0_11_ k_))) (qm_ HK.1) hkp (fun k_ hs_ => .inl (.inr (.inr (.inr (.inl hs_.1)))))); have hm_ := Q_ (Marked.trans (qn_ HM.1) hms0_); have hb_ := Q_ hb; clear HK HM HB BK hb hkp hms_ hms0_; have HK := hk_; have HM := hm_; have HB := hb_; clear hk_ hm_ hb_; have BK := hb2_; clear hb2_; have hczd := bc15_ BK.1)
  | ((with_reducible refine gate_callee (f := 37) rfl ?_); refine goesL_ (some 24) rfl rfl Try.func37 (by kernel_rfl) rfl #[u9004_, .int .i64 (cnt m.length (markC56 k (cnt j.length (cnt c.length r))))] rfl mp_ ?_; (with_reducible refine (laws_markDialedS.callsM (fun k_ => P0_10_ k_ ∧ k_ < w.heap.size) u9004_ Xd10 (cnt m.length (markC56 k (cnt j.length (cnt c.length r)))) w0 _ ?side1 ?side2).mono ?_); (case side1 => exact pb_ HB.1); (case side2 => exact pr_ a.1); rintro e we_ ⟨he_, hb, hkp, hms0_⟩; rw [markC86_like HS10.1] at he_; subst he_; refine ⟨_, rfl, ?_⟩; have hms_ := Marked.trans (qn_ (Marked.refl _)) hms0_; obtain ⟨Xe0, h0_, r0_⟩ := R_like (Sh.int .i64) hms_ d.1; have n0_ := Q_ (r0_.1.trans HS0.1); clear d HS0 r0_; have d := Q_ h0_; have HS0 := n0_; clear h0_ n0_; obtain ⟨Xe1, h1_, r1_⟩ := R_like (Sh.int .i64) hms_ g.1; have n1_ := Q_ (r1_.1.trans HS1.1); clear g HS1 r1_; have g := Q_ h1_; have HS1 := n1_; clear h1_ n1_; obtain ⟨Xe3, h3_, r3_⟩ := R_like sh_k56 hms_ h.1; have n3_ := Q_ (RowsS.trans sh56_trans HS3.1 r3_); clear h HS3 r3_; have h := Q_ h3_; have HS3 := n3_; clear h3_ n3_; obtain ⟨Xe5, h5_, r5_⟩ := R_like (Sh.int .i64) hms_ i.1; have n5_ := Q_ (r5_.1.trans HS5.1); clear i HS5 r5_; have i := Q_ h5_; have HS5 := n5_; clear h5_ n5_; obtain ⟨Xe10, h10_, r10_⟩ := R_like sh_k86 hms_ a.1; have n10_ := Q_ (RowsS.trans sh86_trans HS10.1 r10_); clear a HS10 r10_; have a := Q_ h10_; have HS10 := n10_; clear h10_ n10_; obtain ⟨Xe11, h11_, r11_⟩ := R_like sh_k89 hms_ b.1; have n11_ := Q_ (RowsS.trans sh89_trans HS11.1 r11_); clear b HS11 r11_; have b := Q_ h11_; have HS11 := n11_; clear h11_ n11_; have hb2_ := Q_ (blk_kept BK.1 hkp (fun h_ => by have := h_.2; have := GW.1; omega)); have hk_ := Q_ (Kept.then_ (S := (fun k_ => (P0_0_ k_ ∨ P0_1_ k_ ∨ P0_3_ k_ ∨ P0_5_ k_ ∨ P0_10_ k_ ∨ P0_11_ k_))) (qm_ HK.1) hkp (fun k_ hs_ => .inl (.inr (.inr (.inr (.inr (.inl hs_.1))))))); have hm_ := Q_ (Marked.trans (qn_ HM.1) hms0_); have hb_ := Q_ hb; clear HK HM HB BK hb hkp hms_ hms0_; have HK := hk_; have HM := hm_; have HB := hb_; clear hk_ hm_ hb_; have BK := hb2_; clear hb2_; have hcze := bc15_ BK.1)
  | ((with_reducible refine gate_callee (f := 38) rfl ?_); refine goesL_ (some 28) rfl rfl Try.func38 (by kernel_rfl) rfl #[u9005_, .int .i64 (markC86 l (cnt m.length (markC56 k (cnt j.length (cnt c.length r)))))] rfl mp_ ?_; (with_reducible refine (laws_markLoggedS.callsM (fun k_ => P0_11_ k_ ∧ k_ < w.heap.size) u9005_ Xe11 (markC86 l (cnt m.length (markC56 k (cnt j.length (cnt c.length r))))) w0 _ ?side1 ?side2).mono ?_); (case side1 => exact pb_ HB.1); (case side2 => exact pr_ b.1); rintro e wf_ ⟨he_, hb, hkp, hms0_⟩; rw [markC89_like HS11.1] at he_; subst he_; refine ⟨_, rfl, ?_⟩; have hms_ := Marked.trans (qn_ (Marked.refl _)) hms0_; obtain ⟨Xf0, h0_, r0_⟩ := R_like (Sh.int .i64) hms_ d.1; have n0_ := Q_ (r0_.1.trans HS0.1); clear d HS0 r0_; have d := Q_ h0_; have HS0 := n0_; clear h0_ n0_; obtain ⟨Xf1, h1_, r1_⟩ := R_like (Sh.int .i64) hms_ g.1; have n1_ := Q_ (r1_.1.trans HS1.1); clear g HS1 r1_; have g := Q_ h1_; have HS1 := n1_; clear h1_ n1_; obtain ⟨Xf3, h3_, r3_⟩ := R_like sh_k56 hms_ h.1; have n3_ := Q_ (RowsS.trans sh56_trans HS3.1 r3_); clear h HS3 r3_; have h := Q_ h3_; have HS3 := n3_; clear h3_ n3_; obtain ⟨Xf5, h5_, r5_⟩ := R_like (Sh.int .i64) hms_ i.1; have n5_ := Q_ (r5_.1.trans HS5.1); clear i HS5 r5_; have i := Q_ h5_; have HS5 := n5_; clear h5_ n5_; obtain ⟨Xf10, h10_, r10_⟩ := R_like sh_k86 hms_ a.1; have n10_ := Q_ (RowsS.trans sh86_trans HS10.1 r10_); clear a HS10 r10_; have a := Q_ h10_; have HS10 := n10_; clear h10_ n10_; obtain ⟨Xf11, h11_, r11_⟩ := R_like sh_k89 hms_ b.1; have n11_ := Q_ (RowsS.trans sh89_trans HS11.1 r11_); clear b HS11 r11_; have b := Q_ h11_; have HS11 := n11_; clear h11_ n11_; skip; have hk_ := Q_ (Kept.then_ (S := (fun k_ => (P0_0_ k_ ∨ P0_1_ k_ ∨ P0_3_ k_ ∨ P0_5_ k_ ∨ P0_10_ k_ ∨ P0_11_ k_))) (qm_ HK.1) hkp (fun k_ hs_ => .inl (.inr (.inr (.inr (.inr (.inr hs_.1))))))); have hm_ := Q_ (Marked.trans (qn_ HM.1) hms0_); have hb_ := Q_ hb; clear HK HM HB BK hb hkp hms_ hms0_; have HK := hk_; have HM := hm_; have HB := hb_; clear hk_ hm_ hb_))
 go_ret
 exact ⟨el_, pb_ HB.1, qm_ HK.1, qn_ HM.1⟩
def laws_markWorld.f (c : List Int) (d : List Int) (k : Int) (e : List S56) (l : Int) (g : List Int) (m : Int) (n : Bool) (o : Int) (p : Int) (a : List S86) (b : List S89) (h : Int) (i : Int) (j : Int) (q : Int) : Option (Int) := some (markC89 b (markC86 a (cnt g.length (markC56 e (cnt d.length (cnt c.length q))))))
theorem laws_markWorld.calls (P0_0_ : Nat → Prop) (u9000_ : Value) (o : List Int) (P0_1_ : Nat → Prop) (u9001_ : Value) (p : List Int) (i : Int) (P0_3_ : Nat → Prop) (u9002_ : Value) (q : List S56) (j : Int) (P0_5_ : Nat → Prop) (u9003_ : Value) (r : List Int) (k : Int) (l : Bool) (m : Int) (n : Int) (P0_10_ : Nat → Prop) (u9004_ : Value) (d : List S86) (P0_11_ : Nat → Prop) (u9005_ : Value) (g : List S89) (a : Int) (b : Int) (c : Int) (z : Int) (A : Int) (w0 w : World) (hB : Below w0.heap.size w0 w) (u : Kd.R (Kd.int .i64) 3 w w0.heap.size P0_0_ u9000_ o) (hp0_0_1 : ∀ k_, P0_0_ k_ → ¬ P0_1_ k_) (hp0_0_5 : ∀ k_, P0_0_ k_ → ¬ P0_5_ k_) (v : Kd.R (Kd.int .i64) 3 w w0.heap.size P0_1_ u9001_ p) (hp0_1_0 : ∀ k_, P0_1_ k_ → ¬ P0_0_ k_) (hp0_1_5 : ∀ k_, P0_1_ k_ → ¬ P0_5_ k_) (x : Kd.R k56 56 w w0.heap.size P0_3_ u9002_ q) (y : Kd.R (Kd.int .i64) 3 w w0.heap.size P0_5_ u9003_ r) (hp0_5_0 : ∀ k_, P0_5_ k_ → ¬ P0_0_ k_) (hp0_5_1 : ∀ k_, P0_5_ k_ → ¬ P0_1_ k_) (s : Kd.S k86 86 w w0.heap.size P0_10_ u9004_ d) (t : Kd.S k89 89 w w0.heap.size P0_11_ u9005_ g) (h : laws_markWorld.f o p i q j r k l m n d g a b c z = some A) :
  Calls Try.prog 11 #[.agg #[u9000_, u9001_, .int .i64 i, u9002_, .int .i64 j, u9003_, .int .i64 k, .bool l, .int .i64 m, .int .i64 n, u9004_, u9005_, .int .i64 a, .int .i64 b, .int .i64 c], .int .i64 z] w fun e w' => e = .returned (.int .i64 A) ∧ Below w0.heap.size w0 w' ∧ Kept w w' (fun k_ => (P0_0_ k_ ∨ P0_1_ k_ ∨ P0_3_ k_ ∨ P0_5_ k_ ∨ P0_10_ k_ ∨ P0_11_ k_)) := by
 obtain rfl := Option.some.inj h
 refine (laws_markWorld.callsM P0_0_ u9000_ o P0_1_ u9001_ p i P0_3_ u9002_ q j P0_5_ u9003_ r k l m n P0_10_ u9004_ d P0_11_ u9005_ g a b c z w0 w hB u v x y (Kd.S_R s) (Kd.S_R t)).mono ?_
 rintro e w' ⟨rfl, hb, hk, _⟩
 exact ⟨rfl, hb, hk⟩


/-! ### laws_heldIntS: function 13 -/
def laws_heldIntS.l0 : Nat → List Int → Int → Int → Option (Int)
 | 0, _, _, _ => none
 | k + 1, b, c, a => if a < (b.length : Int) then (if 0 ≤ a then (if (rd b a) = c then (laws_heldIntS.l0 k b (wrap64 (c + 1)) (wrap64 (a + 1))) else (some (-1))) else (none)) else (some c)
def laws_heldIntS.f (k : Nat) (b : List Int) (a : Int) : Option (Int) := laws_heldIntS.l0 k b a 0
theorem laws_heldIntS.mono_l : ∀ k, (∀ a b c, LeO (laws_heldIntS.l0 k a b c) (laws_heldIntS.l0 (k + 1) a b c))
 | 0 => fun _ _ _ r h => by simp [laws_heldIntS.l0] at h
 | k + 1 => by
  have ih0 := laws_heldIntS.mono_l k
  ·intro a b c
   unfold laws_heldIntS.l0
   exact mo1_ ih0
theorem laws_heldIntS.mono : ∀ a b k, LeO (laws_heldIntS.f k a b) (laws_heldIntS.f (k + 1) a b) := by
 intro a b k
 have ih0 := laws_heldIntS.mono_l k
 unfold laws_heldIntS.f
 exact mo1_ ih0
theorem laws_heldIntS.calls (k : Nat) (y : Option Addr) (z : Nat) (g : List Int) (v : Int) (r : Int) (w : World) (hr0 : Kd.C (Kd.int .i64) w y g.length g) (u : g.length ≤ z) (h : laws_heldIntS.f k g v = some r) :
  Calls Try.prog 13 #[.slice y g.length z, .int .i64 v] w fun e w' => e = .returned (.int .i64 r) ∧ Drawn0 w w' := by
 have p := Q_ hr0
 have B := Q_ u
 clear hr0 u
 have H : (laws_heldIntS.l0 k g v 0) = some r := h
 clear h
 have H' := Q_ H
 clear H
 go_enter Try.func13, Try.ntmps13
 go_wp2
 go_loopg [1, 5] k (fun kq D E w' => ∃ (b : Int) (a : Int), D = .int .i64 b ∧ E = .int .i64 a ∧ Aside0 (laws_heldIntS.l0 kq g b a = some r) ∧ Aside0 (kq ≤ k) ∧ Drawn0 w w')
 case atStart => exact ⟨(v), (0), el_, el_, H', ⟨Nat.le_refl _⟩, by repeat (first | exact Drawn0.refl _ | apply Drawn0.step)⟩
 clear H'
 obtain ⟨b, a, rfl, rfl, HA, o, ⟨m1, rfl⟩⟩ := hrel
 rcases gk with _ | k1
 ·exact absurd HA.1 (by simp [laws_heldIntS.l0])
 have H := HA.1
 clear HA
 simp only [laws_heldIntS.l0] at H
 by_cases n : a < (g.length : Int)
 rotate_left
 ·rw [if_neg n] at H
  have q := decide_eq_false n
  clear n
  obtain rfl := Option.some.inj H
  go_wp2
  go_ret
  exact ⟨by first | rfl | (simp; done) | (simp [*]; done), by repeat (first | exact Drawn0.refl _ | apply Drawn0.step)⟩
 rw [if_pos n] at H
 have q := decide_eq_true n
 clear n
 by_cases x : 0 ≤ a
 rotate_left
 ·rw [if_neg x] at H
  exact nn_ H
 rw [if_pos x] at H
 have A := decide_eq_true x
 clear x
 by_cases m : (rd g a) = b
 rotate_left
 ·rw [if_neg m] at H
  have s : ((rd g a) == b) = false := beq_eq_false_iff_ne.mpr m
  have t : ((rd g a) != b) = true := bne_iff_ne.mpr m
  obtain rfl := Option.some.inj H
  have c : 0 ≤ (a : Int) := dt_
  have d : a < (g.length : Int) := dt_
  obtain ⟨l, i, j⟩ := Kd.at_int p.1 a c d
  cases i
  replace c := eq_true c
  replace d := eq_true d
  go_wp2
  go_ret
  exact ⟨by first | rfl | (simp; done) | (simp [*]; done), by repeat (first | exact Drawn0.refl _ | apply Drawn0.step)⟩
 rw [if_pos m] at H
 have s : ((rd g a) == b) = true := beq_iff_eq.mpr m
 have t : ((rd g a) != b) = false := bne_eq_false_iff_eq.mpr m
 clear m
 have H' := Q_ H
 clear H
 have c : 0 ≤ (a : Int) := dt_
 have d : a < (g.length : Int) := dt_
 obtain ⟨l, i, j⟩ := Kd.at_int p.1 a c d
 cases i
 replace c := eq_true c
 replace d := eq_true d
 go_wp2
 go_roundg k1
 case measure => have := o.1; omega
 case rel => exact ⟨(wrap64 (b + 1)), (wrap64 (a + 1)), el_, el_, H', ⟨by have := o.1; omega⟩, by repeat (first | exact Drawn0.refl _ | apply Drawn0.step)⟩

end Go.Proofs.Ytfhndlgbjhffiaa.Print
