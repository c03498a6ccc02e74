-- Written by a program of this session (printx.py) out of the translation; Lean checks it.
import Derived.Test.YtfhndlgbjhffiaaPrint0
import Derived.Test.YtfhndlgbjhffiaaPrint3
import Derived.Test.YtfhndlgbjhffiaaPrint6
namespace Go.Proofs.Ytfhndlgbjhffiaa.Print
open Go.RowKit Go.Proofs.YtfhndlgbjhffiaaW.PrintWords Go.Proofs.YtfhndlgbjhffiaaW.PrintLast Go.Proofs.YtfhndlgbjhffiaaW.PrintMore Go.Proofs.Ytfhndlgbjhffiaa.Short
attribute [local go_sem] max2_int min2_int max_two min_two max_three min_three max_four min_four   -- for this text's walks alone
set_option linter.unusedVariables false
set_option maxHeartbeats 8000000
set_option maxRecDepth 100000
set_option linter.unusedSimpArgs false

/-! ### laws_markEndpointS: function 35, by shapes -/
def sh56 (x y : S56) : Prop := y.f0.length = x.f0.length ∧ y.f1.length = x.f1.length ∧ RowsS sh102 x.f2 y.f2
theorem sh56_refl (x : S56) : sh56 x x := ⟨rfl, rfl, RowsS.refl (fun _ => sh102_refl _) _⟩
theorem sh56_trans (x y z : S56) (a : sh56 x y) (b : sh56 y z) : sh56 x z := by
 obtain ⟨c, d, e⟩ := a
 obtain ⟨b0, b1, b2⟩ := b
 exact ⟨b0.trans c, b1.trans d, RowsS.trans sh102_trans e b2⟩
theorem sh_k56 : Sh k56 sh56 := Sh.imp (Sh.iso (Sh.pair (Sh.slice (Sh.int .i64) 3) (Sh.pair (Sh.slice (Sh.int .i64) 3) (Sh.pair (Sh.slice sh_k102 102) (Sh.int .i64)))) (fun x : S56 => (x.f0, x.f1, x.f2, x.f3)) (fun p => ⟨p.1, p.2.1, p.2.2.1, p.2.2.2⟩) (fun _ => rfl)) (fun x y h => ⟨h.1.1, h.2.1.1, h.2.2.1⟩)
def markE56 (x : S56) (k : Int) : Int := (wrap64 ((markC102 x.f2 (cnt x.f1.length (cnt x.f0.length k))) + 1))
def markC56 : List S56 → Int → Int
 | [], k => k
 | x :: l, k => markC56 l (markE56 x k)
theorem markE56_like {x y : S56} (h : sh56 x y) (k : Int) : markE56 y k = markE56 x k := by
 obtain ⟨h0, h1, h2⟩ := h
 unfold markE56
 rw [h0, h1, markC102_like h2]
theorem markC56_like {xs ys : List S56} (h : RowsS sh56 xs ys) (k : Int) : markC56 ys k = markC56 xs k := by
 induction xs generalizing ys k with
 | nil =>
  have := h.1
  rw [List.length_eq_zero_iff.1 this]
 | cons x xs ih =>
  cases ys with
  | nil => have := h.1; simp at this
  | cons y ys =>
   obtain ⟨y', hy, hs⟩ := h.2 0 x rfl
   obtain rfl : y = y' := by simpa using hy
   have ht : RowsS sh56 xs ys := h.drop 1
   simp only [markC56]
   rw [markE56_like hs, ih ht]
theorem laws_markEndpointS.callsM (P0_ : Nat → Prop) (u9000_ : Value) (d : List S56) (k : Int) (w0 w : World) (hB : Below w0.heap.size w0 w) (o : Kd.R k56 56 w w0.heap.size P0_ u9000_ d) :
  Calls Try.prog 35 #[u9000_, .int .i64 k] w fun e w' => e = .returned (.int .i64 (markC56 d k)) ∧ Below w0.heap.size w0 w' ∧ Kept w w' (fun k_ => P0_ k_) ∧ Marked w w' := by
 have hu56 := Try.underlying56
 have j := Q_ o
 have HK := Q_ (Kept.refl w (fun k_ => P0_ k_))
 have HM := Q_ (Marked.refl w)
 have HB := Q_ hB
 clear hB o
 go_enter Try.func35, Try.ntmps35
 go_wp2
 go_loopg [1, 5] (d.length + 1) (fun kq F G w' => ∃ (c : List S56) (b a : Int) (i_1 : Nat), F = .int .i64 b ∧ G = .int .i64 a ∧ Aside0 (a = (i_1 : Int)) ∧ Aside0 (i_1 + kq = d.length + 1 ∧ i_1 ≤ d.length) ∧ Aside0 (RowsS sh56 d c) ∧ Aside0 (markC56 (d.drop i_1) b = markC56 d k) ∧ Aside0 (Kd.R k56 56 w' w0.heap.size P0_ u9000_ c) ∧ Aside0 (Kept w w' (fun k_ => P0_ k_)) ∧ Aside0 (Marked w w') ∧ Aside0 (Below w0.heap.size w0 w'))
 case atStart => exact ⟨d, k, 0, 0, el_, el_, ⟨rfl⟩, ⟨by omega, by omega⟩, ⟨RowsS.refl (fun _ => sh56_refl _) d⟩, ⟨rfl⟩, ⟨pr_ j.1⟩, ⟨qm_ HK.1⟩, ⟨qn_ HM.1⟩, ⟨pb_ HB.1⟩⟩
 clear j
 obtain ⟨c, b, a, i_1, rfl, rfl, HI, HN, HS, HV, HO, HK, HM, HB⟩ := hrel
 rcases gk with _ | k1
 ·exact absurd HN.1 (by omega)
 have HL := Q_ (show c.length = d.length from HS.1.1)
 have HLG := Q_ (R_long HO.1)
 by_cases q : a < (c.length : Int)
 rotate_left
 ·have l := decide_eq_false q
  have e_ : b = markC56 d k := by
   have h_ := HV.1
   have h1_ := HI.1
   have hlen := HL.1
   rw [show i_1 = d.length by have := HN.1.2; omega] at h_
   simpa [markC56] using h_
  subst e_
  obtain ⟨A, C, u⟩ := Kd.R_slice HO.1
  subst u
  go_wp2
  go_ret
  exact ⟨el_, pb_ HB.1, qm_ HK.1, qn_ HM.1⟩
 have l := decide_eq_true q
 have r : 0 ≤ (a : Int) := by have := HI.1; omega
 have y : (a : Int) < ((c.length : Int) : Int) := q
 have z : decide (0 ≤ a) = true := decide_eq_true r
 have HII := Q_ (show i_1 < d.length from by have := HI.1; have := HL.1; omega)
 have HTI := Q_ (show a.toNat = i_1 from by have := HI.1; omega)
 have HW5 := Q_ (wi_ HI.1 HII.1 (HL.1 ▸ HLG.1))
 obtain ⟨B, E, x⟩ := Kd.R_slice HO.1
 subst x
 obtain ⟨g, D, m, n, gl6, HG6⟩ := Kd.R_form HO.1 (by omega)
 (first | cases m | (injection m with ea_ en_ ec_; (first | subst ea_ | (injection ea_ with ea_; subst ea_)); subst ec_; clear en_))
 have s := Q_ n
 have PG6 := Q_ (HO.1.1 g rfl)
 clear n gl6 HG6 q
 have HP6 := Q_ r
 have i := Q_ y
 have HE := Q_ (HS.1.at z56 HII.1)
 obtain ⟨E0, hE0⟩ : ∃ e_ : S56, e_ = d.getD i_1 z56 := ⟨_, rfl⟩
 rw [← hE0, ← HTI.1] at HE
 have h := Q_ hE0
 clear hE0
 obtain ⟨ca, hcla, hMa, hcca, hfra⟩ := Kd.R_elem HO.1 z56 a HP6.1 i.1
 obtain ⟨Ea, hEa⟩ : ∃ e_ : S56, e_ = c.getD (a : Int).toNat z56 := ⟨_, rfl⟩
 rw [← hEa] at hMa HE
 clear hEa
 obtain ⟨va_0, va_1, va_2, rfl, ga_0, ga_1, ga_2⟩ := k56_openM hMa
 obtain ⟨Aa, ba, ea⟩ := Kd.R_slice ga_0
 subst ea
 have hxa : wr.cell? ⟨g, (a : Int).toNat * 4, none⟩ = some (.slice Aa Ea.f0.length ba) := hcca 0 _ rfl
 have HGa := Q_ (Kd.R_mono ga_0 (fun k_ h_ => h_.1))
 clear hcla hcca hfra
 clear ga_0 ga_1 ga_2
 try clear hMa
 replace r := eq_true r
 replace y := eq_true y
 go_wp2_with (first
  | ((with_reducible refine gate_callee (f := 12) rfl ?_); refine goesL_ (some 18) rfl rfl Try.func12 (by kernel_rfl) rfl #[(.slice Aa Ea.f0.length ba), .int .i64 b] rfl mp_ ?_; (with_reducible refine (laws_markIntS.callsM P0_ (.slice Aa Ea.f0.length ba) Ea.f0 b w0 _ ?side1 ?side2).mono ?_); (case side1 => exact pb_ HB.1); (case side2 => exact pr_ HGa.1); rintro e wa_ ⟨he_, hb, hkp, hms0_⟩; rw [HE.1.1] at he_; subst he_; refine ⟨_, rfl, ?_⟩; have hms_ := Marked.trans (qn_ (Marked.refl _)) hms0_; have n1_ := Q_ hb; have n2_ := Q_ (Kept.then_ (S := (fun k_ => P0_ k_)) (qm_ HK.1) hkp (fun k_ hs_ => .inl hs_)); have n3_ := Q_ (Marked.trans (qn_ HM.1) hms0_); obtain ⟨Xa, HOa, hra⟩ := R_like sh_k56 hms_ HO.1; have HSa := Q_ (RowsS.trans sh56_trans HS.1 hra); clear HO HS hra HE; have HO := Q_ HOa; have HS := HSa; clear HOa HSa; have HE := Q_ (HS.1.at z56 HII.1); rw [← h.1, ← HTI.1] at HE; clear HB HK HM hms_ hms0_ hb hkp hxa HGa; have HB := n1_; have HK := n2_; have HM := n3_; clear n1_ n2_ n3_; obtain ⟨cb, hclb, hMb, hccb, hfrb⟩ := Kd.R_elem HO.1 z56 a HP6.1 i.1; obtain ⟨Eb, hEb⟩ : ∃ e_ : S56, e_ = Xa.getD (a : Int).toNat z56 := ⟨_, rfl⟩; rw [← hEb] at hMb HE; clear hEb; obtain ⟨vb_0, vb_1, vb_2, rfl, gb_0, gb_1, gb_2⟩ := k56_openM hMb; obtain ⟨Ab, bb, eb⟩ := Kd.R_slice gb_1; subst eb; have hxb : wa_.cell? ⟨g, (a : Int).toNat * 4 + 1, none⟩ = some (.slice Ab Eb.f1.length bb) := hccb 1 _ rfl; have HGb := Q_ (Kd.R_mono gb_1 (fun k_ h_ => h_.1)); clear hclb hccb hfrb; clear gb_0 gb_1 gb_2; try clear hMb)
  | ((with_reducible refine gate_callee (f := 12) rfl ?_); refine goesL_ (some 25) rfl rfl Try.func12 (by kernel_rfl) rfl #[(.slice Ab Eb.f1.length bb), .int .i64 (cnt E0.f0.length b)] rfl mp_ ?_; (with_reducible refine (laws_markIntS.callsM P0_ (.slice Ab Eb.f1.length bb) Eb.f1 (cnt E0.f0.length b) w0 _ ?side1 ?side2).mono ?_); (case side1 => exact pb_ HB.1); (case side2 => exact pr_ HGb.1); rintro e wb_ ⟨he_, hb, hkp, hms0_⟩; rw [HE.1.2.1] at he_; subst he_; refine ⟨_, rfl, ?_⟩; have hms_ := Marked.trans (qn_ (Marked.refl _)) hms0_; have n1_ := Q_ hb; have n2_ := Q_ (Kept.then_ (S := (fun k_ => P0_ k_)) (qm_ HK.1) hkp (fun k_ hs_ => .inl hs_)); have n3_ := Q_ (Marked.trans (qn_ HM.1) hms0_); obtain ⟨Xb, HOb, hrb⟩ := R_like sh_k56 hms_ HO.1; have HSb := Q_ (RowsS.trans sh56_trans HS.1 hrb); clear HO HS hrb HE; have HO := Q_ HOb; have HS := HSb; clear HOb HSb; have HE := Q_ (HS.1.at z56 HII.1); rw [← h.1, ← HTI.1] at HE; clear HB HK HM hms_ hms0_ hb hkp hxb HGb; have HB := n1_; have HK := n2_; have HM := n3_; clear n1_ n2_ n3_; obtain ⟨cc, hclc, hMc, hccc, hfrc⟩ := Kd.R_elem HO.1 z56 a HP6.1 i.1; obtain ⟨Ec, hEc⟩ : ∃ e_ : S56, e_ = Xb.getD (a : Int).toNat z56 := ⟨_, rfl⟩; rw [← hEc] at hMc HE; clear hEc; obtain ⟨vc_0, vc_1, vc_2, rfl, gc_0, gc_1, gc_2⟩ := k56_openM hMc; obtain ⟨Ac, bc, ec⟩ := Kd.R_slice gc_2; subst ec; have hxc : wb_.cell? ⟨g, (a : Int).toNat * 4 + 2, none⟩ = some (.slice Ac Ec.f2.length bc) := hccc 2 _ rfl; have HGc := Q_ (Kd.R_mono gc_2 (fun k_ h_ => h_.1)); clear hclc hccc hfrc; clear gc_0 gc_1 gc_2; try clear hMc)
  | ((with_reducible refine gate_callee (f := 49) rfl ?_); refine goesL_ (some 32) rfl rfl Try.func49 (by kernel_rfl) rfl #[(.slice Ac Ec.f2.length bc), .int .i64 (cnt E0.f1.length (cnt E0.f0.length b))] rfl mp_ ?_; (with_reducible refine (laws_markBoxS.callsM P0_ (.slice Ac Ec.f2.length bc) Ec.f2 (cnt E0.f1.length (cnt E0.f0.length b)) w0 _ ?side1 ?side2).mono ?_); (case side1 => exact pb_ HB.1); (case side2 => exact pr_ HGc.1); rintro e wc_ ⟨he_, hb, hkp, hms0_⟩; rw [markC102_like HE.1.2.2] at he_; subst he_; refine ⟨_, rfl, ?_⟩; have hms_ := Marked.trans (qn_ (Marked.refl _)) hms0_; have n1_ := Q_ hb; have n2_ := Q_ (Kept.then_ (S := (fun k_ => P0_ k_)) (qm_ HK.1) hkp (fun k_ hs_ => .inl hs_)); have n3_ := Q_ (Marked.trans (qn_ HM.1) hms0_); obtain ⟨Xc, HOc, hrc⟩ := R_like sh_k56 hms_ HO.1; have HSc := Q_ (RowsS.trans sh56_trans HS.1 hrc); clear HO HS hrc HE; have HO := Q_ HOc; have HS := HSc; clear HOc HSc; have HE := Q_ (HS.1.at z56 HII.1); rw [← h.1, ← HTI.1] at HE; clear HB HK HM hms_ hms0_ hb hkp hxc HGc; have HB := n1_; have HK := n2_; have HM := n3_; clear n1_ n2_ n3_; obtain ⟨cd, hcld, hMd, hccd, hfrd⟩ := Kd.R_elem HO.1 z56 a HP6.1 i.1; obtain ⟨Ed, hEd⟩ : ∃ e_ : S56, e_ = Xc.getD (a : Int).toNat z56 := ⟨_, rfl⟩; rw [← hEd] at hMd HE; clear hEd; obtain ⟨vd_0, vd_1, vd_2, rfl, gd_0, gd_1, gd_2⟩ := k56_openM hMd; have hxd : wc_.cell? ⟨g, (a : Int).toNat * 4 + 3, none⟩ = some (.int .i64 Ed.f3) := hccd 3 _ rfl; have hfd : wc_.frozen? ⟨g, (a : Int).toNat * 4 + 3, none⟩ = false := hfrd 3; clear hcld hccd hfrd; clear gd_0 gd_1 gd_2; try clear hMd)
  | ((with_reducible refine gate_store (t := 3) (p := 37) rfl ?_); refine store_event (t := 3) (p := 37) (v := ?vo_d) (w1 := ?w1_d) ?hg ?ho ?hn ?hr ?_; (case ho => rfl); (case hg => rfl); (case hn => rfl); (case hr => first | (go_simp; done) | (go_simp; rfl)); intro wd_ hw; have hms_ : Marked _ wd_ := (by rw [hw]; exact Marked.set hxd (.inr (.inl ⟨_, _, _, rfl, rfl⟩))); have n1_ := Q_ (show Below w0.heap.size w0 wd_ from by rw [hw]; exact below_set HB.1 s.1); have n2_ := Q_ (show Kept w wd_ (fun k_ => P0_ k_) from by rw [hw]; exact Kept.setCell HK.1 (.inl PG6.1) _); have n3_ := Q_ (HM.1.trans hms_); obtain ⟨Xd, HOd, hrd⟩ := R_like sh_k56 hms_ HO.1; have HSd := Q_ (RowsS.trans sh56_trans HS.1 hrd); clear HO HS hrd HE; have HO := Q_ HOd; have HS := HSd; clear HOd HSd; have HE := Q_ (HS.1.at z56 HII.1); rw [← h.1, ← HTI.1] at HE; clear HB HK HM hms_ hxd hfd hw; have HB := n1_; have HK := n2_; have HM := n3_; clear n1_ n2_ n3_))
 go_roundg k1
 case measure => omega
 case rel => exact ⟨_, (wrap64 ((markC102 E0.f2 (cnt E0.f1.length (cnt E0.f0.length b))) + 1)), (wrap64 (a + 1)), i_1 + 1, el_, el_, HW5, ⟨by have := HN.1.1; omega, by have := HII.1; omega⟩, HS, ⟨by have h_ := HV.1; rw [getD_cons_drop z56 HII.1, ← h.1] at h_; exact h_⟩, ⟨pr_ HO.1⟩, ⟨qm_ HK.1⟩, ⟨qn_ HM.1⟩, ⟨pb_ HB.1⟩⟩


/-! ### laws_markRollout: function 36, by shapes -/
theorem laws_markRollout.callsM (d : Int) (P0_1_ : Nat → Prop) (u9000_ : Value) (a : List Int) (g : Int) (h : Bool) (i : Int) (w0 w : World) (hB : Below w0.heap.size w0 w) (c : Kd.R (Kd.int .i64) 3 w w0.heap.size P0_1_ u9000_ a) :
  Calls Try.prog 36 #[.agg #[.int .i64 d, u9000_, .int .i64 g, .bool h], .int .i64 i] w fun e w' => e = .returned (.int .i64 (cnt a.length i)) ∧ Below w0.heap.size w0 w' ∧ Kept w w' (fun k_ => (P0_1_ k_)) ∧ Marked w w' := by
 have hu33 := Try.underlying33
 have b := Q_ (show Kd.R (Kd.int .i64) 3 w w0.heap.size (fun k_ => P0_1_ k_ ∧ k_ < w.heap.size) u9000_ a from Kd.R_mono (Kd.R_bound c) (fun k_ hk => ⟨hk.1, hk.2.2.1⟩))
 have HS1 := Q_ (show a.length = a.length from rfl)
 have HK := Q_ (Kept.refl w (fun k_ => (P0_1_ k_)))
 have HM := Q_ (Marked.refl w)
 have HB := Q_ hB
 clear hB c
 go_enter Try.func36, Try.ntmps36
 go_wp2_with (first
  | ((with_reducible refine gate_dst (N := 2) rfl ?_); refine bx_ 2 #[.int .i64 d, u9000_, .int .i64 g, .bool h] 33 ?_; intro gb hg wx hbox hb; have m1_ := Q_ (Kd.R_below (pr_ b.1) hb); have hk_ := Q_ (Kept.below (qm_ HK.1) hb); have hm_ := Q_ (Marked.below (qn_ HM.1) hb); have hb_ := Q_ (below_step (pb_ HB.1) hb); have BK := Q_ hbox; have GW := Q_ (show w.heap.size ≤ gb from by rw [hg]; exact (qn_ HM.1 : Marked w _).size); clear b HK HM HB hb hbox hg; have b := m1_; have HK := hk_; have HM := hm_; have HB := hb_; clear m1_ hk_ hm_ hb_; have hcz := bc4_ BK.1)
  | ((with_reducible refine gate_callee (f := 12) rfl ?_); refine goesL_ (some 8) rfl rfl Try.func12 (by kernel_rfl) rfl #[u9000_, .int .i64 i] rfl mp_ ?_; (with_reducible refine (laws_markIntS.callsM (fun k_ => P0_1_ k_ ∧ k_ < w.heap.size) u9000_ a i w0 _ ?side1 ?side2).mono ?_); (case side1 => exact pb_ HB.1); (case side2 => exact pr_ b.1); rintro e wa_ ⟨he_, hb, hkp, hms0_⟩; rw [HS1.1] at he_; subst he_; refine ⟨_, rfl, ?_⟩; have hms_ := Marked.trans (qn_ (Marked.refl _)) hms0_; obtain ⟨Xa1, h1_, r1_⟩ := R_like (Sh.int .i64) hms_ b.1; have n1_ := Q_ (r1_.1.trans HS1.1); clear b HS1 r1_; have b := Q_ h1_; have HS1 := n1_; clear h1_ n1_; skip; have hk_ := Q_ (Kept.then_ (S := (fun k_ => (P0_1_ k_))) (qm_ HK.1) hkp (fun k_ hs_ => .inl hs_.1)); have hm_ := Q_ (Marked.trans (qn_ HM.1) hms0_); have hb_ := Q_ hb; clear HK HM HB BK hb hkp hms_ hms0_; have HK := hk_; have HM := hm_; have HB := hb_; clear hk_ hm_ hb_))
 go_ret
 exact ⟨el_, pb_ HB.1, qm_ HK.1, qn_ HM.1⟩


/-! ### laws_markDialedS: function 37, by shapes -/
def sh86 (x y : S86) : Prop := y.f0.f2.length = x.f0.f2.length ∧ y.f2.length = x.f2.length
theorem sh86_refl (x : S86) : sh86 x x := ⟨rfl, rfl⟩
theorem sh86_trans (x y z : S86) (a : sh86 x y) (b : sh86 y z) : sh86 x z := by
 obtain ⟨c, d⟩ := a
 obtain ⟨b0, b1⟩ := b
 exact ⟨b0.trans c, b1.trans d⟩
theorem sh_k86 : Sh k86 sh86 := Sh.imp (Sh.iso (Sh.pair (Sh.iso (Sh.pair Sh.bool (Sh.pair (Sh.int .i64) (Sh.slice (Sh.int .i64) 3))) (fun x : S84 => (x.f0, x.f1, x.f2)) (fun p => ⟨p.1, p.2.1, p.2.2⟩) (fun _ => rfl)) (Sh.pair (Sh.int .i64) (Sh.slice (Sh.int .i64) 3))) (fun x : S86 => (x.f0, x.f1, x.f2)) (fun p => ⟨p.1, p.2.1, p.2.2⟩) (fun _ => rfl)) (fun x y h => ⟨h.1.2.2.1, h.2.2.1⟩)
def markE86 (x : S86) (k : Int) : Int := (cnt x.f2.length (wrap64 ((cnt x.f0.f2.length (wrap64 ((wrap64 (k + 1)) + 1))) + 1)))
def markC86 : List S86 → Int → Int
 | [], k => k
 | x :: l, k => markC86 l (markE86 x k)
theorem markE86_like {x y : S86} (h : sh86 x y) (k : Int) : markE86 y k = markE86 x k := by
 obtain ⟨h0, h1⟩ := h
 unfold markE86
 rw [h0, h1]
theorem markC86_like {xs ys : List S86} (h : RowsS sh86 xs ys) (k : Int) : markC86 ys k = markC86 xs k := by
 induction xs generalizing ys k with
 | nil =>
  have := h.1
  rw [List.length_eq_zero_iff.1 this]
 | cons x xs ih =>
  cases ys with
  | nil => have := h.1; simp at this
  | cons y ys =>
   obtain ⟨y', hy, hs⟩ := h.2 0 x rfl
   obtain rfl : y = y' := by simpa using hy
   have ht : RowsS sh86 xs ys := h.drop 1
   simp only [markC86]
   rw [markE86_like hs, ih ht]
theorem laws_markDialedS.callsM (P0_ : Nat → Prop) (u9000_ : Value) (g : List S86) (l : Int) (w0 w : World) (hB : Below w0.heap.size w0 w) (q : Kd.R k86 86 w w0.heap.size P0_ u9000_ g) :
  Calls Try.prog 37 #[u9000_, .int .i64 l] w fun e w' => e = .returned (.int .i64 (markC86 g l)) ∧ Below w0.heap.size w0 w' ∧ Kept w w' (fun k_ => P0_ k_) ∧ Marked w w' := by
 have hu86 := Try.underlying86
 have k := Q_ q
 have HK := Q_ (Kept.refl w (fun k_ => P0_ k_))
 have HM := Q_ (Marked.refl w)
 have HB := Q_ hB
 clear hB q
 go_enter Try.func37, Try.ntmps37
 go_wp2
 go_loopg [1, 5] (g.length + 1) (fun kq F G w' => ∃ (c : List S86) (b a : Int) (i_1 : Nat), F = .int .i64 b ∧ G = .int .i64 a ∧ Aside0 (a = (i_1 : Int)) ∧ Aside0 (i_1 + kq = g.length + 1 ∧ i_1 ≤ g.length) ∧ Aside0 (RowsS sh86 g c) ∧ Aside0 (markC86 (g.drop i_1) b = markC86 g l) ∧ Aside0 (Kd.R k86 86 w' w0.heap.size P0_ u9000_ c) ∧ Aside0 (Kept w w' (fun k_ => P0_ k_)) ∧ Aside0 (Marked w w') ∧ Aside0 (Below w0.heap.size w0 w'))
 case atStart => exact ⟨g, l, 0, 0, el_, el_, ⟨rfl⟩, ⟨by omega, by omega⟩, ⟨RowsS.refl (fun _ => sh86_refl _) g⟩, ⟨rfl⟩, ⟨pr_ k.1⟩, ⟨qm_ HK.1⟩, ⟨qn_ HM.1⟩, ⟨pb_ HB.1⟩⟩
 clear k
 obtain ⟨c, b, a, i_1, rfl, rfl, HI, HN, HS, HV, HO, HK, HM, HB⟩ := hrel
 rcases gk with _ | k1
 ·exact absurd HN.1 (by omega)
 have HL := Q_ (show c.length = g.length from HS.1.1)
 have HLG := Q_ (R_long HO.1)
 by_cases r : a < (c.length : Int)
 rotate_left
 ·have m := decide_eq_false r
  have e_ : b = markC86 g l := by
   have h_ := HV.1
   have h1_ := HI.1
   have hlen := HL.1
   rw [show i_1 = g.length by have := HN.1.2; omega] at h_
   simpa [markC86] using h_
  subst e_
  obtain ⟨A, C, u⟩ := Kd.R_slice HO.1
  subst u
  go_wp2
  go_ret
  exact ⟨el_, pb_ HB.1, qm_ HK.1, qn_ HM.1⟩
 have m := decide_eq_true r
 have s : 0 ≤ (a : Int) := by have := HI.1; omega
 have y : (a : Int) < ((c.length : Int) : Int) := r
 have z : decide (0 ≤ a) = true := decide_eq_true s
 have HII := Q_ (show i_1 < g.length from by have := HI.1; have := HL.1; omega)
 have HTI := Q_ (show a.toNat = i_1 from by have := HI.1; omega)
 have HW5 := Q_ (wi_ HI.1 HII.1 (HL.1 ▸ HLG.1))
 obtain ⟨B, E, x⟩ := Kd.R_slice HO.1
 subst x
 obtain ⟨d, D, n, o, gl6, HG6⟩ := Kd.R_form HO.1 (by omega)
 (first | cases n | (injection n with ea_ en_ ec_; (first | subst ea_ | (injection ea_ with ea_; subst ea_)); subst ec_; clear en_))
 have j := Q_ o
 have PG6 := Q_ (HO.1.1 d rfl)
 clear o gl6 HG6 r
 have HP6 := Q_ s
 have i := Q_ y
 have HE := Q_ (HS.1.at z86 HII.1)
 obtain ⟨E0, hE0⟩ : ∃ e_ : S86, e_ = g.getD i_1 z86 := ⟨_, rfl⟩
 rw [← hE0, ← HTI.1] at HE
 have h := Q_ hE0
 clear hE0
 obtain ⟨ca, hcla, hMa, hcca, hfra⟩ := Kd.R_elem HO.1 z86 a HP6.1 i.1
 obtain ⟨Ea, hEa⟩ : ∃ e_ : S86, e_ = c.getD (a : Int).toNat z86 := ⟨_, rfl⟩
 rw [← hEa] at hMa HE
 clear hEa
 obtain ⟨va_2, va_4, rfl, ga_2, ga_4⟩ := k86_openM hMa
 have hxa : wr.cell? ⟨d, (a : Int).toNat * 5, none⟩ = some (.bool Ea.f0.f0) := hcca 0 _ rfl
 have hfa : wr.frozen? ⟨d, (a : Int).toNat * 5, none⟩ = false := hfra 0
 clear hcla hcca hfra
 clear ga_2 ga_4
 try clear hMa
 replace s := eq_true s
 replace y := eq_true y
 go_wp2_with (first
  | ((with_reducible refine gate_store (t := 4) (p := 19) rfl ?_); refine store_event (t := 4) (p := 19) (v := ?vo_a) (w1 := ?w1_a) ?hg ?ho ?hn ?hr ?_; (case ho => rfl); (case hg => rfl); (case hn => rfl); (case hr => first | (go_simp; done) | (go_simp; rfl)); intro wa_ hw; have hms_ : Marked _ wa_ := (by rw [hw]; exact Marked.set hxa (.inr (.inr ⟨_, _, rfl, rfl⟩))); have n1_ := Q_ (show Below w0.heap.size w0 wa_ from by rw [hw]; exact below_set HB.1 j.1); have n2_ := Q_ (show Kept w wa_ (fun k_ => P0_ k_) from by rw [hw]; exact Kept.setCell HK.1 (.inl PG6.1) _); have n3_ := Q_ (HM.1.trans hms_); obtain ⟨Xa, HOa, hra⟩ := R_like sh_k86 hms_ HO.1; have HSa := Q_ (RowsS.trans sh86_trans HS.1 hra); clear HO HS hra HE; have HO := Q_ HOa; have HS := HSa; clear HOa HSa; have HE := Q_ (HS.1.at z86 HII.1); rw [← h.1, ← HTI.1] at HE; clear HB HK HM hms_ hxa hfa hw; have HB := n1_; have HK := n2_; have HM := n3_; clear n1_ n2_ n3_; obtain ⟨cb, hclb, hMb, hccb, hfrb⟩ := Kd.R_elem HO.1 z86 a HP6.1 i.1; obtain ⟨Eb, hEb⟩ : ∃ e_ : S86, e_ = Xa.getD (a : Int).toNat z86 := ⟨_, rfl⟩; rw [← hEb] at hMb HE; clear hEb; obtain ⟨vb_2, vb_4, rfl, gb_2, gb_4⟩ := k86_openM hMb; have hxb : wa_.cell? ⟨d, (a : Int).toNat * 5 + 1, none⟩ = some (.int .i64 Eb.f0.f1) := hccb 1 _ rfl; have hfb : wa_.frozen? ⟨d, (a : Int).toNat * 5 + 1, none⟩ = false := hfrb 1; clear hclb hccb hfrb; clear gb_2 gb_4; try clear hMb)
  | ((with_reducible refine gate_store (t := 3) (p := 27) rfl ?_); refine store_event (t := 3) (p := 27) (v := ?vo_b) (w1 := ?w1_b) ?hg ?ho ?hn ?hr ?_; (case ho => rfl); (case hg => rfl); (case hn => rfl); (case hr => first | (go_simp; done) | (go_simp; rfl)); intro wb_ hw; have hms_ : Marked _ wb_ := (by rw [hw]; exact Marked.set hxb (.inr (.inl ⟨_, _, _, rfl, rfl⟩))); have n1_ := Q_ (show Below w0.heap.size w0 wb_ from by rw [hw]; exact below_set HB.1 j.1); have n2_ := Q_ (show Kept w wb_ (fun k_ => P0_ k_) from by rw [hw]; exact Kept.setCell HK.1 (.inl PG6.1) _); have n3_ := Q_ (HM.1.trans hms_); obtain ⟨Xb, HOb, hrb⟩ := R_like sh_k86 hms_ HO.1; have HSb := Q_ (RowsS.trans sh86_trans HS.1 hrb); clear HO HS hrb HE; have HO := Q_ HOb; have HS := HSb; clear HOb HSb; have HE := Q_ (HS.1.at z86 HII.1); rw [← h.1, ← HTI.1] at HE; clear HB HK HM hms_ hxb hfb hw; have HB := n1_; have HK := n2_; have HM := n3_; clear n1_ n2_ n3_; obtain ⟨cc, hclc, hMc, hccc, hfrc⟩ := Kd.R_elem HO.1 z86 a HP6.1 i.1; obtain ⟨Ec, hEc⟩ : ∃ e_ : S86, e_ = Xb.getD (a : Int).toNat z86 := ⟨_, rfl⟩; rw [← hEc] at hMc HE; clear hEc; obtain ⟨vc_2, vc_4, rfl, gc_2, gc_4⟩ := k86_openM hMc; obtain ⟨Ac, bc, ec⟩ := Kd.R_slice gc_2; subst ec; have hxc : wb_.cell? ⟨d, (a : Int).toNat * 5 + 2, none⟩ = some (.slice Ac Ec.f0.f2.length bc) := hccc 2 _ rfl; have HGc := Q_ (Kd.R_mono gc_2 (fun k_ h_ => h_.1)); clear hclc hccc hfrc; clear gc_2 gc_4; try clear hMc)
  | ((with_reducible refine gate_callee (f := 12) rfl ?_); refine goesL_ (some 37) rfl rfl Try.func12 (by kernel_rfl) rfl #[(.slice Ac Ec.f0.f2.length bc), .int .i64 (wrap64 ((wrap64 (b + 1)) + 1))] rfl mp_ ?_; (with_reducible refine (laws_markIntS.callsM P0_ (.slice Ac Ec.f0.f2.length bc) Ec.f0.f2 (wrap64 ((wrap64 (b + 1)) + 1)) w0 _ ?side1 ?side2).mono ?_); (case side1 => exact pb_ HB.1); (case side2 => exact pr_ HGc.1); rintro e wc_ ⟨he_, hb, hkp, hms0_⟩; rw [HE.1.1] at he_; subst he_; refine ⟨_, rfl, ?_⟩; have hms_ := Marked.trans (qn_ (Marked.refl _)) hms0_; have n1_ := Q_ hb; have n2_ := Q_ (Kept.then_ (S := (fun k_ => P0_ k_)) (qm_ HK.1) hkp (fun k_ hs_ => .inl hs_)); have n3_ := Q_ (Marked.trans (qn_ HM.1) hms0_); obtain ⟨Xc, HOc, hrc⟩ := R_like sh_k86 hms_ HO.1; have HSc := Q_ (RowsS.trans sh86_trans HS.1 hrc); clear HO HS hrc HE; have HO := Q_ HOc; have HS := HSc; clear HOc HSc; have HE := Q_ (HS.1.at z86 HII.1); rw [← h.1, ← HTI.1] at HE; clear HB HK HM hms_ hms0_ hb hkp hxc HGc; have HB := n1_; have HK := n2_; have HM := n3_; clear n1_ n2_ n3_; obtain ⟨cd, hcld, hMd, hccd, hfrd⟩ := Kd.R_elem HO.1 z86 a HP6.1 i.1; obtain ⟨Ed, hEd⟩ : ∃ e_ : S86, e_ = Xc.getD (a : Int).toNat z86 := ⟨_, rfl⟩; rw [← hEd] at hMd HE; clear hEd; obtain ⟨vd_2, vd_4, rfl, gd_2, gd_4⟩ := k86_openM hMd; have hxd : wc_.cell? ⟨d, (a : Int).toNat * 5 + 3, none⟩ = some (.int .i64 Ed.f1) := hccd 3 _ rfl; have hfd : wc_.frozen? ⟨d, (a : Int).toNat * 5 + 3, none⟩ = false := hfrd 3; clear hcld hccd hfrd; clear gd_2 gd_4; try clear hMd)
  | ((with_reducible refine gate_store (t := 3) (p := 42) rfl ?_); refine store_event (t := 3) (p := 42) (v := ?vo_d) (w1 := ?w1_d) ?hg ?ho ?hn ?hr ?_; (case ho => rfl); (case hg => rfl); (case hn => rfl); (case hr => first | (go_simp; done) | (go_simp; rfl)); intro wd_ hw; have hms_ : Marked _ wd_ := (by rw [hw]; exact Marked.set hxd (.inr (.inl ⟨_, _, _, rfl, rfl⟩))); have n1_ := Q_ (show Below w0.heap.size w0 wd_ from by rw [hw]; exact below_set HB.1 j.1); have n2_ := Q_ (show Kept w wd_ (fun k_ => P0_ k_) from by rw [hw]; exact Kept.setCell HK.1 (.inl PG6.1) _); have n3_ := Q_ (HM.1.trans hms_); obtain ⟨Xd, HOd, hrd⟩ := R_like sh_k86 hms_ HO.1; have HSd := Q_ (RowsS.trans sh86_trans HS.1 hrd); clear HO HS hrd HE; have HO := Q_ HOd; have HS := HSd; clear HOd HSd; have HE := Q_ (HS.1.at z86 HII.1); rw [← h.1, ← HTI.1] at HE; clear HB HK HM hms_ hxd hfd hw; have HB := n1_; have HK := n2_; have HM := n3_; clear n1_ n2_ n3_; obtain ⟨ce, hcle, hMe, hcce, hfre⟩ := Kd.R_elem HO.1 z86 a HP6.1 i.1; obtain ⟨Ee, hEe⟩ : ∃ e_ : S86, e_ = Xd.getD (a : Int).toNat z86 := ⟨_, rfl⟩; rw [← hEe] at hMe HE; clear hEe; obtain ⟨ve_2, ve_4, rfl, ge_2, ge_4⟩ := k86_openM hMe; obtain ⟨Ae, be, ee⟩ := Kd.R_slice ge_4; subst ee; have hxe : wd_.cell? ⟨d, (a : Int).toNat * 5 + 4, none⟩ = some (.slice Ae Ee.f2.length be) := hcce 4 _ rfl; have HGe := Q_ (Kd.R_mono ge_4 (fun k_ h_ => h_.1)); clear hcle hcce hfre; clear ge_2 ge_4; try clear hMe)
  | ((with_reducible refine gate_callee (f := 12) rfl ?_); refine goesL_ (some 51) rfl rfl Try.func12 (by kernel_rfl) rfl #[(.slice Ae Ee.f2.length be), .int .i64 (wrap64 ((cnt E0.f0.f2.length (wrap64 ((wrap64 (b + 1)) + 1))) + 1))] rfl mp_ ?_; (with_reducible refine (laws_markIntS.callsM P0_ (.slice Ae Ee.f2.length be) Ee.f2 (wrap64 ((cnt E0.f0.f2.length (wrap64 ((wrap64 (b + 1)) + 1))) + 1)) w0 _ ?side1 ?side2).mono ?_); (case side1 => exact pb_ HB.1); (case side2 => exact pr_ HGe.1); rintro e we_ ⟨he_, hb, hkp, hms0_⟩; rw [HE.1.2] at he_; subst he_; refine ⟨_, rfl, ?_⟩; have hms_ := Marked.trans (qn_ (Marked.refl _)) hms0_; have n1_ := Q_ hb; have n2_ := Q_ (Kept.then_ (S := (fun k_ => P0_ k_)) (qm_ HK.1) hkp (fun k_ hs_ => .inl hs_)); have n3_ := Q_ (Marked.trans (qn_ HM.1) hms0_); obtain ⟨Xe, HOe, hre⟩ := R_like sh_k86 hms_ HO.1; have HSe := Q_ (RowsS.trans sh86_trans HS.1 hre); clear HO HS hre HE; have HO := Q_ HOe; have HS := HSe; clear HOe HSe; have HE := Q_ (HS.1.at z86 HII.1); rw [← h.1, ← HTI.1] at HE; clear HB HK HM hms_ hms0_ hb hkp hxe HGe; have HB := n1_; have HK := n2_; have HM := n3_; clear n1_ n2_ n3_))
 go_roundg k1
 case measure => omega
 case rel => exact ⟨_, (cnt E0.f2.length (wrap64 ((cnt E0.f0.f2.length (wrap64 ((wrap64 (b + 1)) + 1))) + 1))), (wrap64 (a + 1)), i_1 + 1, el_, el_, HW5, ⟨by have := HN.1.1; omega, by have := HII.1; omega⟩, HS, ⟨by have h_ := HV.1; rw [getD_cons_drop z86 HII.1, ← h.1] at h_; exact h_⟩, ⟨pr_ HO.1⟩, ⟨qm_ HK.1⟩, ⟨qn_ HM.1⟩, ⟨pb_ HB.1⟩⟩


/-! ### laws_markLoggedS: function 38, by shapes -/
def sh89 (x y : S89) : Prop := y.f3.f0.f2.length = x.f3.f0.f2.length ∧ y.f3.f2.length = x.f3.f2.length
theorem sh89_refl (x : S89) : sh89 x x := ⟨rfl, rfl⟩
theorem sh89_trans (x y z : S89) (a : sh89 x y) (b : sh89 y z) : sh89 x z := by
 obtain ⟨c, d⟩ := a
 obtain ⟨b0, b1⟩ := b
 exact ⟨b0.trans c, b1.trans d⟩
theorem sh_k89 : Sh k89 sh89 := Sh.imp (Sh.iso (Sh.pair (Sh.int .i64) (Sh.pair (Sh.int .i64) (Sh.pair Sh.bool (Sh.iso (Sh.pair (Sh.iso (Sh.pair Sh.bool (Sh.pair (Sh.int .i64) (Sh.slice (Sh.int .i64) 3))) (fun x : S84 => (x.f0, x.f1, x.f2)) (fun p => ⟨p.1, p.2.1, p.2.2⟩) (fun _ => rfl)) (Sh.pair (Sh.int .i64) (Sh.slice (Sh.int .i64) 3))) (fun x : S86 => (x.f0, x.f1, x.f2)) (fun p => ⟨p.1, p.2.1, p.2.2⟩) (fun _ => rfl))))) (fun x : S89 => (x.f0, x.f1, x.f2, x.f3)) (fun p => ⟨p.1, p.2.1, p.2.2.1, p.2.2.2⟩) (fun _ => rfl)) (fun x y h => ⟨h.2.2.2.1.2.2.1, h.2.2.2.2.2.1⟩)
def markE89 (x : S89) (k : Int) : Int := (cnt x.f3.f2.length (wrap64 ((cnt x.f3.f0.f2.length (wrap64 ((wrap64 ((wrap64 ((wrap64 ((wrap64 (k + 1)) + 1)) + 1)) + 1)) + 1))) + 1)))
def markC89 : List S89 → Int → Int
 | [], k => k
 | x :: l, k => markC89 l (markE89 x k)
theorem markE89_like {x y : S89} (h : sh89 x y) (k : Int) : markE89 y k = markE89 x k := by
 obtain ⟨h0, h1⟩ := h
 unfold markE89
 rw [h0, h1]
theorem markC89_like {xs ys : List S89} (h : RowsS sh89 xs ys) (k : Int) : markC89 ys k = markC89 xs k := by
 induction xs generalizing ys k with
 | nil =>
  have := h.1
  rw [List.length_eq_zero_iff.1 this]
 | cons x xs ih =>
  cases ys with
  | nil => have := h.1; simp at this
  | cons y ys =>
   obtain ⟨y', hy, hs⟩ := h.2 0 x rfl
   obtain rfl : y = y' := by simpa using hy
   have ht : RowsS sh89 xs ys := h.drop 1
   simp only [markC89]
   rw [markE89_like hs, ih ht]
theorem laws_markLoggedS.callsM (P0_ : Nat → Prop) (u9000_ : Value) (i : List S89) (l : Int) (w0 w : World) (hB : Below w0.heap.size w0 w) (q : Kd.R k89 89 w w0.heap.size P0_ u9000_ i) :
  Calls Try.prog 38 #[u9000_, .int .i64 l] w fun e w' => e = .returned (.int .i64 (markC89 i l)) ∧ Below w0.heap.size w0 w' ∧ Kept w w' (fun k_ => P0_ k_) ∧ Marked w w' := by
 have hu89 := Try.underlying89
 have k := Q_ q
 have HK := Q_ (Kept.refl w (fun k_ => P0_ k_))
 have HM := Q_ (Marked.refl w)
 have HB := Q_ hB
 clear hB q
 go_enter Try.func38, Try.ntmps38
 go_wp2
 go_loopg [1, 5] (i.length + 1) (fun kq F G w' => ∃ (d : List S89) (c a : Int) (i_1 : Nat), F = .int .i64 c ∧ G = .int .i64 a ∧ Aside0 (a = (i_1 : Int)) ∧ Aside0 (i_1 + kq = i.length + 1 ∧ i_1 ≤ i.length) ∧ Aside0 (RowsS sh89 i d) ∧ Aside0 (markC89 (i.drop i_1) c = markC89 i l) ∧ Aside0 (Kd.R k89 89 w' w0.heap.size P0_ u9000_ d) ∧ Aside0 (Kept w w' (fun k_ => P0_ k_)) ∧ Aside0 (Marked w w') ∧ Aside0 (Below w0.heap.size w0 w'))
 case atStart => exact ⟨i, l, 0, 0, el_, el_, ⟨rfl⟩, ⟨by omega, by omega⟩, ⟨RowsS.refl (fun _ => sh89_refl _) i⟩, ⟨rfl⟩, ⟨pr_ k.1⟩, ⟨qm_ HK.1⟩, ⟨qn_ HM.1⟩, ⟨pb_ HB.1⟩⟩
 clear k
 obtain ⟨d, c, a, i_1, rfl, rfl, HI, HN, HS, HV, HO, HK, HM, HB⟩ := hrel
 rcases gk with _ | k1
 ·exact absurd HN.1 (by omega)
 have HL := Q_ (show d.length = i.length from HS.1.1)
 have HLG := Q_ (R_long HO.1)
 by_cases r : a < (d.length : Int)
 rotate_left
 ·have m := decide_eq_false r
  have e_ : c = markC89 i l := by
   have h_ := HV.1
   have h1_ := HI.1
   have hlen := HL.1
   rw [show i_1 = i.length by have := HN.1.2; omega] at h_
   simpa [markC89] using h_
  subst e_
  obtain ⟨A, C, u⟩ := Kd.R_slice HO.1
  subst u
  go_wp2
  go_ret
  exact ⟨el_, pb_ HB.1, qm_ HK.1, qn_ HM.1⟩
 have m := decide_eq_true r
 have s : 0 ≤ (a : Int) := by have := HI.1; omega
 have y : (a : Int) < ((d.length : Int) : Int) := r
 have z : decide (0 ≤ a) = true := decide_eq_true s
 have HII := Q_ (show i_1 < i.length from by have := HI.1; have := HL.1; omega)
 have HTI := Q_ (show a.toNat = i_1 from by have := HI.1; omega)
 have HW5 := Q_ (wi_ HI.1 HII.1 (HL.1 ▸ HLG.1))
 obtain ⟨B, E, x⟩ := Kd.R_slice HO.1
 subst x
 obtain ⟨b, D, n, o, gl6, HG6⟩ := Kd.R_form HO.1 (by omega)
 (first | cases n | (injection n with ea_ en_ ec_; (first | subst ea_ | (injection ea_ with ea_; subst ea_)); subst ec_; clear en_))
 have j := Q_ o
 have PG6 := Q_ (HO.1.1 b rfl)
 clear o gl6 HG6 r
 have HP6 := Q_ s
 have h := Q_ y
 have HE := Q_ (HS.1.at z89 HII.1)
 obtain ⟨E0, hE0⟩ : ∃ e_ : S89, e_ = i.getD i_1 z89 := ⟨_, rfl⟩
 rw [← hE0, ← HTI.1] at HE
 have g := Q_ hE0
 clear hE0
 obtain ⟨ca, hcla, hMa, hcca, hfra⟩ := Kd.R_elem HO.1 z89 a HP6.1 h.1
 obtain ⟨Ea, hEa⟩ : ∃ e_ : S89, e_ = d.getD (a : Int).toNat z89 := ⟨_, rfl⟩
 rw [← hEa] at hMa HE
 clear hEa
 obtain ⟨va_5, va_7, rfl, ga_5, ga_7⟩ := k89_openM hMa
 have hxa : wr.cell? ⟨b, (a : Int).toNat * 8, none⟩ = some (.int .i64 Ea.f0) := hcca 0 _ rfl
 have hfa : wr.frozen? ⟨b, (a : Int).toNat * 8, none⟩ = false := hfra 0
 clear hcla hcca hfra
 clear ga_5 ga_7
 try clear hMa
 replace s := eq_true s
 replace y := eq_true y
 go_wp2_with (first
  | ((with_reducible refine gate_store (t := 3) (p := 16) rfl ?_); refine store_event (t := 3) (p := 16) (v := ?vo_a) (w1 := ?w1_a) ?hg ?ho ?hn ?hr ?_; (case ho => rfl); (case hg => rfl); (case hn => rfl); (case hr => first | (go_simp; done) | (go_simp; rfl)); intro wa_ hw; have hms_ : Marked _ wa_ := (by rw [hw]; exact Marked.set hxa (.inr (.inl ⟨_, _, _, rfl, rfl⟩))); have n1_ := Q_ (show Below w0.heap.size w0 wa_ from by rw [hw]; exact below_set HB.1 j.1); have n2_ := Q_ (show Kept w wa_ (fun k_ => P0_ k_) from by rw [hw]; exact Kept.setCell HK.1 (.inl PG6.1) _); have n3_ := Q_ (HM.1.trans hms_); obtain ⟨Xa, HOa, hra⟩ := R_like sh_k89 hms_ HO.1; have HSa := Q_ (RowsS.trans sh89_trans HS.1 hra); clear HO HS hra HE; have HO := Q_ HOa; have HS := HSa; clear HOa HSa; have HE := Q_ (HS.1.at z89 HII.1); rw [← g.1, ← HTI.1] at HE; clear HB HK HM hms_ hxa hfa hw; have HB := n1_; have HK := n2_; have HM := n3_; clear n1_ n2_ n3_; obtain ⟨cb, hclb, hMb, hccb, hfrb⟩ := Kd.R_elem HO.1 z89 a HP6.1 h.1; obtain ⟨Eb, hEb⟩ : ∃ e_ : S89, e_ = Xa.getD (a : Int).toNat z89 := ⟨_, rfl⟩; rw [← hEb] at hMb HE; clear hEb; obtain ⟨vb_5, vb_7, rfl, gb_5, gb_7⟩ := k89_openM hMb; have hxb : wa_.cell? ⟨b, (a : Int).toNat * 8 + 1, none⟩ = some (.int .i64 Eb.f1) := hccb 1 _ rfl; have hfb : wa_.frozen? ⟨b, (a : Int).toNat * 8 + 1, none⟩ = false := hfrb 1; clear hclb hccb hfrb; clear gb_5 gb_7; try clear hMb)
  | ((with_reducible refine gate_store (t := 3) (p := 23) rfl ?_); refine store_event (t := 3) (p := 23) (v := ?vo_b) (w1 := ?w1_b) ?hg ?ho ?hn ?hr ?_; (case ho => rfl); (case hg => rfl); (case hn => rfl); (case hr => first | (go_simp; done) | (go_simp; rfl)); intro wb_ hw; have hms_ : Marked _ wb_ := (by rw [hw]; exact Marked.set hxb (.inr (.inl ⟨_, _, _, rfl, rfl⟩))); have n1_ := Q_ (show Below w0.heap.size w0 wb_ from by rw [hw]; exact below_set HB.1 j.1); have n2_ := Q_ (show Kept w wb_ (fun k_ => P0_ k_) from by rw [hw]; exact Kept.setCell HK.1 (.inl PG6.1) _); have n3_ := Q_ (HM.1.trans hms_); obtain ⟨Xb, HOb, hrb⟩ := R_like sh_k89 hms_ HO.1; have HSb := Q_ (RowsS.trans sh89_trans HS.1 hrb); clear HO HS hrb HE; have HO := Q_ HOb; have HS := HSb; clear HOb HSb; have HE := Q_ (HS.1.at z89 HII.1); rw [← g.1, ← HTI.1] at HE; clear HB HK HM hms_ hxb hfb hw; have HB := n1_; have HK := n2_; have HM := n3_; clear n1_ n2_ n3_; obtain ⟨cc, hclc, hMc, hccc, hfrc⟩ := Kd.R_elem HO.1 z89 a HP6.1 h.1; obtain ⟨Ec, hEc⟩ : ∃ e_ : S89, e_ = Xb.getD (a : Int).toNat z89 := ⟨_, rfl⟩; rw [← hEc] at hMc HE; clear hEc; obtain ⟨vc_5, vc_7, rfl, gc_5, gc_7⟩ := k89_openM hMc; have hxc : wb_.cell? ⟨b, (a : Int).toNat * 8 + 2, none⟩ = some (.bool Ec.f2) := hccc 2 _ rfl; have hfc : wb_.frozen? ⟨b, (a : Int).toNat * 8 + 2, none⟩ = false := hfrc 2; clear hclc hccc hfrc; clear gc_5 gc_7; try clear hMc)
  | ((with_reducible refine gate_store (t := 4) (p := 32) rfl ?_); refine store_event (t := 4) (p := 32) (v := ?vo_c) (w1 := ?w1_c) ?hg ?ho ?hn ?hr ?_; (case ho => rfl); (case hg => rfl); (case hn => rfl); (case hr => first | (go_simp; done) | (go_simp; rfl)); intro wc_ hw; have hms_ : Marked _ wc_ := (by rw [hw]; exact Marked.set hxc (.inr (.inr ⟨_, _, rfl, rfl⟩))); have n1_ := Q_ (show Below w0.heap.size w0 wc_ from by rw [hw]; exact below_set HB.1 j.1); have n2_ := Q_ (show Kept w wc_ (fun k_ => P0_ k_) from by rw [hw]; exact Kept.setCell HK.1 (.inl PG6.1) _); have n3_ := Q_ (HM.1.trans hms_); obtain ⟨Xc, HOc, hrc⟩ := R_like sh_k89 hms_ HO.1; have HSc := Q_ (RowsS.trans sh89_trans HS.1 hrc); clear HO HS hrc HE; have HO := Q_ HOc; have HS := HSc; clear HOc HSc; have HE := Q_ (HS.1.at z89 HII.1); rw [← g.1, ← HTI.1] at HE; clear HB HK HM hms_ hxc hfc hw; have HB := n1_; have HK := n2_; have HM := n3_; clear n1_ n2_ n3_; obtain ⟨cd, hcld, hMd, hccd, hfrd⟩ := Kd.R_elem HO.1 z89 a HP6.1 h.1; obtain ⟨Ed, hEd⟩ : ∃ e_ : S89, e_ = Xc.getD (a : Int).toNat z89 := ⟨_, rfl⟩; rw [← hEd] at hMd HE; clear hEd; obtain ⟨vd_5, vd_7, rfl, gd_5, gd_7⟩ := k89_openM hMd; have hxd : wc_.cell? ⟨b, (a : Int).toNat * 8 + 3, none⟩ = some (.bool Ed.f3.f0.f0) := hccd 3 _ rfl; have hfd : wc_.frozen? ⟨b, (a : Int).toNat * 8 + 3, none⟩ = false := hfrd 3; clear hcld hccd hfrd; clear gd_5 gd_7; try clear hMd)
  | ((with_reducible refine gate_store (t := 4) (p := 43) rfl ?_); refine store_event (t := 4) (p := 43) (v := ?vo_d) (w1 := ?w1_d) ?hg ?ho ?hn ?hr ?_; (case ho => rfl); (case hg => rfl); (case hn => rfl); (case hr => first | (go_simp; done) | (go_simp; rfl)); intro wd_ hw; have hms_ : Marked _ wd_ := (by rw [hw]; exact Marked.set hxd (.inr (.inr ⟨_, _, rfl, rfl⟩))); have n1_ := Q_ (show Below w0.heap.size w0 wd_ from by rw [hw]; exact below_set HB.1 j.1); have n2_ := Q_ (show Kept w wd_ (fun k_ => P0_ k_) from by rw [hw]; exact Kept.setCell HK.1 (.inl PG6.1) _); have n3_ := Q_ (HM.1.trans hms_); obtain ⟨Xd, HOd, hrd⟩ := R_like sh_k89 hms_ HO.1; have HSd := Q_ (RowsS.trans sh89_trans HS.1 hrd); clear HO HS hrd HE; have HO := Q_ HOd; have HS := HSd; clear HOd HSd; have HE := Q_ (HS.1.at z89 HII.1); rw [← g.1, ← HTI.1] at HE; clear HB HK HM hms_ hxd hfd hw; have HB := n1_; have HK := n2_; have HM := n3_; clear n1_ n2_ n3_; obtain ⟨ce, hcle, hMe, hcce, hfre⟩ := Kd.R_elem HO.1 z89 a HP6.1 h.1; obtain ⟨Ee, hEe⟩ : ∃ e_ : S89, e_ = Xd.getD (a : Int).toNat z89 := ⟨_, rfl⟩; rw [← hEe] at hMe HE; clear hEe; obtain ⟨ve_5, ve_7, rfl, ge_5, ge_7⟩ := k89_openM hMe; have hxe : wd_.cell? ⟨b, (a : Int).toNat * 8 + 4, none⟩ = some (.int .i64 Ee.f3.f0.f1) := hcce 4 _ rfl; have hfe : wd_.frozen? ⟨b, (a : Int).toNat * 8 + 4, none⟩ = false := hfre 4; clear hcle hcce hfre; clear ge_5 ge_7; try clear hMe)
  | ((with_reducible refine gate_store (t := 3) (p := 52) rfl ?_); refine store_event (t := 3) (p := 52) (v := ?vo_e) (w1 := ?w1_e) ?hg ?ho ?hn ?hr ?_; (case ho => rfl); (case hg => rfl); (case hn => rfl); (case hr => first | (go_simp; done) | (go_simp; rfl)); intro we_ hw; have hms_ : Marked _ we_ := (by rw [hw]; exact Marked.set hxe (.inr (.inl ⟨_, _, _, rfl, rfl⟩))); have n1_ := Q_ (show Below w0.heap.size w0 we_ from by rw [hw]; exact below_set HB.1 j.1); have n2_ := Q_ (show Kept w we_ (fun k_ => P0_ k_) from by rw [hw]; exact Kept.setCell HK.1 (.inl PG6.1) _); have n3_ := Q_ (HM.1.trans hms_); obtain ⟨Xe, HOe, hre⟩ := R_like sh_k89 hms_ HO.1; have HSe := Q_ (RowsS.trans sh89_trans HS.1 hre); clear HO HS hre HE; have HO := Q_ HOe; have HS := HSe; clear HOe HSe; have HE := Q_ (HS.1.at z89 HII.1); rw [← g.1, ← HTI.1] at HE; clear HB HK HM hms_ hxe hfe hw; have HB := n1_; have HK := n2_; have HM := n3_; clear n1_ n2_ n3_; obtain ⟨cf, hclf, hMf, hccf, hfrf⟩ := Kd.R_elem HO.1 z89 a HP6.1 h.1; obtain ⟨Ef, hEf⟩ : ∃ e_ : S89, e_ = Xe.getD (a : Int).toNat z89 := ⟨_, rfl⟩; rw [← hEf] at hMf HE; clear hEf; obtain ⟨vf_5, vf_7, rfl, gf_5, gf_7⟩ := k89_openM hMf; obtain ⟨Af, bf, ef⟩ := Kd.R_slice gf_5; subst ef; have hxf : we_.cell? ⟨b, (a : Int).toNat * 8 + 5, none⟩ = some (.slice Af Ef.f3.f0.f2.length bf) := hccf 5 _ rfl; have HGf := Q_ (Kd.R_mono gf_5 (fun k_ h_ => h_.1)); clear hclf hccf hfrf; clear gf_5 gf_7; try clear hMf)
  | ((with_reducible refine gate_callee (f := 12) rfl ?_); refine goesL_ (some 63) rfl rfl Try.func12 (by kernel_rfl) rfl #[(.slice Af Ef.f3.f0.f2.length bf), .int .i64 (wrap64 ((wrap64 ((wrap64 ((wrap64 ((wrap64 (c + 1)) + 1)) + 1)) + 1)) + 1))] rfl mp_ ?_; (with_reducible refine (laws_markIntS.callsM P0_ (.slice Af Ef.f3.f0.f2.length bf) Ef.f3.f0.f2 (wrap64 ((wrap64 ((wrap64 ((wrap64 ((wrap64 (c + 1)) + 1)) + 1)) + 1)) + 1)) w0 _ ?side1 ?side2).mono ?_); (case side1 => exact pb_ HB.1); (case side2 => exact pr_ HGf.1); rintro e wf_ ⟨he_, hb, hkp, hms0_⟩; rw [HE.1.1] at he_; subst he_; refine ⟨_, rfl, ?_⟩; have hms_ := Marked.trans (qn_ (Marked.refl _)) hms0_; have n1_ := Q_ hb; have n2_ := Q_ (Kept.then_ (S := (fun k_ => P0_ k_)) (qm_ HK.1) hkp (fun k_ hs_ => .inl hs_)); have n3_ := Q_ (Marked.trans (qn_ HM.1) hms0_); obtain ⟨Xf, HOf, hrf⟩ := R_like sh_k89 hms_ HO.1; have HSf := Q_ (RowsS.trans sh89_trans HS.1 hrf); clear HO HS hrf HE; have HO := Q_ HOf; have HS := HSf; clear HOf HSf; have HE := Q_ (HS.1.at z89 HII.1); rw [← g.1, ← HTI.1] at HE; clear HB HK HM hms_ hms0_ hb hkp hxf HGf; have HB := n1_; have HK := n2_; have HM := n3_; clear n1_ n2_ n3_; obtain ⟨cg, hclg, hMg, hccg, hfrg⟩ := Kd.R_elem HO.1 z89 a HP6.1 h.1; obtain ⟨Eg, hEg⟩ : ∃ e_ : S89, e_ = Xf.getD (a : Int).toNat z89 := ⟨_, rfl⟩; rw [← hEg] at hMg HE; clear hEg; obtain ⟨vg_5, vg_7, rfl, gg_5, gg_7⟩ := k89_openM hMg; have hxg : wf_.cell? ⟨b, (a : Int).toNat * 8 + 6, none⟩ = some (.int .i64 Eg.f3.f1) := hccg 6 _ rfl; have hfg : wf_.frozen? ⟨b, (a : Int).toNat * 8 + 6, none⟩ = false := hfrg 6; clear hclg hccg hfrg; clear gg_5 gg_7; try clear hMg)
  | ((with_reducible refine gate_store (t := 3) (p := 69) rfl ?_); refine store_event (t := 3) (p := 69) (v := ?vo_g) (w1 := ?w1_g) ?hg ?ho ?hn ?hr ?_; (case ho => rfl); (case hg => rfl); (case hn => rfl); (case hr => first | (go_simp; done) | (go_simp; rfl)); intro wg_ hw; have hms_ : Marked _ wg_ := (by rw [hw]; exact Marked.set hxg (.inr (.inl ⟨_, _, _, rfl, rfl⟩))); have n1_ := Q_ (show Below w0.heap.size w0 wg_ from by rw [hw]; exact below_set HB.1 j.1); have n2_ := Q_ (show Kept w wg_ (fun k_ => P0_ k_) from by rw [hw]; exact Kept.setCell HK.1 (.inl PG6.1) _); have n3_ := Q_ (HM.1.trans hms_); obtain ⟨Xg, HOg, hrg⟩ := R_like sh_k89 hms_ HO.1; have HSg := Q_ (RowsS.trans sh89_trans HS.1 hrg); clear HO HS hrg HE; have HO := Q_ HOg; have HS := HSg; clear HOg HSg; have HE := Q_ (HS.1.at z89 HII.1); rw [← g.1, ← HTI.1] at HE; clear HB HK HM hms_ hxg hfg hw; have HB := n1_; have HK := n2_; have HM := n3_; clear n1_ n2_ n3_; obtain ⟨ch, hclh, hMh, hcch, hfrh⟩ := Kd.R_elem HO.1 z89 a HP6.1 h.1; obtain ⟨Eh, hEh⟩ : ∃ e_ : S89, e_ = Xg.getD (a : Int).toNat z89 := ⟨_, rfl⟩; rw [← hEh] at hMh HE; clear hEh; obtain ⟨vh_5, vh_7, rfl, gh_5, gh_7⟩ := k89_openM hMh; obtain ⟨Ah, bh, eh⟩ := Kd.R_slice gh_7; subst eh; have hxh : wg_.cell? ⟨b, (a : Int).toNat * 8 + 7, none⟩ = some (.slice Ah Eh.f3.f2.length bh) := hcch 7 _ rfl; have HGh := Q_ (Kd.R_mono gh_7 (fun k_ h_ => h_.1)); clear hclh hcch hfrh; clear gh_5 gh_7; try clear hMh)
  | ((with_reducible refine gate_callee (f := 12) rfl ?_); refine goesL_ (some 79) rfl rfl Try.func12 (by kernel_rfl) rfl #[(.slice Ah Eh.f3.f2.length bh), .int .i64 (wrap64 ((cnt E0.f3.f0.f2.length (wrap64 ((wrap64 ((wrap64 ((wrap64 ((wrap64 (c + 1)) + 1)) + 1)) + 1)) + 1))) + 1))] rfl mp_ ?_; (with_reducible refine (laws_markIntS.callsM P0_ (.slice Ah Eh.f3.f2.length bh) Eh.f3.f2 (wrap64 ((cnt E0.f3.f0.f2.length (wrap64 ((wrap64 ((wrap64 ((wrap64 ((wrap64 (c + 1)) + 1)) + 1)) + 1)) + 1))) + 1)) w0 _ ?side1 ?side2).mono ?_); (case side1 => exact pb_ HB.1); (case side2 => exact pr_ HGh.1); rintro e wh_ ⟨he_, hb, hkp, hms0_⟩; rw [HE.1.2] at he_; subst he_; refine ⟨_, rfl, ?_⟩; have hms_ := Marked.trans (qn_ (Marked.refl _)) hms0_; have n1_ := Q_ hb; have n2_ := Q_ (Kept.then_ (S := (fun k_ => P0_ k_)) (qm_ HK.1) hkp (fun k_ hs_ => .inl hs_)); have n3_ := Q_ (Marked.trans (qn_ HM.1) hms0_); obtain ⟨Xh, HOh, hrh⟩ := R_like sh_k89 hms_ HO.1; have HSh := Q_ (RowsS.trans sh89_trans HS.1 hrh); clear HO HS hrh HE; have HO := Q_ HOh; have HS := HSh; clear HOh HSh; have HE := Q_ (HS.1.at z89 HII.1); rw [← g.1, ← HTI.1] at HE; clear HB HK HM hms_ hms0_ hb hkp hxh HGh; have HB := n1_; have HK := n2_; have HM := n3_; clear n1_ n2_ n3_))
 go_roundg k1
 case measure => omega
 case rel => exact ⟨_, (cnt E0.f3.f2.length (wrap64 ((cnt E0.f3.f0.f2.length (wrap64 ((wrap64 ((wrap64 ((wrap64 ((wrap64 (c + 1)) + 1)) + 1)) + 1)) + 1))) + 1))), (wrap64 (a + 1)), i_1 + 1, el_, el_, HW5, ⟨by have := HN.1.1; omega, by have := HII.1; omega⟩, HS, ⟨by have h_ := HV.1; rw [getD_cons_drop z89 HII.1, ← g.1] at h_; exact h_⟩, ⟨pr_ HO.1⟩, ⟨qm_ HK.1⟩, ⟨qn_ HM.1⟩, ⟨pb_ HB.1⟩⟩


/-! ### laws_markWorld: function 11, by shapes -/
theorem laws_markWorld.callsM (P0_0_ : Nat → Prop) (u9000_ : Value) (c : List Int) (P0_1_ : Nat → Prop) (u9001_ : Value) (j : List Int) (C : Int) (P0_3_ : Nat → Prop) (u9002_ : Value) (k : List S56) (o : Int) (P0_5_ : Nat → Prop) (u9003_ : Value) (m : List Int) (p : Int) (q : Bool) (D : Int) (E : Int) (P0_10_ : Nat → Prop) (u9004_ : Value) (l : List S86) (P0_11_ : Nat → Prop) (u9005_ : Value) (n : List S89) (u : Int) (v : Int) (x : Int) (r : Int) (w0 w : World) (hB : Below w0.heap.size w0 w) (y : Kd.R (Kd.int .i64) 3 w w0.heap.size P0_0_ u9000_ c) (z : Kd.R (Kd.int .i64) 3 w w0.heap.size P0_1_ u9001_ j) (A : Kd.R k56 56 w w0.heap.size P0_3_ u9002_ k) (B : Kd.R (Kd.int .i64) 3 w w0.heap.size P0_5_ u9003_ m) (s : Kd.R k86 86 w w0.heap.size P0_10_ u9004_ l) (t : Kd.R k89 89 w w0.heap.size P0_11_ u9005_ n) :
  Calls Try.prog 11 #[.agg #[u9000_, u9001_, .int .i64 C, u9002_, .int .i64 o, u9003_, .int .i64 p, .bool q, .int .i64 D, .int .i64 E, u9004_, u9005_, .int .i64 u, .int .i64 v, .int .i64 x], .int .i64 r] w fun e w' => e = .returned (.int .i64 (markC89 n (markC86 l (cnt m.length (markC56 k (cnt j.length (cnt c.length r))))))) ∧ Below w0.heap.size w0 w' ∧ Kept w w' (fun k_ => (P0_0_ k_ ∨ P0_1_ k_ ∨ P0_3_ k_ ∨ P0_5_ k_ ∨ P0_10_ k_ ∨ P0_11_ k_)) ∧ Marked w w' := by
 have hu37 := Try.underlying37
 have hu33 := Try.underlying33
 have d := Q_ (show Kd.R (Kd.int .i64) 3 w w0.heap.size (fun k_ => P0_0_ k_ ∧ k_ < w.heap.size) u9000_ c from Kd.R_mono (Kd.R_bound y) (fun k_ hk => ⟨hk.1, hk.2.2.1⟩))
 have HS0 := Q_ (show c.length = c.length from rfl)
 have g := Q_ (show Kd.R (Kd.int .i64) 3 w w0.heap.size (fun k_ => P0_1_ k_ ∧ k_ < w.heap.size) u9001_ j from Kd.R_mono (Kd.R_bound z) (fun k_ hk => ⟨hk.1, hk.2.2.1⟩))
 have HS1 := Q_ (show j.length = j.length from rfl)
 have h := Q_ (show Kd.R k56 56 w w0.heap.size (fun k_ => P0_3_ k_ ∧ k_ < w.heap.size) u9002_ k from Kd.R_mono (Kd.R_bound A) (fun k_ hk => ⟨hk.1, hk.2.2.1⟩))
 have HS3 := Q_ (show RowsS sh56 k k from RowsS.refl (fun _ => sh56_refl _) _)
 have i := Q_ (show Kd.R (Kd.int .i64) 3 w w0.heap.size (fun k_ => P0_5_ k_ ∧ k_ < w.heap.size) u9003_ m from Kd.R_mono (Kd.R_bound B) (fun k_ hk => ⟨hk.1, hk.2.2.1⟩))
 have HS5 := Q_ (show m.length = m.length from rfl)
 have a := Q_ (show Kd.R k86 86 w w0.heap.size (fun k_ => P0_10_ k_ ∧ k_ < w.heap.size) u9004_ l from Kd.R_mono (Kd.R_bound s) (fun k_ hk => ⟨hk.1, hk.2.2.1⟩))
 have HS10 := Q_ (show RowsS sh86 l l from RowsS.refl (fun _ => sh86_refl _) _)
 have b := Q_ (show Kd.R k89 89 w w0.heap.size (fun k_ => P0_11_ k_ ∧ k_ < w.heap.size) u9005_ n from Kd.R_mono (Kd.R_bound t) (fun k_ hk => ⟨hk.1, hk.2.2.1⟩))
 have HS11 := Q_ (show RowsS sh89 n n from RowsS.refl (fun _ => sh89_refl _) _)
 have HK := Q_ (Kept.refl w (fun k_ => (P0_0_ k_ ∨ P0_1_ k_ ∨ P0_3_ k_ ∨ P0_5_ k_ ∨ P0_10_ k_ ∨ P0_11_ k_)))
 have HM := Q_ (Marked.refl w)
 have HB := Q_ hB
 clear hB y z A B s t
 go_enter Try.func11, Try.ntmps11
 go_wp2_with (first
  | ((with_reducible refine gate_dst (N := 2) rfl ?_); refine bx_ 2 #[u9000_, u9001_, .int .i64 C, u9002_, .int .i64 o, u9003_, .int .i64 p, .bool q, .int .i64 D, .int .i64 E, u9004_, u9005_, .int .i64 u, .int .i64 v, .int .i64 x] 37 ?_; intro gb hg wx hbox hb; have m0_ := Q_ (Kd.R_below (pr_ d.1) hb); have m1_ := Q_ (Kd.R_below (pr_ g.1) hb); have m3_ := Q_ (Kd.R_below (pr_ h.1) hb); have m5_ := Q_ (Kd.R_below (pr_ i.1) hb); have m10_ := Q_ (Kd.R_below (pr_ a.1) hb); have m11_ := Q_ (Kd.R_below (pr_ b.1) hb); have hk_ := Q_ (Kept.below (qm_ HK.1) hb); have hm_ := Q_ (Marked.below (qn_ HM.1) hb); have hb_ := Q_ (below_step (pb_ HB.1) hb); have BK := Q_ hbox; have GW := Q_ (show w.heap.size ≤ gb from by rw [hg]; exact (qn_ HM.1 : Marked w _).size); clear d g h i a b HK HM HB hb hbox hg; have d := m0_; have g := m1_; have h := m3_; have i := m5_; have a := m10_; have b := m11_; have HK := hk_; have HM := hm_; have HB := hb_; clear m0_ m1_ m3_ m5_ m10_ m11_ hk_ hm_ hb_; have hcz := bc15_ BK.1)
  | ((with_reducible refine gate_callee (f := 12) rfl ?_); refine goesL_ (some 8) rfl rfl Try.func12 (by kernel_rfl) rfl #[u9000_, .int .i64 r] rfl mp_ ?_; (with_reducible refine (laws_markIntS.callsM (fun k_ => P0_0_ k_ ∧ k_ < w.heap.size) u9000_ c r w0 _ ?side1 ?side2).mono ?_); (case side1 => exact pb_ HB.1); (case side2 => exact pr_ d.1); rintro e wa_ ⟨he_, hb, hkp, hms0_⟩; rw [HS0.1] at he_; subst he_; refine ⟨_, rfl, ?_⟩; have hms_ := Marked.trans (qn_ (Marked.refl _)) hms0_; obtain ⟨Xa0, h0_, r0_⟩ := R_like (Sh.int .i64) hms_ d.1; have n0_ := Q_ (r0_.1.trans HS0.1); clear d HS0 r0_; have d := Q_ h0_; have HS0 := n0_; clear h0_ n0_; obtain ⟨Xa1, h1_, r1_⟩ := R_like (Sh.int .i64) hms_ g.1; have n1_ := Q_ (r1_.1.trans HS1.1); clear g HS1 r1_; have g := Q_ h1_; have HS1 := n1_; clear h1_ n1_; obtain ⟨Xa3, h3_, r3_⟩ := R_like sh_k56 hms_ h.1; have n3_ := Q_ (RowsS.trans sh56_trans HS3.1 r3_); clear h HS3 r3_; have h := Q_ h3_; have HS3 := n3_; clear h3_ n3_; obtain ⟨Xa5, h5_, r5_⟩ := R_like (Sh.int .i64) hms_ i.1; have n5_ := Q_ (r5_.1.trans HS5.1); clear i HS5 r5_; have i := Q_ h5_; have HS5 := n5_; clear h5_ n5_; obtain ⟨Xa10, h10_, r10_⟩ := R_like sh_k86 hms_ a.1; have n10_ := Q_ (RowsS.trans sh86_trans HS10.1 r10_); clear a HS10 r10_; have a := Q_ h10_; have HS10 := n10_; clear h10_ n10_; obtain ⟨Xa11, h11_, r11_⟩ := R_like sh_k89 hms_ b.1; have n11_ := Q_ (RowsS.trans sh89_trans HS11.1 r11_); clear b HS11 r11_; have b := Q_ h11_; have HS11 := n11_; clear h11_ n11_; have hb2_ := Q_ (blk_kept BK.1 hkp (fun h_ => by have := h_.2; have := GW.1; omega)); have hk_ := Q_ (Kept.then_ (S := (fun k_ => (P0_0_ k_ ∨ P0_1_ k_ ∨ P0_3_ k_ ∨ P0_5_ k_ ∨ P0_10_ k_ ∨ P0_11_ k_))) (qm_ HK.1) hkp (fun k_ hs_ => .inl (.inl hs_.1))); have hm_ := Q_ (Marked.trans (qn_ HM.1) hms0_); have hb_ := Q_ hb; clear HK HM HB BK hb hkp hms_ hms0_; have HK := hk_; have HM := hm_; have HB := hb_; clear hk_ hm_ hb_; have BK := hb2_; clear hb2_; have hcza := bc15_ BK.1)
  | ((with_reducible refine gate_callee (f := 12) rfl ?_); refine goesL_ (some 12) rfl rfl Try.func12 (by kernel_rfl) rfl #[u9001_, .int .i64 (cnt c.length r)] rfl mp_ ?_; (with_reducible refine (laws_markIntS.callsM (fun k_ => P0_1_ k_ ∧ k_ < w.heap.size) u9001_ Xa1 (cnt c.length r) w0 _ ?side1 ?side2).mono ?_); (case side1 => exact pb_ HB.1); (case side2 => exact pr_ g.1); rintro e wb_ ⟨he_, hb, hkp, hms0_⟩; rw [HS1.1] at he_; subst he_; refine ⟨_, rfl, ?_⟩; have hms_ := Marked.trans (qn_ (Marked.refl _)) hms0_; obtain ⟨Xb0, h0_, r0_⟩ := R_like (Sh.int .i64) hms_ d.1; have n0_ := Q_ (r0_.1.trans HS0.1); clear d HS0 r0_; have d := Q_ h0_; have HS0 := n0_; clear h0_ n0_; obtain ⟨Xb1, h1_, r1_⟩ := R_like (Sh.int .i64) hms_ g.1; have n1_ := Q_ (r1_.1.trans HS1.1); clear g HS1 r1_; have g := Q_ h1_; have HS1 := n1_; clear h1_ n1_; obtain ⟨Xb3, h3_, r3_⟩ := R_like sh_k56 hms_ h.1; have n3_ := Q_ (RowsS.trans sh56_trans HS3.1 r3_); clear h HS3 r3_; have h := Q_ h3_; have HS3 := n3_; clear h3_ n3_; obtain ⟨Xb5, h5_, r5_⟩ := R_like (Sh.int .i64) hms_ i.1; have n5_ := Q_ (r5_.1.trans HS5.1); clear i HS5 r5_; have i := Q_ h5_; have HS5 := n5_; clear h5_ n5_; obtain ⟨Xb10, h10_, r10_⟩ := R_like sh_k86 hms_ a.1; have n10_ := Q_ (RowsS.trans sh86_trans HS10.1 r10_); clear a HS10 r10_; have a := Q_ h10_; have HS10 := n10_; clear h10_ n10_; obtain ⟨Xb11, h11_, r11_⟩ := R_like sh_k89 hms_ b.1; have n11_ := Q_ (RowsS.trans sh89_trans HS11.1 r11_); clear b HS11 r11_; have b := Q_ h11_; have HS11 := n11_; clear h11_ n11_; have hb2_ := Q_ (blk_kept BK.1 hkp (fun h_ => by have := h_.2; have := GW.1; omega)); have hk_ := Q_ (Kept.then_ (S := (fun k_ => (P0_0_ k_ ∨ P0_1_ k_ ∨ P0_3_ k_ ∨ P0_5_ k_ ∨ P0_10_ k_ ∨ P0_11_ k_))) (qm_ HK.1) hkp (fun k_ hs_ => .inl (.inr (.inl hs_.1)))); have hm_ := Q_ (Marked.trans (qn_ HM.1) hms0_); have hb_ := Q_ hb; clear HK HM HB BK hb hkp hms_ hms0_; have HK := hk_; have HM := hm_; have HB := hb_; clear hk_ hm_ hb_; have BK := hb2_; clear hb2_; have hczb := bc15_ BK.1)
  | ((with_reducible refine gate_callee (f := 35) rfl ?_); refine goesL_ (some 16) rfl rfl Try.func35 (by kernel_rfl) rfl #[u9002_, .int .i64 (cnt j.length (cnt c.length r))] rfl mp_ ?_; (with_reducible refine (laws_markEndpointS.callsM (fun k_ => P0_3_ k_ ∧ k_ < w.heap.size) u9002_ Xb3 (cnt j.length (cnt c.length r)) w0 _ ?side1 ?side2).mono ?_); (case side1 => exact pb_ HB.1); (case side2 => exact pr_ h.1); rintro e wc_ ⟨he_, hb, hkp, hms0_⟩; rw [markC56_like HS3.1] at he_; subst he_; refine ⟨_, rfl, ?_⟩; have hms_ := Marked.trans (qn_ (Marked.refl _)) hms0_; obtain ⟨Xc0, h0_, r0_⟩ := R_like (Sh.int .i64) hms_ d.1; have n0_ := Q_ (r0_.1.trans HS0.1); clear d HS0 r0_; have d := Q_ h0_; have HS0 := n0_; clear h0_ n0_; obtain ⟨Xc1, h1_, r1_⟩ := R_like (Sh.int .i64) hms_ g.1; have n1_ := Q_ (r1_.1.trans HS1.1); clear g HS1 r1_; have g := Q_ h1_; have HS1 := n1_; clear h1_ n1_; obtain ⟨Xc3, h3_, r3_⟩ := R_like sh_k56 hms_ h.1; have n3_ := Q_ (RowsS.trans sh56_trans HS3.1 r3_); clear h HS3 r3_; have h := Q_ h3_; have HS3 := n3_; clear h3_ n3_; obtain ⟨Xc5, h5_, r5_⟩ := R_like (Sh.int .i64) hms_ i.1; have n5_ := Q_ (r5_.1.trans HS5.1); clear i HS5 r5_; have i := Q_ h5_; have HS5 := n5_; clear h5_ n5_; obtain ⟨Xc10, h10_, r10_⟩ := R_like sh_k86 hms_ a.1; have n10_ := Q_ (RowsS.trans sh86_trans HS10.1 r10_); clear a HS10 r10_; have a := Q_ h10_; have HS10 := n10_; clear h10_ n10_; obtain ⟨Xc11, h11_, r11_⟩ := R_like sh_k89 hms_ b.1; have n11_ := Q_ (RowsS.trans sh89_trans HS11.1 r11_); clear b HS11 r11_; have b := Q_ h11_; have HS11 := n11_; clear h11_ n11_; have hb2_ := Q_ (blk_kept BK.1 hkp (fun h_ => by have := h_.2; have := GW.1; omega)); have hk_ := Q_ (Kept.then_ (S := (fun k_ => (P0_0_ k_ ∨ P0_1_ k_ ∨ P0_3_ k_ ∨ P0_5_ k_ ∨ P0_10_ k_ ∨ P0_11_ k_))) (qm_ HK.1) hkp (fun k_ hs_ => .inl (.inr (.inr (.inl hs_.1))))); have hm_ := Q_ (Marked.trans (qn_ HM.1) hms0_); have hb_ := Q_ hb; clear HK HM HB BK hb hkp hms_ hms0_; have HK := hk_; have HM := hm_; have HB := hb_; clear hk_ hm_ hb_; have BK := hb2_; clear hb2_; have hczc := bc15_ BK.1)
  | ((with_reducible refine gate_callee (f := 36) rfl ?_); refine goesL_ (some 20) rfl rfl Try.func36 (by kernel_rfl) rfl #[.agg #[.int .i64 o, u9003_, .int .i64 p, .bool q], .int .i64 (markC56 k (cnt j.length (cnt c.length r)))] rfl mp_ ?_; (with_reducible refine (laws_markRollout.callsM o (fun k_ => P0_5_ k_ ∧ k_ < w.heap.size) u9003_ Xc5 p q (markC56 k (cnt j.length (cnt c.length r))) w0 _ ?side1 ?side2).mono ?_); (case side1 => exact pb_ HB.1); (case side2 => exact pr_ i.1); rintro e wd_ ⟨he_, hb, hkp, hms0_⟩; rw [HS5.1] at he_; subst he_; refine ⟨_, rfl, ?_⟩; have hms_ := Marked.trans (qn_ (Marked.refl _)) hms0_; obtain ⟨Xd0, h0_, r0_⟩ := R_like (Sh.int .i64) hms_ d.1; have n0_ := Q_ (r0_.1.trans HS0.1); clear d HS0 r0_; have d := Q_ h0_; have HS0 := n0_; clear h0_ n0_; obtain ⟨Xd1, h1_, r1_⟩ := R_like (Sh.int .i64) hms_ g.1; have n1_ := Q_ (r1_.1.trans HS1.1); clear g HS1 r1_; have g := Q_ h1_; have HS1 := n1_; clear h1_ n1_; obtain ⟨Xd3, h3_, r3_⟩ := R_like sh_k56 hms_ h.1; have n3_ := Q_ (RowsS.trans sh56_trans HS3.1 r3_); clear h HS3 r3_; have h := Q_ h3_; have HS3 := n3_; clear h3_ n3_; obtain ⟨Xd5, h5_, r5_⟩ := R_like (Sh.int .i64) hms_ i.1; have n5_ := Q_ (r5_.1.trans HS5.1); clear i HS5 r5_; have i := Q_ h5_; have HS5 := n5_; clear h5_ n5_; obtain ⟨Xd10, h10_, r10_⟩ := R_like sh_k86 hms_ a.1; have n10_ := Q_ (RowsS.trans sh86_trans HS10.1 r10_); clear a HS10 r10_; have a := Q_ h10_; have HS10 := n10_; clear h10_ n10_; obtain ⟨Xd11, h11_, r11_⟩ := R_like sh_k89 hms_ b.1; have n11_ := Q_ (RowsS.trans sh89_trans HS11.1 r11_); clear b HS11 r11_; have b := Q_ h11_; have HS11 := n11_; clear h11_ n11_; have hb2_ := Q_ (blk_kept BK.1 hkp (fun h_ => by have := h_.2; have := GW.1; omega)); have hk_ := Q_ (Kept.then_ (S := (fun k_ => (P0_0_ k_ ∨ P0_1_ k_ ∨ P0_3_ k_ ∨ P0_5_ k_ ∨ P0_10_ k_ ∨ P0_11_ k_))) (qm_ HK.1) hkp (fun k_ hs_ => .inl (.inr (.inr (.inr (.inl hs_.1)))))); have hm_ := Q_ (Marked.trans (qn_ HM.1) hms0_); have hb_ := Q_ hb; clear HK HM HB BK hb hkp hms_ hms0_; have HK := hk_; have HM := hm_; have HB := hb_; clear hk_ hm_ hb_; have BK := hb2_; clear hb2_; have hczd := bc15_ BK.1)
  | ((with_reducible refine gate_callee (f := 37) rfl ?_); refine goesL_ (some 24) rfl rfl Try.func37 (by kernel_rfl) rfl #[u9004_, .int .i64 (cnt m.length (markC56 k (cnt j.length (cnt c.length r))))] rfl mp_ ?_; (with_reducible refine (laws_markDialedS.callsM (fun k_ => P0_10_ k_ ∧ k_ < w.heap.size) u9004_ Xd10 (cnt m.length (markC56 k (cnt j.length (cnt c.length r)))) w0 _ ?side1 ?side2).mono ?_); (case side1 => exact pb_ HB.1); (case side2 => exact pr_ a.1); rintro e we_ ⟨he_, hb, hkp, hms0_⟩; rw [markC86_like HS10.1] at he_; subst he_; refine ⟨_, rfl, ?_⟩; have hms_ := Marked.trans (qn_ (Marked.refl _)) hms0_; obtain ⟨Xe0, h0_, r0_⟩ := R_like (Sh.int .i64) hms_ d.1; have n0_ := Q_ (r0_.1.trans HS0.1); clear d HS0 r0_; have d := Q_ h0_; have HS0 := n0_; clear h0_ n0_; obtain ⟨Xe1, h1_, r1_⟩ := R_like (Sh.int .i64) hms_ g.1; have n1_ := Q_ (r1_.1.trans HS1.1); clear g HS1 r1_; have g := Q_ h1_; have HS1 := n1_; clear h1_ n1_; obtain ⟨Xe3, h3_, r3_⟩ := R_like sh_k56 hms_ h.1; have n3_ := Q_ (RowsS.trans sh56_trans HS3.1 r3_); clear h HS3 r3_; have h := Q_ h3_; have HS3 := n3_; clear h3_ n3_; obtain ⟨Xe5, h5_, r5_⟩ := R_like (Sh.int .i64) hms_ i.1; have n5_ := Q_ (r5_.1.trans HS5.1); clear i HS5 r5_; have i := Q_ h5_; have HS5 := n5_; clear h5_ n5_; obtain ⟨Xe10, h10_, r10_⟩ := R_like sh_k86 hms_ a.1; have n10_ := Q_ (RowsS.trans sh86_trans HS10.1 r10_); clear a HS10 r10_; have a := Q_ h10_; have HS10 := n10_; clear h10_ n10_; obtain ⟨Xe11, h11_, r11_⟩ := R_like sh_k89 hms_ b.1; have n11_ := Q_ (RowsS.trans sh89_trans HS11.1 r11_); clear b HS11 r11_; have b := Q_ h11_; have HS11 := n11_; clear h11_ n11_; have hb2_ := Q_ (blk_kept BK.1 hkp (fun h_ => by have := h_.2; have := GW.1; omega)); have hk_ := Q_ (Kept.then_ (S := (fun k_ => (P0_0_ k_ ∨ P0_1_ k_ ∨ P0_3_ k_ ∨ P0_5_ k_ ∨ P0_10_ k_ ∨ P0_11_ k_))) (qm_ HK.1) hkp (fun k_ hs_ => .inl (.inr (.inr (.inr (.inr (.inl hs_.1))))))); have hm_ := Q_ (Marked.trans (qn_ HM.1) hms0_); have hb_ := Q_ hb; clear HK HM HB BK hb hkp hms_ hms0_; have HK := hk_; have HM := hm_; have HB := hb_; clear hk_ hm_ hb_; have BK := hb2_; clear hb2_; have hcze := bc15_ BK.1)
  | ((with_reducible refine gate_callee (f := 38) rfl ?_); refine goesL_ (some 28) rfl rfl Try.func38 (by kernel_rfl) rfl #[u9005_, .int .i64 (markC86 l (cnt m.length (markC56 k (cnt j.length (cnt c.length r)))))] rfl mp_ ?_; (with_reducible refine (laws_markLoggedS.callsM (fun k_ => P0_11_ k_ ∧ k_ < w.heap.size) u9005_ Xe11 (markC86 l (cnt m.length (markC56 k (cnt j.length (cnt c.length r))))) w0 _ ?side1 ?side2).mono ?_); (case side1 => exact pb_ HB.1); (case side2 => exact pr_ b.1); rintro e wf_ ⟨he_, hb, hkp, hms0_⟩; rw [markC89_like HS11.1] at he_; subst he_; refine ⟨_, rfl, ?_⟩; have hms_ := Marked.trans (qn_ (Marked.refl _)) hms0_; obtain ⟨Xf0, h0_, r0_⟩ := R_like (Sh.int .i64) hms_ d.1; have n0_ := Q_ (r0_.1.trans HS0.1); clear d HS0 r0_; have d := Q_ h0_; have HS0 := n0_; clear h0_ n0_; obtain ⟨Xf1, h1_, r1_⟩ := R_like (Sh.int .i64) hms_ g.1; have n1_ := Q_ (r1_.1.trans HS1.1); clear g HS1 r1_; have g := Q_ h1_; have HS1 := n1_; clear h1_ n1_; obtain ⟨Xf3, h3_, r3_⟩ := R_like sh_k56 hms_ h.1; have n3_ := Q_ (RowsS.trans sh56_trans HS3.1 r3_); clear h HS3 r3_; have h := Q_ h3_; have HS3 := n3_; clear h3_ n3_; obtain ⟨Xf5, h5_, r5_⟩ := R_like (Sh.int .i64) hms_ i.1; have n5_ := Q_ (r5_.1.trans HS5.1); clear i HS5 r5_; have i := Q_ h5_; have HS5 := n5_; clear h5_ n5_; obtain ⟨Xf10, h10_, r10_⟩ := R_like sh_k86 hms_ a.1; have n10_ := Q_ (RowsS.trans sh86_trans HS10.1 r10_); clear a HS10 r10_; have a := Q_ h10_; have HS10 := n10_; clear h10_ n10_; obtain ⟨Xf11, h11_, r11_⟩ := R_like sh_k89 hms_ b.1; have n11_ := Q_ (RowsS.trans sh89_trans HS11.1 r11_); clear b HS11 r11_; have b := Q_ h11_; have HS11 := n11_; clear h11_ n11_; skip; have hk_ := Q_ (Kept.then_ (S := (fun k_ => (P0_0_ k_ ∨ P0_1_ k_ ∨ P0_3_ k_ ∨ P0_5_ k_ ∨ P0_10_ k_ ∨ P0_11_ k_))) (qm_ HK.1) hkp (fun k_ hs_ => .inl (.inr (.inr (.inr (.inr (.inr hs_.1))))))); have hm_ := Q_ (Marked.trans (qn_ HM.1) hms0_); have hb_ := Q_ hb; clear HK HM HB BK hb hkp hms_ hms0_; have HK := hk_; have HM := hm_; have HB := hb_; clear hk_ hm_ hb_))
 go_ret
 exact ⟨el_, pb_ HB.1, qm_ HK.1, qn_ HM.1⟩
def laws_markWorld.f (c : List Int) (d : List Int) (k : Int) (e : List S56) (l : Int) (g : List Int) (m : Int) (n : Bool) (o : Int) (p : Int) (a : List S86) (b : List S89) (h : Int) (i : Int) (j : Int) (q : Int) : Option (Int) := some (markC89 b (markC86 a (cnt g.length (markC56 e (cnt d.length (cnt c.length q))))))
theorem laws_markWorld.calls (P0_0_ : Nat → Prop) (u9000_ : Value) (o : List Int) (P0_1_ : Nat → Prop) (u9001_ : Value) (p : List Int) (i : Int) (P0_3_ : Nat → Prop) (u9002_ : Value) (q : List S56) (j : Int) (P0_5_ : Nat → Prop) (u9003_ : Value) (r : List Int) (k : Int) (l : Bool) (m : Int) (n : Int) (P0_10_ : Nat → Prop) (u9004_ : Value) (d : List S86) (P0_11_ : Nat → Prop) (u9005_ : Value) (g : List S89) (a : Int) (b : Int) (c : Int) (z : Int) (A : Int) (w0 w : World) (hB : Below w0.heap.size w0 w) (u : Kd.R (Kd.int .i64) 3 w w0.heap.size P0_0_ u9000_ o) (hp0_0_1 : ∀ k_, P0_0_ k_ → ¬ P0_1_ k_) (hp0_0_5 : ∀ k_, P0_0_ k_ → ¬ P0_5_ k_) (v : Kd.R (Kd.int .i64) 3 w w0.heap.size P0_1_ u9001_ p) (hp0_1_0 : ∀ k_, P0_1_ k_ → ¬ P0_0_ k_) (hp0_1_5 : ∀ k_, P0_1_ k_ → ¬ P0_5_ k_) (x : Kd.R k56 56 w w0.heap.size P0_3_ u9002_ q) (y : Kd.R (Kd.int .i64) 3 w w0.heap.size P0_5_ u9003_ r) (hp0_5_0 : ∀ k_, P0_5_ k_ → ¬ P0_0_ k_) (hp0_5_1 : ∀ k_, P0_5_ k_ → ¬ P0_1_ k_) (s : Kd.S k86 86 w w0.heap.size P0_10_ u9004_ d) (t : Kd.S k89 89 w w0.heap.size P0_11_ u9005_ g) (h : laws_markWorld.f o p i q j r k l m n d g a b c z = some A) :
  Calls Try.prog 11 #[.agg #[u9000_, u9001_, .int .i64 i, u9002_, .int .i64 j, u9003_, .int .i64 k, .bool l, .int .i64 m, .int .i64 n, u9004_, u9005_, .int .i64 a, .int .i64 b, .int .i64 c], .int .i64 z] w fun e w' => e = .returned (.int .i64 A) ∧ Below w0.heap.size w0 w' ∧ Kept w w' (fun k_ => (P0_0_ k_ ∨ P0_1_ k_ ∨ P0_3_ k_ ∨ P0_5_ k_ ∨ P0_10_ k_ ∨ P0_11_ k_)) := by
 obtain rfl := Option.some.inj h
 refine (laws_markWorld.callsM P0_0_ u9000_ o P0_1_ u9001_ p i P0_3_ u9002_ q j P0_5_ u9003_ r k l m n P0_10_ u9004_ d P0_11_ u9005_ g a b c z w0 w hB u v x y (Kd.S_R s) (Kd.S_R t)).mono ?_
 rintro e w' ⟨rfl, hb, hk, _⟩
 exact ⟨rfl, hb, hk⟩


/-! ### spec_ListsOf: function 14 -/
def spec_ListsOf.l0 : Nat → List (List Int) → Int → List Int → List Int → Int → List (S56) → Int → List Int → Int → Bool → Int → Int → List (S86) → List (S89) → Int → Int → Int → Option ((List (List Int)))
 | 0, _, _, _, _, _, _, _, _, _, _, _, _, _, _, _, _, _ => none
 | k + 1, s, r, b, c, d, a, e, f, g, h, i, j, l, m, n, o, p => if r < (a.length : Int) then ((some (([] : List Int) : List Int)).bind fun q => (if 0 ≤ r then (if q.length + ((rd_T56 a r).f0).length < 17592186044416 then (if s.length < 5864062014805 then (spec_ListsOf.l0 k (s ++ [(q ++ ((rd_T56 a r).f0))]) (wrap64 (r + 1)) b c d a e f g h i j l m n o p) else (none)) else (none)) else (none))) else (some s)
def spec_ListsOf.f (k : Nat) (n : List Int) (o : List Int) (g : Int) (p : List (S56)) (h : Int) (q : List Int) (i : Int) (j : Bool) (l : Int) (m : Int) (d : List (S86)) (e : List (S89)) (a : Int) (b : Int) (c : Int) : Option ((List (List Int))) := spec_ListsOf.l0 k (([] : List (List Int))) 0 n o g p h q i j l m d e a b c
theorem spec_ListsOf.mono_l : ∀ k, (∀ i j l m n o p q s t a b c d e f g, LeO (spec_ListsOf.l0 k i j l m n o p q s t a b c d e f g) (spec_ListsOf.l0 (k + 1) i j l m n o p q s t a b c d e f g))
 | 0 => fun _ _ _ _ _ _ _ _ _ _ _ _ _ _ _ _ _ r h => by simp [spec_ListsOf.l0] at h
 | k + 1 => by
  have ih0 := spec_ListsOf.mono_l k
  ·intro i j l m n o p q s t a b c d e f g
   unfold spec_ListsOf.l0
   exact mo1_ ih0
theorem spec_ListsOf.mono : ∀ g h i j l m n o p q a b c d e k, LeO (spec_ListsOf.f k g h i j l m n o p q a b c d e) (spec_ListsOf.f (k + 1) g h i j l m n o p q a b c d e) := by
 intro g h i j l m n o p q a b c d e k
 have ih0 := spec_ListsOf.mono_l k
 unfold spec_ListsOf.f
 exact mo1_ ih0
theorem spec_ListsOf.calls (k : Nat) (J : Option Addr) (M : Nat) (q : List Int) (K : Option Addr) (O : Nat) (s : List Int) (v : Int) (ac : Option Addr) (P : Nat) (c : List (S56)) (x : Int) (L : Option Addr) (Q : Nat) (t : List Int) (y : Int) (z : Bool) (A : Int) (B : Int) (E : Option Addr) (G : Nat) (d : List (S86)) (F : Option Addr) (I : Nat) (i : List (S89)) (l : Int) (m : Int) (n : Int) (r : List (List Int)) (w : World) (hr0_0 : Kd.C (Kd.int .i64) w J q.length q) (aj : q.length ≤ M) (hr0_1 : Kd.C (Kd.int .i64) w K s.length s) (ak : s.length ≤ O) (hr0_3 : Kd.C k56 w ac c.length c) (al : c.length ≤ P) (hr0_5 : Kd.C (Kd.int .i64) w L t.length t) (am : t.length ≤ Q) (hr0_10 : Kd.C k86 w E d.length d) (ad : d.length ≤ G) (hr0_11 : Kd.C k89 w F i.length i) (ae : i.length ≤ I) (h : spec_ListsOf.f k q s v c x t y z A B d i l m n = some r) :
  Calls Try.prog 14 #[.agg #[.slice J q.length M, .slice K s.length O, .int .i64 v, .slice ac c.length P, .int .i64 x, .slice L t.length Q, .int .i64 y, .bool z, .int .i64 A, .int .i64 B, .slice E d.length G, .slice F i.length I, .int .i64 l, .int .i64 m, .int .i64 n]] w fun e w' => ∃ v0_ : Value, e = .returned (v0_) ∧ Kd.S (Kd.slice 3 (Kd.int .i64)) 22 w' w.heap.size (fun _ => True) v0_ r ∧ Below w.heap.size w w' := by
 have hu37 := Try.underlying37
 have bd := Q_ hr0_0
 have a9 := Q_ aj
 clear hr0_0 aj
 have be := Q_ hr0_1
 have ba := Q_ ak
 clear hr0_1 ak
 have ay := Q_ hr0_3
 have bb := Q_ al
 clear hr0_3 al
 have bf := Q_ hr0_5
 have bc := Q_ am
 clear hr0_5 am
 have a0 := Q_ hr0_10
 have aY := Q_ ad
 clear hr0_10 ad
 have a1 := Q_ hr0_11
 have aZ := Q_ ae
 clear hr0_11 ae
 have HB := Q_ (Below.refl w.heap.size w)
 have H : (spec_ListsOf.l0 k (([] : List (List Int))) 0 q s v c x t y z A B d i l m n) = some r := h
 clear h
 obtain ⟨au, hy324⟩ : ∃ y_ : List (List Int), y_ = (([] : List (List Int))) := ⟨_, rfl⟩
 replace H : (spec_ListsOf.l0 k au 0 q s v c x t y z A B d i l m n) = some r := hb_ hy324 H
 have ag := Q_ hy324
 clear hy324
 have H' := Q_ H
 clear H
 go_enter Try.func14, Try.ntmps14
 go_wp2_with (first | ((with_reducible refine gate_dst (N := 1) rfl ?_); refine bx_ 1 #[.slice J q.length M, .slice K s.length O, .int .i64 v, .slice ac c.length P, .int .i64 x, .slice L t.length Q, .int .i64 y, .bool z, .int .i64 A, .int .i64 B, .slice E d.length G, .slice F i.length I, .int .i64 l, .int .i64 m, .int .i64 n] 37 ?_; intro U hg w2 hbox hb; have n0_ := Q_ (below_step (pb_ HB.1) hb); have n1_ := Q_ (hbox); have n2_ := Q_ ((by rw [hg]; exact (below_size (pb_ HB.1)) : w.heap.size ≤ U)); have n3_ := n2_; clear HB; have HB := n0_; have a := n1_; have a8 := n2_; have p := n3_; clear n0_ n1_ n2_ n3_; clear hb hbox hg) | ((with_reducible refine gate_dst (N := 5) rfl ?_); refine Kd.S_lit (Kd.slice 3 (Kd.int .i64)) _ 22 ?hg (N := 5) ?hd (xs := ([] : List (List Int))) (inner := []) (ok := fun _ => True) (okp := fun _ => True) ?hr ?hp (fun _ hk => hk) trivial (Below.refl _ _) (Nat.le_refl _) (by simp) ?_; (case hd => rfl); (case hg => rfl); (case hr => first | (go_simp; done) | (go_simp; rfl)); (case hp => exact (Reps.none _ _)); intro bl w3 an hb hg_ hnew_; clear hg_ hnew_; (first | rw [← ag.1] at an | (simp only [Int.reduceToNat] at an; rw [← ag.1] at an)); have _ := Q_ (Kd.S_lower an (below_size (pb1_ HB.1 p.1))); have _ := Q_ (bb_ a.1 hb); have _ := Q_ (below_step (pb1_ HB.1 p.1) hb); clear a HB; rename_i aw a HB; clear hb an))
 (try simp only [Act.put, s1_, s2_, s3_])
 go_loopg [3, 4] k (fun kq v3 v4 w' => ∃ (D : List (List Int)) (j : Int), v4 = .int .i64 j ∧ Aside0 (spec_ListsOf.l0 kq D j q s v c x t y z A B d i l m n = some r) ∧ Aside0 (kq ≤ k) ∧ Aside0 (Kd.S (Kd.slice 3 (Kd.int .i64)) 22 w' w.heap.size (fun _ => True) v3 D) ∧ Aside0 (w'.heap[U]? = some (.cells #[(.slice J q.length M), (.slice K s.length O), .int .i64 v, (.slice ac c.length P), .int .i64 x, (.slice L t.length Q), .int .i64 y, .bool z, .int .i64 A, .int .i64 B, (.slice E d.length G), (.slice F i.length I), .int .i64 l, .int .i64 m, .int .i64 n] 37 (0, 0))) ∧ Aside0 (Below w.heap.size w w'))
 case atStart => exact ⟨(au), (0), el_, H', ⟨Nat.le_refl _⟩, ⟨ps_ aw.1⟩, ⟨pk_ a.1⟩, ⟨pb1_ HB.1 p.1⟩⟩
 clear H'
 obtain ⟨D, j, rfl, HA, aH, u, a, HB⟩ := hrel
 rcases gk with _ | k1
 ·exact absurd HA.1 (by simp [spec_ListsOf.l0])
 have H := HA.1
 clear HA
 simp only [spec_ListsOf.l0] at H
 by_cases c5 : j < (c.length : Int)
 rotate_left
 ·rw [if_neg c5] at H
  have aN := decide_eq_false c5
  clear c5
  obtain rfl := Option.some.inj H
  have bj := bc15_ a.1
  go_wp2
  go_ret
  exact ⟨_, er_, ps_ u.1, pb1_ HB.1 p.1⟩
 rw [if_pos c5] at H
 have aN := decide_eq_true c5
 clear c5
 obtain ⟨Z, hy327⟩ : ∃ y_ : List Int, y_ = (([] : List Int)) := ⟨_, rfl⟩
 replace H : (if 0 ≤ j then (if Z.length + ((rd_T56 c j).f0).length < 17592186044416 then (if D.length < 5864062014805 then (spec_ListsOf.l0 k1 (D ++ [(Z ++ ((rd_T56 c j).f0))]) (wrap64 (j + 1)) q s v c x t y z A B d i l m n) else (none)) else (none)) else (none)) = some r := hb_ hy327 H
 have ah := Q_ hy327
 clear hy327
 by_cases c7 : 0 ≤ j
 rotate_left
 ·rw [if_neg c7] at H
  exact nn_ H
 rw [if_pos c7] at H
 have bi := decide_eq_true c7
 clear c7
 by_cases c8 : Z.length + ((rd_T56 c j).f0).length < 17592186044416
 rotate_left
 ·rw [if_neg c8] at H
  exact nn_ H
 rw [if_pos c8] at H
 have aK := Q_ c8
 clear c8
 obtain ⟨aa, hy331⟩ : ∃ y_ : List Int, y_ = (Z ++ ((rd_T56 c j).f0)) := ⟨_, rfl⟩
 replace H : (if D.length < 5864062014805 then (spec_ListsOf.l0 k1 (D ++ [aa]) (wrap64 (j + 1)) q s v c x t y z A B d i l m n) else (none)) = some r := hb_ hy331 H
 have az := Q_ hy331
 clear hy331
 by_cases c9 : D.length < 5864062014805
 rotate_left
 ·rw [if_neg c9] at H
  exact nn_ H
 rw [if_pos c9] at H
 have aM := Q_ c9
 clear c9
 obtain ⟨av, hy334⟩ : ∃ y_ : List (List Int), y_ = (D ++ [aa]) := ⟨_, rfl⟩
 replace H : (spec_ListsOf.l0 k1 av (wrap64 (j + 1)) q s v c x t y z A B d i l m n) = some r := hb_ hy334 H
 have aA := Q_ hy334
 clear hy334
 have H' := Q_ H
 clear H
 have bg := bc15_ a.1
 go_wp2_with (first | ((with_reducible refine gate_dst (N := 14) rfl ?_); refine Kd.R_lit (Kd.int .i64) _ 3 ?hg (N := 14) ?hd (xs := ([] : List Int)) (inner := []) (ok := fun _ => True) (okp := fun _ => True) ?hr ?hp (fun _ hk => hk) trivial (Below.refl _ _) (Nat.le_refl _) (by simp) ?_; (case hd => rfl); (case hg => rfl); (case hr => first | (go_simp; done) | (go_simp; rfl)); (case hp => exact (Reps.none _ _)); intro aU bq R hb hg_ hnew_; clear hg_ hnew_; (first | rw [← ah.1] at R | (simp only [Int.reduceToNat] at R; rw [← ah.1] at R)); have _ := Q_ (Kd.S_elder' (ps_ u.1) (Kd.R_base R) hb); have _ := Q_ (Kd.R_lower R (below_size (pb1_ HB.1 p.1))); have _ := Q_ (bb_ a.1 hb); have _ := Q_ (below_step (pb1_ HB.1 p.1) hb); clear u a HB; rename_i u ab a HB; clear hb R; have bh := bc15_ a.1; have ao : 0 ≤ (j : Int) := dt_; have ap : j < (c.length : Int) := dt_; obtain ⟨ai, aV, a2, aW, a3, aX, a4, aQ, V, W, X, Y, aD, af, aE, aI, aG, aJ⟩ := at_U56 ay.1 j ao ap; cases aQ; replace V := bt_ HB V; replace W := bt_ HB W; replace X := bt_ HB X; replace Y := bt_ HB Y; replace ao := eq_true ao; replace ap := eq_true ap) | ((with_reducible refine gate_builtin (b := .append) (xs := #[.tmp 14, .tmp 20]) rfl ?_); at_builtin; refine Kd.R_append_rows (Kd.int .i64) (w0 := w) w.heap.size rfl (.tmp 14) (.tmp 20) 22 3 (.int .i64 0) 8 rfl Try.underlying22 info3 rfl (by decide) (by omega) aU Z ((rd_T56 c j).f0) _ _ _ (fun _ => True) (fun _ => False) rfl rfl ?aO ?aR (fun _ _ h => h) (fun _ h => h.elim) ?aF ?aB ?aS ?aL ?_; (case aR => exact cb_ af HB); (case aB => exact (pb1_ HB.1 p.1)); (case aF => exact (fun _ _ => trivial)); (case aO => exact (pr_ ab.1)); (case aS => exact (below_size (pb1_ HB.1 p.1))); (case aL => have := aK.1; omega); intro bm br ho hb hg hat; rw [← az.1] at ho; have _ := Q_ (Kd.S_after (ok := (fun _ => True)) (ps_ u.1) hg hat); have _ := Q_ (blk_grown (g := U) (o := .cells #[.slice J q.length M, .slice K s.length O, .int .i64 v, .slice (some ai) c.length P, .int .i64 x, .slice L t.length Q, .int .i64 y, .bool z, .int .i64 A, .int .i64 B, .slice E d.length G, .slice F i.length I, .int .i64 l, .int .i64 m, .int .i64 n] 37 (0, 0)) (pk_ a.1) hg (Kd.R_ne ab.1 a.1 (by decide))); have _ := Q_ (hb); have _ := Q_ (ho); clear u a HB ab; rename_i u a HB T; clear ho hb hg hat; obtain ⟨aq, ar, aT⟩ := Kd.R_slice T.1; subst aT) | ((with_reducible refine gate_builtin (b := .append) (xs := #[.tmp 13, .tmp 22]) rfl ?_); at_builtin; refine Kd.S_append (Kd.slice 3 (Kd.int .i64)) (w0 := w) w.heap.size rfl (.tmp 13) (.tmp 22) 44 22 (.slice none 0 0) 24 rfl Try.underlying44 info22 rfl (by decide) (by omega) u3 D aa [.slice aq aa.length ar] (fun _ => True) (fun k_ => some k_ = (.slice aq aa.length ar : Value).ownBlock) rfl rfl ?aP (fun k_ hk_ => ((Kd.R_mono (ok' := fun k_ => ((fun _ => True)) k_ ∧ some k_ ≠ (u3 : Value).ownBlock) (Kd.R_apart' (T.1) (Kd.S_typed u.1) (by decide)) (fun k_ hk => ⟨trivial, hk.2⟩))).1 k_ hk_.symm) ?aF ?aO ?aB ?aS ?aL ?_; (case aP => exact Kd.M_row (Kd.R_mono (Kd.R_tight rfl (Kd.R_mono (ok' := fun k_ => ((fun _ => True)) k_ ∧ some k_ ≠ (u3 : Value).ownBlock) (Kd.R_apart' (T.1) (Kd.S_typed u.1) (by decide)) (fun k_ hk => ⟨trivial, hk.2⟩))) (fun _ h_ => h_))); (case aB => exact (pb1_ HB.1 p.1)); (case aF => exact (fun _ _ => trivial)); (case aO => exact (by (with_reducible repeat (first | apply Kd.S_alloc | apply Kd.S_drewN | apply Kd.S_drew)); exact Kd.S_mono u.1 (fun k_ hk => ⟨trivial, fun e_ => hk.2 e_⟩))); (case aS => exact (below_size (pb1_ HB.1 p.1))); (case aL => have := aM.1; omega); intro bn bs ho hb hg hat; rw [← aA.1] at ho; have _ := Q_ (blk_grown (g := U) (o := .cells #[.slice J q.length M, .slice K s.length O, .int .i64 v, .slice (some ai) c.length P, .int .i64 x, .slice L t.length Q, .int .i64 y, .bool z, .int .i64 A, .int .i64 B, .slice E d.length G, .slice F i.length I, .int .i64 l, .int .i64 m, .int .i64 n] 37 (0, 0)) (pk_ a.1) hg (Kd.S_ne u.1 a.1 (by decide))); have _ := Q_ (hb); have _ := Q_ (ho); clear a HB u T; rename_i a HB ax; clear ho hb hg hat))
 go_roundg k1
 case measure => have := aH.1; omega
 case rel => exact ⟨(av), (wrap64 (j + 1)), el_, H', ⟨by have := aH.1; omega⟩, ⟨ps_ ax.1⟩, ⟨pk_ a.1⟩, ⟨pb1_ HB.1 p.1⟩⟩

/-! ### impl_ListsOf: function 15 -/
def impl_ListsOf.l0 : Nat → List (List Int) → List (S56) → Int → Int → Option ((List (List Int)))
 | 0, _, _, _, _ => none
 | k + 1, d, c, e, a => if a < e then (if 0 ≤ a then (if a < (c.length : Int) then ((some (([] : List Int) : List Int)).bind fun b => (if b.length + ((rd_T56 c a).f0).length < 17592186044416 then (if d.length < 5864062014805 then (impl_ListsOf.l0 k (d ++ [(b ++ ((rd_T56 c a).f0))]) c e (wrap64 (a + 1))) else (none)) else (none))) else (none)) else (none)) else (some d)
def impl_ListsOf.f (k : Nat) (o : List Int) (p : List Int) (h : Int) (a : List (S56)) (i : Int) (q : List Int) (j : Int) (l : Bool) (m : Int) (n : Int) (e : List (S86)) (g : List (S89)) (b : Int) (c : Int) (d : Int) : Option ((List (List Int))) := impl_ListsOf.l0 k (([] : List (List Int))) a (a.length : Int) 0
theorem impl_ListsOf.mono_l : ∀ k, (∀ a b c d, LeO (impl_ListsOf.l0 k a b c d) (impl_ListsOf.l0 (k + 1) a b c d))
 | 0 => fun _ _ _ _ r h => by simp [impl_ListsOf.l0] at h
 | k + 1 => by
  have ih0 := impl_ListsOf.mono_l k
  ·intro a b c d
   unfold impl_ListsOf.l0
   exact mo1_ ih0
theorem impl_ListsOf.mono : ∀ g h i j l m n o p q a b c d e k, LeO (impl_ListsOf.f k g h i j l m n o p q a b c d e) (impl_ListsOf.f (k + 1) g h i j l m n o p q a b c d e) := by
 intro g h i j l m n o p q a b c d e k
 have ih0 := impl_ListsOf.mono_l k
 unfold impl_ListsOf.f
 exact mo1_ ih0
theorem impl_ListsOf.calls (k : Nat) (E : Option Addr) (Q : Nat) (p : List Int) (F : Option Addr) (R : Nat) (q : List Int) (J : Int) (ao : Option Addr) (T : Nat) (a : List (S56)) (K : Int) (G : Option Addr) (U : Nat) (s : List Int) (L : Int) (M : Bool) (O : Int) (P : Int) (u : Option Addr) (B : Nat) (m : List (S86)) (v : Option Addr) (D : Nat) (n : List (S89)) (y : Int) (z : Int) (A : Int) (r : List (List Int)) (w : World) (hr0_0 : Kd.C (Kd.int .i64) w E p.length p) (aw : p.length ≤ Q) (hr0_1 : Kd.C (Kd.int .i64) w F q.length q) (ax : q.length ≤ R) (hr0_3 : Kd.C k56 w ao a.length a) (ay : a.length ≤ T) (hr0_5 : Kd.C (Kd.int .i64) w G s.length s) (az : s.length ≤ U) (hr0_10 : Kd.C k86 w u m.length m) (ap : m.length ≤ B) (hr0_11 : Kd.C k89 w v n.length n) (aq : n.length ≤ D) (h : impl_ListsOf.f k p q J a K s L M O P m n y z A = some r) :
  Calls Try.prog 15 #[.agg #[.slice E p.length Q, .slice F q.length R, .int .i64 J, .slice ao a.length T, .int .i64 K, .slice G s.length U, .int .i64 L, .bool M, .int .i64 O, .int .i64 P, .slice u m.length B, .slice v n.length D, .int .i64 y, .int .i64 z, .int .i64 A]] w fun e w' => ∃ v0_ : Value, e = .returned (v0_) ∧ Kd.S (Kd.slice 3 (Kd.int .i64)) 22 w' w.heap.size (fun _ => True) v0_ r ∧ Below w.heap.size w w' := by
 have hu37 := Try.underlying37
 have hu56 := Try.underlying56
 have bk := Q_ hr0_0
 have bg := Q_ aw
 clear hr0_0 aw
 have bl := Q_ hr0_1
 have bh := Q_ ax
 clear hr0_1 ax
 have aT := Q_ hr0_3
 have bi := Q_ ay
 clear hr0_3 ay
 have bm := Q_ hr0_5
 have bj := Q_ az
 clear hr0_5 az
 have bb := Q_ hr0_10
 have a9 := Q_ ap
 clear hr0_10 ap
 have bc := Q_ hr0_11
 have ba := Q_ aq
 clear hr0_11 aq
 have HB := Q_ (Below.refl w.heap.size w)
 have H : (impl_ListsOf.l0 k (([] : List (List Int))) a (a.length : Int) 0) = some r := h
 clear h
 obtain ⟨aI, hy338⟩ : ∃ y_ : List (List Int), y_ = (([] : List (List Int))) := ⟨_, rfl⟩
 replace H : (impl_ListsOf.l0 k aI a (a.length : Int) 0) = some r := hb_ hy338 H
 have au := Q_ hy338
 clear hy338
 have H' := Q_ H
 clear H
 go_enter Try.func15, Try.ntmps15
 go_wp2_with (first | ((with_reducible refine gate_dst (N := 1) rfl ?_); refine bx_ 1 #[.slice E p.length Q, .slice F q.length R, .int .i64 J, .slice ao a.length T, .int .i64 K, .slice G s.length U, .int .i64 L, .bool M, .int .i64 O, .int .i64 P, .slice u m.length B, .slice v n.length D, .int .i64 y, .int .i64 z, .int .i64 A] 37 ?_; intro ae hg w2 hbox hb; have _ := Q_ (below_step (pb_ HB.1) hb); have d := Q_ (hbox); have aK := Q_ (gw_ (w := w) hg (pb_ HB.1)); have j := aK; clear HB; rename_i HB; clear hb hbox hg) | ((with_reducible refine gate_dst (N := 6) rfl ?_); refine Kd.S_lit (Kd.slice 3 (Kd.int .i64)) _ 22 ?hg (N := 6) ?hd (xs := ([] : List (List Int))) (inner := []) (ok := fun _ => True) (okp := fun _ => True) ?hr ?hp (fun _ hk => hk) trivial (Below.refl _ _) (Nat.le_refl _) (by simp) ?_; (case hd => rfl); (case hg => rfl); (case hr => first | (go_simp; done) | (go_simp; rfl)); (case hp => exact (Reps.none _ _)); intro bw w3 aA hb hg_ hnew_; clear hg_ hnew_; (first | rw [← au.1] at aA | (simp only [Int.reduceToNat] at aA; rw [← au.1] at aA)); have _ := Q_ (Kd.S_lower aA (below_size (pb1_ HB.1 j.1))); have _ := Q_ (bb_ d.1 hb); have _ := Q_ (below_step (pb1_ HB.1 j.1) hb); clear d HB; rename_i aN d HB; clear hb aA; have bu := bc15_ d.1))
 (try simp only [Act.put, s1_, s2_, s3_])
 go_loopg [3, 10] k (fun kq v3 br w' => ∃ (t : List (List Int)) (c : Int), br = .int .i64 c ∧ Aside0 (impl_ListsOf.l0 kq t a (a.length : Int) c = some r) ∧ Aside0 (kq ≤ k) ∧ Aside0 (Kd.S (Kd.slice 3 (Kd.int .i64)) 22 w' w.heap.size (fun _ => True) v3 t) ∧ Aside0 (w'.heap[ae]? = some (.cells #[(.slice E p.length Q), (.slice F q.length R), .int .i64 J, (.slice ao a.length T), .int .i64 K, (.slice G s.length U), .int .i64 L, .bool M, .int .i64 O, .int .i64 P, (.slice u m.length B), (.slice v n.length D), .int .i64 y, .int .i64 z, .int .i64 A] 37 (0, 0))) ∧ Aside0 (Below w.heap.size w w'))
 case atStart => exact ⟨(aI), (0), el_, H', ⟨Nat.le_refl _⟩, ⟨ps_ aN.1⟩, ⟨pk_ d.1⟩, ⟨pb1_ HB.1 j.1⟩⟩
 clear H'
 obtain ⟨t, c, rfl, HA, a1, l, d, HB⟩ := hrel
 rcases gk with _ | k1
 ·exact absurd HA.1 (by simp [impl_ListsOf.l0])
 have H := HA.1
 clear HA
 simp only [impl_ListsOf.l0] at H
 by_cases c6 : c < (a.length : Int)
 rotate_left
 ·rw [if_neg c6] at H
  have a5 := decide_eq_false c6
  clear c6
  obtain rfl := Option.some.inj H
  go_wp2
  go_ret
  exact ⟨_, er_, ps_ l.1, pb1_ HB.1 j.1⟩
 rw [if_pos c6] at H
 have a5 := decide_eq_true c6
 clear c6
 by_cases c7 : 0 ≤ c
 rotate_left
 ·rw [if_neg c7] at H
  exact nn_ H
 rw [if_pos c7] at H
 have bs := decide_eq_true c7
 clear c7
 by_cases c8 : c < (a.length : Int)
 rotate_left
 ·rw [if_neg c8] at H
  exact nn_ H
 rw [if_pos c8] at H
 have bt := decide_eq_true c8
 clear c8
 obtain ⟨aj, hy343⟩ : ∃ y_ : List Int, y_ = (([] : List Int)) := ⟨_, rfl⟩
 replace H : (if aj.length + ((rd_T56 a c).f0).length < 17592186044416 then (if t.length < 5864062014805 then (impl_ListsOf.l0 k1 (t ++ [(aj ++ ((rd_T56 a c).f0))]) a (a.length : Int) (wrap64 (c + 1))) else (none)) else (none)) = some r := hb_ hy343 H
 have av := Q_ hy343
 clear hy343
 by_cases c9 : aj.length + ((rd_T56 a c).f0).length < 17592186044416
 rotate_left
 ·rw [if_neg c9] at H
  exact nn_ H
 rw [if_pos c9] at H
 have a4 := Q_ c9
 clear c9
 obtain ⟨ak, hy346⟩ : ∃ y_ : List Int, y_ = (aj ++ ((rd_T56 a c).f0)) := ⟨_, rfl⟩
 replace H : (if t.length < 5864062014805 then (impl_ListsOf.l0 k1 (t ++ [ak]) a (a.length : Int) (wrap64 (c + 1))) else (none)) = some r := hb_ hy346 H
 have aV := Q_ hy346
 clear hy346
 by_cases aE : t.length < 5864062014805
 rotate_left
 ·rw [if_neg aE] at H
  exact nn_ H
 rw [if_pos aE] at H
 have aU := Q_ aE
 clear aE
 obtain ⟨aJ, hy349⟩ : ∃ y_ : List (List Int), y_ = (t ++ [ak]) := ⟨_, rfl⟩
 replace H : (impl_ListsOf.l0 k1 aJ a (a.length : Int) (wrap64 (c + 1))) = some r := hb_ hy349 H
 have aW := Q_ hy349
 clear hy349
 have H' := Q_ H
 clear H
 have aC : 0 ≤ (c : Int) := dt_
 have aD : c < (a.length : Int) := dt_
 obtain ⟨am, W, ab, X, ac, Y, ad, a6, af, ag, ah, ai, aY, ar, aZ, a2, a0, a3⟩ := at_U56 aT.1 c aC aD
 cases a6
 replace af := bt_ HB af
 replace ag := bt_ HB ag
 replace ah := bt_ HB ah
 replace ai := bt_ HB ai
 replace aC := eq_true aC
 replace aD := eq_true aD
 go_wp2_with (first | ((with_reducible refine gate_dst (N := 5) rfl ?_); refine bx_ 5 #[.slice none 0 0, .slice none 0 0, .slice none 0 0, .int .i64 0] 56 ?_; intro an hg bB hbox hb; have _ := Q_ (Kd.S_below (ps_ l.1) hb); have _ := Q_ (bb_ d.1 hb); have _ := Q_ (below_step (pb1_ HB.1 j.1) hb); have i := Q_ (hbox); have aM := Q_ (gw_ (w := w) hg (pb1_ HB.1 j.1)); have x := aM; have I := Q_ (nb_ hg d); have al := Q_ I.1.symm; clear l d HB; rename_i l d HB; clear hb hbox hg; have bp := al.1; have bq := I.1; have bn := bc4_ i.1) | ((with_reducible refine gate_dst (N := 15) rfl ?_); refine Kd.R_lit (Kd.int .i64) _ 3 ?hg (N := 15) ?hd (xs := ([] : List Int)) (inner := []) (ok := fun _ => True) (okp := fun _ => True) ?hr ?hp (fun _ hk => hk) trivial (Below.refl _ _) (Nat.le_refl _) (by simp) ?_; (case hd => rfl); (case hg => rfl); (case hr => first | (go_simp; done) | (go_simp; rfl)); (case hp => exact (Reps.none _ _)); intro a8 bC V hb hg_ hnew_; clear hg_ hnew_; (first | rw [← av.1] at V | (simp only [Int.reduceToNat] at V; rw [← av.1] at V)); have _ := Q_ (Kd.S_elder' (ps_ (sf4_ l.1 i.1)) (Kd.R_base V) hb); have _ := Q_ (Kd.R_lower V (below_size (pb2_ HB.1 j.1 x.1))); have _ := Q_ (blk_below (g := ae) (o := .cells #[.slice E p.length Q, .slice F q.length R, .int .i64 J, .slice (some am) a.length T, .int .i64 K, .slice G s.length U, .int .i64 L, .bool M, .int .i64 O, .int .i64 P, .slice u m.length B, .slice v n.length D, .int .i64 y, .int .i64 z, .int .i64 A] 37 (0, 0)) (pp_ d.1) hb); have _ := Q_ (blk_below (g := an) (o := .cells #[.slice W ((rd_T56 a c).f0).length ab, .slice X ((rd_T56 a c).f1).length ac, .slice Y ((rd_T56 a c).f2).length ad, .int .i64 ((rd_T56 a c).f3)] 56 (0, 0)) (pp_ i.1) hb); have _ := Q_ (below_step (pb2_ HB.1 j.1 x.1) hb); clear l d i HB; rename_i l Z d i HB; clear hb V; have bo := bc4_ i.1) | ((with_reducible refine gate_builtin (b := .append) (xs := #[.tmp 15, .tmp 17]) rfl ?_); at_builtin; refine Kd.R_append_rows (Kd.int .i64) (w0 := w) w.heap.size rfl (.tmp 15) (.tmp 17) 22 3 (.int .i64 0) 8 rfl Try.underlying22 info3 rfl (by decide) (by omega) a8 aj ((rd_T56 a c).f0) _ _ _ (fun _ => True) (fun _ => False) rfl rfl ?aO ?aR (fun _ _ h => h) (fun _ h => h.elim) ?aF ?aB ?aS ?aL ?_; (case aR => exact cb_ ar HB); (case aB => exact (pb2_ HB.1 j.1 x.1)); (case aF => exact (fun _ _ => trivial)); (case aO => exact (pr_ Z.1)); (case aS => exact (below_size (pb2_ HB.1 j.1 x.1))); (case aL => have := a4.1; omega); intro bx bD ho hb hg hat; rw [← aV.1] at ho; have _ := Q_ (Kd.S_after (ok := (fun _ => True)) (ps_ l.1) hg hat); have _ := Q_ (blk_grown (g := ae) (o := .cells #[.slice E p.length Q, .slice F q.length R, .int .i64 J, .slice (some am) a.length T, .int .i64 K, .slice G s.length U, .int .i64 L, .bool M, .int .i64 O, .int .i64 P, .slice u m.length B, .slice v n.length D, .int .i64 y, .int .i64 z, .int .i64 A] 37 (0, 0)) (pk_ d.1) hg (Kd.R_ne Z.1 d.1 (by decide))); have _ := Q_ (blk_grown (g := an) (o := .cells #[.slice W ((rd_T56 a c).f0).length ab, .slice X ((rd_T56 a c).f1).length ac, .slice Y ((rd_T56 a c).f2).length ad, .int .i64 ((rd_T56 a c).f3)] 56 (0, 0)) (pk_ i.1) hg (Kd.R_ne Z.1 i.1 (by decide))); have _ := Q_ (hb); have _ := Q_ (ho); clear l d i HB Z; rename_i l d i HB aa; clear ho hb hg hat; obtain ⟨aG, aH, a7⟩ := Kd.R_slice aa.1; subst a7) | ((with_reducible refine gate_builtin (b := .append) (xs := #[.tmp 14, .tmp 19]) rfl ?_); at_builtin; refine Kd.S_append (Kd.slice 3 (Kd.int .i64)) (w0 := w) w.heap.size rfl (.tmp 14) (.tmp 19) 44 22 (.slice none 0 0) 24 rfl Try.underlying44 info22 rfl (by decide) (by omega) u3 t ak [.slice aG ak.length aH] (fun _ => True) (fun k_ => some k_ = (.slice aG ak.length aH : Value).ownBlock) rfl rfl ?aP (fun k_ hk_ => ((Kd.R_mono (ok' := fun k_ => ((fun _ => True)) k_ ∧ some k_ ≠ (u3 : Value).ownBlock) (Kd.R_apart' (aa.1) (Kd.S_typed l.1) (by decide)) (fun k_ hk => ⟨trivial, hk.2⟩))).1 k_ hk_.symm) ?aF ?aO ?aB ?aS ?aL ?_; (case aP => exact Kd.M_row (Kd.R_mono (Kd.R_tight rfl (Kd.R_mono (ok' := fun k_ => ((fun _ => True)) k_ ∧ some k_ ≠ (u3 : Value).ownBlock) (Kd.R_apart' (aa.1) (Kd.S_typed l.1) (by decide)) (fun k_ hk => ⟨trivial, hk.2⟩))) (fun _ h_ => h_))); (case aB => exact (pb2_ HB.1 j.1 x.1)); (case aF => exact (fun _ _ => trivial)); (case aO => exact (by (with_reducible repeat (first | apply Kd.S_alloc | apply Kd.S_drewN | apply Kd.S_drew)); exact Kd.S_mono l.1 (fun k_ hk => ⟨trivial, fun e_ => hk.2 e_⟩))); (case aS => exact (below_size (pb2_ HB.1 j.1 x.1))); (case aL => have := aU.1; omega); intro bz bE ho hb hg hat; rw [← aW.1] at ho; have _ := Q_ (blk_grown (g := ae) (o := .cells #[.slice E p.length Q, .slice F q.length R, .int .i64 J, .slice (some am) a.length T, .int .i64 K, .slice G s.length U, .int .i64 L, .bool M, .int .i64 O, .int .i64 P, .slice u m.length B, .slice v n.length D, .int .i64 y, .int .i64 z, .int .i64 A] 37 (0, 0)) (pk_ d.1) hg (Kd.S_ne l.1 d.1 (by decide))); have _ := Q_ (blk_grown (g := an) (o := .cells #[.slice W ((rd_T56 a c).f0).length ab, .slice X ((rd_T56 a c).f1).length ac, .slice Y ((rd_T56 a c).f2).length ad, .int .i64 ((rd_T56 a c).f3)] 56 (0, 0)) (pk_ i.1) hg (Kd.S_ne l.1 i.1 (by decide))); have _ := Q_ (hb); have _ := Q_ (ho); clear d i HB l aa; rename_i d i HB aQ; clear ho hb hg hat))
 go_roundg k1
 case measure => have := a1.1; omega
 case rel => exact ⟨(aJ), (wrap64 (c + 1)), el_, H', ⟨by have := a1.1; omega⟩, ⟨ps_ aQ.1⟩, ⟨pk_ d.1⟩, ⟨pb2_ HB.1 j.1 x.1⟩⟩

/-! ### laws_eqIntSS: function 16 -/
def laws_eqIntSS.l0 : Nat → List (List Int) → List (List Int) → Int → Option (Bool)
 | 0, _, _, _ => none
 | k + 1, c, d, a => if a < (c.length : Int) then (if 0 ≤ a then (if a < (d.length : Int) then ((laws_eqIntS.f k (rd_L1 c a) (rd_L1 d a)).bind fun b => (if b = true then (laws_eqIntSS.l0 k c d (wrap64 (a + 1))) else (some false))) else (none)) else (none)) else (some true)
def laws_eqIntSS.f (k : Nat) (a : List (List Int)) (b : List (List Int)) : Option (Bool) := if (a.length : Int) = (b.length : Int) then (laws_eqIntSS.l0 k a b 0) else (some false)
theorem laws_eqIntSS.mono_l : ∀ k, (∀ a b c, LeO (laws_eqIntSS.l0 k a b c) (laws_eqIntSS.l0 (k + 1) a b c))
 | 0 => fun _ _ _ r h => by simp [laws_eqIntSS.l0] at h
 | k + 1 => by
  have ih0 := laws_eqIntSS.mono_l k
  ·intro a b c
   unfold laws_eqIntSS.l0
   exact mo2_ ih0 laws_eqIntS.mono
theorem laws_eqIntSS.mono : ∀ a b k, LeO (laws_eqIntSS.f k a b) (laws_eqIntSS.f (k + 1) a b) := by
 intro a b k
 have ih0 := laws_eqIntSS.mono_l k
 unfold laws_eqIntSS.f
 exact mo2_ ih0 laws_eqIntS.mono
theorem laws_eqIntSS.calls (k : Nat) (X : Option Addr) (Z : Nat) (i : List (List Int)) (Y : Option Addr) (c1 : Nat) (j : List (List Int)) (r : Bool) (w : World) (hr0 : Kd.C (Kd.slice 3 (Kd.int .i64)) w X i.length i) (G : i.length ≤ Z) (hr1 : Kd.C (Kd.slice 3 (Kd.int .i64)) w Y j.length j) (I : j.length ≤ c1) (h : laws_eqIntSS.f k i j = some r) :
  Calls Try.prog 16 #[.slice X i.length Z, .slice Y j.length c1] w fun e w' => e = .returned (.bool r) ∧ Drawn0 w w' := by
 have T := Q_ hr0
 have ad := Q_ G
 clear hr0 G
 have U := Q_ hr1
 have ae := Q_ I
 clear hr1 I
 have H : (if (i.length : Int) = (j.length : Int) then (laws_eqIntSS.l0 k i j 0) else (some false)) = some r := h
 clear h
 by_cases q : (i.length : Int) = (j.length : Int)
 rotate_left
 ·rw [if_neg q] at H
  have z : ((i.length : Int) == (j.length : Int)) = false := beq_eq_false_iff_ne.mpr q
  have A : ((i.length : Int) != (j.length : Int)) = true := bne_iff_ne.mpr q
  have B : (i.length == j.length) = false := by first | simpa using q | (simp at q ⊢; omega)
  obtain rfl := Option.some.inj H
  go_enter Try.func16, Try.ntmps16
  go_wp2
  repeat (go_quiet (fail); try go_wp2)
  go_ret
  exact ⟨by first | rfl | (simp; done) | (simp [*]; done), by repeat (first | exact Drawn0.refl _ | apply Drawn0.step)⟩
 rw [if_pos q] at H
 have z : ((i.length : Int) == (j.length : Int)) = true := beq_iff_eq.mpr q
 have A : ((i.length : Int) != (j.length : Int)) = false := bne_eq_false_iff_eq.mpr q
 have B : (i.length == j.length) = true := by first | simpa using q | (simp at q ⊢; omega)
 clear q
 have H' := Q_ H
 clear H
 go_enter Try.func16, Try.ntmps16
 go_wp2
 repeat (go_quiet (fail); try go_wp2)
 go_loopg [5] k (fun kq v5 w' => ∃ (a : Int), v5 = .int .i64 a ∧ Aside0 (laws_eqIntSS.l0 kq i j a = some r) ∧ Aside0 (kq ≤ k) ∧ Drawn0 w w')
 case atStart => exact ⟨(0), el_, H', ⟨Nat.le_refl _⟩, by repeat (first | exact Drawn0.refl _ | apply Drawn0.step)⟩
 clear H'
 obtain ⟨a, rfl, HA, y, ⟨m1, rfl⟩⟩ := hrel
 rcases gk with _ | k1
 ·exact absurd HA.1 (by simp [laws_eqIntSS.l0])
 have H := HA.1
 clear HA
 simp only [laws_eqIntSS.l0] at H
 by_cases x : a < (i.length : Int)
 rotate_left
 ·rw [if_neg x] at H
  have D := decide_eq_false x
  clear x
  obtain rfl := Option.some.inj H
  go_wp2
  repeat (go_quiet (fail); try go_wp2)
  go_ret
  exact ⟨by first | rfl | (simp; done) | (simp [*]; done), by repeat (first | exact Drawn0.refl _ | apply Drawn0.step)⟩
 rw [if_pos x] at H
 have D := decide_eq_true x
 clear x
 by_cases P : 0 ≤ a
 rotate_left
 ·rw [if_neg P] at H
  exact nn_ H
 rw [if_pos P] at H
 have ab := decide_eq_true P
 clear P
 by_cases Q : a < (j.length : Int)
 rotate_left
 ·rw [if_neg Q] at H
  exact nn_ H
 rw [if_pos Q] at H
 have ac := decide_eq_true Q
 clear Q
 obtain ⟨p, S, H⟩ := bs_ H
 (try dsimp only at H)
 have HS_ := Q_ H
 clear H
 have s : 0 ≤ (a : Int) := dt_
 have u : a < (i.length : Int) := dt_
 obtain ⟨V, L, N, E, J, n, l⟩ := at_L1 T.1 a s u
 cases E
 have d := Q_ l
 have b := Q_ n
 clear l n
 replace s := eq_true s
 replace u := eq_true u
 have t : 0 ≤ (a : Int) := dt_
 have v : a < (j.length : Int) := dt_
 obtain ⟨W, M, O, F, K, o, m⟩ := at_L1 U.1 a t v
 cases F
 have g := Q_ m
 have c := Q_ o
 clear m o
 replace t := eq_true t
 replace v := eq_true v
 go_upto_if 26 with (first | (go_at_call 9; (with_reducible refine (laws_eqIntS.calls k1 _ _ (rd_L1 i a) _ _ (rd_L1 j a) p _ (pc_ d.1) b.1 (pc_ g.1) c.1 S.1).mono ?_); rintro e w' ⟨rfl, ⟨nd, rfl⟩⟩; (try first | exact ⟨rfl, _, World.drewN_drewN _ _ _⟩ | exact ⟨rfl, _, Eq.trans (World.drewN_drewN _ _ _) (congrArg (World.drewN _) (Nat.add_assoc _ _ _))⟩)))
 repeat (go_quiet (first | (go_at_call 9; (with_reducible refine (laws_eqIntS.calls k1 _ _ (rd_L1 i a) _ _ (rd_L1 j a) p _ (pc_ d.1) b.1 (pc_ g.1) c.1 S.1).mono ?_); rintro e w' ⟨rfl, ⟨nd, rfl⟩⟩; (try first | exact ⟨rfl, _, World.drewN_drewN _ _ _⟩ | exact ⟨rfl, _, Eq.trans (World.drewN_drewN _ _ _) (congrArg (World.drewN _) (Nat.add_assoc _ _ _))⟩))); go_upto_if 26 with (first | (go_at_call 9; (with_reducible refine (laws_eqIntS.calls k1 _ _ (rd_L1 i a) _ _ (rd_L1 j a) p _ (pc_ d.1) b.1 (pc_ g.1) c.1 S.1).mono ?_); rintro e w' ⟨rfl, ⟨nd, rfl⟩⟩; (try first | exact ⟨rfl, _, World.drewN_drewN _ _ _⟩ | exact ⟨rfl, _, Eq.trans (World.drewN_drewN _ _ _) (congrArg (World.drewN _) (Nat.add_assoc _ _ _))⟩))))
 (try simp only [Act.put, s1_, s2_, s3_])
 have H := HS_.1
 clear HS_
 by_cases R : p = true
 rotate_left
 ·replace R := bf_ R
  subst R
  rw [if_neg ff_] at H
  obtain rfl := Option.some.inj H
  go_wp2
  repeat (go_quiet (fail); try go_wp2)
  go_ret
  exact ⟨by first | rfl | (simp; done) | (simp [*]; done), by repeat (first | exact Drawn0.refl _ | apply Drawn0.step)⟩
 subst R
 rw [if_pos rfl] at H
 have H' := Q_ H
 clear H
 go_wp2
 repeat (go_quiet (fail); try go_wp2)
 go_roundg k1
 case measure => have := y.1; omega
 case rel => exact ⟨(wrap64 (a + 1)), el_, H', ⟨by have := y.1; omega⟩, by repeat (first | exact Drawn0.refl _ | apply Drawn0.step)⟩

end Go.Proofs.Ytfhndlgbjhffiaa.Print
