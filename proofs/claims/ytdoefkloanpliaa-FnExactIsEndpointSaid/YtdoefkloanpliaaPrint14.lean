-- Written by a program of this session (printx.py) out of the translation; Lean checks it.
import Derived.Test.YtdoefkloanpliaaPrint0
import Derived.Test.YtdoefkloanpliaaPrint1
import Derived.Test.YtdoefkloanpliaaPrint2
import Derived.Test.YtdoefkloanpliaaPrint4
import Derived.Test.YtdoefkloanpliaaPrint6
namespace Go.Proofs.Ytdoefkloanpliaa.Print
open Go.RowKit Go.Proofs.YtdoefkloanpliaaW.PrintWords Go.Proofs.YtdoefkloanpliaaW.PrintLast Go.Proofs.YtdoefkloanpliaaW.PrintMore Go.Proofs.Ytdoefkloanpliaa.Short
attribute [local go_sem] max2_int min2_int max_two min_two max_three min_three max_four min_four   -- for this text's walks alone
set_option linter.unusedVariables false
set_option linter.unusedSimpArgs false

/-! ### laws_FnExactIsEndpoint: function 11 -/
def laws_FnExactIsEndpoint.f (k : Nat) (l0_0 : List Int) (l0_1 : List Int) (l0_2 : List (S64)) (a0_3 : Int) : Option (Bool) := (laws_szEndpoint.f k l0_0 l0_1 l0_2 a0_3 1048576).bind fun t219 => (if t219 < 0 then (some true) else ((laws_toEndpoint.f k l0_0 l0_1 l0_2 a0_3).bind fun bt220 => ((spec_IsEndpoint.f k bt220.1 bt220.2.1 bt220.2.2.1 bt220.2.2.2).bind fun t230 => ((laws_toEndpoint.f k l0_0 l0_1 l0_2 a0_3).bind fun bt231 => ((impl_IsEndpoint.f k bt231.1 bt231.2.1 bt231.2.2.1 bt231.2.2.2).bind fun t242 => (if (t242 != t230) = true then (some false) else ((laws_toEndpoint.f k l0_0 l0_1 l0_2 a0_3).bind fun bt243 => ((laws_eqEndpoint.f k bt231.1 bt231.2.1 bt231.2.2.1 bt231.2.2.2 bt243.1 bt243.2.1 bt243.2.2.1 bt243.2.2.2).bind fun t253 => (if t253 = true then (some true) else (some false))))))))))
theorem laws_FnExactIsEndpoint.mono : ∀ a0 a1 a2 a3 k, LeO (laws_FnExactIsEndpoint.f k a0 a1 a2 a3) (laws_FnExactIsEndpoint.f (k + 1) a0 a1 a2 a3) := by
  intro a0 a1 a2 a3 k
  unfold laws_FnExactIsEndpoint.f
  repeat' first
      | (with_reducible exact impl_IsEndpoint.mono _ _ _ _ _)
      | (with_reducible exact laws_eqEndpoint.mono _ _ _ _ _ _ _ _ _)
      | (with_reducible exact laws_szEndpoint.mono _ _ _ _ _ _)
      | (with_reducible exact laws_toEndpoint.mono _ _ _ _ _)
      | (with_reducible exact spec_IsEndpoint.mono _ _ _ _ _)
      | (with_reducible exact LeO.refl _)
      | (with_reducible exact LeO.none _)
      | (with_reducible refine LeO.ite ?_ ?_)
      | (with_reducible refine LeO.bind ?_ (fun _ => ?_))
      | exact impl_IsEndpoint.mono _ _ _ _ _
      | exact laws_eqEndpoint.mono _ _ _ _ _ _ _ _ _
      | exact laws_szEndpoint.mono _ _ _ _ _ _
      | exact laws_toEndpoint.mono _ _ _ _ _
      | exact spec_IsEndpoint.mono _ _ _ _ _
      | exact LeO.none _
      | refine LeO.ite ?_ ?_
      | refine LeO.bind ?_ (fun _ => ?_)
set_option maxHeartbeats 8000000 in
set_option maxRecDepth 100000 in
theorem laws_FnExactIsEndpoint.calls (k : Nat) (A0_0 : Option Addr) (c0_0 : Nat) (l0_0 : List Int) (A0_1 : Option Addr) (c0_1 : Nat) (l0_1 : List Int) (A0_2 : Option Addr) (c0_2 : Nat) (l0_2 : List (S64)) (a0_3 : Int) (r : Bool) (w : World) (hr0_0 : Kd.C (Kd.int .i64) w A0_0 l0_0.length l0_0) (hc0_0 : l0_0.length ≤ c0_0) (hr0_1 : Kd.C (Kd.int .i64) w A0_1 l0_1.length l0_1) (hc0_1 : l0_1.length ≤ c0_1) (hr0_2 : Kd.C k64 w A0_2 l0_2.length l0_2) (hc0_2 : l0_2.length ≤ c0_2) (h : laws_FnExactIsEndpoint.f k l0_0 l0_1 l0_2 a0_3 = some r) :
    Calls Try.prog 11 #[.agg #[.slice A0_0 l0_0.length c0_0, .slice A0_1 l0_1.length c0_1, .slice A0_2 l0_2.length c0_2, .int .i64 a0_3]] w fun e w' => e = .returned (.bool r) ∧ Below w.heap.size w w' := by
  have hu53 := Try.underlying53
  have hu58 := Try.underlying58
  have HR0_0 := Aside0.mk hr0_0
  have HC0_0 := Aside0.mk hc0_0
  clear hr0_0 hc0_0
  have HR0_1 := Aside0.mk hr0_1
  have HC0_1 := Aside0.mk hc0_1
  clear hr0_1 hc0_1
  have HR0_2 := Aside0.mk hr0_2
  have HC0_2 := Aside0.mk hc0_2
  clear hr0_2 hc0_2
  have HB := Aside0.mk (Below.refl w.heap.size w)
  have H : ((laws_szEndpoint.f k l0_0 l0_1 l0_2 a0_3 1048576).bind fun t219 => (if t219 < 0 then (some true) else ((laws_toEndpoint.f k l0_0 l0_1 l0_2 a0_3).bind fun bt220 => ((spec_IsEndpoint.f k bt220.1 bt220.2.1 bt220.2.2.1 bt220.2.2.2).bind fun t230 => ((laws_toEndpoint.f k l0_0 l0_1 l0_2 a0_3).bind fun bt231 => ((impl_IsEndpoint.f k bt231.1 bt231.2.1 bt231.2.2.1 bt231.2.2.2).bind fun t242 => (if (t242 != t230) = true then (some false) else ((laws_toEndpoint.f k l0_0 l0_1 l0_2 a0_3).bind fun bt243 => ((laws_eqEndpoint.f k bt231.1 bt231.2.1 bt231.2.2.1 bt231.2.2.2 bt243.1 bt243.2.1 bt243.2.2.1 bt243.2.2.2).bind fun t253 => (if t253 = true then (some true) else (some false))))))))))) = some r := h
  clear h
  have HS_ := Aside0.mk H
  clear H
  go_enter Try.func11, Try.ntmps11
  go_upto_region 2 with (first | ((with_reducible refine gate_dst (N := 1) rfl ?_); refine box_event ?hg (N := 1) ?hd (cs := #[.slice A0_0 l0_0.length c0_0, .slice A0_1 l0_1.length c0_1, .slice A0_2 l0_2.length c0_2, .int .i64 a0_3]) (t := 53) ?hr ?_; (case hd => rfl); (case hg => rfl); (case hr => first | (go_simp; done) | (go_simp; rfl)); intro gb218 hg w2 hbox hb; have n0_ := Aside0.mk (below_step (pb_ HB.out) hb); have n1_ := Aside0.mk (hbox); have n2_ := Aside0.mk ((by rw [hg]; exact (below_size (pb_ HB.out)) : w.heap.size ≤ gb218)); have n3_ := Aside0.mk ((by rw [hg]; exact (below_size (pb_ HB.out)) : w.heap.size ≤ gb218)); clear HB; have HB := n0_; have BK218 := n1_; have GW218 := n2_; have GE218 := n3_; clear n0_ n1_ n2_ n3_; clear hb hbox hg))
  (try simp only [Act.put, List.setIfInBounds_toArray, List.set_cons_zero, List.set_cons_succ])
  have H := HS_.out
  clear HS_
  replace H := Option.bind_eq_some_iff.mp H
  obtain ⟨t219, A30, H⟩ := H
  (try dsimp only at H)
  have A3 := Aside0.mk A30
  clear A30
  have HS_ := Aside0.mk H
  clear H
  obtain ⟨hcz4_0, hcz4_1, hcz4_2, hcz4_3, hfz4_0, hfz4_1, hfz4_2, hfz4_3⟩ := bc4_ BK218.out
  go_upto_if 11 with (first | ((with_reducible refine gate_callee (f := 43) rfl ?_); refine goesL_ (some 9) rfl rfl Try.func43 (by kernel_rfl) rfl #[.agg #[.slice A0_0 l0_0.length c0_0, .slice A0_1 l0_1.length c0_1, .slice A0_2 l0_2.length c0_2, .int .i64 a0_3], .int .i64 1048576] rfl mp_ ?_; (with_reducible refine (laws_szEndpoint.calls k _ _ l0_0 _ _ l0_1 _ _ l0_2 a0_3 1048576 t219 _ ?side1 ?side2 ?side3 ?side4 ?side5 ?side6 A3.out).mono ?_); (case side1 => exact pc_ (Kd.C_below HR0_0.out HB.out)); (case side2 => exact HC0_0.out); (case side3 => exact pc_ (Kd.C_below HR0_1.out HB.out)); (case side4 => exact HC0_1.out); (case side5 => exact pc_ (Kd.C_below HR0_2.out HB.out)); (case side6 => exact HC0_2.out); rintro e w5 ⟨rfl, hb⟩; refine ⟨_, rfl, ?_⟩; have n0_ := Aside0.mk (bb_ BK218.out hb); have n1_ := Aside0.mk (below_step (pb1_ HB.out GE218.out) hb); clear BK218; clear HB; have BK218 := n0_; have HB := n1_; clear n0_ n1_; (try clear hb); (try clear hb2); (try clear hk); (try clear hi)))
  (try simp only [Act.put, List.setIfInBounds_toArray, List.set_cons_zero, List.set_cons_succ])
  have H := HS_.out
  clear HS_
  by_cases c6 : t219 < 0
  · rw [if_pos c6] at H
    have c6b0 : decide (t219 < 0) = true := decide_eq_true c6
    clear c6
    (first | rw [c6b0] | (simp only [i64_w, i32_w]; rw [c6b0]) | skip)
    obtain rfl := Option.some.inj H
    go_wp2
    go_ret
    exact ⟨er_, pb1_ HB.out GE218.out⟩
  rw [if_neg c6] at H
  have c6b0 : decide (t219 < 0) = false := decide_eq_false c6
  clear c6
  (first | rw [c6b0] | (simp only [i64_w, i32_w]; rw [c6b0]) | skip)
  replace H := Option.bind_eq_some_iff.mp H
  obtain ⟨⟨t220, t223, t226, t229⟩, A70, H⟩ := H
  (try dsimp only at H)
  have A7 := Aside0.mk A70
  clear A70
  replace H := Option.bind_eq_some_iff.mp H
  obtain ⟨t230, A80, H⟩ := H
  (try dsimp only at H)
  have A8 := Aside0.mk A80
  clear A80
  have HS_ := Aside0.mk H
  clear H
  obtain ⟨hcz9_0, hcz9_1, hcz9_2, hcz9_3, hfz9_0, hfz9_1, hfz9_2, hfz9_3⟩ := bc4_ BK218.out
  go_upto_region 6 with (first | ((with_reducible refine gate_callee (f := 45) rfl ?_); refine goesL_ (some 13) rfl rfl Try.func45 (by kernel_rfl) rfl #[.agg #[.slice A0_0 l0_0.length c0_0, .slice A0_1 l0_1.length c0_1, .slice A0_2 l0_2.length c0_2, .int .i64 a0_3]] rfl mp_ ?_; (with_reducible refine (laws_toEndpoint.calls k _ _ l0_0 _ _ l0_1 _ _ l0_2 a0_3 t220 t223 t226 t229 _ ?side1 ?side2 ?side3 ?side4 ?side5 ?side6 A7.out).mono ?_); (case side1 => exact pc_ (Kd.C_below HR0_0.out HB.out)); (case side2 => exact HC0_0.out); (case side3 => exact pc_ (Kd.C_below HR0_1.out HB.out)); (case side4 => exact HC0_1.out); (case side5 => exact pc_ (Kd.C_below HR0_2.out HB.out)); (case side6 => exact HC0_2.out); rintro e w10 ⟨v221, v224, v227, rfl, ho0, ho1, ho2, hb⟩; refine ⟨_, rfl, ?_⟩; have n0_ := Aside0.mk (Kd.R_lower ho0 (below_size (pb1_ HB.out GE218.out))); have n1_ := Aside0.mk (Kd.R_lower ho1 (below_size (pb1_ HB.out GE218.out))); have n2_ := Aside0.mk (Kd.S_lower ho2 (below_size (pb1_ HB.out GE218.out))); have n3_ := Aside0.mk (bb_ BK218.out hb); have n4_ := Aside0.mk (below_step (pb1_ HB.out GE218.out) hb); clear BK218; clear HB; have HO222 := n0_; have HO225 := n1_; have HO228 := n2_; have BK218 := n3_; have HB := n4_; clear n0_ n1_ n2_ n3_ n4_; (try clear hb); (try clear hb2); (try clear hk); (try clear hi); (try clear ho0); (try clear ho1); (try clear ho2); obtain ⟨Ao11, co11, eo11⟩ := Kd.R_slice HO222.out; subst eo11; obtain ⟨Ao12, co12, eo12⟩ := Kd.R_slice HO225.out; subst eo12; obtain ⟨Ao13, co13, eo13⟩ := Kd.S_slice HO228.out; subst eo13) | ((with_reducible refine gate_callee (f := 48) rfl ?_); refine goesL_ (some 14) rfl rfl Try.func48 (by kernel_rfl) rfl #[.agg #[.slice Ao11 t220.length co11, .slice Ao12 t223.length co12, .slice Ao13 t226.length co13, .int .i64 t229]] rfl mp_ ?_; (with_reducible refine (spec_IsEndpoint.calls k _ _ t220 _ _ t223 _ _ t226 t229 t230 _ ?side1 ?side2 ?side3 ?side4 ?side5 ?side6 A8.out).mono ?_); (case side1 => exact pc_ ((Kd.R_reads' HO222.out).2.2)); (case side2 => exact (Kd.R_reads' HO222.out).2.1); (case side3 => exact pc_ ((Kd.R_reads' HO225.out).2.2)); (case side4 => exact (Kd.R_reads' HO225.out).2.1); (case side5 => exact pc_ ((Kd.S_reads' HO228.out).2.2)); (case side6 => exact (Kd.S_reads' HO228.out).2.1); rintro e w14 ⟨rfl, hb⟩; refine ⟨_, rfl, ?_⟩; have n0_ := Aside0.mk (Kd.R_below (pr_ HO222.out) hb); have n1_ := Aside0.mk (Kd.R_below (pr_ HO225.out) hb); have n2_ := Aside0.mk (Kd.S_below (ps_ HO228.out) hb); have n3_ := Aside0.mk (bb_ BK218.out hb); have n4_ := Aside0.mk (below_step (pb1_ HB.out GE218.out) hb); clear HO222; clear HO225; clear HO228; clear BK218; clear HB; have HO222 := n0_; have HO225 := n1_; have HO228 := n2_; have BK218 := n3_; have HB := n4_; clear n0_ n1_ n2_ n3_ n4_; (try clear hb); (try clear hb2); (try clear hk); (try clear hi)))
  (try simp only [Act.put, List.setIfInBounds_toArray, List.set_cons_zero, List.set_cons_succ])
  have H := HS_.out
  clear HS_
  replace H := Option.bind_eq_some_iff.mp H
  obtain ⟨⟨t231, t234, t237, t240⟩, A150, H⟩ := H
  (try dsimp only at H)
  have A15 := Aside0.mk A150
  clear A150
  have HS_ := Aside0.mk H
  clear H
  obtain ⟨hcz16_0, hcz16_1, hcz16_2, hcz16_3, hfz16_0, hfz16_1, hfz16_2, hfz16_3⟩ := bc4_ BK218.out
  go_upto_region 7 with (first | ((with_reducible refine gate_callee (f := 45) rfl ?_); refine goesL_ (some 16) rfl rfl Try.func45 (by kernel_rfl) rfl #[.agg #[.slice A0_0 l0_0.length c0_0, .slice A0_1 l0_1.length c0_1, .slice A0_2 l0_2.length c0_2, .int .i64 a0_3]] rfl mp_ ?_; (with_reducible refine (laws_toEndpoint.calls k _ _ l0_0 _ _ l0_1 _ _ l0_2 a0_3 t231 t234 t237 t240 _ ?side1 ?side2 ?side3 ?side4 ?side5 ?side6 A15.out).mono ?_); (case side1 => exact pc_ (Kd.C_below HR0_0.out HB.out)); (case side2 => exact HC0_0.out); (case side3 => exact pc_ (Kd.C_below HR0_1.out HB.out)); (case side4 => exact HC0_1.out); (case side5 => exact pc_ (Kd.C_below HR0_2.out HB.out)); (case side6 => exact HC0_2.out); rintro e w17 ⟨v232, v235, v238, rfl, ho0, ho1, ho2, hb⟩; refine ⟨_, rfl, ?_⟩; have n0_ := Aside0.mk (Kd.R_mono (Kd.R_told (Kd.R_told (Kd.R_old (pr_ HO222.out) hb) (Kd.R_base ho0)) (Kd.R_base ho1)) (fun _ h_ => h_.1)); have n1_ := Aside0.mk (Kd.R_mono (Kd.R_told (Kd.R_told (Kd.R_old (pr_ HO225.out) hb) (Kd.R_base ho0)) (Kd.R_base ho1)) (fun _ h_ => h_.1)); have n2_ := Aside0.mk (Kd.S_mono (Kd.S_told (Kd.S_told (Kd.S_told (Kd.S_old (ps_ HO228.out) hb) (Kd.R_base ho0)) (Kd.R_base ho1)) (Kd.S_base ho2)) (fun _ h_ => h_.1)); have n3_ := Aside0.mk (Kd.R_lower (Kd.R_new' (Kd.R_new' ho0 (Kd.R_lt (pr_ HO222.out))) (Kd.R_lt (pr_ HO225.out))) (below_size (pb1_ HB.out GE218.out))); have n4_ := Aside0.mk (Kd.R_lower (Kd.R_new' (Kd.R_new' ho1 (Kd.R_lt (pr_ HO222.out))) (Kd.R_lt (pr_ HO225.out))) (below_size (pb1_ HB.out GE218.out))); have n5_ := Aside0.mk (Kd.S_lower (Kd.S_new' (Kd.S_new' (Kd.S_new' ho2 (Kd.R_lt (pr_ HO222.out))) (Kd.R_lt (pr_ HO225.out))) (Kd.S_lt (ps_ HO228.out))) (below_size (pb1_ HB.out GE218.out))); have n6_ := Aside0.mk (bb_ BK218.out hb); have n7_ := Aside0.mk (below_step (pb1_ HB.out GE218.out) hb); clear HO222; clear HO225; clear HO228; clear BK218; clear HB; have HO222 := n0_; have HO225 := n1_; have HO228 := n2_; have HO233 := n3_; have HO236 := n4_; have HO239 := n5_; have BK218 := n6_; have HB := n7_; clear n0_ n1_ n2_ n3_ n4_ n5_ n6_ n7_; (try clear hb); (try clear hb2); (try clear hk); (try clear hi); (try clear ho0); (try clear ho1); (try clear ho2)) | ((with_reducible refine gate_dst (N := 5) rfl ?_); refine box_event ?hg (N := 5) ?hd (cs := #[.slice none 0 0, .slice none 0 0, .slice none 0 0, .int .i64 0]) (t := 58) ?hr ?_; (case hd => rfl); (case hg => rfl); (case hr => first | (go_simp; done) | (go_simp; rfl)); intro gb241 hg w18 hbox hb; have n0_ := Aside0.mk (Kd.R_below (pr_ HO222.out) hb); have n1_ := Aside0.mk (Kd.R_below (pr_ HO225.out) hb); have n2_ := Aside0.mk (Kd.S_below (ps_ HO228.out) hb); have n3_ := Aside0.mk (Kd.R_below (pr_ HO233.out) hb); have n4_ := Aside0.mk (Kd.R_below (pr_ HO236.out) hb); have n5_ := Aside0.mk (Kd.S_below (ps_ HO239.out) hb); have n6_ := Aside0.mk (bb_ BK218.out hb); have n7_ := Aside0.mk (below_step (pb1_ HB.out GE218.out) hb); have n8_ := Aside0.mk (hbox); have n9_ := Aside0.mk ((by rw [hg]; exact (below_size (pb1_ HB.out GE218.out)) : w.heap.size ≤ gb241)); have n10_ := Aside0.mk ((by rw [hg]; exact (below_size (pb1_ HB.out GE218.out)) : w.heap.size ≤ gb241)); have n11_ := Aside0.mk ((by rw [hg]; exact Nat.ne_of_lt (blk_lt (pk_ BK218.out)) : gb218 ≠ gb241)); have n12_ := Aside0.mk ((by rw [hg]; exact Nat.ne_of_gt (blk_lt (pk_ BK218.out)) : gb241 ≠ gb218)); clear HO222; clear HO225; clear HO228; clear HO233; clear HO236; clear HO239; clear BK218; clear HB; have HO222 := n0_; have HO225 := n1_; have HO228 := n2_; have HO233 := n3_; have HO236 := n4_; have HO239 := n5_; have BK218 := n6_; have HB := n7_; have BK241 := n8_; have GW241 := n9_; have GE241 := n10_; have NB218_241 := n11_; have NB241_218 := n12_; clear n0_ n1_ n2_ n3_ n4_ n5_ n6_ n7_ n8_ n9_ n10_ n11_ n12_; clear hb hbox hg; obtain ⟨Ao19, co19, eo19⟩ := Kd.R_slice HO233.out; subst eo19; have hnb20 := NB241_218.out; have hnc20 := NB218_241.out; have hcz21_0 : w18.cell? ⟨gb241, 0, none⟩ = some (.slice none 0 0) := (blk_cell BK241.out 0).trans rfl; have hcz21_1 : w18.cell? ⟨gb241, 1, none⟩ = some (.slice none 0 0) := (blk_cell BK241.out 1).trans rfl; have hcz21_2 : w18.cell? ⟨gb241, 2, none⟩ = some (.slice none 0 0) := (blk_cell BK241.out 2).trans rfl; have hcz21_3 : w18.cell? ⟨gb241, 3, none⟩ = some (.int .i64 0) := (blk_cell BK241.out 3).trans rfl; have hfz21_0 := blk_frozen BK241.out 0; have hfz21_1 := blk_frozen BK241.out 1; have hfz21_2 := blk_frozen BK241.out 2; have hfz21_3 := blk_frozen BK241.out 3; obtain ⟨Ao22, co22, eo22⟩ := Kd.R_slice HO236.out; subst eo22; obtain ⟨Ao23, co23, eo23⟩ := Kd.S_slice HO239.out; subst eo23))
  (try simp only [Act.put, List.setIfInBounds_toArray, List.set_cons_zero, List.set_cons_succ])
  have H := HS_.out
  clear HS_
  replace H := Option.bind_eq_some_iff.mp H
  obtain ⟨t242, A240, H⟩ := H
  (try dsimp only at H)
  have A24 := Aside0.mk A240
  clear A240
  have HS_ := Aside0.mk H
  clear H
  have hnb25 := NB241_218.out
  have hnc25 := NB218_241.out
  obtain ⟨hcz26_0, hcz26_1, hcz26_2, hcz26_3, hfz26_0, hfz26_1, hfz26_2, hfz26_3⟩ := bc4_ BK241.out
  go_upto_if 21 with (first | ((with_reducible refine gate_callee (f := 49) rfl ?_); refine goesL_ (some 18) rfl rfl Try.func49 (by kernel_rfl) rfl #[.agg #[.slice Ao19 t231.length co19, .slice Ao22 t234.length co22, .slice Ao23 t237.length co23, .int .i64 t240]] rfl mp_ ?_; (with_reducible refine (impl_IsEndpoint.calls k _ _ t231 _ _ t234 _ _ t237 t240 t242 _ ?side1 ?side2 ?side3 ?side4 ?side5 ?side6 A24.out).mono ?_); (case side1 => refine (Kd.R_reads' (e := 3) (base := w.heap.size) (ok := fun k_ => ((some k_ ≠ (.slice Ao22 t234.length co22 : Value).ownBlock ∧ some k_ ≠ (.slice Ao11 t220.length co11 : Value).ownBlock) ∧ some k_ ≠ (.slice Ao12 t223.length co12 : Value).ownBlock)) (n := t231.length) (c := co19) ?_).2.2; exact (pr_ (rf4_ HO233.out BK241.out))); (case side2 => exact (Kd.R_reads' HO233.out).2.1); (case side3 => refine (Kd.R_reads' (e := 3) (base := w.heap.size) (ok := fun k_ => ((some k_ ≠ (.slice Ao19 t231.length co19 : Value).ownBlock ∧ some k_ ≠ (.slice Ao11 t220.length co11 : Value).ownBlock) ∧ some k_ ≠ (.slice Ao12 t223.length co12 : Value).ownBlock)) (n := t234.length) (c := co22) ?_).2.2; exact (pr_ (rf4_ HO236.out BK241.out))); (case side4 => exact (Kd.R_reads' HO236.out).2.1); (case side5 => refine (Kd.S_reads' (e := 67) (base := w.heap.size) (ok := fun k_ => ((((some k_ ≠ (.slice Ao19 t231.length co19 : Value).ownBlock ∧ some k_ ≠ (.slice Ao22 t234.length co22 : Value).ownBlock) ∧ some k_ ≠ (.slice Ao11 t220.length co11 : Value).ownBlock) ∧ some k_ ≠ (.slice Ao12 t223.length co12 : Value).ownBlock) ∧ some k_ ≠ (.slice Ao13 t226.length co13 : Value).ownBlock)) (n := t237.length) (c := co23) ?_).2.2; exact (ps_ (Kd.S_mono (Kd.S_far (p := ⟨gb241, 3, none⟩) (Kd.S_far (p := ⟨gb241, 2, none⟩) (Kd.S_far (p := ⟨gb241, 1, none⟩) (Kd.S_far (p := ⟨gb241, 0, none⟩) (Kd.S_types HO239.out BK241.out (by decide)) (fun _ hk => hk.2) (.slice Ao19 t231.length co19)) (fun _ hk => hk.2) (.slice Ao22 t234.length co22)) (fun _ hk => hk.2) (.slice Ao23 t237.length co23)) (fun _ hk => hk.2) (.int .i64 t240)) (fun _ h_ => h_.1)))); (case side6 => exact (Kd.S_reads' HO239.out).2.1); rintro e w27 ⟨rfl, hb⟩; refine ⟨_, rfl, ?_⟩; have n0_ := Aside0.mk (Kd.R_below (pr_ (rf4_ HO222.out BK241.out)) hb); have n1_ := Aside0.mk (Kd.R_below (pr_ (rf4_ HO225.out BK241.out)) hb); have n2_ := Aside0.mk (Kd.S_below (ps_ (Kd.S_mono (Kd.S_far (p := ⟨gb241, 3, none⟩) (Kd.S_far (p := ⟨gb241, 2, none⟩) (Kd.S_far (p := ⟨gb241, 1, none⟩) (Kd.S_far (p := ⟨gb241, 0, none⟩) (Kd.S_types HO228.out BK241.out (by decide)) (fun _ hk => hk.2) (.slice Ao19 t231.length co19)) (fun _ hk => hk.2) (.slice Ao22 t234.length co22)) (fun _ hk => hk.2) (.slice Ao23 t237.length co23)) (fun _ hk => hk.2) (.int .i64 t240)) (fun _ h_ => h_.1))) hb); have n3_ := Aside0.mk (Kd.R_below (pr_ (rf4_ HO233.out BK241.out)) hb); have n4_ := Aside0.mk (Kd.R_below (pr_ (rf4_ HO236.out BK241.out)) hb); have n5_ := Aside0.mk (Kd.S_below (ps_ (Kd.S_mono (Kd.S_far (p := ⟨gb241, 3, none⟩) (Kd.S_far (p := ⟨gb241, 2, none⟩) (Kd.S_far (p := ⟨gb241, 1, none⟩) (Kd.S_far (p := ⟨gb241, 0, none⟩) (Kd.S_types HO239.out BK241.out (by decide)) (fun _ hk => hk.2) (.slice Ao19 t231.length co19)) (fun _ hk => hk.2) (.slice Ao22 t234.length co22)) (fun _ hk => hk.2) (.slice Ao23 t237.length co23)) (fun _ hk => hk.2) (.int .i64 t240)) (fun _ h_ => h_.1))) hb); have n6_ := Aside0.mk (blk_below (g := gb218) (o := .cells #[.slice A0_0 l0_0.length c0_0, .slice A0_1 l0_1.length c0_1, .slice A0_2 l0_2.length c0_2, .int .i64 a0_3] 53 (0, 0)) (pp_ BK218.out) hb); have n7_ := Aside0.mk (blk_below (g := gb241) (o := .cells #[.slice Ao19 t231.length co19, .slice Ao22 t234.length co22, .slice Ao23 t237.length co23, .int .i64 t240] 58 (0, 0)) (pp_ BK241.out) hb); have n8_ := Aside0.mk (below_step (pb2_ HB.out GE218.out GE241.out) hb); clear HO222; clear HO225; clear HO228; clear HO233; clear HO236; clear HO239; clear BK218; clear BK241; clear HB; have HO222 := n0_; have HO225 := n1_; have HO228 := n2_; have HO233 := n3_; have HO236 := n4_; have HO239 := n5_; have BK218 := n6_; have BK241 := n7_; have HB := n8_; clear n0_ n1_ n2_ n3_ n4_ n5_ n6_ n7_ n8_; (try clear hb); (try clear hb2); (try clear hk); (try clear hi)))
  (try simp only [Act.put, List.setIfInBounds_toArray, List.set_cons_zero, List.set_cons_succ])
  have H := HS_.out
  clear HS_
  by_cases c28 : (t242 != t230) = true
  · rw [if_pos c28] at H
    have c28b0 : (t242 != t230) = true := c28
    (try (have c28b1 : decide (t242 = t230) = false := by simpa using c28))
    (try (have c28b2 : (t242 == t230) = false := by simpa using c28))
    (try (have c28b3 : ¬ (t242 = t230) := by simpa using c28))
    clear c28
    (first | rw [c28b0] | (simp only [i64_w, i32_w]; rw [c28b0]) | (have c_ := c28b0; rw [bne] at c_; rw [c_]; clear c_) | rw [c28b1] | rw [c28b2] | skip)
    obtain rfl := Option.some.inj H
    go_wp2
    go_ret
    exact ⟨er_, pb2_ HB.out GE218.out GE241.out⟩
  rw [if_neg c28] at H
  have c28b0 : (t242 != t230) = false := by simpa using c28
  (try (have c28b1 : decide (t242 = t230) = true := by simpa using c28))
  (try (have c28b2 : (t242 == t230) = true := by simpa using c28))
  clear c28
  (first | rw [c28b0] | (simp only [i64_w, i32_w]; rw [c28b0]) | (have c_ := c28b0; rw [bne] at c_; rw [c_]; clear c_) | rw [c28b1] | rw [c28b2] | skip)
  replace H := Option.bind_eq_some_iff.mp H
  obtain ⟨⟨t243, t246, t249, t252⟩, A290, H⟩ := H
  (try dsimp only at H)
  have A29 := Aside0.mk A290
  clear A290
  replace H := Option.bind_eq_some_iff.mp H
  obtain ⟨t253, A300, H⟩ := H
  replace H : (if t253 = true then (some true) else (some false)) = some r := H
  have A30 := Aside0.mk A300
  clear A300
  have HS_ := Aside0.mk H
  clear H
  try go_wp2
  have n0_ := Aside0.mk (Kd.R_drew HO222.out)
  have n1_ := Aside0.mk (Kd.R_drew HO225.out)
  have n2_ := Aside0.mk (Kd.S_drew HO228.out)
  have n3_ := Aside0.mk (Kd.R_drew HO233.out)
  have n4_ := Aside0.mk (Kd.R_drew HO236.out)
  have n5_ := Aside0.mk (Kd.S_drew HO239.out)
  have n6_ := Aside0.mk (blk_drew BK218.out)
  have n7_ := Aside0.mk (blk_drew BK241.out)
  have n8_ := Aside0.mk (below_drew1 HB.out)
  clear HO222
  clear HO225
  clear HO228
  clear HO233
  clear HO236
  clear HO239
  clear BK218
  clear BK241
  clear HB
  have HO222 := n0_
  have HO225 := n1_
  have HO228 := n2_
  have HO233 := n3_
  have HO236 := n4_
  have HO239 := n5_
  have BK218 := n6_
  have BK241 := n7_
  have HB := n8_
  clear n0_ n1_ n2_ n3_ n4_ n5_ n6_ n7_ n8_
  refine start_ (n := 5) (S := fun w' => w'.cell? ⟨gb241, 0, none⟩ = some (.slice Ao19 t231.length co19) ∧ w'.cell? ⟨gb241, 1, none⟩ = some (.slice Ao22 t234.length co22) ∧ w'.cell? ⟨gb241, 2, none⟩ = some (.slice Ao23 t237.length co23) ∧ w'.cell? ⟨gb241, 3, none⟩ = some (.int .i64 t240) ∧ w'.cell? ⟨gb218, 0, none⟩ = some (.slice A0_0 l0_0.length c0_0) ∧ w'.cell? ⟨gb218, 1, none⟩ = some (.slice A0_1 l0_1.length c0_1) ∧ w'.cell? ⟨gb218, 2, none⟩ = some (.slice A0_2 l0_2.length c0_2) ∧ w'.cell? ⟨gb218, 3, none⟩ = some (.int .i64 a0_3)) (ds := []) #[false, false, false, false, false] (by kernel_rfl) rfl rfl ⟨(blk_cell BK241.out 0).trans rfl, (blk_cell BK241.out 1).trans rfl, (blk_cell BK241.out 2).trans rfl, (blk_cell BK241.out 3).trans rfl, (blk_cell BK218.out 0).trans rfl, (blk_cell BK218.out 1).trans rfl, (blk_cell BK218.out 2).trans rfl, (blk_cell BK218.out 3).trans rfl⟩ (fun hHeld => ?_)
  generalize w27.drew = w31 at HO222 HO225 HO228 HO233 HO236 HO239 BK218 BK241 HB hHeld ⊢
  refine take_ (i := 0) (N := some 22) (v := ?_) (a' := ?_) #[true, false, false, false, false] rfl rfl (by kernel_rfl) (fun _ _ _ h => h) (Or.inl ⟨by rfl, ?_⟩) hHeld ?_ ?_
  rotate_left
  · rintro w' ⟨s0, s1, s2, s3, s4, s5, s6, s7⟩
    go_simp
    (try (simp only [Instr.field]; simp only [underlying, hu53, hu58]; go_simp; simp only [asAgg]; go_simp))
    with_reducible rfl
  rotate_left
  · simp only [Act.put, List.setIfInBounds_toArray, List.set_cons_zero, List.set_cons_succ, i64_w, i32_w]
    rfl
  refine take_ (i := 1) (N := some 23) (v := ?_) (a' := ?_) #[true, true, false, false, false] rfl rfl (by kernel_rfl) (fun _ _ _ h => h) (Or.inl ⟨by rfl, ?_⟩) hHeld ?_ ?_
  rotate_left
  · rintro w' ⟨s0, s1, s2, s3, s4, s5, s6, s7⟩
    go_simp
    (try (simp only [Instr.field]; simp only [underlying, hu53, hu58]; go_simp; simp only [asAgg]; go_simp))
    with_reducible rfl
  rotate_left
  · simp only [Act.put, List.setIfInBounds_toArray, List.set_cons_zero, List.set_cons_succ, i64_w, i32_w]
    rfl
  refine one_ (i := 2) (N := some 24) #[true, true, true, false, false] rfl rfl (by kernel_rfl) (by decide) (fun K hK => ?_)
  refine goes_ Try.func45 (by kernel_rfl) rfl #[.agg #[.slice A0_0 l0_0.length c0_0, .slice A0_1 l0_1.length c0_1, .slice A0_2 l0_2.length c0_2, .int .i64 a0_3]] (by rfl) rfl rfl mp_ ?_
  with_reducible refine (laws_toEndpoint.calls k _ _ l0_0 _ _ l0_1 _ _ l0_2 a0_3 t243 t246 t249 t252 _ ?side1 ?side2 ?side3 ?side4 ?side5 ?side6 A29.out).mono ?_
  (case side1 => exact pc_ (Kd.C_below HR0_0.out HB.out))
  (case side2 => exact HC0_0.out)
  (case side3 => exact pc_ (Kd.C_below HR0_1.out HB.out))
  (case side4 => exact HC0_1.out)
  (case side5 => exact pc_ (Kd.C_below HR0_2.out HB.out))
  (case side6 => exact HC0_2.out)
  rintro e w32 ⟨v244, v247, v250, rfl, ho0, ho1, ho2, hb⟩
  refine ⟨_, rfl, ?_⟩
  have n0_ := Aside0.mk (Kd.R_mono (Kd.R_told (Kd.R_told (Kd.R_old (pr_ HO222.out) hb) (Kd.R_base ho0)) (Kd.R_base ho1)) (fun _ h_ => h_.1))
  have n1_ := Aside0.mk (Kd.R_mono (Kd.R_told (Kd.R_told (Kd.R_old (pr_ HO225.out) hb) (Kd.R_base ho0)) (Kd.R_base ho1)) (fun _ h_ => h_.1))
  have n2_ := Aside0.mk (Kd.S_mono (Kd.S_told (Kd.S_told (Kd.S_told (Kd.S_old (ps_ HO228.out) hb) (Kd.R_base ho0)) (Kd.R_base ho1)) (Kd.S_base ho2)) (fun _ h_ => h_.1))
  have n3_ := Aside0.mk (Kd.R_mono (Kd.R_told (Kd.R_told (Kd.R_old (pr_ HO233.out) hb) (Kd.R_base ho0)) (Kd.R_base ho1)) (fun _ h_ => h_.1))
  have n4_ := Aside0.mk (Kd.R_mono (Kd.R_told (Kd.R_told (Kd.R_old (pr_ HO236.out) hb) (Kd.R_base ho0)) (Kd.R_base ho1)) (fun _ h_ => h_.1))
  have n5_ := Aside0.mk (Kd.S_mono (Kd.S_told (Kd.S_told (Kd.S_told (Kd.S_old (ps_ HO239.out) hb) (Kd.R_base ho0)) (Kd.R_base ho1)) (Kd.S_base ho2)) (fun _ h_ => h_.1))
  have n6_ := Aside0.mk (Kd.R_lower (Kd.R_new' (Kd.R_new' (Kd.R_new' (Kd.R_new' ho0 (Kd.R_lt (pr_ HO222.out))) (Kd.R_lt (pr_ HO225.out))) (Kd.R_lt (pr_ HO233.out))) (Kd.R_lt (pr_ HO236.out))) (below_size (pb2_ HB.out GE218.out GE241.out)))
  have n7_ := Aside0.mk (Kd.R_lower (Kd.R_new' (Kd.R_new' (Kd.R_new' (Kd.R_new' ho1 (Kd.R_lt (pr_ HO222.out))) (Kd.R_lt (pr_ HO225.out))) (Kd.R_lt (pr_ HO233.out))) (Kd.R_lt (pr_ HO236.out))) (below_size (pb2_ HB.out GE218.out GE241.out)))
  have n8_ := Aside0.mk (Kd.S_lower (Kd.S_new' (Kd.S_new' (Kd.S_new' (Kd.S_new' (Kd.S_new' (Kd.S_new' ho2 (Kd.R_lt (pr_ HO222.out))) (Kd.R_lt (pr_ HO225.out))) (Kd.S_lt (ps_ HO228.out))) (Kd.R_lt (pr_ HO233.out))) (Kd.R_lt (pr_ HO236.out))) (Kd.S_lt (ps_ HO239.out))) (below_size (pb2_ HB.out GE218.out GE241.out)))
  have n9_ := Aside0.mk (bb_ BK218.out hb)
  have n10_ := Aside0.mk (bb_ BK241.out hb)
  have n11_ := Aside0.mk (below_step (pb2_ HB.out GE218.out GE241.out) hb)
  clear HO222
  clear HO225
  clear HO228
  clear HO233
  clear HO236
  clear HO239
  clear BK218
  clear BK241
  clear HB
  have HO222 := n0_
  have HO225 := n1_
  have HO228 := n2_
  have HO233 := n3_
  have HO236 := n4_
  have HO239 := n5_
  have HO245 := n6_
  have HO248 := n7_
  have HO251 := n8_
  have BK218 := n9_
  have BK241 := n10_
  have HB := n11_
  clear n0_ n1_ n2_ n3_ n4_ n5_ n6_ n7_ n8_ n9_ n10_ n11_
  (try clear hb)
  (try clear hb2)
  (try clear hk)
  (try clear hi)
  (try clear ho0)
  (try clear ho1)
  (try clear ho2)
  obtain ⟨Ao33, co33, eo33⟩ := Kd.R_slice HO245.out
  (first | subst eo33 | (injection eo33 with f1_ f2_ f3_; have f4_ := f1_.symm; have f5_ := f3_.symm; clear f1_ f2_ f3_; subst f4_; subst f5_))
  obtain ⟨Ao34, co34, eo34⟩ := Kd.R_slice HO248.out
  (first | subst eo34 | (injection eo34 with f1_ f2_ f3_; have f4_ := f1_.symm; have f5_ := f3_.symm; clear f1_ f2_ f3_; subst f4_; subst f5_))
  obtain ⟨Ao35, co35, eo35⟩ := Kd.S_slice HO251.out
  (first | subst eo35 | (injection eo35 with f1_ f2_ f3_; have f4_ := f1_.symm; have f5_ := f3_.symm; clear f1_ f2_ f3_; subst f4_; subst f5_))
  refine hK.out _ _ ⟨(blk_cell BK241.out 0).trans rfl, (blk_cell BK241.out 1).trans rfl, (blk_cell BK241.out 2).trans rfl, (blk_cell BK241.out 3).trans rfl, (blk_cell BK218.out 0).trans rfl, (blk_cell BK218.out 1).trans rfl, (blk_cell BK218.out 2).trans rfl, (blk_cell BK218.out 3).trans rfl⟩ (fun hHeld => ?_)
  clear hK K
  refine norm_ (a' := ?_) ?_ ?_
  rotate_left
  · show Act.put _ (some 24) _ = _
    simp only [Act.put, List.setIfInBounds_toArray, List.set_cons_zero, List.set_cons_succ, i64_w, i32_w]
    rfl
  refine one_ (i := 3) (N := some 25) #[true, true, true, true, false] rfl rfl (by kernel_rfl) (by decide) (fun K hK => ?_)
  refine goes_ Try.func47 (by kernel_rfl) rfl #[.agg #[.slice Ao19 t231.length co19, .slice Ao22 t234.length co22, .slice Ao23 t237.length co23, .int .i64 t240], .agg #[.slice Ao33 t243.length co33, .slice Ao34 t246.length co34, .slice Ao35 t249.length co35, .int .i64 t252]] (by rfl) rfl rfl mp_ ?_
  with_reducible refine (laws_eqEndpoint.calls k _ _ t231 _ _ t234 _ _ t237 t240 _ _ t243 _ _ t246 _ _ t249 t252 t253 _ ?side1 ?side2 ?side3 ?side4 ?side5 ?side6 ?side7 ?side8 ?side9 ?side10 ?side11 ?side12 A30.out).mono ?_
  (case side1 => exact pc_ ((Kd.R_reads' HO233.out).2.2))
  (case side2 => exact (Kd.R_reads' HO233.out).2.1)
  (case side3 => exact pc_ ((Kd.R_reads' HO236.out).2.2))
  (case side4 => exact (Kd.R_reads' HO236.out).2.1)
  (case side5 => exact pc_ ((Kd.S_reads' HO239.out).2.2))
  (case side6 => exact (Kd.S_reads' HO239.out).2.1)
  (case side7 => exact pc_ ((Kd.R_reads' HO245.out).2.2))
  (case side8 => exact (Kd.R_reads' HO245.out).2.1)
  (case side9 => exact pc_ ((Kd.R_reads' HO248.out).2.2))
  (case side10 => exact (Kd.R_reads' HO248.out).2.1)
  (case side11 => exact pc_ ((Kd.S_reads' HO251.out).2.2))
  (case side12 => exact (Kd.S_reads' HO251.out).2.1)
  rintro e w36 ⟨rfl, hb⟩
  refine ⟨_, rfl, ?_⟩
  have n0_ := Aside0.mk (Kd.R_below (pr_ HO222.out) hb)
  have n1_ := Aside0.mk (Kd.R_below (pr_ HO225.out) hb)
  have n2_ := Aside0.mk (Kd.S_below (ps_ HO228.out) hb)
  have n3_ := Aside0.mk (Kd.R_below (pr_ HO233.out) hb)
  have n4_ := Aside0.mk (Kd.R_below (pr_ HO236.out) hb)
  have n5_ := Aside0.mk (Kd.S_below (ps_ HO239.out) hb)
  have n6_ := Aside0.mk (Kd.R_below (pr_ HO245.out) hb)
  have n7_ := Aside0.mk (Kd.R_below (pr_ HO248.out) hb)
  have n8_ := Aside0.mk (Kd.S_below (ps_ HO251.out) hb)
  have n9_ := Aside0.mk (bb_ BK218.out hb)
  have n10_ := Aside0.mk (bb_ BK241.out hb)
  have n11_ := Aside0.mk (below_step (pb2_ HB.out GE218.out GE241.out) hb)
  clear HO222
  clear HO225
  clear HO228
  clear HO233
  clear HO236
  clear HO239
  clear HO245
  clear HO248
  clear HO251
  clear BK218
  clear BK241
  clear HB
  have HO222 := n0_
  have HO225 := n1_
  have HO228 := n2_
  have HO233 := n3_
  have HO236 := n4_
  have HO239 := n5_
  have HO245 := n6_
  have HO248 := n7_
  have HO251 := n8_
  have BK218 := n9_
  have BK241 := n10_
  have HB := n11_
  clear n0_ n1_ n2_ n3_ n4_ n5_ n6_ n7_ n8_ n9_ n10_ n11_
  (try clear hb)
  (try clear hb2)
  (try clear hk)
  (try clear hi)
  refine hK.out _ _ ⟨(blk_cell BK241.out 0).trans rfl, (blk_cell BK241.out 1).trans rfl, (blk_cell BK241.out 2).trans rfl, (blk_cell BK241.out 3).trans rfl, (blk_cell BK218.out 0).trans rfl, (blk_cell BK218.out 1).trans rfl, (blk_cell BK218.out 2).trans rfl, (blk_cell BK218.out 3).trans rfl⟩ (fun hHeld => ?_)
  clear hK K
  refine norm_ (a' := ?_) ?_ ?_
  rotate_left
  · show Act.put _ (some 25) _ = _
    simp only [Act.put, List.setIfInBounds_toArray, List.set_cons_zero, List.set_cons_succ, i64_w, i32_w]
    rfl
  refine pure_ (i := 4) (N := some 26) (v := ?_) (a' := ?_) #[true, true, true, true, true] rfl rfl (by kernel_rfl) (fun _ _ _ h => h) (Or.inl ⟨by rfl, ?_⟩) ?_ ?_
  rotate_left
  · intro w'
    go_simp
    (try (simp only [Instr.field]; simp only [underlying, hu53, hu58]; go_simp; simp only [asAgg]; go_simp))
    with_reducible rfl
  rotate_left
  · simp only [Act.put, List.setIfInBounds_toArray, List.set_cons_zero, List.set_cons_succ, i64_w, i32_w]
    rfl
  refine done_ (by kernel_rfl) ?_
  go_upto_if 26 with (fail)
  have H := HS_.out
  clear HS_
  by_cases c37 : t253 = true
  rotate_left
  · replace c37 := Bool.eq_false_iff.mpr c37
    subst c37
    rw [if_neg (show ¬ (false = true) by decide)] at H
    obtain rfl := Option.some.inj H
    go_wp2
    go_ret
    exact ⟨er_, pb2_ HB.out GE218.out GE241.out⟩
  subst c37
  rw [if_pos rfl] at H
  obtain rfl := Option.some.inj H
  go_wp2
  go_ret
  exact ⟨er_, pb2_ HB.out GE218.out GE241.out⟩

/-- THE ONE PURE STATEMENT of laws_FnExactIsEndpoint: yours. -/
def laws_FnExactIsEndpoint.Pure : Prop := ∀ (x0 : S53), Q53 x0 → ∃ k, laws_FnExactIsEndpoint.f k x0.f0 x0.f1 x0.f2 x0.f3 = some true

end Go.Proofs.Ytdoefkloanpliaa.Print
