-- Written by a program of this session (printx.py) out of the translation; Lean checks it.
import Derived.Test.YtpoandlbmaljhaaPrint0
import Derived.Test.YtpoandlbmaljhaaPrint1
import Derived.Test.YtpoandlbmaljhaaPrint8
import Derived.Test.YtpoandlbmaljhaaPrint15
import Derived.Test.YtpoandlbmaljhaaPrint16
namespace Go.Proofs.Ytpoandlbmaljhaa.Print
open Go.RowKit Go.Proofs.YtpoandlbmaljhaaW.PrintWords Go.Proofs.YtpoandlbmaljhaaW.PrintLast Go.Proofs.YtpoandlbmaljhaaW.PrintMore Go.Proofs.Ytpoandlbmaljhaa.Short
attribute [local go_sem] max2_int min2_int max_two min_two max_three min_three max_four min_four   -- for this text's walks alone
set_option linter.unusedVariables false
set_option linter.unusedSimpArgs false

/-! ### laws_FnExactBestFor: function 5 -/
def laws_FnExactBestFor.f (k : Nat) (l0_0 : List Int) (l0_1 : List Int) (l0_2 : List (S46)) (a0_3 : Int) (l1 : List Int) : Option (Bool) := if (l1.length : Int) > 1048576 then (some true) else ((laws_szEndpoint.f k l0_0 l0_1 l0_2 a0_3 1048576).bind fun t560 => (if t560 < 0 then (some true) else ((laws_toEndpoint.f k l0_0 l0_1 l0_2 a0_3).bind fun bt561 => ((laws_toIntS.f k l1).bind fun t571 => ((spec_BestFor.f k bt561.1 bt561.2.1 bt561.2.2.1 bt561.2.2.2 t571).bind fun t574 => ((laws_toEndpoint.f k l0_0 l0_1 l0_2 a0_3).bind fun bt575 => ((laws_toIntS.f k l1).bind fun t586 => ((impl_BestFor.f k bt575.1 bt575.2.1 bt575.2.2.1 bt575.2.2.2 t586).bind fun t589 => (if t589 = t574 then ((laws_toEndpoint.f k l0_0 l0_1 l0_2 a0_3).bind fun bt590 => ((laws_eqEndpoint.f k bt575.1 bt575.2.1 bt575.2.2.1 bt575.2.2.2 bt590.1 bt590.2.1 bt590.2.2.1 bt590.2.2.2).bind fun t600 => (if t600 = true then ((laws_toIntS.f k l1).bind fun t601 => ((laws_eqIntS.f k t586 t601).bind fun t604 => (if t604 = true then (some true) else (some false)))) else (some false)))) else (some false))))))))))
theorem laws_FnExactBestFor.mono : ∀ a0 a1 a2 a3 a4 k, LeO (laws_FnExactBestFor.f k a0 a1 a2 a3 a4) (laws_FnExactBestFor.f (k + 1) a0 a1 a2 a3 a4) := by
  intro a0 a1 a2 a3 a4 k
  unfold laws_FnExactBestFor.f
  repeat' first
      | (with_reducible exact impl_BestFor.mono _ _ _ _ _ _)
      | (with_reducible exact laws_eqEndpoint.mono _ _ _ _ _ _ _ _ _)
      | (with_reducible exact laws_eqIntS.mono _ _ _)
      | (with_reducible exact laws_szEndpoint.mono _ _ _ _ _ _)
      | (with_reducible exact laws_toEndpoint.mono _ _ _ _ _)
      | (with_reducible exact laws_toIntS.mono _ _)
      | (with_reducible exact spec_BestFor.mono _ _ _ _ _ _)
      | (with_reducible exact LeO.refl _)
      | (with_reducible exact LeO.none _)
      | (with_reducible refine LeO.ite ?_ ?_)
      | (with_reducible refine LeO.bind ?_ (fun _ => ?_))
      | exact impl_BestFor.mono _ _ _ _ _ _
      | exact laws_eqEndpoint.mono _ _ _ _ _ _ _ _ _
      | exact laws_eqIntS.mono _ _ _
      | exact laws_szEndpoint.mono _ _ _ _ _ _
      | exact laws_toEndpoint.mono _ _ _ _ _
      | exact laws_toIntS.mono _ _
      | exact spec_BestFor.mono _ _ _ _ _ _
      | exact LeO.none _
      | refine LeO.ite ?_ ?_
      | refine LeO.bind ?_ (fun _ => ?_)
set_option maxHeartbeats 8000000 in
set_option maxRecDepth 100000 in
theorem laws_FnExactBestFor.calls (k : Nat) (A0_0 : Option Addr) (c0_0 : Nat) (l0_0 : List Int) (A0_1 : Option Addr) (c0_1 : Nat) (l0_1 : List Int) (A0_2 : Option Addr) (c0_2 : Nat) (l0_2 : List (S46)) (a0_3 : Int) (A1 : Option Addr) (c1 : Nat) (l1 : List Int) (r : Bool) (w : World) (hr0_0 : Kd.C (Kd.int .i64) w A0_0 l0_0.length l0_0) (hc0_0 : l0_0.length ≤ c0_0) (hr0_1 : Kd.C (Kd.int .i64) w A0_1 l0_1.length l0_1) (hc0_1 : l0_1.length ≤ c0_1) (hr0_2 : Kd.C k46 w A0_2 l0_2.length l0_2) (hc0_2 : l0_2.length ≤ c0_2) (hr1 : Kd.C (Kd.int .i64) w A1 l1.length l1) (hc1 : l1.length ≤ c1) (h : laws_FnExactBestFor.f k l0_0 l0_1 l0_2 a0_3 l1 = some r) :
    Calls Try.prog 5 #[.agg #[.slice A0_0 l0_0.length c0_0, .slice A0_1 l0_1.length c0_1, .slice A0_2 l0_2.length c0_2, .int .i64 a0_3], .slice A1 l1.length c1] w fun e w' => e = .returned (.bool r) ∧ Below w.heap.size w w' := by
  have hu35 := Try.underlying35
  have hu39 := Try.underlying39
  have HR0_0 := Aside0.mk hr0_0
  have HC0_0 := Aside0.mk hc0_0
  clear hr0_0 hc0_0
  have HR0_1 := Aside0.mk hr0_1
  have HC0_1 := Aside0.mk hc0_1
  clear hr0_1 hc0_1
  have HR0_2 := Aside0.mk hr0_2
  have HC0_2 := Aside0.mk hc0_2
  clear hr0_2 hc0_2
  have HR1 := Aside0.mk hr1
  have HC1 := Aside0.mk hc1
  clear hr1 hc1
  have HB := Aside0.mk (Below.refl w.heap.size w)
  have H : (if (l1.length : Int) > 1048576 then (some true) else ((laws_szEndpoint.f k l0_0 l0_1 l0_2 a0_3 1048576).bind fun t560 => (if t560 < 0 then (some true) else ((laws_toEndpoint.f k l0_0 l0_1 l0_2 a0_3).bind fun bt561 => ((laws_toIntS.f k l1).bind fun t571 => ((spec_BestFor.f k bt561.1 bt561.2.1 bt561.2.2.1 bt561.2.2.2 t571).bind fun t574 => ((laws_toEndpoint.f k l0_0 l0_1 l0_2 a0_3).bind fun bt575 => ((laws_toIntS.f k l1).bind fun t586 => ((impl_BestFor.f k bt575.1 bt575.2.1 bt575.2.2.1 bt575.2.2.2 t586).bind fun t589 => (if t589 = t574 then ((laws_toEndpoint.f k l0_0 l0_1 l0_2 a0_3).bind fun bt590 => ((laws_eqEndpoint.f k bt575.1 bt575.2.1 bt575.2.2.1 bt575.2.2.2 bt590.1 bt590.2.1 bt590.2.2.1 bt590.2.2.2).bind fun t600 => (if t600 = true then ((laws_toIntS.f k l1).bind fun t601 => ((laws_eqIntS.f k t586 t601).bind fun t604 => (if t604 = true then (some true) else (some false)))) else (some false)))) else (some false))))))))))) = some r := h
  clear h
  have HS_ := Aside0.mk H
  clear H
  go_enter Try.func5, Try.ntmps5
  go_upto_if 12 with (first | ((with_reducible refine gate_dst (N := 2) rfl ?_); refine box_event ?hg (N := 2) ?hd (cs := #[.slice A0_0 l0_0.length c0_0, .slice A0_1 l0_1.length c0_1, .slice A0_2 l0_2.length c0_2, .int .i64 a0_3]) (t := 35) ?hr ?_; (case hd => rfl); (case hg => rfl); (case hr => first | (go_simp; done) | (go_simp; rfl)); intro gb559 hg w3 hbox hb; have n0_ := Aside0.mk (below_step (pb_ HB.out) hb); have n1_ := Aside0.mk (hbox); have n2_ := Aside0.mk ((by rw [hg]; exact (below_size (pb_ HB.out)) : w.heap.size ≤ gb559)); have n3_ := Aside0.mk ((by rw [hg]; exact (below_size (pb_ HB.out)) : w.heap.size ≤ gb559)); clear HB; have HB := n0_; have BK559 := n1_; have GW559 := n2_; have GE559 := n3_; clear n0_ n1_ n2_ n3_; clear hb hbox hg))
  (try simp only [Act.put, List.setIfInBounds_toArray, List.set_cons_zero, List.set_cons_succ])
  have H := HS_.out
  clear HS_
  by_cases c4 : (l1.length : Int) > 1048576
  · rw [if_pos c4] at H
    have c4b0 : decide (1048576 < (l1.length : Int)) = true := decide_eq_true c4
    have c4b1 : decide (1048576 < l1.length) = true := decide_eq_true (by omega)
    clear c4
    (first | rw [c4b0] | (simp only [i64_w, i32_w]; rw [c4b0]) | rw [c4b1] | skip)
    obtain rfl := Option.some.inj H
    go_wp2
    go_ret
    exact ⟨er_, pb1_ HB.out GE559.out⟩
  rw [if_neg c4] at H
  have c4b0 : decide (1048576 < (l1.length : Int)) = false := decide_eq_false c4
  have c4b1 : decide (1048576 < l1.length) = false := decide_eq_false (by omega)
  clear c4
  (first | rw [c4b0] | (simp only [i64_w, i32_w]; rw [c4b0]) | rw [c4b1] | skip)
  replace H := Option.bind_eq_some_iff.mp H
  obtain ⟨t560, A50, H⟩ := H
  (try dsimp only at H)
  have A5 := Aside0.mk A50
  clear A50
  have HS_ := Aside0.mk H
  clear H
  obtain ⟨hcz6_0, hcz6_1, hcz6_2, hcz6_3, hfz6_0, hfz6_1, hfz6_2, hfz6_3⟩ := bc4_ BK559.out
  go_upto_if 17 with (first | ((with_reducible refine gate_callee (f := 16) rfl ?_); refine goesL_ (some 15) rfl rfl Try.func16 (by kernel_rfl) rfl #[.agg #[.slice A0_0 l0_0.length c0_0, .slice A0_1 l0_1.length c0_1, .slice A0_2 l0_2.length c0_2, .int .i64 a0_3], .int .i64 1048576] rfl mp_ ?_; (with_reducible refine (laws_szEndpoint.calls k _ _ l0_0 _ _ l0_1 _ _ l0_2 a0_3 1048576 t560 _ ?side1 ?side2 ?side3 ?side4 ?side5 ?side6 A5.out).mono ?_); (case side1 => exact pc_ (Kd.C_below HR0_0.out HB.out)); (case side2 => exact HC0_0.out); (case side3 => exact pc_ (Kd.C_below HR0_1.out HB.out)); (case side4 => exact HC0_1.out); (case side5 => exact pc_ (Kd.C_below HR0_2.out HB.out)); (case side6 => exact HC0_2.out); rintro e w7 ⟨rfl, hb⟩; refine ⟨_, rfl, ?_⟩; have n0_ := Aside0.mk (bb_ BK559.out hb); have n1_ := Aside0.mk (below_step (pb1_ HB.out GE559.out) hb); clear BK559; clear HB; have BK559 := n0_; have HB := n1_; clear n0_ n1_; (try clear hb); (try clear hb2); (try clear hk); (try clear hi)))
  (try simp only [Act.put, List.setIfInBounds_toArray, List.set_cons_zero, List.set_cons_succ])
  have H := HS_.out
  clear HS_
  by_cases c8 : t560 < 0
  · rw [if_pos c8] at H
    have c8b0 : decide (t560 < 0) = true := decide_eq_true c8
    clear c8
    (first | rw [c8b0] | (simp only [i64_w, i32_w]; rw [c8b0]) | skip)
    obtain rfl := Option.some.inj H
    go_wp2
    go_ret
    exact ⟨er_, pb1_ HB.out GE559.out⟩
  rw [if_neg c8] at H
  have c8b0 : decide (t560 < 0) = false := decide_eq_false c8
  clear c8
  (first | rw [c8b0] | (simp only [i64_w, i32_w]; rw [c8b0]) | skip)
  replace H := Option.bind_eq_some_iff.mp H
  obtain ⟨⟨t561, t564, t567, t570⟩, A90, H⟩ := H
  (try dsimp only at H)
  have A9 := Aside0.mk A90
  clear A90
  replace H := Option.bind_eq_some_iff.mp H
  obtain ⟨t571, A100, H⟩ := H
  (try dsimp only at H)
  have A10 := Aside0.mk A100
  clear A100
  replace H := Option.bind_eq_some_iff.mp H
  obtain ⟨t574, A110, H⟩ := H
  (try dsimp only at H)
  have A11 := Aside0.mk A110
  clear A110
  have HS_ := Aside0.mk H
  clear H
  obtain ⟨hcz12_0, hcz12_1, hcz12_2, hcz12_3, hfz12_0, hfz12_1, hfz12_2, hfz12_3⟩ := bc4_ BK559.out
  go_upto_region 8 with (first | ((with_reducible refine gate_callee (f := 18) rfl ?_); refine goesL_ (some 19) rfl rfl Try.func18 (by kernel_rfl) rfl #[.agg #[.slice A0_0 l0_0.length c0_0, .slice A0_1 l0_1.length c0_1, .slice A0_2 l0_2.length c0_2, .int .i64 a0_3]] rfl mp_ ?_; (with_reducible refine (laws_toEndpoint.calls k _ _ l0_0 _ _ l0_1 _ _ l0_2 a0_3 t561 t564 t567 t570 _ ?side1 ?side2 ?side3 ?side4 ?side5 ?side6 A9.out).mono ?_); (case side1 => exact pc_ (Kd.C_below HR0_0.out HB.out)); (case side2 => exact HC0_0.out); (case side3 => exact pc_ (Kd.C_below HR0_1.out HB.out)); (case side4 => exact HC0_1.out); (case side5 => exact pc_ (Kd.C_below HR0_2.out HB.out)); (case side6 => exact HC0_2.out); rintro e w13 ⟨v562, v565, v568, rfl, ho0, ho1, ho2, hb⟩; refine ⟨_, rfl, ?_⟩; have n0_ := Aside0.mk (Kd.R_lower ho0 (below_size (pb1_ HB.out GE559.out))); have n1_ := Aside0.mk (Kd.R_lower ho1 (below_size (pb1_ HB.out GE559.out))); have n2_ := Aside0.mk (Kd.S_lower ho2 (below_size (pb1_ HB.out GE559.out))); have n3_ := Aside0.mk (bb_ BK559.out hb); have n4_ := Aside0.mk (below_step (pb1_ HB.out GE559.out) hb); clear BK559; clear HB; have HO563 := n0_; have HO566 := n1_; have HO569 := n2_; have BK559 := n3_; have HB := n4_; clear n0_ n1_ n2_ n3_ n4_; (try clear hb); (try clear hb2); (try clear hk); (try clear hi); (try clear ho0); (try clear ho1); (try clear ho2)) | ((with_reducible refine gate_callee (f := 10) rfl ?_); refine goesL_ (some 21) rfl rfl Try.func10 (by kernel_rfl) rfl #[.slice A1 l1.length c1] rfl mp_ ?_; (with_reducible refine (laws_toIntS.calls k _ _ l1 t571 _ ?side1 ?side2 A10.out).mono ?_); (case side1 => exact pc_ (Kd.C_below HR1.out HB.out)); (case side2 => exact HC1.out); rintro e w14 ⟨v572, rfl, ho0, hb⟩; refine ⟨_, rfl, ?_⟩; have n0_ := Aside0.mk (Kd.R_elder' (pr_ HO563.out) (Kd.R_base ho0) hb); have n1_ := Aside0.mk (Kd.R_elder' (pr_ HO566.out) (Kd.R_base ho0) hb); have n2_ := Aside0.mk (Kd.S_elder' (ps_ HO569.out) (Kd.R_base ho0) hb); have n3_ := Aside0.mk (Kd.R_lower (Kd.R_new' (Kd.R_new' ho0 (Kd.R_lt (pr_ HO563.out))) (Kd.R_lt (pr_ HO566.out))) (below_size (pb1_ HB.out GE559.out))); have n4_ := Aside0.mk (bb_ BK559.out hb); have n5_ := Aside0.mk (below_step (pb1_ HB.out GE559.out) hb); clear HO563; clear HO566; clear HO569; clear BK559; clear HB; have HO563 := n0_; have HO566 := n1_; have HO569 := n2_; have HO573 := n3_; have BK559 := n4_; have HB := n5_; clear n0_ n1_ n2_ n3_ n4_ n5_; (try clear hb); (try clear hb2); (try clear hk); (try clear hi); (try clear ho0); obtain ⟨Ao15, co15, eo15⟩ := Kd.R_slice HO563.out; subst eo15; obtain ⟨Ao16, co16, eo16⟩ := Kd.R_slice HO566.out; subst eo16; obtain ⟨Ao17, co17, eo17⟩ := Kd.S_slice HO569.out; subst eo17; obtain ⟨Ao18, co18, eo18⟩ := Kd.R_slice HO573.out; subst eo18) | ((with_reducible refine gate_callee (f := 17) rfl ?_); refine goesL_ (some 22) rfl rfl Try.func17 (by kernel_rfl) rfl #[.agg #[.slice Ao15 t561.length co15, .slice Ao16 t564.length co16, .slice Ao17 t567.length co17, .int .i64 t570], .slice Ao18 t571.length co18] rfl mp_ ?_; (with_reducible refine (spec_BestFor.calls k _ _ t561 _ _ t564 _ _ t567 t570 _ _ t571 t574 _ ?side1 ?side2 ?side3 ?side4 ?side5 ?side6 ?side7 ?side8 A11.out).mono ?_); (case side1 => exact pc_ ((Kd.R_reads' HO563.out).2.2)); (case side2 => exact (Kd.R_reads' HO563.out).2.1); (case side3 => exact pc_ ((Kd.R_reads' HO566.out).2.2)); (case side4 => exact (Kd.R_reads' HO566.out).2.1); (case side5 => exact pc_ ((Kd.S_reads' HO569.out).2.2)); (case side6 => exact (Kd.S_reads' HO569.out).2.1); (case side7 => exact pc_ ((Kd.R_reads' HO573.out).2.2)); (case side8 => exact (Kd.R_reads' HO573.out).2.1); rintro e w19 ⟨rfl, hb⟩; refine ⟨_, rfl, ?_⟩; have n0_ := Aside0.mk (Kd.R_below (pr_ HO563.out) hb); have n1_ := Aside0.mk (Kd.R_below (pr_ HO566.out) hb); have n2_ := Aside0.mk (Kd.S_below (ps_ HO569.out) hb); have n3_ := Aside0.mk (Kd.R_below (pr_ HO573.out) hb); have n4_ := Aside0.mk (bb_ BK559.out hb); have n5_ := Aside0.mk (below_step (pb1_ HB.out GE559.out) hb); clear HO563; clear HO566; clear HO569; clear HO573; clear BK559; clear HB; have HO563 := n0_; have HO566 := n1_; have HO569 := n2_; have HO573 := n3_; have BK559 := n4_; have HB := n5_; clear n0_ n1_ n2_ n3_ n4_ n5_; (try clear hb); (try clear hb2); (try clear hk); (try clear hi)))
  (try simp only [Act.put, List.setIfInBounds_toArray, List.set_cons_zero, List.set_cons_succ])
  have H := HS_.out
  clear HS_
  replace H := Option.bind_eq_some_iff.mp H
  obtain ⟨⟨t575, t578, t581, t584⟩, A200, H⟩ := H
  (try dsimp only at H)
  have A20 := Aside0.mk A200
  clear A200
  have HS_ := Aside0.mk H
  clear H
  obtain ⟨hcz21_0, hcz21_1, hcz21_2, hcz21_3, hfz21_0, hfz21_1, hfz21_2, hfz21_3⟩ := bc4_ BK559.out
  go_upto_region 9 with (first | ((with_reducible refine gate_callee (f := 18) rfl ?_); refine goesL_ (some 24) rfl rfl Try.func18 (by kernel_rfl) rfl #[.agg #[.slice A0_0 l0_0.length c0_0, .slice A0_1 l0_1.length c0_1, .slice A0_2 l0_2.length c0_2, .int .i64 a0_3]] rfl mp_ ?_; (with_reducible refine (laws_toEndpoint.calls k _ _ l0_0 _ _ l0_1 _ _ l0_2 a0_3 t575 t578 t581 t584 _ ?side1 ?side2 ?side3 ?side4 ?side5 ?side6 A20.out).mono ?_); (case side1 => exact pc_ (Kd.C_below HR0_0.out HB.out)); (case side2 => exact HC0_0.out); (case side3 => exact pc_ (Kd.C_below HR0_1.out HB.out)); (case side4 => exact HC0_1.out); (case side5 => exact pc_ (Kd.C_below HR0_2.out HB.out)); (case side6 => exact HC0_2.out); rintro e w22 ⟨v576, v579, v582, rfl, ho0, ho1, ho2, hb⟩; refine ⟨_, rfl, ?_⟩; have n0_ := Aside0.mk (Kd.R_mono (Kd.R_told (Kd.R_told (Kd.R_old (pr_ HO563.out) hb) (Kd.R_base ho0)) (Kd.R_base ho1)) (fun _ h_ => h_.1)); have n1_ := Aside0.mk (Kd.R_mono (Kd.R_told (Kd.R_told (Kd.R_old (pr_ HO566.out) hb) (Kd.R_base ho0)) (Kd.R_base ho1)) (fun _ h_ => h_.1)); have n2_ := Aside0.mk (Kd.S_mono (Kd.S_told (Kd.S_told (Kd.S_told (Kd.S_old (ps_ HO569.out) hb) (Kd.R_base ho0)) (Kd.R_base ho1)) (Kd.S_base ho2)) (fun _ h_ => h_.1)); have n3_ := Aside0.mk (Kd.R_mono (Kd.R_told (Kd.R_told (Kd.R_old (pr_ HO573.out) hb) (Kd.R_base ho0)) (Kd.R_base ho1)) (fun _ h_ => h_.1)); have n4_ := Aside0.mk (Kd.R_lower (Kd.R_new' (Kd.R_new' (Kd.R_new' ho0 (Kd.R_lt (pr_ HO563.out))) (Kd.R_lt (pr_ HO566.out))) (Kd.R_lt (pr_ HO573.out))) (below_size (pb1_ HB.out GE559.out))); have n5_ := Aside0.mk (Kd.R_lower (Kd.R_new' (Kd.R_new' (Kd.R_new' ho1 (Kd.R_lt (pr_ HO563.out))) (Kd.R_lt (pr_ HO566.out))) (Kd.R_lt (pr_ HO573.out))) (below_size (pb1_ HB.out GE559.out))); have n6_ := Aside0.mk (Kd.S_lower (Kd.S_new' (Kd.S_new' (Kd.S_new' (Kd.S_new' ho2 (Kd.R_lt (pr_ HO563.out))) (Kd.R_lt (pr_ HO566.out))) (Kd.S_lt (ps_ HO569.out))) (Kd.R_lt (pr_ HO573.out))) (below_size (pb1_ HB.out GE559.out))); have n7_ := Aside0.mk (bb_ BK559.out hb); have n8_ := Aside0.mk (below_step (pb1_ HB.out GE559.out) hb); clear HO563; clear HO566; clear HO569; clear HO573; clear BK559; clear HB; have HO563 := n0_; have HO566 := n1_; have HO569 := n2_; have HO573 := n3_; have HO577 := n4_; have HO580 := n5_; have HO583 := n6_; have BK559 := n7_; have HB := n8_; clear n0_ n1_ n2_ n3_ n4_ n5_ n6_ n7_ n8_; (try clear hb); (try clear hb2); (try clear hk); (try clear hi); (try clear ho0); (try clear ho1); (try clear ho2)) | ((with_reducible refine gate_dst (N := 7) rfl ?_); refine box_event ?hg (N := 7) ?hd (cs := #[.slice none 0 0, .slice none 0 0, .slice none 0 0, .int .i64 0]) (t := 39) ?hr ?_; (case hd => rfl); (case hg => rfl); (case hr => first | (go_simp; done) | (go_simp; rfl)); intro gb585 hg w23 hbox hb; have n0_ := Aside0.mk (Kd.R_below (pr_ HO563.out) hb); have n1_ := Aside0.mk (Kd.R_below (pr_ HO566.out) hb); have n2_ := Aside0.mk (Kd.S_below (ps_ HO569.out) hb); have n3_ := Aside0.mk (Kd.R_below (pr_ HO573.out) hb); have n4_ := Aside0.mk (Kd.R_below (pr_ HO577.out) hb); have n5_ := Aside0.mk (Kd.R_below (pr_ HO580.out) hb); have n6_ := Aside0.mk (Kd.S_below (ps_ HO583.out) hb); have n7_ := Aside0.mk (bb_ BK559.out hb); have n8_ := Aside0.mk (below_step (pb1_ HB.out GE559.out) hb); have n9_ := Aside0.mk (hbox); have n10_ := Aside0.mk ((by rw [hg]; exact (below_size (pb1_ HB.out GE559.out)) : w.heap.size ≤ gb585)); have n11_ := Aside0.mk ((by rw [hg]; exact (below_size (pb1_ HB.out GE559.out)) : w.heap.size ≤ gb585)); have n12_ := Aside0.mk ((by rw [hg]; exact Nat.ne_of_lt (blk_lt (pk_ BK559.out)) : gb559 ≠ gb585)); have n13_ := Aside0.mk ((by rw [hg]; exact Nat.ne_of_gt (blk_lt (pk_ BK559.out)) : gb585 ≠ gb559)); clear HO563; clear HO566; clear HO569; clear HO573; clear HO577; clear HO580; clear HO583; clear BK559; clear HB; have HO563 := n0_; have HO566 := n1_; have HO569 := n2_; have HO573 := n3_; have HO577 := n4_; have HO580 := n5_; have HO583 := n6_; have BK559 := n7_; have HB := n8_; have BK585 := n9_; have GW585 := n10_; have GE585 := n11_; have NB559_585 := n12_; have NB585_559 := n13_; clear n0_ n1_ n2_ n3_ n4_ n5_ n6_ n7_ n8_ n9_ n10_ n11_ n12_ n13_; clear hb hbox hg; obtain ⟨Ao24, co24, eo24⟩ := Kd.R_slice HO577.out; subst eo24; have hnb25 := NB585_559.out; have hnc25 := NB559_585.out; have hcz26_0 : w23.cell? ⟨gb585, 0, none⟩ = some (.slice none 0 0) := (blk_cell BK585.out 0).trans rfl; have hcz26_1 : w23.cell? ⟨gb585, 1, none⟩ = some (.slice none 0 0) := (blk_cell BK585.out 1).trans rfl; have hcz26_2 : w23.cell? ⟨gb585, 2, none⟩ = some (.slice none 0 0) := (blk_cell BK585.out 2).trans rfl; have hcz26_3 : w23.cell? ⟨gb585, 3, none⟩ = some (.int .i64 0) := (blk_cell BK585.out 3).trans rfl; have hfz26_0 := blk_frozen BK585.out 0; have hfz26_1 := blk_frozen BK585.out 1; have hfz26_2 := blk_frozen BK585.out 2; have hfz26_3 := blk_frozen BK585.out 3; obtain ⟨Ao27, co27, eo27⟩ := Kd.R_slice HO580.out; subst eo27; obtain ⟨Ao28, co28, eo28⟩ := Kd.S_slice HO583.out; subst eo28))
  (try simp only [Act.put, List.setIfInBounds_toArray, List.set_cons_zero, List.set_cons_succ])
  have H := HS_.out
  clear HS_
  replace H := Option.bind_eq_some_iff.mp H
  obtain ⟨t586, A290, H⟩ := H
  (try dsimp only at H)
  have A29 := Aside0.mk A290
  clear A290
  have HS_ := Aside0.mk H
  clear H
  go_upto_region 10 with (first | ((with_reducible refine gate_callee (f := 10) rfl ?_); refine goesL_ (some 26) rfl rfl Try.func10 (by kernel_rfl) rfl #[.slice A1 l1.length c1] rfl mp_ ?_; (with_reducible refine (laws_toIntS.calls k _ _ l1 t586 _ ?side1 ?side2 A29.out).mono ?_); (case side1 => exact Kd.C_below HR1.out (pb2_ HB.out GE559.out GE585.out)); (case side2 => exact HC1.out); rintro e w30 ⟨v587, rfl, ho0, hb⟩; refine ⟨_, rfl, ?_⟩; have n0_ := Aside0.mk (Kd.R_elder' (pr_ (rf4_ HO563.out BK585.out)) (Kd.R_base ho0) hb); have n1_ := Aside0.mk (Kd.R_elder' (pr_ (rf4_ HO566.out BK585.out)) (Kd.R_base ho0) hb); have n2_ := Aside0.mk (Kd.S_elder' (ps_ (Kd.S_mono (Kd.S_far (p := ⟨gb585, 3, none⟩) (Kd.S_far (p := ⟨gb585, 2, none⟩) (Kd.S_far (p := ⟨gb585, 1, none⟩) (Kd.S_far (p := ⟨gb585, 0, none⟩) (Kd.S_types HO569.out BK585.out (by decide)) (fun _ hk => hk.2) (.slice Ao24 t575.length co24)) (fun _ hk => hk.2) (.slice Ao27 t578.length co27)) (fun _ hk => hk.2) (.slice Ao28 t581.length co28)) (fun _ hk => hk.2) (.int .i64 t584)) (fun _ h_ => h_.1))) (Kd.R_base ho0) hb); have n3_ := Aside0.mk (Kd.R_elder' (pr_ (rf4_ HO573.out BK585.out)) (Kd.R_base ho0) hb); have n4_ := Aside0.mk (Kd.R_elder' (pr_ (rf4_ HO577.out BK585.out)) (Kd.R_base ho0) hb); have n5_ := Aside0.mk (Kd.R_elder' (pr_ (rf4_ HO580.out BK585.out)) (Kd.R_base ho0) hb); have n6_ := Aside0.mk (Kd.S_elder' (ps_ (Kd.S_mono (Kd.S_far (p := ⟨gb585, 3, none⟩) (Kd.S_far (p := ⟨gb585, 2, none⟩) (Kd.S_far (p := ⟨gb585, 1, none⟩) (Kd.S_far (p := ⟨gb585, 0, none⟩) (Kd.S_types HO583.out BK585.out (by decide)) (fun _ hk => hk.2) (.slice Ao24 t575.length co24)) (fun _ hk => hk.2) (.slice Ao27 t578.length co27)) (fun _ hk => hk.2) (.slice Ao28 t581.length co28)) (fun _ hk => hk.2) (.int .i64 t584)) (fun _ h_ => h_.1))) (Kd.R_base ho0) hb); have n7_ := Aside0.mk (Kd.R_lower (Kd.R_new' (Kd.R_new' (Kd.R_new' (Kd.R_new' (Kd.R_new' ho0 (Kd.R_lt (pr_ (rf4_ HO563.out BK585.out)))) (Kd.R_lt (pr_ (rf4_ HO566.out BK585.out)))) (Kd.R_lt (pr_ (rf4_ HO573.out BK585.out)))) (Kd.R_lt (pr_ (rf4_ HO577.out BK585.out)))) (Kd.R_lt (pr_ (rf4_ HO580.out BK585.out)))) (below_size (pb2_ HB.out GE559.out GE585.out))); have n8_ := Aside0.mk (blk_below (g := gb559) (o := .cells #[.slice A0_0 l0_0.length c0_0, .slice A0_1 l0_1.length c0_1, .slice A0_2 l0_2.length c0_2, .int .i64 a0_3] 35 (0, 0)) (pp_ BK559.out) hb); have n9_ := Aside0.mk (blk_below (g := gb585) (o := .cells #[.slice Ao24 t575.length co24, .slice Ao27 t578.length co27, .slice Ao28 t581.length co28, .int .i64 t584] 39 (0, 0)) (pp_ BK585.out) hb); have n10_ := Aside0.mk (below_step (pb2_ HB.out GE559.out GE585.out) hb); clear HO563; clear HO566; clear HO569; clear HO573; clear HO577; clear HO580; clear HO583; clear BK559; clear BK585; clear HB; have HO563 := n0_; have HO566 := n1_; have HO569 := n2_; have HO573 := n3_; have HO577 := n4_; have HO580 := n5_; have HO583 := n6_; have HO588 := n7_; have BK559 := n8_; have BK585 := n9_; have HB := n10_; clear n0_ n1_ n2_ n3_ n4_ n5_ n6_ n7_ n8_ n9_ n10_; (try clear hb); (try clear hb2); (try clear hk); (try clear hi); (try clear ho0)))
  (try simp only [Act.put, List.setIfInBounds_toArray, List.set_cons_zero, List.set_cons_succ])
  have H := HS_.out
  clear HS_
  replace H := Option.bind_eq_some_iff.mp H
  obtain ⟨t589, A310, H⟩ := H
  (try dsimp only at H)
  have A31 := Aside0.mk A310
  clear A310
  have HS_ := Aside0.mk H
  clear H
  have hnb32 := NB585_559.out
  have hnc32 := NB559_585.out
  obtain ⟨hcz33_0, hcz33_1, hcz33_2, hcz33_3, hfz33_0, hfz33_1, hfz33_2, hfz33_3⟩ := bc4_ BK585.out
  obtain ⟨Ao34, co34, eo34⟩ := Kd.R_slice HO588.out
  subst eo34
  go_upto_if 32 with (first | ((with_reducible refine gate_callee (f := 19) rfl ?_); refine goesL_ (some 29) rfl rfl Try.func19 (by kernel_rfl) rfl #[.agg #[.slice Ao24 t575.length co24, .slice Ao27 t578.length co27, .slice Ao28 t581.length co28, .int .i64 t584], .slice Ao34 t586.length co34] rfl mp_ ?_; (with_reducible refine (impl_BestFor.calls k _ _ t575 _ _ t578 _ _ t581 t584 _ _ t586 t589 _ ?side1 ?side2 ?side3 ?side4 ?side5 ?side6 ?side7 ?side8 A31.out).mono ?_); (case side1 => exact pc_ ((Kd.R_reads' HO577.out).2.2)); (case side2 => exact (Kd.R_reads' HO577.out).2.1); (case side3 => exact pc_ ((Kd.R_reads' HO580.out).2.2)); (case side4 => exact (Kd.R_reads' HO580.out).2.1); (case side5 => exact pc_ ((Kd.S_reads' HO583.out).2.2)); (case side6 => exact (Kd.S_reads' HO583.out).2.1); (case side7 => exact pc_ ((Kd.R_reads' HO588.out).2.2)); (case side8 => exact (Kd.R_reads' HO588.out).2.1); rintro e w35 ⟨rfl, hb⟩; refine ⟨_, rfl, ?_⟩; have n0_ := Aside0.mk (Kd.R_below (pr_ HO563.out) hb); have n1_ := Aside0.mk (Kd.R_below (pr_ HO566.out) hb); have n2_ := Aside0.mk (Kd.S_below (ps_ HO569.out) hb); have n3_ := Aside0.mk (Kd.R_below (pr_ HO573.out) hb); have n4_ := Aside0.mk (Kd.R_below (pr_ HO577.out) hb); have n5_ := Aside0.mk (Kd.R_below (pr_ HO580.out) hb); have n6_ := Aside0.mk (Kd.S_below (ps_ HO583.out) hb); have n7_ := Aside0.mk (Kd.R_below (pr_ HO588.out) hb); have n8_ := Aside0.mk (bb_ BK559.out hb); have n9_ := Aside0.mk (bb_ BK585.out hb); have n10_ := Aside0.mk (below_step (pb2_ HB.out GE559.out GE585.out) hb); clear HO563; clear HO566; clear HO569; clear HO573; clear HO577; clear HO580; clear HO583; clear HO588; clear BK559; clear BK585; clear HB; have HO563 := n0_; have HO566 := n1_; have HO569 := n2_; have HO573 := n3_; have HO577 := n4_; have HO580 := n5_; have HO583 := n6_; have HO588 := n7_; have BK559 := n8_; have BK585 := n9_; have HB := n10_; clear n0_ n1_ n2_ n3_ n4_ n5_ n6_ n7_ n8_ n9_ n10_; (try clear hb); (try clear hb2); (try clear hk); (try clear hi)))
  (try simp only [Act.put, List.setIfInBounds_toArray, List.set_cons_zero, List.set_cons_succ])
  have H := HS_.out
  clear HS_
  by_cases c36 : t589 = t574
  rotate_left
  · rw [if_neg c36] at H
    have c36b0 : (t589 == t574) = false := beq_eq_false_iff_ne.mpr c36
    have c36b1 : (t589 != t574) = true := bne_iff_ne.mpr c36
    (first | rw [c36b0] | (simp only [i64_w, i32_w]; rw [c36b0]) | rw [c36b1] | (have c_ := c36b1; rw [bne] at c_; rw [c_]; clear c_) | skip)
    obtain rfl := Option.some.inj H
    go_wp2
    go_ret
    exact ⟨er_, pb2_ HB.out GE559.out GE585.out⟩
  rw [if_pos c36] at H
  have c36b0 : (t589 == t574) = true := beq_iff_eq.mpr c36
  have c36b1 : (t589 != t574) = false := bne_eq_false_iff_eq.mpr c36
  clear c36
  (first | rw [c36b0] | (simp only [i64_w, i32_w]; rw [c36b0]) | rw [c36b1] | (have c_ := c36b1; rw [bne] at c_; rw [c_]; clear c_) | skip)
  replace H := Option.bind_eq_some_iff.mp H
  obtain ⟨⟨t590, t593, t596, t599⟩, A370, H⟩ := H
  (try dsimp only at H)
  have A37 := Aside0.mk A370
  clear A370
  replace H := Option.bind_eq_some_iff.mp H
  obtain ⟨t600, A380, H⟩ := H
  (try dsimp only at H)
  have A38 := Aside0.mk A380
  clear A380
  have HS_ := Aside0.mk H
  clear H
  try go_wp2
  have n0_ := Aside0.mk (Kd.R_drew HO563.out)
  have n1_ := Aside0.mk (Kd.R_drew HO566.out)
  have n2_ := Aside0.mk (Kd.S_drew HO569.out)
  have n3_ := Aside0.mk (Kd.R_drew HO573.out)
  have n4_ := Aside0.mk (Kd.R_drew HO577.out)
  have n5_ := Aside0.mk (Kd.R_drew HO580.out)
  have n6_ := Aside0.mk (Kd.S_drew HO583.out)
  have n7_ := Aside0.mk (Kd.R_drew HO588.out)
  have n8_ := Aside0.mk (blk_drew BK559.out)
  have n9_ := Aside0.mk (blk_drew BK585.out)
  have n10_ := Aside0.mk (below_drew1 HB.out)
  clear HO563
  clear HO566
  clear HO569
  clear HO573
  clear HO577
  clear HO580
  clear HO583
  clear HO588
  clear BK559
  clear BK585
  clear HB
  have HO563 := n0_
  have HO566 := n1_
  have HO569 := n2_
  have HO573 := n3_
  have HO577 := n4_
  have HO580 := n5_
  have HO583 := n6_
  have HO588 := n7_
  have BK559 := n8_
  have BK585 := n9_
  have HB := n10_
  clear n0_ n1_ n2_ n3_ n4_ n5_ n6_ n7_ n8_ n9_ n10_
  refine start_ (n := 5) (S := fun w' => w'.cell? ⟨gb585, 0, none⟩ = some (.slice Ao24 t575.length co24) ∧ w'.cell? ⟨gb585, 1, none⟩ = some (.slice Ao27 t578.length co27) ∧ w'.cell? ⟨gb585, 2, none⟩ = some (.slice Ao28 t581.length co28) ∧ w'.cell? ⟨gb585, 3, none⟩ = some (.int .i64 t584) ∧ w'.cell? ⟨gb559, 0, none⟩ = some (.slice A0_0 l0_0.length c0_0) ∧ w'.cell? ⟨gb559, 1, none⟩ = some (.slice A0_1 l0_1.length c0_1) ∧ w'.cell? ⟨gb559, 2, none⟩ = some (.slice A0_2 l0_2.length c0_2) ∧ w'.cell? ⟨gb559, 3, none⟩ = some (.int .i64 a0_3)) (ds := []) #[false, false, false, false, false] (by kernel_rfl) rfl rfl ⟨(blk_cell BK585.out 0).trans rfl, (blk_cell BK585.out 1).trans rfl, (blk_cell BK585.out 2).trans rfl, (blk_cell BK585.out 3).trans rfl, (blk_cell BK559.out 0).trans rfl, (blk_cell BK559.out 1).trans rfl, (blk_cell BK559.out 2).trans rfl, (blk_cell BK559.out 3).trans rfl⟩ (fun hHeld => ?_)
  generalize w35.drew = w39 at HO563 HO566 HO569 HO573 HO577 HO580 HO583 HO588 BK559 BK585 HB hHeld ⊢
  refine take_ (i := 0) (N := some 33) (v := ?_) (a' := ?_) #[true, false, false, false, false] rfl rfl (by kernel_rfl) (fun _ _ _ h => h) (Or.inl ⟨by rfl, ?_⟩) hHeld ?_ ?_
  rotate_left
  · rintro w' ⟨s0, s1, s2, s3, s4, s5, s6, s7⟩
    go_simp
    (try (simp only [Instr.field]; simp only [underlying, hu35, hu39]; go_simp; simp only [asAgg]; go_simp))
    with_reducible rfl
  rotate_left
  · simp only [Act.put, List.setIfInBounds_toArray, List.set_cons_zero, List.set_cons_succ, i64_w, i32_w]
    rfl
  refine take_ (i := 1) (N := some 34) (v := ?_) (a' := ?_) #[true, true, false, false, false] rfl rfl (by kernel_rfl) (fun _ _ _ h => h) (Or.inl ⟨by rfl, ?_⟩) hHeld ?_ ?_
  rotate_left
  · rintro w' ⟨s0, s1, s2, s3, s4, s5, s6, s7⟩
    go_simp
    (try (simp only [Instr.field]; simp only [underlying, hu35, hu39]; go_simp; simp only [asAgg]; go_simp))
    with_reducible rfl
  rotate_left
  · simp only [Act.put, List.setIfInBounds_toArray, List.set_cons_zero, List.set_cons_succ, i64_w, i32_w]
    rfl
  refine one_ (i := 2) (N := some 35) #[true, true, true, false, false] rfl rfl (by kernel_rfl) (by decide) (fun K hK => ?_)
  refine goes_ Try.func18 (by kernel_rfl) rfl #[.agg #[.slice A0_0 l0_0.length c0_0, .slice A0_1 l0_1.length c0_1, .slice A0_2 l0_2.length c0_2, .int .i64 a0_3]] (by rfl) rfl rfl mp_ ?_
  with_reducible refine (laws_toEndpoint.calls k _ _ l0_0 _ _ l0_1 _ _ l0_2 a0_3 t590 t593 t596 t599 _ ?side1 ?side2 ?side3 ?side4 ?side5 ?side6 A37.out).mono ?_
  (case side1 => exact pc_ (Kd.C_below HR0_0.out HB.out))
  (case side2 => exact HC0_0.out)
  (case side3 => exact pc_ (Kd.C_below HR0_1.out HB.out))
  (case side4 => exact HC0_1.out)
  (case side5 => exact pc_ (Kd.C_below HR0_2.out HB.out))
  (case side6 => exact HC0_2.out)
  rintro e w40 ⟨v591, v594, v597, rfl, ho0, ho1, ho2, hb⟩
  refine ⟨_, rfl, ?_⟩
  have n0_ := Aside0.mk (Kd.R_mono (Kd.R_told (Kd.R_told (Kd.R_old (pr_ HO563.out) hb) (Kd.R_base ho0)) (Kd.R_base ho1)) (fun _ h_ => h_.1))
  have n1_ := Aside0.mk (Kd.R_mono (Kd.R_told (Kd.R_told (Kd.R_old (pr_ HO566.out) hb) (Kd.R_base ho0)) (Kd.R_base ho1)) (fun _ h_ => h_.1))
  have n2_ := Aside0.mk (Kd.S_mono (Kd.S_told (Kd.S_told (Kd.S_told (Kd.S_old (ps_ HO569.out) hb) (Kd.R_base ho0)) (Kd.R_base ho1)) (Kd.S_base ho2)) (fun _ h_ => h_.1))
  have n3_ := Aside0.mk (Kd.R_mono (Kd.R_told (Kd.R_told (Kd.R_old (pr_ HO573.out) hb) (Kd.R_base ho0)) (Kd.R_base ho1)) (fun _ h_ => h_.1))
  have n4_ := Aside0.mk (Kd.R_mono (Kd.R_told (Kd.R_told (Kd.R_old (pr_ HO577.out) hb) (Kd.R_base ho0)) (Kd.R_base ho1)) (fun _ h_ => h_.1))
  have n5_ := Aside0.mk (Kd.R_mono (Kd.R_told (Kd.R_told (Kd.R_old (pr_ HO580.out) hb) (Kd.R_base ho0)) (Kd.R_base ho1)) (fun _ h_ => h_.1))
  have n6_ := Aside0.mk (Kd.S_mono (Kd.S_told (Kd.S_told (Kd.S_told (Kd.S_old (ps_ HO583.out) hb) (Kd.R_base ho0)) (Kd.R_base ho1)) (Kd.S_base ho2)) (fun _ h_ => h_.1))
  have n7_ := Aside0.mk (Kd.R_mono (Kd.R_told (Kd.R_told (Kd.R_old (pr_ HO588.out) hb) (Kd.R_base ho0)) (Kd.R_base ho1)) (fun _ h_ => h_.1))
  have n8_ := Aside0.mk (Kd.R_lower (Kd.R_new' (Kd.R_new' (Kd.R_new' (Kd.R_new' (Kd.R_new' (Kd.R_new' ho0 (Kd.R_lt (pr_ HO563.out))) (Kd.R_lt (pr_ HO566.out))) (Kd.R_lt (pr_ HO573.out))) (Kd.R_lt (pr_ HO577.out))) (Kd.R_lt (pr_ HO580.out))) (Kd.R_lt (pr_ HO588.out))) (below_size (pb2_ HB.out GE559.out GE585.out)))
  have n9_ := Aside0.mk (Kd.R_lower (Kd.R_new' (Kd.R_new' (Kd.R_new' (Kd.R_new' (Kd.R_new' (Kd.R_new' ho1 (Kd.R_lt (pr_ HO563.out))) (Kd.R_lt (pr_ HO566.out))) (Kd.R_lt (pr_ HO573.out))) (Kd.R_lt (pr_ HO577.out))) (Kd.R_lt (pr_ HO580.out))) (Kd.R_lt (pr_ HO588.out))) (below_size (pb2_ HB.out GE559.out GE585.out)))
  have n10_ := Aside0.mk (Kd.S_lower (Kd.S_new' (Kd.S_new' (Kd.S_new' (Kd.S_new' (Kd.S_new' (Kd.S_new' (Kd.S_new' (Kd.S_new' ho2 (Kd.R_lt (pr_ HO563.out))) (Kd.R_lt (pr_ HO566.out))) (Kd.S_lt (ps_ HO569.out))) (Kd.R_lt (pr_ HO573.out))) (Kd.R_lt (pr_ HO577.out))) (Kd.R_lt (pr_ HO580.out))) (Kd.S_lt (ps_ HO583.out))) (Kd.R_lt (pr_ HO588.out))) (below_size (pb2_ HB.out GE559.out GE585.out)))
  have n11_ := Aside0.mk (bb_ BK559.out hb)
  have n12_ := Aside0.mk (bb_ BK585.out hb)
  have n13_ := Aside0.mk (below_step (pb2_ HB.out GE559.out GE585.out) hb)
  clear HO563
  clear HO566
  clear HO569
  clear HO573
  clear HO577
  clear HO580
  clear HO583
  clear HO588
  clear BK559
  clear BK585
  clear HB
  have HO563 := n0_
  have HO566 := n1_
  have HO569 := n2_
  have HO573 := n3_
  have HO577 := n4_
  have HO580 := n5_
  have HO583 := n6_
  have HO588 := n7_
  have HO592 := n8_
  have HO595 := n9_
  have HO598 := n10_
  have BK559 := n11_
  have BK585 := n12_
  have HB := n13_
  clear n0_ n1_ n2_ n3_ n4_ n5_ n6_ n7_ n8_ n9_ n10_ n11_ n12_ n13_
  (try clear hb)
  (try clear hb2)
  (try clear hk)
  (try clear hi)
  (try clear ho0)
  (try clear ho1)
  (try clear ho2)
  obtain ⟨Ao41, co41, eo41⟩ := Kd.R_slice HO592.out
  (first | subst eo41 | (injection eo41 with f1_ f2_ f3_; have f4_ := f1_.symm; have f5_ := f3_.symm; clear f1_ f2_ f3_; subst f4_; subst f5_))
  obtain ⟨Ao42, co42, eo42⟩ := Kd.R_slice HO595.out
  (first | subst eo42 | (injection eo42 with f1_ f2_ f3_; have f4_ := f1_.symm; have f5_ := f3_.symm; clear f1_ f2_ f3_; subst f4_; subst f5_))
  obtain ⟨Ao43, co43, eo43⟩ := Kd.S_slice HO598.out
  (first | subst eo43 | (injection eo43 with f1_ f2_ f3_; have f4_ := f1_.symm; have f5_ := f3_.symm; clear f1_ f2_ f3_; subst f4_; subst f5_))
  refine hK.out _ _ ⟨(blk_cell BK585.out 0).trans rfl, (blk_cell BK585.out 1).trans rfl, (blk_cell BK585.out 2).trans rfl, (blk_cell BK585.out 3).trans rfl, (blk_cell BK559.out 0).trans rfl, (blk_cell BK559.out 1).trans rfl, (blk_cell BK559.out 2).trans rfl, (blk_cell BK559.out 3).trans rfl⟩ (fun hHeld => ?_)
  clear hK K
  refine no_ (some 35) ?_
  refine one_ (i := 3) (N := some 36) #[true, true, true, true, false] rfl rfl (by kernel_rfl) (by decide) (fun K hK => ?_)
  refine goes_ Try.func20 (by kernel_rfl) rfl #[.agg #[.slice Ao24 t575.length co24, .slice Ao27 t578.length co27, .slice Ao28 t581.length co28, .int .i64 t584], .agg #[.slice Ao41 t590.length co41, .slice Ao42 t593.length co42, .slice Ao43 t596.length co43, .int .i64 t599]] (by rfl) rfl rfl mp_ ?_
  with_reducible refine (laws_eqEndpoint.calls k _ _ t575 _ _ t578 _ _ t581 t584 _ _ t590 _ _ t593 _ _ t596 t599 t600 _ ?side1 ?side2 ?side3 ?side4 ?side5 ?side6 ?side7 ?side8 ?side9 ?side10 ?side11 ?side12 A38.out).mono ?_
  (case side1 => exact pc_ ((Kd.R_reads' HO577.out).2.2))
  (case side2 => exact (Kd.R_reads' HO577.out).2.1)
  (case side3 => exact pc_ ((Kd.R_reads' HO580.out).2.2))
  (case side4 => exact (Kd.R_reads' HO580.out).2.1)
  (case side5 => exact pc_ ((Kd.S_reads' HO583.out).2.2))
  (case side6 => exact (Kd.S_reads' HO583.out).2.1)
  (case side7 => exact pc_ ((Kd.R_reads' HO592.out).2.2))
  (case side8 => exact (Kd.R_reads' HO592.out).2.1)
  (case side9 => exact pc_ ((Kd.R_reads' HO595.out).2.2))
  (case side10 => exact (Kd.R_reads' HO595.out).2.1)
  (case side11 => exact pc_ ((Kd.S_reads' HO598.out).2.2))
  (case side12 => exact (Kd.S_reads' HO598.out).2.1)
  rintro e w44 ⟨rfl, hb⟩
  refine ⟨_, rfl, ?_⟩
  have n0_ := Aside0.mk (Kd.R_below (pr_ HO563.out) hb)
  have n1_ := Aside0.mk (Kd.R_below (pr_ HO566.out) hb)
  have n2_ := Aside0.mk (Kd.S_below (ps_ HO569.out) hb)
  have n3_ := Aside0.mk (Kd.R_below (pr_ HO573.out) hb)
  have n4_ := Aside0.mk (Kd.R_below (pr_ HO577.out) hb)
  have n5_ := Aside0.mk (Kd.R_below (pr_ HO580.out) hb)
  have n6_ := Aside0.mk (Kd.S_below (ps_ HO583.out) hb)
  have n7_ := Aside0.mk (Kd.R_below (pr_ HO588.out) hb)
  have n8_ := Aside0.mk (Kd.R_below (pr_ HO592.out) hb)
  have n9_ := Aside0.mk (Kd.R_below (pr_ HO595.out) hb)
  have n10_ := Aside0.mk (Kd.S_below (ps_ HO598.out) hb)
  have n11_ := Aside0.mk (bb_ BK559.out hb)
  have n12_ := Aside0.mk (bb_ BK585.out hb)
  have n13_ := Aside0.mk (below_step (pb2_ HB.out GE559.out GE585.out) hb)
  clear HO563
  clear HO566
  clear HO569
  clear HO573
  clear HO577
  clear HO580
  clear HO583
  clear HO588
  clear HO592
  clear HO595
  clear HO598
  clear BK559
  clear BK585
  clear HB
  have HO563 := n0_
  have HO566 := n1_
  have HO569 := n2_
  have HO573 := n3_
  have HO577 := n4_
  have HO580 := n5_
  have HO583 := n6_
  have HO588 := n7_
  have HO592 := n8_
  have HO595 := n9_
  have HO598 := n10_
  have BK559 := n11_
  have BK585 := n12_
  have HB := n13_
  clear n0_ n1_ n2_ n3_ n4_ n5_ n6_ n7_ n8_ n9_ n10_ n11_ n12_ n13_
  (try clear hb)
  (try clear hb2)
  (try clear hk)
  (try clear hi)
  refine hK.out _ _ ⟨(blk_cell BK585.out 0).trans rfl, (blk_cell BK585.out 1).trans rfl, (blk_cell BK585.out 2).trans rfl, (blk_cell BK585.out 3).trans rfl, (blk_cell BK559.out 0).trans rfl, (blk_cell BK559.out 1).trans rfl, (blk_cell BK559.out 2).trans rfl, (blk_cell BK559.out 3).trans rfl⟩ (fun hHeld => ?_)
  clear hK K
  refine no_ (some 36) ?_
  refine pure_ (i := 4) (N := some 37) (v := ?_) (a' := ?_) #[true, true, true, true, true] rfl rfl (by kernel_rfl) (fun _ _ _ h => h) (Or.inl ⟨by rfl, ?_⟩) ?_ ?_
  rotate_left
  · intro w'
    go_simp
    (try (simp only [Instr.field]; simp only [underlying, hu35, hu39]; go_simp; simp only [asAgg]; go_simp))
    with_reducible rfl
  rotate_left
  · simp only [Act.put, List.setIfInBounds_toArray, List.set_cons_zero, List.set_cons_succ, i64_w, i32_w]
    rfl
  refine done_ (by kernel_rfl) ?_
  go_upto_if 37 with (fail)
  have H := HS_.out
  clear HS_
  by_cases c45 : t600 = true
  rotate_left
  · replace c45 := Bool.eq_false_iff.mpr c45
    subst c45
    rw [if_neg (show ¬ (false = true) by decide)] at H
    obtain rfl := Option.some.inj H
    go_wp2
    go_ret
    exact ⟨er_, pb2_ HB.out GE559.out GE585.out⟩
  subst c45
  rw [if_pos rfl] at H
  replace H := Option.bind_eq_some_iff.mp H
  obtain ⟨t601, A460, H⟩ := H
  (try dsimp only at H)
  have A46 := Aside0.mk A460
  clear A460
  replace H := Option.bind_eq_some_iff.mp H
  obtain ⟨t604, A470, H⟩ := H
  replace H : (if t604 = true then (some true) else (some false)) = some r := H
  have A47 := Aside0.mk A470
  clear A470
  have HS_ := Aside0.mk H
  clear H
  go_upto_if 42 with (first | ((with_reducible refine gate_callee (f := 10) rfl ?_); refine goesL_ (some 40) rfl rfl Try.func10 (by kernel_rfl) rfl #[.slice A1 l1.length c1] rfl mp_ ?_; (with_reducible refine (laws_toIntS.calls k _ _ l1 t601 _ ?side1 ?side2 A46.out).mono ?_); (case side1 => exact pc_ (Kd.C_below HR1.out HB.out)); (case side2 => exact HC1.out); rintro e w48 ⟨v602, rfl, ho0, hb⟩; refine ⟨_, rfl, ?_⟩; have n0_ := Aside0.mk (Kd.R_elder' (pr_ HO563.out) (Kd.R_base ho0) hb); have n1_ := Aside0.mk (Kd.R_elder' (pr_ HO566.out) (Kd.R_base ho0) hb); have n2_ := Aside0.mk (Kd.S_elder' (ps_ HO569.out) (Kd.R_base ho0) hb); have n3_ := Aside0.mk (Kd.R_elder' (pr_ HO573.out) (Kd.R_base ho0) hb); have n4_ := Aside0.mk (Kd.R_elder' (pr_ HO577.out) (Kd.R_base ho0) hb); have n5_ := Aside0.mk (Kd.R_elder' (pr_ HO580.out) (Kd.R_base ho0) hb); have n6_ := Aside0.mk (Kd.S_elder' (ps_ HO583.out) (Kd.R_base ho0) hb); have n7_ := Aside0.mk (Kd.R_elder' (pr_ HO588.out) (Kd.R_base ho0) hb); have n8_ := Aside0.mk (Kd.R_elder' (pr_ HO592.out) (Kd.R_base ho0) hb); have n9_ := Aside0.mk (Kd.R_elder' (pr_ HO595.out) (Kd.R_base ho0) hb); have n10_ := Aside0.mk (Kd.S_elder' (ps_ HO598.out) (Kd.R_base ho0) hb); have n11_ := Aside0.mk (Kd.R_lower (Kd.R_new' (Kd.R_new' (Kd.R_new' (Kd.R_new' (Kd.R_new' (Kd.R_new' (Kd.R_new' (Kd.R_new' ho0 (Kd.R_lt (pr_ HO563.out))) (Kd.R_lt (pr_ HO566.out))) (Kd.R_lt (pr_ HO573.out))) (Kd.R_lt (pr_ HO577.out))) (Kd.R_lt (pr_ HO580.out))) (Kd.R_lt (pr_ HO588.out))) (Kd.R_lt (pr_ HO592.out))) (Kd.R_lt (pr_ HO595.out))) (below_size (pb2_ HB.out GE559.out GE585.out))); have n12_ := Aside0.mk (bb_ BK559.out hb); have n13_ := Aside0.mk (bb_ BK585.out hb); have n14_ := Aside0.mk (below_step (pb2_ HB.out GE559.out GE585.out) hb); clear HO563; clear HO566; clear HO569; clear HO573; clear HO577; clear HO580; clear HO583; clear HO588; clear HO592; clear HO595; clear HO598; clear BK559; clear BK585; clear HB; have HO563 := n0_; have HO566 := n1_; have HO569 := n2_; have HO573 := n3_; have HO577 := n4_; have HO580 := n5_; have HO583 := n6_; have HO588 := n7_; have HO592 := n8_; have HO595 := n9_; have HO598 := n10_; have HO603 := n11_; have BK559 := n12_; have BK585 := n13_; have HB := n14_; clear n0_ n1_ n2_ n3_ n4_ n5_ n6_ n7_ n8_ n9_ n10_ n11_ n12_ n13_ n14_; (try clear hb); (try clear hb2); (try clear hk); (try clear hi); (try clear ho0); obtain ⟨Ao49, co49, eo49⟩ := Kd.R_slice HO603.out; subst eo49) | ((with_reducible refine gate_callee (f := 13) rfl ?_); refine goesL_ (some 41) rfl rfl Try.func13 (by kernel_rfl) rfl #[.slice Ao34 t586.length co34, .slice Ao49 t601.length co49] rfl mp_ ?_; (with_reducible refine (laws_eqIntS.calls k _ _ t586 _ _ t601 t604 _ ?side1 ?side2 ?side3 ?side4 A47.out).mono ?_); (case side1 => exact pc_ ((Kd.R_reads' HO588.out).2.2)); (case side2 => exact (Kd.R_reads' HO588.out).2.1); (case side3 => exact pc_ ((Kd.R_reads' HO603.out).2.2)); (case side4 => exact (Kd.R_reads' HO603.out).2.1); rintro e w' ⟨rfl, ⟨nd, rfl⟩⟩; refine ⟨_, rfl, ?_⟩))
  (try simp only [Act.put, List.setIfInBounds_toArray, List.set_cons_zero, List.set_cons_succ])
  have H := HS_.out
  clear HS_
  by_cases c50 : t604 = true
  rotate_left
  · replace c50 := Bool.eq_false_iff.mpr c50
    subst c50
    rw [if_neg (show ¬ (false = true) by decide)] at H
    obtain rfl := Option.some.inj H
    go_wp2
    go_ret
    exact ⟨er_, pb2_ HB.out GE559.out GE585.out⟩
  subst c50
  rw [if_pos rfl] at H
  obtain rfl := Option.some.inj H
  go_wp2
  go_ret
  exact ⟨er_, pb2_ HB.out GE559.out GE585.out⟩

/-- THE ONE PURE STATEMENT of laws_FnExactBestFor: yours. -/
def laws_FnExactBestFor.Pure : Prop := ∀ (x0 : S35) (x1 : List Int), Q35 x0 → (x1.length * 8 ≤ 140737488351232 ∧ ∀ y ∈ x1, (Lit.int .i64 y).wf = true) → ∃ k, laws_FnExactBestFor.f k x0.f0 x0.f1 x0.f2 x0.f3 x1 = some true

end Go.Proofs.Ytpoandlbmaljhaa.Print
