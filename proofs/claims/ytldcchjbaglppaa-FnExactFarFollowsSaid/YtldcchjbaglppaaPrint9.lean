-- Written by a program of this session (printx.py) out of the translation; Lean checks it.
import Derived.Test.YtldcchjbaglppaaPrint0
import Derived.Test.YtldcchjbaglppaaPrint6
import Derived.Test.YtldcchjbaglppaaPrint8
namespace Go.Proofs.Ytldcchjbaglppaa.Print
open Go.RowKit Go.Proofs.YtldcchjbaglppaaW.PrintWords Go.Proofs.YtldcchjbaglppaaW.PrintLast Go.Proofs.YtldcchjbaglppaaW.PrintMore Go.Proofs.Ytldcchjbaglppaa.Short
attribute [local go_sem] max2_int min2_int max_two min_two max_three min_three max_four min_four   -- for this text's walks alone
set_option linter.unusedVariables false
set_option linter.unusedSimpArgs false

/-! ### impl_FollowsAt: function 65 -/
mutual
def impl_FollowsAt.j0 : Nat → Int → Int → List Int → List Int → List Int → List Int → Bool → Int → List Bool → List (S78) → Int → List Bool → List (S78) → Option (Bool)
  | 0, _, _, _, _, _, _, _, _, _, _, _, _, _ => none
  | k + 1, x2, x3, x9, x10, x11, x12, x25, x255000, x255001, x255002, x256000, x256001, x256002 => if x25 = true then (some false) else (if (x11.length : Int) > 0 then (if (x9.length : Int) > 0 then (if (x12.length : Int) = 0 then (impl_FollowsAt.j1 k x2 x3 (decide ((x10.length : Int) > 0)) x255000 x255001 x255002 x256000 x256001 x256002) else (impl_FollowsAt.j1 k x2 x3 false x255000 x255001 x255002 x256000 x256001 x256002)) else (impl_FollowsAt.j1 k x2 x3 true x255000 x255001 x255002 x256000 x256001 x256002)) else (if (x9.length : Int) > 0 then (impl_FollowsAt.j1 k x2 x3 true x255000 x255001 x255002 x256000 x256001 x256002) else (if (x12.length : Int) = 0 then (impl_FollowsAt.j1 k x2 x3 (decide ((x10.length : Int) > 0)) x255000 x255001 x255002 x256000 x256001 x256002) else (impl_FollowsAt.j1 k x2 x3 false x255000 x255001 x255002 x256000 x256001 x256002))))
def impl_FollowsAt.j1 : Nat → Int → Int → Bool → Int → List Bool → List (S78) → Int → List Bool → List (S78) → Option (Bool)
  | 0, _, _, _, _, _, _, _, _, _ => none
  | k + 1, x2, x3, x38, x255000, x255001, x255002, x256000, x256001, x256002 => if x38 = true then (some false) else ((impl_isEnd.f x255000 x255001 x255002 x2).bind fun t274 => (if t274 = true then (some true) else ((impl_isEnd.f x256000 x256001 x256002 x3).bind fun t275 => (some (!t275)))))
end
def impl_FollowsAt.f (k : Nat) (a0_0 : Int) (l0_1 : List Bool) (l0_2 : List (S78)) (a1_0 : Int) (l1_1 : List Bool) (l1_2 : List (S78)) (a2 : Int) (a3 : Int) : Option (Bool) := (impl_MovesFrom.f k a0_0 l0_1 l0_2 a2 true).bind fun t256 => ((impl_MovesFrom.f k a0_0 l0_1 l0_2 a2 false).bind fun t259 => ((impl_MovesFrom.f k a1_0 l1_1 l1_2 a3 true).bind fun t262 => ((impl_MovesFrom.f k a1_0 l1_1 l1_2 a3 false).bind fun t265 => ((impl_without.f k t265 t259).bind fun t268 => (if (t268.length : Int) > 0 then (impl_FollowsAt.j0 k a2 a3 t256 t259 t262 t265 true a0_0 l0_1 l0_2 a1_0 l1_1 l1_2) else ((impl_without.f k t256 t262).bind fun t271 => (impl_FollowsAt.j0 k a2 a3 t256 t259 t262 t265 (decide ((t271.length : Int) > 0)) a0_0 l0_1 l0_2 a1_0 l1_1 l1_2)))))))
theorem impl_FollowsAt.mono_l : ∀ k, (∀ y0 y1 y2 y3 y4 y5 y6 y7 y8 y9 y10 y11 y12, LeO (impl_FollowsAt.j0 k y0 y1 y2 y3 y4 y5 y6 y7 y8 y9 y10 y11 y12) (impl_FollowsAt.j0 (k + 1) y0 y1 y2 y3 y4 y5 y6 y7 y8 y9 y10 y11 y12)) ∧ (∀ y0 y1 y2 y3 y4 y5 y6 y7 y8, LeO (impl_FollowsAt.j1 k y0 y1 y2 y3 y4 y5 y6 y7 y8) (impl_FollowsAt.j1 (k + 1) y0 y1 y2 y3 y4 y5 y6 y7 y8))
  | 0 => ⟨fun _ _ _ _ _ _ _ _ _ _ _ _ _ r h => by simp [impl_FollowsAt.j0] at h, fun _ _ _ _ _ _ _ _ _ r h => by simp [impl_FollowsAt.j1] at h⟩
  | k + 1 => by
    obtain ⟨ih0, ih1⟩ := impl_FollowsAt.mono_l k
    refine ⟨?_, ?_⟩
    · intro y0 y1 y2 y3 y4 y5 y6 y7 y8 y9 y10 y11 y12
      unfold impl_FollowsAt.j0
      repeat' first
      | (with_reducible exact ih0 _ _ _ _ _ _ _ _ _ _ _ _ _)
      | (with_reducible exact ih1 _ _ _ _ _ _ _ _ _)
      | (with_reducible exact impl_MovesFrom.mono _ _ _ _ _ _)
      | (with_reducible exact impl_without.mono _ _ _)
      | (with_reducible exact LeO.refl _)
      | (with_reducible exact LeO.none _)
      | (with_reducible refine LeO.ite ?_ ?_)
      | (with_reducible refine LeO.bind ?_ (fun _ => ?_))
      | exact ih0 _ _ _ _ _ _ _ _ _ _ _ _ _
      | exact ih1 _ _ _ _ _ _ _ _ _
      | exact impl_MovesFrom.mono _ _ _ _ _ _
      | exact impl_without.mono _ _ _
      | exact LeO.none _
      | refine LeO.ite ?_ ?_
      | refine LeO.bind ?_ (fun _ => ?_)
    · intro y0 y1 y2 y3 y4 y5 y6 y7 y8
      unfold impl_FollowsAt.j1
      repeat' first
      | (with_reducible exact ih0 _ _ _ _ _ _ _ _ _ _ _ _ _)
      | (with_reducible exact ih1 _ _ _ _ _ _ _ _ _)
      | (with_reducible exact impl_MovesFrom.mono _ _ _ _ _ _)
      | (with_reducible exact impl_without.mono _ _ _)
      | (with_reducible exact LeO.refl _)
      | (with_reducible exact LeO.none _)
      | (with_reducible refine LeO.ite ?_ ?_)
      | (with_reducible refine LeO.bind ?_ (fun _ => ?_))
      | exact ih0 _ _ _ _ _ _ _ _ _ _ _ _ _
      | exact ih1 _ _ _ _ _ _ _ _ _
      | exact impl_MovesFrom.mono _ _ _ _ _ _
      | exact impl_without.mono _ _ _
      | exact LeO.none _
      | refine LeO.ite ?_ ?_
      | refine LeO.bind ?_ (fun _ => ?_)
theorem impl_FollowsAt.mono : ∀ a0 a1 a2 a3 a4 a5 a6 a7 k, LeO (impl_FollowsAt.f k a0 a1 a2 a3 a4 a5 a6 a7) (impl_FollowsAt.f (k + 1) a0 a1 a2 a3 a4 a5 a6 a7) := by
  intro a0 a1 a2 a3 a4 a5 a6 a7 k
  obtain ⟨ih0, ih1⟩ := impl_FollowsAt.mono_l k
  unfold impl_FollowsAt.f
  repeat' first
      | (with_reducible exact ih0 _ _ _ _ _ _ _ _ _ _ _ _ _)
      | (with_reducible exact ih1 _ _ _ _ _ _ _ _ _)
      | (with_reducible exact impl_MovesFrom.mono _ _ _ _ _ _)
      | (with_reducible exact impl_without.mono _ _ _)
      | (with_reducible exact LeO.refl _)
      | (with_reducible exact LeO.none _)
      | (with_reducible refine LeO.ite ?_ ?_)
      | (with_reducible refine LeO.bind ?_ (fun _ => ?_))
      | exact ih0 _ _ _ _ _ _ _ _ _ _ _ _ _
      | exact ih1 _ _ _ _ _ _ _ _ _
      | exact impl_MovesFrom.mono _ _ _ _ _ _
      | exact impl_without.mono _ _ _
      | exact LeO.none _
      | refine LeO.ite ?_ ?_
      | refine LeO.bind ?_ (fun _ => ?_)
def impl_FollowsAt.T1 : Bool × List (List Nat × List Nat) := (true, [([], []), ([], []), ([0, 1], [0, 1]), ([], []), ([], []), ([3, 4, 2], [3, 4]), ([2, 5, 0, 1, 2], [2]), ([5, 6, 0, 1, 2, 3, 4, 5, 6], [5])])
def impl_FollowsAt.B1 : List Nat := [0, 0, 3, 0, 0, 31, 63, 127]
theorem impl_FollowsAt.tab1 : rtab .any (opsOf Try.f65 1) = impl_FollowsAt.T1 := by kernel_rfl
theorem impl_FollowsAt.bits1 : waitsOk impl_FollowsAt.T1.2 impl_FollowsAt.B1 = true := by kernel_rfl
def impl_FollowsAt.T2 : Bool × List (List Nat × List Nat) := (true, [([], []), ([], []), ([0, 1], [0, 1]), ([], []), ([], []), ([3, 4, 2], [3, 4]), ([2, 5, 0, 1, 2], [2]), ([5, 6, 0, 1, 2, 3, 4, 5, 6], [5])])
def impl_FollowsAt.B2 : List Nat := [0, 0, 3, 0, 0, 31, 63, 127]
theorem impl_FollowsAt.tab2 : rtab .any (opsOf Try.f65 2) = impl_FollowsAt.T2 := by kernel_rfl
theorem impl_FollowsAt.bits2 : waitsOk impl_FollowsAt.T2.2 impl_FollowsAt.B2 = true := by kernel_rfl
set_option maxHeartbeats 8000000 in
set_option maxRecDepth 100000 in
theorem impl_FollowsAt.calls (k : Nat) (a0_0 : Int) (A0_1 : Option Addr) (c0_1 : Nat) (l0_1 : List Bool) (A0_2 : Option Addr) (c0_2 : Nat) (l0_2 : List (S78)) (a1_0 : Int) (A1_1 : Option Addr) (c1_1 : Nat) (l1_1 : List Bool) (A1_2 : Option Addr) (c1_2 : Nat) (l1_2 : List (S78)) (a2 : Int) (a3 : Int) (r : Bool) (w : World) (hr0_1 : Kd.C Kd.bool w A0_1 l0_1.length l0_1) (hc0_1 : l0_1.length ≤ c0_1) (hr0_2 : Kd.C k78 w A0_2 l0_2.length l0_2) (hc0_2 : l0_2.length ≤ c0_2) (hr1_1 : Kd.C Kd.bool w A1_1 l1_1.length l1_1) (hc1_1 : l1_1.length ≤ c1_1) (hr1_2 : Kd.C k78 w A1_2 l1_2.length l1_2) (hc1_2 : l1_2.length ≤ c1_2) (h : impl_FollowsAt.f k a0_0 l0_1 l0_2 a1_0 l1_1 l1_2 a2 a3 = some r) :
    Calls Try.prog 65 #[.agg #[.int .i64 a0_0, .slice A0_1 l0_1.length c0_1, .slice A0_2 l0_2.length c0_2], .agg #[.int .i64 a1_0, .slice A1_1 l1_1.length c1_1, .slice A1_2 l1_2.length c1_2], .int .i64 a2, .int .i64 a3] w fun e w' => e = .returned (.bool r) ∧ Below w.heap.size w w' := by
  have hu34 := Try.underlying34
  have HR0_1 := Aside0.mk hr0_1
  have HC0_1 := Aside0.mk hc0_1
  clear hr0_1 hc0_1
  have HR0_2 := Aside0.mk hr0_2
  have HC0_2 := Aside0.mk hc0_2
  clear hr0_2 hc0_2
  have HR1_1 := Aside0.mk hr1_1
  have HC1_1 := Aside0.mk hc1_1
  clear hr1_1 hc1_1
  have HR1_2 := Aside0.mk hr1_2
  have HC1_2 := Aside0.mk hc1_2
  clear hr1_2 hc1_2
  have HB := Aside0.mk (Below.refl w.heap.size w)
  have H : ((impl_MovesFrom.f k a0_0 l0_1 l0_2 a2 true).bind fun t256 => ((impl_MovesFrom.f k a0_0 l0_1 l0_2 a2 false).bind fun t259 => ((impl_MovesFrom.f k a1_0 l1_1 l1_2 a3 true).bind fun t262 => ((impl_MovesFrom.f k a1_0 l1_1 l1_2 a3 false).bind fun t265 => ((impl_without.f k t265 t259).bind fun t268 => (if (t268.length : Int) > 0 then (impl_FollowsAt.j0 k a2 a3 t256 t259 t262 t265 true a0_0 l0_1 l0_2 a1_0 l1_1 l1_2) else ((impl_without.f k t256 t262).bind fun t271 => (impl_FollowsAt.j0 k a2 a3 t256 t259 t262 t265 (decide ((t271.length : Int) > 0)) a0_0 l0_1 l0_2 a1_0 l1_1 l1_2)))))))) = some r := h
  clear h
  replace H := Option.bind_eq_some_iff.mp H
  obtain ⟨t256, A50, H⟩ := H
  (try dsimp only at H)
  have A5 := Aside0.mk A50
  clear A50
  replace H := Option.bind_eq_some_iff.mp H
  obtain ⟨t259, A60, H⟩ := H
  (try dsimp only at H)
  have A6 := Aside0.mk A60
  clear A60
  replace H := Option.bind_eq_some_iff.mp H
  obtain ⟨t262, A70, H⟩ := H
  (try dsimp only at H)
  have A7 := Aside0.mk A70
  clear A70
  replace H := Option.bind_eq_some_iff.mp H
  obtain ⟨t265, A80, H⟩ := H
  (try dsimp only at H)
  have A8 := Aside0.mk A80
  clear A80
  have HC9 := Aside0.mk H
  clear H
  go_enter Try.func65, Try.ntmps65
  try go_wp2_with (first | ((with_reducible refine gate_dst (N := 4) rfl ?_); (try (refine gate_guard (by rfl) ?_; dsimp only)); refine box_event ?hg (N := 4) ?hd (cs := #[.int .i64 a0_0, .slice A0_1 l0_1.length c0_1, .slice A0_2 l0_2.length c0_2]) (t := 34) ?hr ?_; (case hd => rfl); (case hg => rfl); (case hr => first | (go_simp; done) | (go_simp; rfl)); intro gb254 hg w10 hbox hb; have n0_ := Aside0.mk (below_step (pb_ HB.out) hb); have n1_ := Aside0.mk (hbox); have n2_ := Aside0.mk ((by rw [hg]; exact (below_size (pb_ HB.out)) : w.heap.size ≤ gb254)); have n3_ := Aside0.mk ((by rw [hg]; exact (below_size (pb_ HB.out)) : w.heap.size ≤ gb254)); clear HB; have HB := n0_; have BK254 := n1_; have GW254 := n2_; have GE254 := n3_; clear n0_ n1_ n2_ n3_; clear hb hbox hg) | ((with_reducible refine gate_dst (N := 5) rfl ?_); (try (refine gate_guard (by rfl) ?_; dsimp only)); refine box_event ?hg (N := 5) ?hd (cs := #[.int .i64 a1_0, .slice A1_1 l1_1.length c1_1, .slice A1_2 l1_2.length c1_2]) (t := 34) ?hr ?_; (case hd => rfl); (case hg => rfl); (case hr => first | (go_simp; done) | (go_simp; rfl)); intro gb255 hg w11 hbox hb; have n0_ := Aside0.mk (bb_ BK254.out hb); have n1_ := Aside0.mk (below_step (pb1_ HB.out GE254.out) hb); have n2_ := Aside0.mk (hbox); have n3_ := Aside0.mk ((by rw [hg]; exact (below_size (pb1_ HB.out GE254.out)) : w.heap.size ≤ gb255)); have n4_ := Aside0.mk ((by rw [hg]; exact (below_size (pb1_ HB.out GE254.out)) : w.heap.size ≤ gb255)); have n5_ := Aside0.mk ((by rw [hg]; exact Nat.ne_of_lt (blk_lt (pk_ BK254.out)) : gb254 ≠ gb255)); have n6_ := Aside0.mk ((by rw [hg]; exact Nat.ne_of_gt (blk_lt (pk_ BK254.out)) : gb255 ≠ gb254)); clear BK254; clear HB; have BK254 := n0_; have HB := n1_; have BK255 := n2_; have GW255 := n3_; have GE255 := n4_; have NB254_255 := n5_; have NB255_254 := n6_; clear n0_ n1_ n2_ n3_ n4_ n5_ n6_; clear hb hbox hg))
  have _ := Aside0.mk (blk_drew BK254.out)
  have _ := Aside0.mk (blk_drew BK255.out)
  have _ := Aside0.mk (below_drew1 HB.out)
  clear BK254 BK255 HB
  rename_i BK254 BK255 HB
  refine start_ (n := 8) (S := fun w' => w'.cell? ⟨gb254, 0, none⟩ = some (.int .i64 a0_0) ∧ w'.cell? ⟨gb254, 1, none⟩ = some (.slice A0_1 l0_1.length c0_1) ∧ w'.cell? ⟨gb254, 2, none⟩ = some (.slice A0_2 l0_2.length c0_2)) (ds := []) (tf_ 0 8) (by kernel_rfl) rfl rfl (sb_ BK254.out) (fun hHeld => ?_); refine with_tabW impl_FollowsAt.tab1 impl_FollowsAt.bits1 (fun HT_ HW_ => ?_)
  generalize w11.drew = w12 at BK254 BK255 HB hHeld ⊢
  refine pu_ 1 (some 14) (tm_ 8 2) HT_ ?_
  refine pu_ 4 (some 17) (tm_ 8 18) HT_ ?_
  refine ta_ 0 (some 13) (tm_ 8 19) HT_ HW_ hHeld ?_
  refine ta_ 3 (some 16) (tm_ 8 27) HT_ HW_ hHeld ?_
  refine on_ 2 (some 15) (tf_ 5 8) HT_ (fun K hK => ?_)
  refine goes_ Try.func81 (by kernel_rfl) rfl #[.agg #[.int .i64 a0_0, .slice A0_1 l0_1.length c0_1, .slice A0_2 l0_2.length c0_2], .int .i64 a2, .bool true] (by rfl) rfl rfl mp_ ?_
  with_reducible refine (impl_MovesFrom.calls k a0_0 _ _ l0_1 _ _ l0_2 a2 true t256 _ ?side1 ?side2 ?side3 ?side4 A5.out).mono ?_
  (case side1 => exact cb_ HR0_1 HB)
  (case side2 => exact HC0_1.out)
  (case side3 => exact cb_ HR0_2 HB)
  (case side4 => exact HC0_2.out)
  rintro e w13 ⟨v257, rfl, ho0, hb⟩
  refine ⟨_, rfl, ?_⟩
  have _ := Aside0.mk (Kd.R_lower ho0 (below_size (pb2_ HB.out GE254.out GE255.out)))
  have _ := Aside0.mk (bb_ BK254.out hb)
  have _ := Aside0.mk (bb_ BK255.out hb)
  have _ := Aside0.mk (below_step (pb2_ HB.out GE254.out GE255.out) hb)
  clear BK254 BK255 HB
  rename_i HO258 BK254 BK255 HB
  (try clear hb)
  (try clear hb2)
  (try clear hk)
  (try clear hi)
  (try clear ho0)
  refine hK.out _ _ (sb_ BK254.out) (fun hHeld => ?_)
  clear hK K
  refine no_ (some 15) ?_
  refine on_ 5 (some 18) (tf_ 6 8) HT_ (fun K hK => ?_)
  refine goes_ Try.func81 (by kernel_rfl) rfl #[.agg #[.int .i64 a0_0, .slice A0_1 l0_1.length c0_1, .slice A0_2 l0_2.length c0_2], .int .i64 a2, .bool false] (by rfl) rfl rfl mp_ ?_
  with_reducible refine (impl_MovesFrom.calls k a0_0 _ _ l0_1 _ _ l0_2 a2 false t259 _ ?side1 ?side2 ?side3 ?side4 A6.out).mono ?_
  (case side1 => exact cb_ HR0_1 HB)
  (case side2 => exact HC0_1.out)
  (case side3 => exact cb_ HR0_2 HB)
  (case side4 => exact HC0_2.out)
  rintro e w14 ⟨v260, rfl, ho0, hb⟩
  refine ⟨_, rfl, ?_⟩
  have _ := Aside0.mk (Kd.R_elder' (pr_ HO258.out) (Kd.R_base ho0) hb)
  have _ := Aside0.mk (Kd.R_lower (Kd.R_new' ho0 (Kd.R_lt (pr_ HO258.out))) (below_size (pb2_ HB.out GE254.out GE255.out)))
  have _ := Aside0.mk (bb_ BK254.out hb)
  have _ := Aside0.mk (bb_ BK255.out hb)
  have _ := Aside0.mk (below_step (pb2_ HB.out GE254.out GE255.out) hb)
  clear HO258 BK254 BK255 HB
  rename_i HO258 HO261 BK254 BK255 HB
  (try clear hb)
  (try clear hb2)
  (try clear hk)
  (try clear hi)
  (try clear ho0)
  refine hK.out _ _ (sb_ BK254.out) (fun hHeld => ?_)
  clear hK K
  refine no_ (some 18) ?_
  refine pu_ 6 (some 9) (tf_ 7 8) HT_ ?_
  refine pu_ 7 (some 10) (tf_ 8 8) HT_ ?_
  refine done_ (done_of HT_.out (by kernel_rfl)) ?_
  try go_wp2
  have _ := Aside0.mk (Kd.R_drew HO258.out)
  have _ := Aside0.mk (Kd.R_drew HO261.out)
  have _ := Aside0.mk (blk_drew BK254.out)
  have _ := Aside0.mk (blk_drew BK255.out)
  have _ := Aside0.mk (below_drew1 HB.out)
  clear HO258 HO261 BK254 BK255 HB
  rename_i HO258 HO261 BK254 BK255 HB
  refine start_ (n := 8) (S := fun w' => w'.cell? ⟨gb255, 0, none⟩ = some (.int .i64 a1_0) ∧ w'.cell? ⟨gb255, 1, none⟩ = some (.slice A1_1 l1_1.length c1_1) ∧ w'.cell? ⟨gb255, 2, none⟩ = some (.slice A1_2 l1_2.length c1_2)) (ds := []) (tf_ 0 8) (by kernel_rfl) rfl rfl (sb_ BK255.out) (fun hHeld => ?_); refine with_tabW impl_FollowsAt.tab2 impl_FollowsAt.bits2 (fun HT_ HW_ => ?_)
  generalize w14.drew = w15 at HO258 HO261 BK254 BK255 HB hHeld ⊢
  refine pu_ 1 (some 20) (tm_ 8 2) HT_ ?_
  refine pu_ 4 (some 23) (tm_ 8 18) HT_ ?_
  refine ta_ 0 (some 19) (tm_ 8 19) HT_ HW_ hHeld ?_
  refine ta_ 3 (some 22) (tm_ 8 27) HT_ HW_ hHeld ?_
  refine on_ 2 (some 21) (tf_ 5 8) HT_ (fun K hK => ?_)
  refine goes_ Try.func81 (by kernel_rfl) rfl #[.agg #[.int .i64 a1_0, .slice A1_1 l1_1.length c1_1, .slice A1_2 l1_2.length c1_2], .int .i64 a3, .bool true] (by rfl) rfl rfl mp_ ?_
  with_reducible refine (impl_MovesFrom.calls k a1_0 _ _ l1_1 _ _ l1_2 a3 true t262 _ ?side1 ?side2 ?side3 ?side4 A7.out).mono ?_
  (case side1 => exact cb_ HR1_1 HB)
  (case side2 => exact HC1_1.out)
  (case side3 => exact cb_ HR1_2 HB)
  (case side4 => exact HC1_2.out)
  rintro e w16 ⟨v263, rfl, ho0, hb⟩
  refine ⟨_, rfl, ?_⟩
  have _ := Aside0.mk (Kd.R_elder' (pr_ HO258.out) (Kd.R_base ho0) hb)
  have _ := Aside0.mk (Kd.R_elder' (pr_ HO261.out) (Kd.R_base ho0) hb)
  have _ := Aside0.mk (Kd.R_lower (Kd.R_new' (Kd.R_new' ho0 (Kd.R_lt (pr_ HO258.out))) (Kd.R_lt (pr_ HO261.out))) (below_size (pb2_ HB.out GE254.out GE255.out)))
  have _ := Aside0.mk (bb_ BK254.out hb)
  have _ := Aside0.mk (bb_ BK255.out hb)
  have _ := Aside0.mk (below_step (pb2_ HB.out GE254.out GE255.out) hb)
  clear HO258 HO261 BK254 BK255 HB
  rename_i HO258 HO261 HO264 BK254 BK255 HB
  (try clear hb)
  (try clear hb2)
  (try clear hk)
  (try clear hi)
  (try clear ho0)
  refine hK.out _ _ (sb_ BK255.out) (fun hHeld => ?_)
  clear hK K
  refine no_ (some 21) ?_
  refine on_ 5 (some 24) (tf_ 6 8) HT_ (fun K hK => ?_)
  refine goes_ Try.func81 (by kernel_rfl) rfl #[.agg #[.int .i64 a1_0, .slice A1_1 l1_1.length c1_1, .slice A1_2 l1_2.length c1_2], .int .i64 a3, .bool false] (by rfl) rfl rfl mp_ ?_
  with_reducible refine (impl_MovesFrom.calls k a1_0 _ _ l1_1 _ _ l1_2 a3 false t265 _ ?side1 ?side2 ?side3 ?side4 A8.out).mono ?_
  (case side1 => exact cb_ HR1_1 HB)
  (case side2 => exact HC1_1.out)
  (case side3 => exact cb_ HR1_2 HB)
  (case side4 => exact HC1_2.out)
  rintro e w17 ⟨v266, rfl, ho0, hb⟩
  refine ⟨_, rfl, ?_⟩
  have _ := Aside0.mk (Kd.R_elder' (pr_ HO258.out) (Kd.R_base ho0) hb)
  have _ := Aside0.mk (Kd.R_elder' (pr_ HO261.out) (Kd.R_base ho0) hb)
  have _ := Aside0.mk (Kd.R_elder' (pr_ HO264.out) (Kd.R_base ho0) hb)
  have _ := Aside0.mk (Kd.R_lower (Kd.R_new' (Kd.R_new' (Kd.R_new' ho0 (Kd.R_lt (pr_ HO258.out))) (Kd.R_lt (pr_ HO261.out))) (Kd.R_lt (pr_ HO264.out))) (below_size (pb2_ HB.out GE254.out GE255.out)))
  have _ := Aside0.mk (bb_ BK254.out hb)
  have _ := Aside0.mk (bb_ BK255.out hb)
  have _ := Aside0.mk (below_step (pb2_ HB.out GE254.out GE255.out) hb)
  clear HO258 HO261 HO264 BK254 BK255 HB
  rename_i HO258 HO261 HO264 HO267 BK254 BK255 HB
  (try clear hb)
  (try clear hb2)
  (try clear hk)
  (try clear hi)
  (try clear ho0)
  refine hK.out _ _ (sb_ BK255.out) (fun hHeld => ?_)
  clear hK K
  refine no_ (some 24) ?_
  refine pu_ 6 (some 11) (tf_ 7 8) HT_ ?_
  refine pu_ 7 (some 12) (tf_ 8 8) HT_ ?_
  refine done_ (done_of HT_.out (by kernel_rfl)) ?_
  go_upto_region 3 with (fail)
  go_cut [25] (fun v25 wc => ∃ (kq : Nat) (x25_8 : Bool), v25 = .bool x25_8 ∧ Aside0 (impl_FollowsAt.j0 kq a2 a3 t256 t259 t262 t265 x25_8 a0_0 l0_1 l0_2 a1_0 l1_1 l1_2 = some r) ∧ Aside0 (kq ≤ k) ∧ Aside0 (Kd.R (Kd.int .i64) 3 wc w.heap.size (fun k_ => some k_ ≠ (v260 : Value).ownBlock ∧ some k_ ≠ (v263 : Value).ownBlock ∧ some k_ ≠ (v266 : Value).ownBlock) v257 t256) ∧ Aside0 (Kd.R (Kd.int .i64) 3 wc w.heap.size (fun k_ => some k_ ≠ (v257 : Value).ownBlock ∧ some k_ ≠ (v263 : Value).ownBlock ∧ some k_ ≠ (v266 : Value).ownBlock) v260 t259) ∧ Aside0 (Kd.R (Kd.int .i64) 3 wc w.heap.size (fun k_ => some k_ ≠ (v257 : Value).ownBlock ∧ some k_ ≠ (v260 : Value).ownBlock ∧ some k_ ≠ (v266 : Value).ownBlock) v263 t262) ∧ Aside0 (Kd.R (Kd.int .i64) 3 wc w.heap.size (fun k_ => some k_ ≠ (v257 : Value).ownBlock ∧ some k_ ≠ (v260 : Value).ownBlock ∧ some k_ ≠ (v263 : Value).ownBlock) v266 t265) ∧ Aside0 (wc.heap[gb254]? = some (.cells #[.int .i64 a0_0, (.slice A0_1 l0_1.length c0_1), (.slice A0_2 l0_2.length c0_2)] 34 (0, 0))) ∧ Aside0 (wc.heap[gb255]? = some (.cells #[.int .i64 a1_0, (.slice A1_1 l1_1.length c1_1), (.slice A1_2 l1_2.length c1_2)] 34 (0, 0))) ∧ Aside0 (Below w.heap.size w wc))
  case first =>
    have H := HC9.out
    clear HC9
    replace H := Option.bind_eq_some_iff.mp H
    obtain ⟨t268, A180, H⟩ := H
    (try dsimp only at H)
    have A18 := Aside0.mk A180
    clear A180
    by_cases c19 : (t268.length : Int) > 0
    · rw [if_pos c19] at H
      have c19b0 : decide (0 < (t268.length : Int)) = true := decide_eq_true c19
      have c19b1 : decide (0 < t268.length) = true := decide_eq_true (by omega)
      clear c19
      (first | rw [c19b0] | (simp only [i64_w, i32_w]; rw [c19b0]) | rw [c19b1] | skip)
      have H' := Aside0.mk H
      clear H
      obtain ⟨Ao20, co20, eo20⟩ := Kd.R_slice HO267.out
      subst eo20
      obtain ⟨Ao21, co21, eo21⟩ := Kd.R_slice HO261.out
      subst eo21
      go_wp2_with (first | ((with_reducible refine gate_callee (f := 82) rfl ?_); refine gl_ (some 28) Try.func82 #[.slice Ao20 t265.length co20, .slice Ao21 t259.length co21] ?_; (with_reducible refine (impl_without.calls k _ _ t265 _ _ t259 t268 _ ?side1 ?side2 ?side3 ?side4 A18.out).mono ?_); (case side1 => exact pc_ ((Kd.R_reads' HO267.out).2.2)); (case side2 => exact (Kd.R_reads' HO267.out).2.1); (case side3 => exact pc_ ((Kd.R_reads' HO261.out).2.2)); (case side4 => exact (Kd.R_reads' HO261.out).2.1); rintro e w22 ⟨v269, rfl, ho0, hb⟩; refine ⟨_, rfl, ?_⟩; have _ := Aside0.mk (Kd.R_elder' (pr_ HO258.out) (Kd.R_base ho0) hb); have _ := Aside0.mk (Kd.R_elder' (pr_ HO261.out) (Kd.R_base ho0) hb); have _ := Aside0.mk (Kd.R_elder' (pr_ HO264.out) (Kd.R_base ho0) hb); have _ := Aside0.mk (Kd.R_elder' (pr_ HO267.out) (Kd.R_base ho0) hb); have _ := Aside0.mk (Kd.R_lower (Kd.R_new' (Kd.R_new' (Kd.R_new' (Kd.R_new' ho0 (Kd.R_lt (pr_ HO258.out))) (Kd.R_lt (pr_ HO261.out))) (Kd.R_lt (pr_ HO264.out))) (Kd.R_lt (pr_ HO267.out))) (below_size (pb2_ HB.out GE254.out GE255.out))); have _ := Aside0.mk (bb_ BK254.out hb); have _ := Aside0.mk (bb_ BK255.out hb); have _ := Aside0.mk (below_step (pb2_ HB.out GE254.out GE255.out) hb); clear HO258 HO261 HO264 HO267 BK254 BK255 HB; rename_i HO258 HO261 HO264 HO267 HO270 BK254 BK255 HB; (try clear hb); (try clear hb2); (try clear hk); (try clear hi); (try clear ho0); obtain ⟨Ao23, co23, eo23⟩ := Kd.R_slice HO270.out; subst eo23))
      go_meet
      case rel => exact ⟨_, (true), el_, H', ⟨by first | omega | exact Nat.le_refl _⟩, ⟨by (with_reducible repeat (first | apply Kd.R_alloc | apply Kd.R_drewN | apply Kd.R_drew)); exact Kd.R_mono HO258.out (fun _ hk => ⟨hk.1.1.1.2, ⟨hk.1.1.2, hk.1.2⟩⟩)⟩, ⟨by (with_reducible repeat (first | apply Kd.R_alloc | apply Kd.R_drewN | apply Kd.R_drew)); exact Kd.R_mono HO261.out (fun _ hk => ⟨hk.1.1.1.2, ⟨hk.1.1.2, hk.1.2⟩⟩)⟩, ⟨by (with_reducible repeat (first | apply Kd.R_alloc | apply Kd.R_drewN | apply Kd.R_drew)); exact Kd.R_mono HO264.out (fun _ hk => ⟨hk.1.1.1.2, ⟨hk.1.1.2, hk.1.2⟩⟩)⟩, ⟨by (with_reducible repeat (first | apply Kd.R_alloc | apply Kd.R_drewN | apply Kd.R_drew)); exact Kd.R_mono HO267.out (fun _ hk => ⟨hk.1.1.1.2, ⟨hk.1.1.2, hk.1.2⟩⟩)⟩, ⟨pk_ BK254.out⟩, ⟨pk_ BK255.out⟩, ⟨pb2_ HB.out GE254.out GE255.out⟩⟩
    rw [if_neg c19] at H
    have c19b0 : decide (0 < (t268.length : Int)) = false := decide_eq_false c19
    have c19b1 : decide (0 < t268.length) = false := decide_eq_false (by omega)
    clear c19
    (first | rw [c19b0] | (simp only [i64_w, i32_w]; rw [c19b0]) | rw [c19b1] | skip)
    replace H := Option.bind_eq_some_iff.mp H
    obtain ⟨t271, A240, H⟩ := H
    (try dsimp only at H)
    have A24 := Aside0.mk A240
    clear A240
    have H' := Aside0.mk H
    clear H
    obtain ⟨Ao25, co25, eo25⟩ := Kd.R_slice HO267.out
    subst eo25
    obtain ⟨Ao26, co26, eo26⟩ := Kd.R_slice HO261.out
    subst eo26
    go_wp2_with (first | ((with_reducible refine gate_callee (f := 82) rfl ?_); refine gl_ (some 28) Try.func82 #[.slice Ao25 t265.length co25, .slice Ao26 t259.length co26] ?_; (with_reducible refine (impl_without.calls k _ _ t265 _ _ t259 t268 _ ?side1 ?side2 ?side3 ?side4 A18.out).mono ?_); (case side1 => exact pc_ ((Kd.R_reads' HO267.out).2.2)); (case side2 => exact (Kd.R_reads' HO267.out).2.1); (case side3 => exact pc_ ((Kd.R_reads' HO261.out).2.2)); (case side4 => exact (Kd.R_reads' HO261.out).2.1); rintro e w27 ⟨v269, rfl, ho0, hb⟩; refine ⟨_, rfl, ?_⟩; have _ := Aside0.mk (Kd.R_elder' (pr_ HO258.out) (Kd.R_base ho0) hb); have _ := Aside0.mk (Kd.R_elder' (pr_ HO261.out) (Kd.R_base ho0) hb); have _ := Aside0.mk (Kd.R_elder' (pr_ HO264.out) (Kd.R_base ho0) hb); have _ := Aside0.mk (Kd.R_elder' (pr_ HO267.out) (Kd.R_base ho0) hb); have _ := Aside0.mk (Kd.R_lower (Kd.R_new' (Kd.R_new' (Kd.R_new' (Kd.R_new' ho0 (Kd.R_lt (pr_ HO258.out))) (Kd.R_lt (pr_ HO261.out))) (Kd.R_lt (pr_ HO264.out))) (Kd.R_lt (pr_ HO267.out))) (below_size (pb2_ HB.out GE254.out GE255.out))); have _ := Aside0.mk (bb_ BK254.out hb); have _ := Aside0.mk (bb_ BK255.out hb); have _ := Aside0.mk (below_step (pb2_ HB.out GE254.out GE255.out) hb); clear HO258 HO261 HO264 HO267 BK254 BK255 HB; rename_i HO258 HO261 HO264 HO267 HO270 BK254 BK255 HB; (try clear hb); (try clear hb2); (try clear hk); (try clear hi); (try clear ho0); obtain ⟨Ao28, co28, eo28⟩ := Kd.R_slice HO270.out; subst eo28; obtain ⟨Ao29, co29, eo29⟩ := Kd.R_slice HO258.out; subst eo29; obtain ⟨Ao30, co30, eo30⟩ := Kd.R_slice HO264.out; subst eo30) | (go_at_call 82; (with_reducible refine (impl_without.calls k _ _ t256 _ _ t262 t271 _ ?side1 ?side2 ?side3 ?side4 A24.out).mono ?_); (case side1 => exact pc_ ((Kd.R_reads' HO258.out).2.2)); (case side2 => exact (Kd.R_reads' HO258.out).2.1); (case side3 => exact pc_ ((Kd.R_reads' HO264.out).2.2)); (case side4 => exact (Kd.R_reads' HO264.out).2.1); rintro e w31 ⟨v272, rfl, ho0, hb⟩; have _ := Aside0.mk (Kd.R_elder' (pr_ HO258.out) (Kd.R_base ho0) hb); have _ := Aside0.mk (Kd.R_elder' (pr_ HO261.out) (Kd.R_base ho0) hb); have _ := Aside0.mk (Kd.R_elder' (pr_ HO264.out) (Kd.R_base ho0) hb); have _ := Aside0.mk (Kd.R_elder' (pr_ HO267.out) (Kd.R_base ho0) hb); have _ := Aside0.mk (Kd.R_elder' (pr_ HO270.out) (Kd.R_base ho0) hb); have _ := Aside0.mk (Kd.R_lower (Kd.R_new' (Kd.R_new' (Kd.R_new' (Kd.R_new' (Kd.R_new' ho0 (Kd.R_lt (pr_ HO258.out))) (Kd.R_lt (pr_ HO261.out))) (Kd.R_lt (pr_ HO264.out))) (Kd.R_lt (pr_ HO267.out))) (Kd.R_lt (pr_ HO270.out))) (below_size (pb2_ HB.out GE254.out GE255.out))); have _ := Aside0.mk (bb_ BK254.out hb); have _ := Aside0.mk (bb_ BK255.out hb); have _ := Aside0.mk (below_step (pb2_ HB.out GE254.out GE255.out) hb); clear HO258 HO261 HO264 HO267 HO270 BK254 BK255 HB; rename_i HO258 HO261 HO264 HO267 HO270 HO273 BK254 BK255 HB; (try clear hb); (try clear hb2); (try clear hk); (try clear hi); (try clear ho0); obtain ⟨Ao32, co32, eo32⟩ := Kd.R_slice HO273.out; subst eo32))
    go_meet
    case rel => exact ⟨_, (decide ((t271.length : Int) > 0)), el_, H', ⟨by first | omega | exact Nat.le_refl _⟩, ⟨by (with_reducible repeat (first | apply Kd.R_alloc | apply Kd.R_drewN | apply Kd.R_drew)); exact Kd.R_mono HO258.out (fun _ hk => ⟨hk.1.1.1.1.2, ⟨hk.1.1.1.2, hk.1.1.2⟩⟩)⟩, ⟨by (with_reducible repeat (first | apply Kd.R_alloc | apply Kd.R_drewN | apply Kd.R_drew)); exact Kd.R_mono HO261.out (fun _ hk => ⟨hk.1.1.1.1.2, ⟨hk.1.1.1.2, hk.1.1.2⟩⟩)⟩, ⟨by (with_reducible repeat (first | apply Kd.R_alloc | apply Kd.R_drewN | apply Kd.R_drew)); exact Kd.R_mono HO264.out (fun _ hk => ⟨hk.1.1.1.1.2, ⟨hk.1.1.1.2, hk.1.1.2⟩⟩)⟩, ⟨by (with_reducible repeat (first | apply Kd.R_alloc | apply Kd.R_drewN | apply Kd.R_drew)); exact Kd.R_mono HO267.out (fun _ hk => ⟨hk.1.1.1.1.2, ⟨hk.1.1.1.2, hk.1.1.2⟩⟩)⟩, ⟨pk_ BK254.out⟩, ⟨pk_ BK255.out⟩, ⟨pb2_ HB.out GE254.out GE255.out⟩⟩
  clear HC9
  try clear c1
  try clear p2
  try clear c6
  try clear c8
  try clear c19
  try clear c19b0
  try clear c19b1
  obtain ⟨kq, x25_8, rfl, HA, HJ8, HO_9, HO_10, HO_11, HO_12, BK254, BK255, HB⟩ := hcut
  rcases kq with _ | kj8
  · exact absurd HA.out (by simp [impl_FollowsAt.j0])
  have H := HA.out
  clear HA
  simp only [impl_FollowsAt.j0] at H
  by_cases c33 : x25_8 = true
  · subst c33
    rw [if_pos rfl] at H
    obtain rfl := Option.some.inj H
    go_wp2
    go_ret
    exact ⟨er_, pb2_ HB.out GE254.out GE255.out⟩
  replace c33 := Bool.eq_false_iff.mpr c33
  subst c33
  rw [if_neg (show ¬ (false = true) by decide)] at H
  have HC34 := Aside0.mk H
  clear H
  go_upto_region 5 with (fail)
  go_cut [38] (fun v38 wc => ∃ (kq : Nat) (x38_33 : Bool), v38 = .bool x38_33 ∧ Aside0 (impl_FollowsAt.j1 kq a2 a3 x38_33 a0_0 l0_1 l0_2 a1_0 l1_1 l1_2 = some r) ∧ Aside0 (kq ≤ kj8) ∧ Aside0 (wc.heap[gb254]? = some (.cells #[.int .i64 a0_0, (.slice A0_1 l0_1.length c0_1), (.slice A0_2 l0_2.length c0_2)] 34 (0, 0))) ∧ Aside0 (wc.heap[gb255]? = some (.cells #[.int .i64 a1_0, (.slice A1_1 l1_1.length c1_1), (.slice A1_2 l1_2.length c1_2)] 34 (0, 0))) ∧ Aside0 (Below w.heap.size w wc))
  case first =>
    have H := HC34.out
    clear HC34
    by_cases c35 : (t262.length : Int) > 0
    rotate_left
    · rw [if_neg c35] at H
      have c35b0 : decide (0 < (t262.length : Int)) = false := decide_eq_false c35
      have c35b1 : decide (0 < t262.length) = false := decide_eq_false (by omega)
      clear c35
      (first | rw [c35b0] | (simp only [i64_w, i32_w]; rw [c35b0]) | rw [c35b1] | skip)
      by_cases c36 : (t256.length : Int) > 0
      · rw [if_pos c36] at H
        have c36b0 : decide (0 < (t256.length : Int)) = true := decide_eq_true c36
        have c36b1 : decide (0 < t256.length) = true := decide_eq_true (by omega)
        clear c36
        have H' := Aside0.mk H
        clear H
        obtain ⟨Ao37, co37, eo37⟩ := Kd.R_slice HO_11.out
        subst eo37
        obtain ⟨Ao38, co38, eo38⟩ := Kd.R_slice HO_9.out
        subst eo38
        go_wp2
        go_meet
        case rel => exact ⟨_, (true), el_, H', ⟨by have := HJ8.out; first | omega | exact Nat.le_refl _⟩, ⟨pk_ BK254.out⟩, ⟨pk_ BK255.out⟩, ⟨pb2_ HB.out GE254.out GE255.out⟩⟩
      rw [if_neg c36] at H
      have c36b0 : decide (0 < (t256.length : Int)) = false := decide_eq_false c36
      have c36b1 : decide (0 < t256.length) = false := decide_eq_false (by omega)
      clear c36
      by_cases c39 : (t265.length : Int) = 0
      rotate_left
      · rw [if_neg c39] at H
        have c39b0 : ((t265.length : Int) == 0) = false := beq_eq_false_iff_ne.mpr c39
        have c39b1 : ((t265.length : Int) != 0) = true := bne_iff_ne.mpr c39
        have c39b2 : ¬ (t265 = []) := fun h_ => c39 (by rw [h_]; rfl)
        have H' := Aside0.mk H
        clear H
        obtain ⟨Ao40, co40, eo40⟩ := Kd.R_slice HO_11.out
        subst eo40
        obtain ⟨Ao41, co41, eo41⟩ := Kd.R_slice HO_9.out
        subst eo41
        obtain ⟨Ao42, co42, eo42⟩ := Kd.R_slice HO_12.out
        subst eo42
        go_wp2
        go_meet
        case rel => exact ⟨_, (false), el_, H', ⟨by have := HJ8.out; first | omega | exact Nat.le_refl _⟩, ⟨pk_ BK254.out⟩, ⟨pk_ BK255.out⟩, ⟨pb2_ HB.out GE254.out GE255.out⟩⟩
      rw [if_pos c39] at H
      have c39b0 : ((t265.length : Int) == 0) = true := beq_iff_eq.mpr c39
      have c39b1 : ((t265.length : Int) != 0) = false := bne_eq_false_iff_eq.mpr c39
      clear c39
      have H' := Aside0.mk H
      clear H
      obtain ⟨Ao43, co43, eo43⟩ := Kd.R_slice HO_11.out
      subst eo43
      obtain ⟨Ao44, co44, eo44⟩ := Kd.R_slice HO_9.out
      subst eo44
      obtain ⟨Ao45, co45, eo45⟩ := Kd.R_slice HO_12.out
      subst eo45
      obtain ⟨Ao46, co46, eo46⟩ := Kd.R_slice HO_10.out
      subst eo46
      go_wp2
      go_meet
      case rel => exact ⟨_, (decide ((t259.length : Int) > 0)), el_, H', ⟨by have := HJ8.out; first | omega | exact Nat.le_refl _⟩, ⟨pk_ BK254.out⟩, ⟨pk_ BK255.out⟩, ⟨pb2_ HB.out GE254.out GE255.out⟩⟩
    rw [if_pos c35] at H
    have c35b0 : decide (0 < (t262.length : Int)) = true := decide_eq_true c35
    have c35b1 : decide (0 < t262.length) = true := decide_eq_true (by omega)
    clear c35
    (first | rw [c35b0] | (simp only [i64_w, i32_w]; rw [c35b0]) | rw [c35b1] | skip)
    by_cases c47 : (t256.length : Int) > 0
    rotate_left
    · rw [if_neg c47] at H
      have c47b0 : decide (0 < (t256.length : Int)) = false := decide_eq_false c47
      have c47b1 : decide (0 < t256.length) = false := decide_eq_false (by omega)
      clear c47
      have H' := Aside0.mk H
      clear H
      obtain ⟨Ao48, co48, eo48⟩ := Kd.R_slice HO_11.out
      subst eo48
      obtain ⟨Ao49, co49, eo49⟩ := Kd.R_slice HO_9.out
      subst eo49
      go_wp2
      go_meet
      case rel => exact ⟨_, (true), el_, H', ⟨by have := HJ8.out; first | omega | exact Nat.le_refl _⟩, ⟨pk_ BK254.out⟩, ⟨pk_ BK255.out⟩, ⟨pb2_ HB.out GE254.out GE255.out⟩⟩
    rw [if_pos c47] at H
    have c47b0 : decide (0 < (t256.length : Int)) = true := decide_eq_true c47
    have c47b1 : decide (0 < t256.length) = true := decide_eq_true (by omega)
    clear c47
    by_cases c50 : (t265.length : Int) = 0
    rotate_left
    · rw [if_neg c50] at H
      have c50b0 : ((t265.length : Int) == 0) = false := beq_eq_false_iff_ne.mpr c50
      have c50b1 : ((t265.length : Int) != 0) = true := bne_iff_ne.mpr c50
      have c50b2 : ¬ (t265 = []) := fun h_ => c50 (by rw [h_]; rfl)
      have H' := Aside0.mk H
      clear H
      obtain ⟨Ao51, co51, eo51⟩ := Kd.R_slice HO_11.out
      subst eo51
      obtain ⟨Ao52, co52, eo52⟩ := Kd.R_slice HO_9.out
      subst eo52
      obtain ⟨Ao53, co53, eo53⟩ := Kd.R_slice HO_12.out
      subst eo53
      go_wp2
      go_meet
      case rel => exact ⟨_, (false), el_, H', ⟨by have := HJ8.out; first | omega | exact Nat.le_refl _⟩, ⟨pk_ BK254.out⟩, ⟨pk_ BK255.out⟩, ⟨pb2_ HB.out GE254.out GE255.out⟩⟩
    rw [if_pos c50] at H
    have c50b0 : ((t265.length : Int) == 0) = true := beq_iff_eq.mpr c50
    have c50b1 : ((t265.length : Int) != 0) = false := bne_eq_false_iff_eq.mpr c50
    clear c50
    have H' := Aside0.mk H
    clear H
    obtain ⟨Ao54, co54, eo54⟩ := Kd.R_slice HO_11.out
    subst eo54
    obtain ⟨Ao55, co55, eo55⟩ := Kd.R_slice HO_9.out
    subst eo55
    obtain ⟨Ao56, co56, eo56⟩ := Kd.R_slice HO_12.out
    subst eo56
    obtain ⟨Ao57, co57, eo57⟩ := Kd.R_slice HO_10.out
    subst eo57
    go_wp2
    go_meet
    case rel => exact ⟨_, (decide ((t259.length : Int) > 0)), el_, H', ⟨by have := HJ8.out; first | omega | exact Nat.le_refl _⟩, ⟨pk_ BK254.out⟩, ⟨pk_ BK255.out⟩, ⟨pb2_ HB.out GE254.out GE255.out⟩⟩
  clear HC34
  try clear c1
  try clear p2
  try clear c3
  try clear c4
  try clear c5
  try clear c6
  try clear c8
  try clear c19
  try clear c19b0
  try clear c19b1
  try clear c33
  try clear c35
  try clear c35b0
  try clear c35b1
  try clear c36
  try clear c36b0
  try clear c36b1
  try clear c39
  try clear c39b0
  try clear c39b1
  try clear c39b2
  try clear c47
  try clear c47b0
  try clear c47b1
  try clear c50
  try clear c50b0
  try clear c50b1
  try clear c50b2
  try clear p2
  obtain ⟨kq, x38_33, rfl, HA, HJ33, BK254, BK255, HB⟩ := hcut
  rcases kq with _ | kj33
  · exact absurd HA.out (by simp [impl_FollowsAt.j1])
  have H := HA.out
  clear HA
  simp only [impl_FollowsAt.j1] at H
  by_cases c58 : x38_33 = true
  · subst c58
    rw [if_pos rfl] at H
    obtain rfl := Option.some.inj H
    go_wp2
    go_ret
    exact ⟨er_, pb2_ HB.out GE254.out GE255.out⟩
  replace c58 := Bool.eq_false_iff.mpr c58
  subst c58
  rw [if_neg (show ¬ (false = true) by decide)] at H
  replace H := Option.bind_eq_some_iff.mp H
  obtain ⟨t274, A590, H⟩ := H
  (try dsimp only at H)
  have A59 := Aside0.mk A590
  clear A590
  by_cases c60 : t274 = true
  · subst c60
    rw [if_pos rfl] at H
    obtain rfl := Option.some.inj H
    have hnb61 := NB254_255.out
    have hnc61 := NB255_254.out
    obtain ⟨hcz62_0, hcz62_1, hcz62_2, hfz62_0, hfz62_1, hfz62_2⟩ := bc3_ BK254.out
    go_wp2_with (first | ((with_reducible refine gate_callee (f := 83) rfl ?_); refine gl_ (some 58) Try.func83 #[.agg #[.int .i64 a0_0, .slice A0_1 l0_1.length c0_1, .slice A0_2 l0_2.length c0_2], .int .i64 a2] ?_; (with_reducible refine (impl_isEnd.calls a0_0 _ _ l0_1 _ _ l0_2 a2 true _ ?side1 ?side2 ?side3 ?side4 A59.out).mono ?_); (case side1 => exact cb_ HR0_1 HB); (case side2 => exact HC0_1.out); (case side3 => exact cb_ HR0_2 HB); (case side4 => exact HC0_2.out); rintro e w63 ⟨rfl, hb⟩; refine ⟨_, rfl, ?_⟩; have _ := Aside0.mk (bb_ BK254.out hb); have _ := Aside0.mk (bb_ BK255.out hb); have _ := Aside0.mk (below_step (pb2_ HB.out GE254.out GE255.out) hb); clear BK254 BK255 HB; rename_i BK254 BK255 HB; (try clear hb); (try clear hb2); (try clear hk); (try clear hi)))
    go_ret
    exact ⟨er_, pb2_ HB.out GE254.out GE255.out⟩
  replace c60 := Bool.eq_false_iff.mpr c60
  subst c60
  rw [if_neg (show ¬ (false = true) by decide)] at H
  replace H := Option.bind_eq_some_iff.mp H
  obtain ⟨t275, A640, H⟩ := H
  replace H : (some (!t275)) = some r := H
  have A64 := Aside0.mk A640
  clear A640
  obtain rfl := Option.some.inj H
  have hnb65 := NB254_255.out
  have hnc65 := NB255_254.out
  obtain ⟨hcz66_0, hcz66_1, hcz66_2, hfz66_0, hfz66_1, hfz66_2⟩ := bc3_ BK254.out
  go_wp2_with (first | ((with_reducible refine gate_callee (f := 83) rfl ?_); refine gl_ (some 58) Try.func83 #[.agg #[.int .i64 a0_0, .slice A0_1 l0_1.length c0_1, .slice A0_2 l0_2.length c0_2], .int .i64 a2] ?_; (with_reducible refine (impl_isEnd.calls a0_0 _ _ l0_1 _ _ l0_2 a2 false _ ?side1 ?side2 ?side3 ?side4 A59.out).mono ?_); (case side1 => exact cb_ HR0_1 HB); (case side2 => exact HC0_1.out); (case side3 => exact cb_ HR0_2 HB); (case side4 => exact HC0_2.out); rintro e w67 ⟨rfl, hb⟩; refine ⟨_, rfl, ?_⟩; have _ := Aside0.mk (bb_ BK254.out hb); have _ := Aside0.mk (bb_ BK255.out hb); have _ := Aside0.mk (below_step (pb2_ HB.out GE254.out GE255.out) hb); clear BK254 BK255 HB; rename_i BK254 BK255 HB; (try clear hb); (try clear hb2); (try clear hk); (try clear hi); obtain ⟨hcz68_0, hcz68_1, hcz68_2, hfz68_0, hfz68_1, hfz68_2⟩ := bc3_ BK255.out) | (go_at_call 83; (with_reducible refine (impl_isEnd.calls a1_0 _ _ l1_1 _ _ l1_2 a3 t275 _ ?side1 ?side2 ?side3 ?side4 A64.out).mono ?_); (case side1 => exact cb_ HR1_1 HB); (case side2 => exact HC1_1.out); (case side3 => exact cb_ HR1_2 HB); (case side4 => exact HC1_2.out); rintro e w69 ⟨rfl, hb⟩; have _ := Aside0.mk (bb_ BK254.out hb); have _ := Aside0.mk (bb_ BK255.out hb); have _ := Aside0.mk (below_step (pb2_ HB.out GE254.out GE255.out) hb); clear BK254 BK255 HB; rename_i BK254 BK255 HB; (try clear hb); (try clear hb2); (try clear hk); (try clear hi)))
  go_ret
  exact ⟨er_, pb2_ HB.out GE254.out GE255.out⟩

end Go.Proofs.Ytldcchjbaglppaa.Print
