-- Written by a program of this session (printx.py) out of the translation; Lean checks it.
import Derived.Test.YtibmehnippjakaaPrint0
import Derived.Test.YtibmehnippjakaaPrint5
import Derived.Test.YtibmehnippjakaaPrint6
namespace Go.Proofs.Ytibmehnippjakaa.Print
open Go.RowKit Go.Proofs.YtibmehnippjakaaW.PrintWords Go.Proofs.YtibmehnippjakaaW.PrintLast Go.Proofs.YtibmehnippjakaaW.PrintMore Go.Proofs.Ytibmehnippjakaa.Short
attribute [local go_sem] max2_int min2_int max_two min_two max_three min_three max_four min_four   -- for this text's walks alone
set_option linter.unusedVariables false
set_option maxHeartbeats 8000000
set_option maxRecDepth 100000
set_option linter.unusedSimpArgs false

/-! ### slices_ContainsFunc_impl_Box_impl_Box_with_impl_IsEndpoint_1: function 100005 -/
def slices_ContainsFunc_impl_Box_impl_Box_with_impl_IsEndpoint_1.f (k : Nat) (b : List (S59)) : Option (Bool) := (slices_IndexFunc_impl_Box_impl_Box_with_impl_IsEndpoint_1.f k b).bind fun a => (some (decide (a ≥ 0)))
theorem slices_ContainsFunc_impl_Box_impl_Box_with_impl_IsEndpoint_1.mono : ∀ a k, LeO (slices_ContainsFunc_impl_Box_impl_Box_with_impl_IsEndpoint_1.f k a) (slices_ContainsFunc_impl_Box_impl_Box_with_impl_IsEndpoint_1.f (k + 1) a) := by
 intro a k
 unfold slices_ContainsFunc_impl_Box_impl_Box_with_impl_IsEndpoint_1.f
 exact mo1_ slices_IndexFunc_impl_Box_impl_Box_with_impl_IsEndpoint_1.mono
theorem slices_ContainsFunc_impl_Box_impl_Box_with_impl_IsEndpoint_1.calls (k : Nat) (i : Option Addr) (j : Nat) (b : List (S59)) (r : Bool) (w : World) (hr0 : Kd.C k59 w i b.length b) (c : b.length ≤ j) (h : slices_ContainsFunc_impl_Box_impl_Box_with_impl_IsEndpoint_1.f k b = some r) :
  Calls Try.prog 43 #[.slice i b.length j, .func (.func 44) #[] #[]] w fun e w' => e = .returned (.bool r) ∧ Below w.heap.size w w' := by
 have g := Q_ hr0
 have d := Q_ c
 clear hr0 c
 have HB := Q_ (Below.refl w.heap.size w)
 have H : ((slices_IndexFunc_impl_Box_impl_Box_with_impl_IsEndpoint_1.f k b).bind fun a => (some (decide (a ≥ 0)))) = some r := h
 clear h
 obtain ⟨a, l, H⟩ := bs_ H
 replace H : (some (decide (a ≥ 0))) = some r := H
 obtain rfl := Option.some.inj H
 go_enter Try.func43, Try.ntmps43
 go_wp2_with (first | (go_at_call 64; (with_reducible refine (slices_IndexFunc_impl_Box_impl_Box_with_impl_IsEndpoint_1.calls k _ _ b a _ (pc_ g.1) d.1 l.1).mono ?_); rintro e m ⟨rfl, hb⟩; have _ := Q_ (below_step (pb_ HB.1) hb); clear HB; rename_i HB; (try clear hb)))
 go_ret
 exact ⟨er_, pb_ HB.1⟩

/-! ### impl_IsEndpoint: function 19 -/
def impl_IsEndpoint.f (k : Nat) (d : List Int) (a : List Int) (b : List (S59)) (c : Int) : Option (Bool) := (impl_AreVersions.f k d).bind fun e => (if e = true then (if (a.length : Int) ≤ 5 then ((impl_areTags.f k a).bind fun g => (if g = true then ((impl_IsHardened.f k a).bind fun h => (if h = true then (some false) else (if (b.length : Int) ≤ 4 then ((slices_ContainsFunc_impl_Box_impl_Box_with_impl_IsEndpoint_1.f k b).bind fun i => (if i = true then (some false) else ((impl_InRange.f c 0 5).bind fun j => (some j)))) else (some false)))) else (some false))) else (some false)) else (some false))
theorem impl_IsEndpoint.mono : ∀ a b c d k, LeO (impl_IsEndpoint.f k a b c d) (impl_IsEndpoint.f (k + 1) a b c d) := by
 intro a b c d k
 unfold impl_IsEndpoint.f
 exact mo4_ impl_AreVersions.mono impl_IsHardened.mono impl_areTags.mono slices_ContainsFunc_impl_Box_impl_Box_with_impl_IsEndpoint_1.mono
theorem impl_IsEndpoint.calls (k : Nat) (l : Option Addr) (m : Nat) (c : List Int) (u : Option Addr) (z : Nat) (d : List Int) (v : Option Addr) (A : Nat) (g : List (S59)) (p : Int) (r : Bool) (w : World) (hr0_0 : Kd.C (Kd.int .i64) w l c.length c) (D : c.length ≤ m) (hr0_1 : Kd.C (Kd.int .i64) w u d.length d) (E : d.length ≤ z) (hr0_2 : Kd.C k59 w v g.length g) (F : g.length ≤ A) (h : impl_IsEndpoint.f k c d g p = some r) :
  Calls Try.prog 19 #[.agg #[.slice l c.length m, .slice u d.length z, .slice v g.length A, .int .i64 p]] w fun e w' => e = .returned (.bool r) ∧ Below w.heap.size w w' := by
 have hu33 := Try.underlying33
 have o := Q_ hr0_0
 have n := Q_ D
 clear hr0_0 D
 have j := Q_ hr0_1
 have i := Q_ E
 clear hr0_1 E
 have y := Q_ hr0_2
 have x := Q_ F
 clear hr0_2 F
 have HB := Q_ (Below.refl w.heap.size w)
 have H : ((impl_AreVersions.f k c).bind fun G => (if G = true then (if (d.length : Int) ≤ 5 then ((impl_areTags.f k d).bind fun I => (if I = true then ((impl_IsHardened.f k d).bind fun J => (if J = true then (some false) else (if (g.length : Int) ≤ 4 then ((slices_ContainsFunc_impl_Box_impl_Box_with_impl_IsEndpoint_1.f k g).bind fun K => (if K = true then (some false) else ((impl_InRange.f p 0 5).bind fun s => (some s)))) else (some false)))) else (some false))) else (some false)) else (some false))) = some r := h
 clear h
 have HS_ := Q_ H
 clear H
 go_enter Try.func19, Try.ntmps19
 go_upto_region 1 with (first | ((with_reducible refine gate_dst (N := 1) rfl ?_); (try (refine gate_guard (by rfl) ?_; dsimp only)); refine bx_ 1 #[.slice l c.length m, .slice u d.length z, .slice v g.length A, .int .i64 p] 33 ?_; intro Z hg w2 hbox hb; have _ := Q_ (below_step (pb_ HB.1) hb); have a := Q_ (hbox); have Q := Q_ (gw_ (w := w) hg (pb_ HB.1)); have b := Q; clear HB; rename_i HB; clear hb hbox hg))
 (try simp only [Act.put, s1_, s2_, s3_])
 have H := HS_.1
 clear HS_
 obtain ⟨G, P, H⟩ := bs_ H
 (try dsimp only at H)
 by_cases W : G = true
 rotate_left
 ·replace W := bf_ W
  subst W
  rw [if_neg ff_] at H
  obtain rfl := Option.some.inj H
  have an := bc4_ a.1
  go_wp2_with (first | ((with_reducible refine gate_callee (f := 40) rfl ?_); refine gl_ (some 5) Try.func40 #[.slice l c.length m] ?_; (with_reducible refine (impl_AreVersions.calls k _ _ c false _ (cb_ o HB) n.1 P.1).mono ?_); rintro e w' ⟨rfl, ⟨nd, rfl⟩⟩; refine ⟨_, rfl, ?_⟩))
  go_ret
  exact ⟨er_, pb1_ HB.1 b.1⟩
 subst W
 rw [if_pos rfl] at H
 by_cases T : (d.length : Int) ≤ 5
 rotate_left
 ·rw [if_neg T] at H
  have q := decide_eq_false T
  have B : decide (d.length ≤ 5) = false := decide_eq_false (by omega)
  clear T
  (first | rw [q] | (simp only [i64_w, i32_w]; rw [q]) | rw [B] | skip)
  obtain rfl := Option.some.inj H
  have ao := bc4_ a.1
  go_wp2_with (first | ((with_reducible refine gate_callee (f := 40) rfl ?_); refine gl_ (some 5) Try.func40 #[.slice l c.length m] ?_; (with_reducible refine (impl_AreVersions.calls k _ _ c true _ (cb_ o HB) n.1 P.1).mono ?_); rintro e w' ⟨rfl, ⟨nd, rfl⟩⟩; refine ⟨_, rfl, ?_⟩))
  go_ret
  exact ⟨er_, pb1_ HB.1 b.1⟩
 rw [if_pos T] at H
 have q := decide_eq_true T
 have B : decide (d.length ≤ 5) = true := decide_eq_true (by omega)
 clear T
 (first | rw [q] | (simp only [i64_w, i32_w]; rw [q]) | rw [B] | skip)
 obtain ⟨I, V, H⟩ := bs_ H
 (try dsimp only at H)
 by_cases X : I = true
 rotate_left
 ·replace X := bf_ X
  subst X
  rw [if_neg ff_] at H
  obtain rfl := Option.some.inj H
  have aa := bc4_ a.1
  go_wp2_with (first | ((with_reducible refine gate_callee (f := 40) rfl ?_); refine gl_ (some 5) Try.func40 #[.slice l c.length m] ?_; (with_reducible refine (impl_AreVersions.calls k _ _ c true _ (cb_ o HB) n.1 P.1).mono ?_); rintro e w' ⟨rfl, ⟨nd, rfl⟩⟩; refine ⟨_, rfl, ?_⟩) | (go_at_call 41; (with_reducible refine (impl_areTags.calls k _ _ d false _ ?side1 i.1 V.1).mono ?_); (case side1 => exact pc_ (Kd.C_below j.1 (pb1_ HB.1 b.1))); rintro e ap ⟨rfl, hb⟩; have _ := Q_ (bb_ a.1 hb); have _ := Q_ (below_step (pb1_ HB.1 b.1) hb); clear a HB; rename_i a HB; (try clear hb)))
  go_ret
  exact ⟨er_, pb1_ HB.1 b.1⟩
 subst X
 rw [if_pos rfl] at H
 obtain ⟨J, L, H⟩ := bs_ H
 (try dsimp only at H)
 by_cases M : J = true
 ·subst M
  rw [if_pos rfl] at H
  obtain rfl := Option.some.inj H
  have ab := bc4_ a.1
  go_wp2_with (first | ((with_reducible refine gate_callee (f := 40) rfl ?_); refine gl_ (some 5) Try.func40 #[.slice l c.length m] ?_; (with_reducible refine (impl_AreVersions.calls k _ _ c true _ (cb_ o HB) n.1 P.1).mono ?_); rintro e w' ⟨rfl, ⟨nd, rfl⟩⟩; refine ⟨_, rfl, ?_⟩) | (go_at_call 41; (with_reducible refine (impl_areTags.calls k _ _ d true _ ?side1 i.1 V.1).mono ?_); (case side1 => exact pc_ (Kd.C_below j.1 (pb1_ HB.1 b.1))); rintro e aq ⟨rfl, hb⟩; have _ := Q_ (bb_ a.1 hb); have _ := Q_ (below_step (pb1_ HB.1 b.1) hb); clear a HB; rename_i a HB; (try clear hb); have ac := bc4_ a.1) | (go_at_call 42; (with_reducible refine (impl_IsHardened.calls k _ _ d true _ (cb_ j HB) i.1 L.1).mono ?_); rintro e ar ⟨rfl, hb⟩; have _ := Q_ (bb_ a.1 hb); have _ := Q_ (below_step (pb1_ HB.1 b.1) hb); clear a HB; rename_i a HB; (try clear hb)))
  go_ret
  exact ⟨er_, pb1_ HB.1 b.1⟩
 replace M := bf_ M
 subst M
 rw [if_neg ff_] at H
 by_cases t : (g.length : Int) ≤ 4
 rotate_left
 ·rw [if_neg t] at H
  have R := decide_eq_false t
  have S : decide (g.length ≤ 4) = false := decide_eq_false (by omega)
  clear t
  obtain rfl := Option.some.inj H
  have ad := bc4_ a.1
  go_wp2_with (first | ((with_reducible refine gate_callee (f := 40) rfl ?_); refine gl_ (some 5) Try.func40 #[.slice l c.length m] ?_; (with_reducible refine (impl_AreVersions.calls k _ _ c true _ (cb_ o HB) n.1 P.1).mono ?_); rintro e w' ⟨rfl, ⟨nd, rfl⟩⟩; refine ⟨_, rfl, ?_⟩) | (go_at_call 41; (with_reducible refine (impl_areTags.calls k _ _ d true _ ?side1 i.1 V.1).mono ?_); (case side1 => exact pc_ (Kd.C_below j.1 (pb1_ HB.1 b.1))); rintro e au ⟨rfl, hb⟩; have _ := Q_ (bb_ a.1 hb); have _ := Q_ (below_step (pb1_ HB.1 b.1) hb); clear a HB; rename_i a HB; (try clear hb); have ae := bc4_ a.1) | (go_at_call 42; (with_reducible refine (impl_IsHardened.calls k _ _ d false _ (cb_ j HB) i.1 L.1).mono ?_); rintro e av ⟨rfl, hb⟩; have _ := Q_ (bb_ a.1 hb); have _ := Q_ (below_step (pb1_ HB.1 b.1) hb); clear a HB; rename_i a HB; (try clear hb); have af := bc4_ a.1))
  go_ret
  exact ⟨er_, pb1_ HB.1 b.1⟩
 rw [if_pos t] at H
 have R := decide_eq_true t
 have S : decide (g.length ≤ 4) = true := decide_eq_true (by omega)
 clear t
 obtain ⟨K, U, H⟩ := bs_ H
 (try dsimp only at H)
 by_cases O : K = true
 ·subst O
  rw [if_pos rfl] at H
  obtain rfl := Option.some.inj H
  have ag := bc4_ a.1
  go_wp2_with (first | ((with_reducible refine gate_callee (f := 40) rfl ?_); refine gl_ (some 5) Try.func40 #[.slice l c.length m] ?_; (with_reducible refine (impl_AreVersions.calls k _ _ c true _ (cb_ o HB) n.1 P.1).mono ?_); rintro e w' ⟨rfl, ⟨nd, rfl⟩⟩; refine ⟨_, rfl, ?_⟩) | (go_at_call 41; (with_reducible refine (impl_areTags.calls k _ _ d true _ ?side1 i.1 V.1).mono ?_); (case side1 => exact pc_ (Kd.C_below j.1 (pb1_ HB.1 b.1))); rintro e aw ⟨rfl, hb⟩; have _ := Q_ (bb_ a.1 hb); have _ := Q_ (below_step (pb1_ HB.1 b.1) hb); clear a HB; rename_i a HB; (try clear hb); have ah := bc4_ a.1) | (go_at_call 42; (with_reducible refine (impl_IsHardened.calls k _ _ d false _ (cb_ j HB) i.1 L.1).mono ?_); rintro e ax ⟨rfl, hb⟩; have _ := Q_ (bb_ a.1 hb); have _ := Q_ (below_step (pb1_ HB.1 b.1) hb); clear a HB; rename_i a HB; (try clear hb); have ai := bc4_ a.1) | (go_at_call 43; (with_reducible refine (slices_ContainsFunc_impl_Box_impl_Box_with_impl_IsEndpoint_1.calls k _ _ g true _ (cb_ y HB) x.1 U.1).mono ?_); rintro e ay ⟨rfl, hb⟩; have _ := Q_ (bb_ a.1 hb); have _ := Q_ (below_step (pb1_ HB.1 b.1) hb); clear a HB; rename_i a HB; (try clear hb)))
  go_ret
  exact ⟨er_, pb1_ HB.1 b.1⟩
 replace O := bf_ O
 subst O
 rw [if_neg ff_] at H
 obtain ⟨s, Y, H⟩ := bs_ H
 replace H : (some s) = some r := H
 obtain rfl := Option.some.inj H
 have aj := bc4_ a.1
 go_wp2_with (first | ((with_reducible refine gate_callee (f := 40) rfl ?_); refine gl_ (some 5) Try.func40 #[.slice l c.length m] ?_; (with_reducible refine (impl_AreVersions.calls k _ _ c true _ (cb_ o HB) n.1 P.1).mono ?_); rintro e w' ⟨rfl, ⟨nd, rfl⟩⟩; refine ⟨_, rfl, ?_⟩) | (go_at_call 41; (with_reducible refine (impl_areTags.calls k _ _ d true _ ?side1 i.1 V.1).mono ?_); (case side1 => exact pc_ (Kd.C_below j.1 (pb1_ HB.1 b.1))); rintro e az ⟨rfl, hb⟩; have _ := Q_ (bb_ a.1 hb); have _ := Q_ (below_step (pb1_ HB.1 b.1) hb); clear a HB; rename_i a HB; (try clear hb); have ak := bc4_ a.1) | (go_at_call 42; (with_reducible refine (impl_IsHardened.calls k _ _ d false _ (cb_ j HB) i.1 L.1).mono ?_); rintro e aA ⟨rfl, hb⟩; have _ := Q_ (bb_ a.1 hb); have _ := Q_ (below_step (pb1_ HB.1 b.1) hb); clear a HB; rename_i a HB; (try clear hb); have al := bc4_ a.1) | (go_at_call 43; (with_reducible refine (slices_ContainsFunc_impl_Box_impl_Box_with_impl_IsEndpoint_1.calls k _ _ g false _ (cb_ y HB) x.1 U.1).mono ?_); rintro e aB ⟨rfl, hb⟩; have _ := Q_ (bb_ a.1 hb); have _ := Q_ (below_step (pb1_ HB.1 b.1) hb); clear a HB; rename_i a HB; (try clear hb); have am := bc4_ a.1) | (go_at_call 46; (with_reducible refine (impl_InRange.calls p 0 5 s _ Y.1).mono ?_); rintro e w' ⟨rfl, ⟨nd, rfl⟩⟩))
 go_ret
 exact ⟨er_, pb1_ HB.1 b.1⟩

/-! ### impl_copyExts_1: function 66 -/
def impl_copyExts_1.f (a : Int) : Option (Bool) := some true
theorem impl_copyExts_1.calls (a : Int) (r : Bool) (w : World) (h : impl_copyExts_1.f a = some r) :
  Calls Try.prog 66 #[.int .i64 a] w fun e w' => e = .returned (.bool r) ∧ Drawn0 w w' := by
 have H : (some true) = some r := h
 clear h
 obtain rfl := Option.some.inj H
 go_enter Try.func66, Try.ntmps66
 go_wp2
 go_ret
 exact ⟨by first | rfl | (simp; done) | (simp [*]; done), by repeat (first | exact Drawn0.refl _ | apply Drawn0.step)⟩

/-! ### impl_keptExts_with_impl_copyExts_1: function 100008 -/
def impl_keptExts_with_impl_copyExts_1.l0 : Nat → List (S44) → List (S44) → Int → Int → Option ((List (S44)))
 | 0, _, _, _, _ => none
 | k + 1, g, d, c, a => if a < c then (if 0 ≤ a then (if a < (d.length : Int) then ((impl_copyExts_1.f ((rd_T44 d a).f0)).bind fun e => (if e = true then ((some (([] : List Int) : List Int)).bind fun b => (if b.length + ((rd_T44 d a).f1).length < 17592186044416 then (if g.length < 4398046511104 then (impl_keptExts_with_impl_copyExts_1.l0 k (g ++ [(⟨(rd_T44 d a).f0, (b ++ ((rd_T44 d a).f1))⟩ : S44)]) d c (wrap64 (a + 1))) else (none)) else (none))) else (impl_keptExts_with_impl_copyExts_1.l0 k g d c (wrap64 (a + 1))))) else (none)) else (none)) else (some g)
def impl_keptExts_with_impl_copyExts_1.f (k : Nat) (a : List (S44)) : Option ((List (S44))) := impl_keptExts_with_impl_copyExts_1.l0 k (([] : List (S44))) a (a.length : Int) 0
theorem impl_keptExts_with_impl_copyExts_1.mono_l : ∀ k, (∀ a b c d, LeO (impl_keptExts_with_impl_copyExts_1.l0 k a b c d) (impl_keptExts_with_impl_copyExts_1.l0 (k + 1) a b c d))
 | 0 => fun _ _ _ _ r h => by simp [impl_keptExts_with_impl_copyExts_1.l0] at h
 | k + 1 => by
  have ih0 := impl_keptExts_with_impl_copyExts_1.mono_l k
  ·intro a b c d
   unfold impl_keptExts_with_impl_copyExts_1.l0
   exact mo1_ ih0
theorem impl_keptExts_with_impl_copyExts_1.mono : ∀ a k, LeO (impl_keptExts_with_impl_copyExts_1.f k a) (impl_keptExts_with_impl_copyExts_1.f (k + 1) a) := by
 intro a k
 have ih0 := impl_keptExts_with_impl_copyExts_1.mono_l k
 unfold impl_keptExts_with_impl_copyExts_1.f
 exact mo1_ ih0
def impl_keptExts_with_impl_copyExts_1.T6 : Bool × List (List Nat × List Nat) := (true, [([], []), ([], []), ([1], [1]), ([], []), ([], []), ([4], [4]), ([3, 5], [3, 5]), ([2, 6], [2, 6]), ([7], [7]), ([0, 8, 6], [0, 8]), ([9, 9, 0, 1, 2, 3, 4, 5, 6, 7, 8, 9], [0, 9])])
def impl_keptExts_with_impl_copyExts_1.B6 : List Nat := [0, 0, 2, 0, 0, 16, 56, 126, 254, 511, 1023]
theorem impl_keptExts_with_impl_copyExts_1.tab6 : rtab .any (opsOf Try.f65 6) = impl_keptExts_with_impl_copyExts_1.T6 := by kernel_rfl
theorem impl_keptExts_with_impl_copyExts_1.bits6 : waitsOk impl_keptExts_with_impl_copyExts_1.T6.2 impl_keptExts_with_impl_copyExts_1.B6 = true := by kernel_rfl
theorem impl_keptExts_with_impl_copyExts_1.calls (k : Nat) (A0 : Option Addr) (c0 : Nat) (l : List (S44)) (r : List (S44)) (w : World) (hr0 : Kd.C k44 w A0 l.length l) (ai : l.length ≤ c0) (h : impl_keptExts_with_impl_copyExts_1.f k l = some r) :
  Calls Try.prog 65 #[.slice A0 l.length c0, .func (.func 66) #[] #[]] w fun e w' => ∃ v0_ : Value, e = .returned (v0_) ∧ Kd.S k44 44 w' w.heap.size (fun _ => True) v0_ r ∧ Below w.heap.size w w' := by
 have hu44 := Try.underlying44
 have an := Q_ hr0
 have aD := Q_ ai
 clear hr0 ai
 have HB := Q_ (Below.refl w.heap.size w)
 have H : (impl_keptExts_with_impl_copyExts_1.l0 k (([] : List (S44))) l (l.length : Int) 0) = some r := h
 clear h
 obtain ⟨V, hy311⟩ : ∃ y_ : List (S44), y_ = (([] : List (S44))) := ⟨_, rfl⟩
 replace H : (impl_keptExts_with_impl_copyExts_1.l0 k V l (l.length : Int) 0) = some r := hb_ hy311 H
 have E := Q_ hy311
 clear hy311
 have H' := Q_ H
 clear H
 go_enter Try.func65, Try.ntmps65
 go_wp2_with (first | ((with_reducible refine gate_dst (N := 8) rfl ?_); refine Kd.S_lit k44 _ 44 ?hg (N := 8) ?hd (xs := ([] : List (S44))) (inner := []) (ok := fun _ => True) (okp := fun _ => True) ?hr ?hp (fun _ hk => hk) trivial (Below.refl _ _) (Nat.le_refl _) (by simp) ?_; (case hd => rfl); (case hg => rfl); (case hr => first | (go_simp; done) | (go_simp; rfl)); (case hp => exact (Reps.none _ _)); intro ay w2 G hb hg_ hnew_; clear hg_ hnew_; (first | rw [← E.1] at G | (simp only [Int.reduceToNat] at G; rw [← E.1] at G)); have _ := Q_ (Kd.S_lower G (below_size (pb_ HB.1))); have _ := Q_ (below_step (pb_ HB.1) hb); clear HB; rename_i Y HB; clear hb G))
 (try simp only [Act.put, s1_, s2_, s3_])
 go_loopg [5, 11] k (fun kq v5 aq w' => ∃ (q : List (S44)) (a : Int), aq = .int .i64 a ∧ Aside0 (impl_keptExts_with_impl_copyExts_1.l0 kq q l (l.length : Int) a = some r) ∧ Aside0 (kq ≤ k) ∧ Aside0 (Kd.S k44 44 w' w.heap.size (fun _ => True) v5 q) ∧ Aside0 (Below w.heap.size w w'))
 case atStart => exact ⟨(V), (0), el_, H', ⟨Nat.le_refl _⟩, ⟨ps_ Y.1⟩, ⟨pb_ HB.1⟩⟩
 clear H'
 obtain ⟨q, a, rfl, HA, L, d, HB⟩ := hrel
 rcases gk with _ | k1
 ·exact absurd HA.1 (by simp [impl_keptExts_with_impl_copyExts_1.l0])
 have H := HA.1
 clear HA
 simp only [impl_keptExts_with_impl_copyExts_1.l0] at H
 by_cases c4 : a < (l.length : Int)
 rotate_left
 ·rw [if_neg c4] at H
  have ag := decide_eq_false c4
  clear c4
  obtain rfl := Option.some.inj H
  go_wp2
  go_ret
  exact ⟨_, er_, ps_ d.1, pb_ HB.1⟩
 rw [if_pos c4] at H
 have ag := decide_eq_true c4
 clear c4
 by_cases c5 : 0 ≤ a
 rotate_left
 ·rw [if_neg c5] at H
  exact nn_ H
 rw [if_pos c5] at H
 have av := decide_eq_true c5
 clear c5
 by_cases c6 : a < (l.length : Int)
 rotate_left
 ·rw [if_neg c6] at H
  exact nn_ H
 rw [if_pos c6] at H
 have aw := decide_eq_true c6
 clear c6
 have HS_ := Q_ H
 clear H
 have I : 0 ≤ (a : Int) := dt_
 have J : a < (l.length : Int) := dt_
 obtain ⟨ao, i, j, ah, y, z, af, D⟩ := at_U44 an.1 a I J
 cases ah
 replace y := bt_ HB y
 replace z := bt_ HB z
 replace I := eq_true I
 replace J := eq_true J
 go_upto_region 5 with (first | ((with_reducible refine gate_dst (N := 7) rfl ?_); refine bx_ 7 #[.int .i64 0, .slice none 0 0] 44 ?_; intro c hg w7 hbox hb; have _ := Q_ (Kd.S_below (Kd.S_elderB (ps_ d.1) c (Nat.le_of_eq hg.symm)) hb); have _ := Q_ (below_step (pb_ HB.1) hb); have b := Q_ (hbox); have X := Q_ (gw_ (w := w) hg (pb_ HB.1)); have m := X; clear d HB; rename_i d HB; clear hb hbox hg; have ax := bc2_ b.1))
 (try simp only [Act.put, s1_, s2_, s3_])
 have H := HS_.1
 clear HS_
 obtain ⟨U, A9, H⟩ := bs_ H
 (try dsimp only at H)
 have HS_ := Q_ H
 clear H
 have ap := bc2_ b.1
 go_upto_if 18 with (first | (go_at_call 66; (with_reducible refine (impl_copyExts_1.calls ((rd_T44 l a).f0) U _ A9.1).mono ?_); rintro e w' ⟨rfl, ⟨nd, rfl⟩⟩))
 (try simp only [Act.put, s1_, s2_, s3_])
 have H := HS_.1
 clear HS_
 by_cases M : U = true
 rotate_left
 ·replace M := bf_ M
  subst M
  rw [if_neg ff_] at H
  have H' := Q_ H
  clear H
  go_wp2
  go_roundg k1
  case measure => have := L.1; omega
  case rel => exact ⟨(q), (wrap64 (a + 1)), el_, H', ⟨by have := L.1; omega⟩, ⟨by (with_reducible repeat (first | apply Kd.S_alloc | apply Kd.S_drewN | apply Kd.S_drew)); exact Kd.S_mono (Kd.S_far (p := ⟨c, 1, none⟩) (Kd.S_far (p := ⟨c, 0, none⟩) (Kd.S_mono d.1 (fun k_ hk => (⟨hk, hk.2⟩ : _ ∧ k_ ≠ c))) (fun _ hk => hk.2) (.int .i64 ((rd_T44 l a).f0))) (fun _ hk => hk.2) (.slice i ((rd_T44 l a).f1).length j)) (fun _ hk => trivial)⟩, ⟨pb1_ HB.1 m.1⟩⟩
 subst M
 rw [if_pos rfl] at H
 obtain ⟨A, hy317⟩ : ∃ y_ : List Int, y_ = (([] : List Int)) := ⟨_, rfl⟩
 replace H : (if A.length + ((rd_T44 l a).f1).length < 17592186044416 then (if q.length < 4398046511104 then (impl_keptExts_with_impl_copyExts_1.l0 k1 (q ++ [(⟨(rd_T44 l a).f0, (A ++ ((rd_T44 l a).f1))⟩ : S44)]) l (l.length : Int) (wrap64 (a + 1))) else (none)) else (none)) = some r := hb_ hy317 H
 have F := Q_ hy317
 clear hy317
 by_cases O : A.length + ((rd_T44 l a).f1).length < 17592186044416
 rotate_left
 ·rw [if_neg O] at H
  exact nn_ H
 rw [if_pos O] at H
 have aa := Q_ O
 clear O
 obtain ⟨u, hy320⟩ : ∃ y_ : List Int, y_ = (A ++ ((rd_T44 l a).f1)) := ⟨_, rfl⟩
 replace H : (if q.length < 4398046511104 then (impl_keptExts_with_impl_copyExts_1.l0 k1 (q ++ [(⟨(rd_T44 l a).f0, u⟩ : S44)]) l (l.length : Int) (wrap64 (a + 1))) else (none)) = some r := hb_ hy320 H
 have ac := Q_ hy320
 clear hy320
 by_cases P : q.length < 4398046511104
 rotate_left
 ·rw [if_neg P] at H
  exact nn_ H
 rw [if_pos P] at H
 have ab := Q_ P
 clear P
 obtain ⟨W, hy323⟩ : ∃ y_ : List (S44), y_ = (q ++ [(⟨(rd_T44 l a).f0, u⟩ : S44)]) := ⟨_, rfl⟩
 replace H : (impl_keptExts_with_impl_copyExts_1.l0 k1 W l (l.length : Int) (wrap64 (a + 1))) = some r := hb_ hy323 H
 have ad := Q_ hy323
 clear hy323
 have H' := Q_ H
 clear H
 try go_wp2
 have n0_ : Aside0 (Kd.S k44 44 ((w7.setCell ⟨c, 0, none⟩ (.int .i64 ((rd_T44 l a).f0))).setCell ⟨c, 1, none⟩ (.slice i ((rd_T44 l a).f1).length j)) w.heap.size (fun k_ => k_ ≠ c) u5 q) := ⟨by (with_reducible repeat (first | apply Kd.S_alloc | apply Kd.S_drewN | apply Kd.S_drew)); exact Kd.S_mono (Kd.S_far (p := ⟨c, 1, none⟩) (Kd.S_far (p := ⟨c, 0, none⟩) (Kd.S_mono d.1 (fun k_ hk => (⟨hk, hk.2⟩ : _ ∧ k_ ≠ c))) (fun _ hk => hk.2) (.int .i64 ((rd_T44 l a).f0))) (fun _ hk => hk.2) (.slice i ((rd_T44 l a).f1).length j)) (fun _ hk => hk.1.2)⟩
 have n1_ : Aside0 (((w7.setCell ⟨c, 0, none⟩ (.int .i64 ((rd_T44 l a).f0))).setCell ⟨c, 1, none⟩ (.slice i ((rd_T44 l a).f1).length j)).heap[c]? = some (.cells #[.int .i64 ((rd_T44 l a).f0), .slice i ((rd_T44 l a).f1).length j] 44 (0, 0))) := ⟨pp_ b.1⟩
 have n2_ : Aside0 (Below w.heap.size w ((w7.setCell ⟨c, 0, none⟩ (.int .i64 ((rd_T44 l a).f0))).setCell ⟨c, 1, none⟩ (.slice i ((rd_T44 l a).f1).length j))) := ⟨pb1_ HB.1 m.1⟩
 (try clear d)
 (try clear b)
 (try clear HB)
 generalize ((w7.setCell ⟨c, 0, none⟩ (.int .i64 ((rd_T44 l a).f0))).setCell ⟨c, 1, none⟩ (.slice i ((rd_T44 l a).f1).length j)) = s at n0_ n1_ n2_ ⊢
 (try (rw [show s.drewN nd = s.drewN nd from rfl]; replace n0_ := Q_ (Kd.S_drewN n0_.1 nd); replace n1_ := Q_ (blk_drewN n1_.1 nd); replace n2_ := Q_ (pw_below_drewN n2_.1 nd); generalize s.drewN nd = s at n0_ n1_ n2_ ⊢))
 have d := n0_
 have b := n1_
 have HB := n2_
 clear n0_ n1_ n2_
 (try (rw [drewN_self s]; generalize hq_ : World.drewN s _ = s; have n0_ : Aside0 (Kd.S k44 44 s w.heap.size (fun k_ => k_ ≠ c) u5 q) := ⟨by rw [← hq_]; exact ps_ d.1⟩; have n1_ : Aside0 (s.heap[c]? = some (.cells #[.int .i64 ((rd_T44 l a).f0), .slice i ((rd_T44 l a).f1).length j] 44 (0, 0))) := ⟨by rw [← hq_]; exact (pk_ b.1)⟩; have n2_ : Aside0 (Below w.heap.size w s) := ⟨by rw [← hq_]; exact (pb1_ HB.1 m.1)⟩; clear d b HB hq_; have d := n0_; have b := n1_; have HB := n2_; clear n0_ n1_ n2_))
 have _ := Q_ (Kd.S_drew d.1)
 have _ := Q_ (blk_drew b.1)
 have _ := Q_ (below_drew1 HB.1)
 clear d b HB
 rename_i d b HB
 refine start_ (n := 11) (S := fun w' => w'.cell? ⟨c, 0, none⟩ = some (.int .i64 ((rd_T44 l a).f0)) ∧ w'.cell? ⟨c, 1, none⟩ = some (.slice i ((rd_T44 l a).f1).length j)) (ds := []) (tf_ 0 11) (by kernel_rfl) rfl rfl (sb_ b.1) (fun hHeld => ?_); refine with_tabW impl_keptExts_with_impl_copyExts_1.tab6 impl_keptExts_with_impl_copyExts_1.bits6 (fun HT_ HW_ => ?_)
 generalize s.drew = aG at d b HB hHeld ⊢
 refine pu1_ 0 19 11 1 ?_
 refine pu1_ 1 20 11 3 ?_
 refine pu1_ 4 23 11 19 ?_
 refine ta1_ 2 21 11 23 hHeld ?_
 refine ta1_ 5 24 11 55 hHeld ?_
 refine on_ 3 (some 22) (tf_ 6 11) HT_ (fun K hK => ?_)
 refine Kd.R_lit_step (Kd.int .i64) _ 3 ?hg (N := 22) ?hd (xs := ([] : List Int)) (inner := []) (ok := fun _ => True) (okp := fun _ => True) ?hr ?hp (fun _ hk => hk) trivial (Below.refl _ _) (Nat.le_refl _) (by simp) ?_; (case hd => rfl); (case hg => rfl); (case hr => first | (go_simp; done) | (go_simp; rfl)); (case hp => exact (Reps.none _ _))
 intro aj aH t hb hg_ hnew_
 clear hg_ hnew_
 (first | rw [← F.1] at t | (simp only [Int.reduceToNat] at t; rw [← F.1] at t))
 have _ := Q_ (Kd.S_elder' (ps_ d.1) (Kd.R_base t) hb)
 have _ := Q_ (Kd.R_lower t (below_size (pb1_ HB.1 m.1)))
 have _ := Q_ (bb_ b.1 hb)
 have _ := Q_ (below_step (pb1_ HB.1 m.1) hb)
 clear d b HB
 rename_i d B b HB
 clear hb t
 refine hK.out _ _ (sb_ b.1) (fun hHeld => ?_)
 clear hK K
 refine no_ (some 22) ?_
 refine on_ 6 (some 25) (tf_ 7 11) HT_ (fun K hK => ?_)
 refine Kd.R_append_rows_step (Kd.int .i64) (w0 := w) w.heap.size (by rfl) (.tmp 22) (.tmp 24) 22 3 (.int .i64 0) 8 rfl Try.underlying22 info3 rfl (by decide) (by omega) aj A ((rd_T44 l a).f1) _ _ _ (fun _ => True) (fun _ => False) rfl rfl ?aO ?aR (fun _ _ h => h) (fun _ h => h.elim) ?aF ?aB ?aS ?aL ?_
 (case aR => exact cb_ D HB)
 (case aB => exact (pb1_ HB.1 m.1))
 (case aF => exact (fun _ _ => trivial))
 (case aO => exact (pr_ B.1))
 (case aS => exact (below_size (pb1_ HB.1 m.1)))
 (case aL => have := aa.1; omega)
 intro az aI ho hb hg hat
 rw [← ac.1] at ho
 have _ := Q_ (Kd.S_after (ok := (fun k_ => k_ ≠ c)) (ps_ d.1) hg hat)
 have _ := Q_ (blk_grown (g := c) (o := .cells #[.int .i64 ((rd_T44 l a).f0), .slice i ((rd_T44 l a).f1).length j] 44 (0, 0)) (pk_ b.1) hg (Kd.R_ne B.1 b.1 (by decide)))
 have _ := Q_ (hb)
 have _ := Q_ (ho)
 clear d b HB B
 rename_i d b HB x
 clear ho hb hg hat
 obtain ⟨Q, R, T⟩ := Kd.R_slice x.1
 (first | subst T | (injection T with f1_ f2_ f3_; have f4_ := f1_.symm; have f5_ := f3_.symm; clear f1_ f2_ f3_; subst f4_; subst f5_))
 refine hK.out _ _ (sb_ b.1) (fun hHeld => ?_)
 clear hK K
 refine no_ (some 25) ?_
 refine pu1_ 7 26 11 255 ?_
 refine on_ 8 (some 27) (tf_ 9 11) HT_ (fun K hK => ?_)
 refine value_ (w1 := ?_) (v := ?_) (by rfl) rfl ?_ ?_
 rotate_left 2
 ·go_simp
  constructor
  ·rfl
  ·rfl
 refine hK.out _ _ ⟨(blk_cell (blk_alloc b.1 _) 0).trans rfl, (blk_cell (blk_alloc b.1 _) 1).trans rfl⟩ (fun hHeld => ?_)
 clear hK K
 refine no_ (some 27) ?_
 refine on_ 9 (some 28) (tf_ 10 11) HT_ (fun K hK => ?_)
 refine Kd.S_append_step k44 (w0 := w) w.heap.size (by rfl) (.tmp 19) (.tmp 27) 27 44 (.agg #[(.int .i64 0), (.slice none 0 0)]) 32 rfl Try.underlying27 info44 rfl (by decide) (by omega) u5 q (⟨(rd_T44 l a).f0, u⟩ : S44) [.int .i64 ((rd_T44 l a).f0), .slice Q u.length R] (fun k_ => k_ ≠ c) (fun k_ => some k_ = (.slice Q u.length R : Value).ownBlock) rfl rfl ?aP (fun k_ hk_ => ((Kd.R_mono (ok' := fun k_ => ((fun k_ => k_ ≠ c)) k_ ∧ some k_ ≠ (u5 : Value).ownBlock) (Kd.R_types (Kd.R_apart' (x.1) (Kd.S_typed d.1) (by decide)) b.1 (by decide)) (fun k_ hk => ⟨hk.2, hk.1.2⟩))).1 k_ hk_.symm) ?aF ?aO ?aB ?aS ?aL ?_
 (case aP => exact k44_mkM _ _ _ (⟨(rd_T44 l a).f0, u⟩ : S44) (Kd.R_mono (Kd.R_tight rfl (Kd.R_mono (ok' := fun k_ => ((fun k_ => k_ ≠ c)) k_ ∧ some k_ ≠ (u5 : Value).ownBlock) (Kd.R_types (Kd.R_apart' (x.1) (Kd.S_typed d.1) (by decide)) b.1 (by decide)) (fun k_ hk => ⟨hk.2, hk.1.2⟩))) (fun _ h_ => h_)))
 (case aB => exact (pb1_ HB.1 m.1))
 (case aF => exact (fun k_ hk => Kd.freshB (g := c) (o := .cells #[.int .i64 ((rd_T44 l a).f0), .slice i ((rd_T44 l a).f1).length j] 44 (0, 0)) (pk_ b.1) k_ hk))
 (case aO => exact (by (with_reducible repeat (first | apply Kd.S_alloc | apply Kd.S_drewN | apply Kd.S_drew)); exact Kd.S_mono d.1 (fun k_ hk => ⟨hk.1, fun e_ => hk.2 e_⟩)))
 (case aS => exact (below_size (pb1_ HB.1 m.1)))
 (case aL => have := ab.1; omega)
 intro aA aJ ho hb hg hat
 rw [← ad.1] at ho
 have _ := Q_ (blk_grown (g := c) (o := .cells #[.int .i64 ((rd_T44 l a).f0), .slice i ((rd_T44 l a).f1).length j] 44 (0, 0)) (pk_ b.1) hg (Kd.S_away d.1 (fun _ hk => hk.1)))
 have _ := Q_ (hb)
 have _ := Q_ (ho)
 clear b HB d x
 rename_i b HB Z
 clear ho hb hg hat
 refine hK.out _ _ (sb_ b.1) (fun hHeld => ?_)
 clear hK K
 refine no_ (some 28) ?_
 refine pu1_ 10 5 11 2047 ?_
 refine done_ (done_of HT_.1 (by kernel_rfl)) ?_
 try go_wp2
 go_roundg k1
 case measure => have := L.1; omega
 case rel => exact ⟨(W), (wrap64 (a + 1)), el_, H', ⟨by have := L.1; omega⟩, ⟨ps_ (Kd.S_mono Z.1 (fun _ hk => trivial))⟩, ⟨pb1_ HB.1 m.1⟩⟩

/-! ### impl_copyExts: function 47 -/
def impl_copyExts.f (k : Nat) (b : List (S44)) : Option ((List (S44))) := (impl_keptExts_with_impl_copyExts_1.f k b).bind fun a => (some a)
theorem impl_copyExts.mono : ∀ a k, LeO (impl_copyExts.f k a) (impl_copyExts.f (k + 1) a) := by
 intro a k
 unfold impl_copyExts.f
 exact mo1_ impl_keptExts_with_impl_copyExts_1.mono
theorem impl_copyExts.calls (k : Nat) (l : Option Addr) (m : Nat) (c : List (S44)) (r : List (S44)) (w : World) (hr0 : Kd.C k44 w l c.length c) (d : c.length ≤ m) (h : impl_copyExts.f k c = some r) :
  Calls Try.prog 47 #[.slice l c.length m] w fun e w' => ∃ v0_ : Value, e = .returned (v0_) ∧ Kd.S k44 44 w' w.heap.size (fun _ => True) v0_ r ∧ Below w.heap.size w w' := by
 have j := Q_ hr0
 have i := Q_ d
 clear hr0 d
 have HB := Q_ (Below.refl w.heap.size w)
 have H : ((impl_keptExts_with_impl_copyExts_1.f k c).bind fun a => (some a)) = some r := h
 clear h
 obtain ⟨a, o, H⟩ := bs_ H
 replace H : (some a) = some r := H
 obtain rfl := Option.some.inj H
 go_enter Try.func47, Try.ntmps47
 go_wp2_with (first | (go_at_call 65; (with_reducible refine (impl_keptExts_with_impl_copyExts_1.calls k _ _ c a _ (pc_ j.1) i.1 o.1).mono ?_); rintro e p ⟨n, rfl, g, hb⟩; have _ := Q_ (Kd.S_lower g (below_size (pb_ HB.1))); have _ := Q_ (below_step (pb_ HB.1) hb); clear HB; rename_i b HB; (try clear hb g)))
 go_ret
 exact ⟨_, er_, ps_ b.1, pb_ HB.1⟩

/-! ### impl_Mod: function 70 -/
def impl_Mod.f (c : Int) (a : Int) : Option (Int) := (impl_InRange.f a 1 1000000000000).bind fun b => (if b = true then (if a = 0 then (none) else (some (Int.tmod (wrap64 ((Int.tmod c a) + a)) a))) else (some 0))
theorem impl_Mod.calls (j : Int) (b : Int) (r : Int) (w : World) (h : impl_Mod.f j b = some r) :
  Calls Try.prog 70 #[.int .i64 j, .int .i64 b] w fun e w' => e = .returned (.int .i64 r) ∧ Drawn0 w w' := by
 have H : ((impl_InRange.f b 1 1000000000000).bind fun a => (if a = true then (if b = 0 then (none) else (some (Int.tmod (wrap64 ((Int.tmod j b) + b)) b))) else (some 0))) = some r := h
 clear h
 obtain ⟨a, k, H⟩ := bs_ H
 (try dsimp only at H)
 have HS_ := Q_ H
 clear H
 go_enter Try.func70, Try.ntmps70
 go_upto_if 7 with (first | ((with_reducible refine gate_callee (f := 46) rfl ?_); refine gl_ (some 6) Try.func46 #[.int .i64 b, .int .i64 1, .int .i64 1000000000000] ?_; (with_reducible refine (impl_InRange.calls b 1 1000000000000 a _ k.1).mono ?_); rintro e w' ⟨rfl, ⟨nd, rfl⟩⟩; refine ⟨_, rfl, ?_⟩))
 (try simp only [Act.put, s1_, s2_, s3_])
 have H := HS_.1
 clear HS_
 by_cases g : a = true
 rotate_left
 ·replace g := bf_ g
  subst g
  rw [if_neg ff_] at H
  obtain rfl := Option.some.inj H
  go_wp2
  go_ret
  exact ⟨by first | rfl | (simp; done) | (simp [*]; done), by repeat (first | exact Drawn0.refl _ | apply Drawn0.step)⟩
 subst g
 rw [if_pos rfl] at H
 by_cases i : b = 0
 rotate_left
 ·rw [if_neg i] at H
  have c : (b == 0) = false := beq_eq_false_iff_ne.mpr i
  have d : (b != 0) = true := bne_iff_ne.mpr i
  (first | rw [c] | (simp only [i64_w, i32_w]; rw [c]) | rw [d] | (have c_ := d; rw [bne] at c_; rw [c_]; clear c_) | skip)
  obtain rfl := Option.some.inj H
  go_wp2
  go_ret
  exact ⟨by first | rfl | (simp; done) | (simp [*]; done), by repeat (first | exact Drawn0.refl _ | apply Drawn0.step)⟩
 rw [if_pos i] at H
 exact nn_ H

/-! ### impl_Hash: function 71 -/
def impl_Hash.l0 : Nat → Int → List Int → Int → Int → Option (Int)
 | 0, _, _, _, _ => none
 | k + 1, d, c, e, b => if b < e then (if 0 ≤ b then (if b < (c.length : Int) then ((impl_Mod.f (rd c b) 2147483647).bind fun a => (impl_Hash.l0 k (Int.tmod (wrap64 ((wrap64 ((wrap64 (d * 1000003)) + a)) + 13)) 2147483647) c e (wrap64 (b + 1)))) else (none)) else (none)) else (some d)
def impl_Hash.f (k : Nat) (a : List Int) : Option (Int) := impl_Hash.l0 k 11 a (a.length : Int) 0
theorem impl_Hash.mono_l : ∀ k, (∀ a b c d, LeO (impl_Hash.l0 k a b c d) (impl_Hash.l0 (k + 1) a b c d))
 | 0 => fun _ _ _ _ r h => by simp [impl_Hash.l0] at h
 | k + 1 => by
  have ih0 := impl_Hash.mono_l k
  ·intro a b c d
   unfold impl_Hash.l0
   exact mo1_ ih0
theorem impl_Hash.mono : ∀ a k, LeO (impl_Hash.f k a) (impl_Hash.f (k + 1) a) := by
 intro a k
 have ih0 := impl_Hash.mono_l k
 unfold impl_Hash.f
 exact mo1_ ih0
theorem impl_Hash.calls (k : Nat) (v : Option Addr) (x : Nat) (b : List Int) (r : Int) (w : World) (hr0 : Kd.C (Kd.int .i64) w v b.length b) (o : b.length ≤ x) (h : impl_Hash.f k b = some r) :
  Calls Try.prog 71 #[.slice v b.length x] w fun e w' => e = .returned (.int .i64 r) ∧ Drawn0 w w' := by
 have t := Q_ hr0
 have B := Q_ o
 clear hr0 o
 have H : (impl_Hash.l0 k 11 b (b.length : Int) 0) = some r := h
 clear h
 have H' := Q_ H
 clear H
 go_enter Try.func71, Try.ntmps71
 go_wp2
 go_loopg [3, 8] k (fun kq D E w' => ∃ (c : Int) (a : Int), D = .int .i64 c ∧ E = .int .i64 a ∧ Aside0 (impl_Hash.l0 kq c b (b.length : Int) a = some r) ∧ Aside0 (kq ≤ k) ∧ Drawn0 w w')
 case atStart => exact ⟨(11), (0), el_, el_, H', ⟨Nat.le_refl _⟩, by repeat (first | exact Drawn0.refl _ | apply Drawn0.step)⟩
 clear H'
 obtain ⟨c, a, rfl, rfl, HA, l, ⟨m1, rfl⟩⟩ := hrel
 rcases gk with _ | k1
 ·exact absurd HA.1 (by simp [impl_Hash.l0])
 have H := HA.1
 clear HA
 simp only [impl_Hash.l0] at H
 by_cases j : a < (b.length : Int)
 rotate_left
 ·rw [if_neg j] at H
  have m := decide_eq_false j
  clear j
  obtain rfl := Option.some.inj H
  go_wp2
  go_ret
  exact ⟨by first | rfl | (simp; done) | (simp [*]; done), by repeat (first | exact Drawn0.refl _ | apply Drawn0.step)⟩
 rw [if_pos j] at H
 have m := decide_eq_true j
 clear j
 by_cases q : 0 ≤ a
 rotate_left
 ·rw [if_neg q] at H
  exact nn_ H
 rw [if_pos q] at H
 have y := decide_eq_true q
 clear q
 by_cases s : a < (b.length : Int)
 rotate_left
 ·rw [if_neg s] at H
  exact nn_ H
 rw [if_pos s] at H
 have z := decide_eq_true s
 clear s
 obtain ⟨i, A, H⟩ := bs_ H
 (try dsimp only at H)
 have H' := Q_ H
 clear H
 have d : 0 ≤ (a : Int) := dt_
 have g : a < (b.length : Int) := dt_
 obtain ⟨u, n, p⟩ := Kd.at_int t.1 a d g
 cases n
 replace d := eq_true d
 replace g := eq_true g
 go_wp2_with (first | ((with_reducible refine gate_callee (f := 70) rfl ?_); refine gl_ (some 15) Try.func70 #[.int .i64 (rd b a), .int .i64 2147483647] ?_; (with_reducible refine (impl_Mod.calls (rd b a) 2147483647 i _ A.1).mono ?_); rintro e w' ⟨rfl, ⟨nd, rfl⟩⟩; refine ⟨_, rfl, ?_⟩))
 go_roundg k1
 case measure => have := l.1; omega
 case rel => exact ⟨(Int.tmod (wrap64 ((wrap64 ((wrap64 (c * 1000003)) + i)) + 13)) 2147483647), (wrap64 (a + 1)), el_, el_, H', ⟨by have := l.1; omega⟩, by repeat (first | exact Drawn0.refl _ | apply Drawn0.step)⟩

/-! ### impl_PickOf: function 52 -/
def impl_PickOf.f (k : Nat) (d : Int) (e : Int) (c : Int) : Option (Int) := if c < 1 then (some 0) else ((impl_Hash.f k (([d, e] : List Int))).bind fun a => ((impl_Mod.f a c).bind fun b => (some b)))
theorem impl_PickOf.mono : ∀ a b c k, LeO (impl_PickOf.f k a b c) (impl_PickOf.f (k + 1) a b c) := by
 intro a b c k
 unfold impl_PickOf.f
 exact mo1_ impl_Hash.mono
theorem impl_PickOf.calls (k : Nat) (l : Int) (m : Int) (j : Int) (r : Int) (w : World) (h : impl_PickOf.f k l m j = some r) :
  Calls Try.prog 52 #[.int .i64 l, .int .i64 m, .int .i64 j] w fun e w' => e = .returned (.int .i64 r) ∧ Below w.heap.size w w' := by
 have HB := Q_ (Below.refl w.heap.size w)
 have H : (if j < 1 then (some 0) else ((impl_Hash.f k (([l, m] : List Int))).bind fun a => ((impl_Mod.f a j).bind fun b => (some b)))) = some r := h
 clear h
 by_cases n : j < 1
 ·rw [if_pos n] at H
  have o := decide_eq_true n
  clear n
  obtain rfl := Option.some.inj H
  go_enter Try.func52, Try.ntmps52
  go_wp2
  go_ret
  exact ⟨er_, pb_ HB.1⟩
 rw [if_neg n] at H
 have o := decide_eq_false n
 clear n
 obtain ⟨i, hy332⟩ : ∃ y_ : List Int, y_ = (([l, m] : List Int)) := ⟨_, rfl⟩
 replace H : ((impl_Hash.f k i).bind fun a => ((impl_Mod.f a j).bind fun b => (some b))) = some r := hb_ hy332 H
 have d := Q_ hy332
 clear hy332
 obtain ⟨a, u, H⟩ := bs_ H
 replace H : ((impl_Mod.f a j).bind fun b => (some b)) = some r := H
 obtain ⟨b, v, H⟩ := bs_ H
 replace H : (some b) = some r := H
 obtain rfl := Option.some.inj H
 go_enter Try.func52, Try.ntmps52
 go_wp2_with (first | ((with_reducible refine gate_dst (N := 11) rfl ?_); refine Kd.R_lit (Kd.int .i64) _ 3 ?hg (N := 11) ?hd (xs := ([l, m] : List Int)) (inner := [.int .i64 l, .int .i64 m]) (ok := fun _ => True) (okp := fun _ => True) ?hr ?hp (fun _ hk => hk) trivial (Below.refl _ _) (Nat.le_refl _) (by simp) ?_; (case hd => rfl); (case hg => rfl); (case hr => first | (go_simp; done) | (go_simp; rfl)); (case hp => exact (Reps.one (show Kd.M (Kd.int .i64) _ _ _ l [.int .i64 l] from rfl) (Reps.one (show Kd.M (Kd.int .i64) _ _ _ m [.int .i64 m] from rfl) (Reps.none _ _)))); intro t x g hb hg_ hnew_; clear hg_ hnew_; (first | rw [← d.1] at g | (simp only [Int.reduceToNat] at g; rw [← d.1] at g)); have _ := Q_ (Kd.R_lower g (below_size (pb_ HB.1))); have _ := Q_ (below_step (pb_ HB.1) hb); clear HB; rename_i c HB; clear hb g; obtain ⟨p, q, s⟩ := Kd.R_slice c.1; subst s) | ((with_reducible refine gate_callee (f := 71) rfl ?_); refine gl_ (some 12) Try.func71 #[.slice p i.length q] ?_; (with_reducible refine (impl_Hash.calls k _ _ i a _ ?side1 ?side2 u.1).mono ?_); (case side1 => exact pc_ ((Kd.R_reads' c.1).2.2)); (case side2 => exact (Kd.R_reads' c.1).2.1); rintro e w' ⟨rfl, ⟨nd, rfl⟩⟩; refine ⟨_, rfl, ?_⟩) | ((with_reducible refine gate_callee (f := 70) rfl ?_); refine gl_ (some 14) Try.func70 #[.int .i64 a, .int .i64 j] ?_; (with_reducible refine (impl_Mod.calls a j b _ v.1).mono ?_); rintro e w' ⟨rfl, ⟨nd, rfl⟩⟩; refine ⟨_, rfl, ?_⟩))
 go_ret
 exact ⟨er_, pb_ HB.1⟩

/-! ### impl_GreaseTag: function 48 -/
def impl_GreaseTag.f (k : Nat) (b : Int) : Option (Int) := (impl_PickOf.f k b 0 16).bind fun a => (some (wrap64 ((wrap64 (16 * a)) + 10)))
theorem impl_GreaseTag.mono : ∀ a k, LeO (impl_GreaseTag.f k a) (impl_GreaseTag.f (k + 1) a) := by
 intro a k
 unfold impl_GreaseTag.f
 exact mo1_ impl_PickOf.mono
theorem impl_GreaseTag.calls (k : Nat) (b : Int) (r : Int) (w : World) (h : impl_GreaseTag.f k b = some r) :
  Calls Try.prog 48 #[.int .i64 b] w fun e w' => e = .returned (.int .i64 r) ∧ Below w.heap.size w w' := by
 have HB := Q_ (Below.refl w.heap.size w)
 have H : ((impl_PickOf.f k b 0 16).bind fun a => (some (wrap64 ((wrap64 (16 * a)) + 10)))) = some r := h
 clear h
 obtain ⟨a, c, H⟩ := bs_ H
 replace H : (some (wrap64 ((wrap64 (16 * a)) + 10))) = some r := H
 obtain rfl := Option.some.inj H
 go_enter Try.func48, Try.ntmps48
 go_wp2_with (first | ((with_reducible refine gate_callee (f := 52) rfl ?_); refine gl_ (some 4) Try.func52 #[.int .i64 b, .int .i64 0, .int .i64 16] ?_; (with_reducible refine (impl_PickOf.calls k b 0 16 a _ c.1).mono ?_); rintro e d ⟨rfl, hb⟩; refine ⟨_, rfl, ?_⟩; have _ := Q_ (below_step (pb_ HB.1) hb); clear HB; rename_i HB; (try clear hb)))
 go_ret
 exact ⟨er_, pb_ HB.1⟩

/-! ### impl_ExtOf_1: function 100011 -/
def impl_ExtOf_1.f (a : Int) (c : List Int) (b : Int) : Option (Bool) := some (a == b)
theorem impl_ExtOf_1.calls (c : Int) (i : Option Addr) (k : Nat) (a : List Int) (B1 : Nat) (d : Int) (r : Bool) (w : World) (hr0_1 : Kd.C (Kd.int .i64) w i a.length a) (l : a.length ≤ k) (hbv1 : w.heap[B1]? = some (.cells #[.int .i64 d] 3 (0, 0))) (h : impl_ExtOf_1.f c a d = some r) :
  Calls Try.prog 68 #[.agg #[.int .i64 c, .slice i a.length k], .pointer (some ⟨B1, 0, none⟩)] w fun e w' => e = .returned (.bool r) ∧ Below w.heap.size w w' := by
 have hu44 := Try.underlying44
 have u := Q_ hr0_1
 have t := Q_ l
 clear hr0_1 l
 have g := Q_ hbv1
 clear hbv1
 have HB := Q_ (Below.refl w.heap.size w)
 have H : (some (c == d)) = some r := h
 clear h
 obtain rfl := Option.some.inj H
 go_enter Try.func68, Try.ntmps68
 go_wp2_with (first | ((with_reducible refine gate_dst (N := 2) rfl ?_); refine bx_ 2 #[.int .i64 c, .slice i a.length k] 44 ?_; intro p hg z hbox hb; have _ := Q_ (bb_ g.1 hb); have _ := Q_ (below_step (pb_ HB.1) hb); have m := Q_ (hbox); have o := Q_ (gw_ (w := w) hg (pb_ HB.1)); have n := o; have b := Q_ ((by rw [hg]; exact Nat.ne_of_lt (blk_lt (pk_ g.1)) : B1 ≠ p)); have j := Q_ b.1.symm; clear g HB; rename_i g HB; clear hb hbox hg; have x := j.1; have y := b.1; have v := bc2_ m.1; have q : z.cell? ⟨B1, 0, none⟩ = some (.int .i64 d) := (blk_cell g.1 0).trans rfl; have s := blk_frozen g.1 0))
 go_ret
 exact ⟨er_, pb1_ HB.1 n.1⟩

/-! ### slices_IndexFunc_impl_Ext_impl_Ext_with_impl_ExtOf_1: function 100010 -/
def slices_IndexFunc_impl_Ext_impl_Ext_with_impl_ExtOf_1.l0 : Nat → List (S44) → Int → Int → Int → Option (Int)
 | 0, _, _, _, _ => none
 | k + 1, d, e, b, a => if b < e then (if 0 ≤ b then (if b < (d.length : Int) then ((impl_ExtOf_1.f ((rd_T44 d b).f0) ((rd_T44 d b).f1) a).bind fun c => (if c = true then (some b) else (slices_IndexFunc_impl_Ext_impl_Ext_with_impl_ExtOf_1.l0 k d e (wrap64 (b + 1)) a))) else (none)) else (none)) else (some (-1))
def slices_IndexFunc_impl_Ext_impl_Ext_with_impl_ExtOf_1.f (k : Nat) (b : List (S44)) (a : Int) : Option (Int) := slices_IndexFunc_impl_Ext_impl_Ext_with_impl_ExtOf_1.l0 k b (b.length : Int) 0 a
theorem slices_IndexFunc_impl_Ext_impl_Ext_with_impl_ExtOf_1.mono_l : ∀ k, (∀ a b c d, LeO (slices_IndexFunc_impl_Ext_impl_Ext_with_impl_ExtOf_1.l0 k a b c d) (slices_IndexFunc_impl_Ext_impl_Ext_with_impl_ExtOf_1.l0 (k + 1) a b c d))
 | 0 => fun _ _ _ _ r h => by simp [slices_IndexFunc_impl_Ext_impl_Ext_with_impl_ExtOf_1.l0] at h
 | k + 1 => by
  have ih0 := slices_IndexFunc_impl_Ext_impl_Ext_with_impl_ExtOf_1.mono_l k
  ·intro a b c d
   unfold slices_IndexFunc_impl_Ext_impl_Ext_with_impl_ExtOf_1.l0
   exact mo1_ ih0
theorem slices_IndexFunc_impl_Ext_impl_Ext_with_impl_ExtOf_1.mono : ∀ a b k, LeO (slices_IndexFunc_impl_Ext_impl_Ext_with_impl_ExtOf_1.f k a b) (slices_IndexFunc_impl_Ext_impl_Ext_with_impl_ExtOf_1.f (k + 1) a b) := by
 intro a b k
 have ih0 := slices_IndexFunc_impl_Ext_impl_Ext_with_impl_ExtOf_1.mono_l k
 unfold slices_IndexFunc_impl_Ext_impl_Ext_with_impl_ExtOf_1.f
 exact mo1_ ih0
theorem slices_IndexFunc_impl_Ext_impl_Ext_with_impl_ExtOf_1.calls (k : Nat) (E : Option Addr) (F : Nat) (i : List (S44)) (B1 : Nat) (b : Int) (r : Int) (w : World) (hr0 : Kd.C k44 w E i.length i) (u : i.length ≤ F) (hbv1 : w.heap[B1]? = some (.cells #[.int .i64 b] 3 (0, 0))) (h : slices_IndexFunc_impl_Ext_impl_Ext_with_impl_ExtOf_1.f k i b = some r) :
  Calls Try.prog 67 #[.slice E i.length F, .func (.func 68) #[] #[.pointer (some ⟨B1, 0, none⟩)]] w fun e w' => e = .returned (.int .i64 r) ∧ Below w.heap.size w w' := by
 have hu44 := Try.underlying44
 have B := Q_ hr0
 have K := Q_ u
 clear hr0 u
 have g := Q_ hbv1
 clear hbv1
 have HB := Q_ (Below.refl w.heap.size w)
 have H : (slices_IndexFunc_impl_Ext_impl_Ext_with_impl_ExtOf_1.l0 k i (i.length : Int) 0 b) = some r := h
 clear h
 have H' := Q_ H
 clear H
 go_enter Try.func67, Try.ntmps67
 go_wp2
 go_loopg [8] k (fun kq L w' => ∃ (a : Int), L = .int .i64 a ∧ Aside0 (slices_IndexFunc_impl_Ext_impl_Ext_with_impl_ExtOf_1.l0 kq i (i.length : Int) a b = some r) ∧ Aside0 (kq ≤ k) ∧ Aside0 (w'.heap[B1]? = some (.cells #[.int .i64 b] 3 (0, 0))) ∧ Aside0 (Below w.heap.size w w'))
 case atStart => exact ⟨(0), el_, H', ⟨Nat.le_refl _⟩, ⟨pk_ g.1⟩, ⟨pb_ HB.1⟩⟩
 clear H'
 obtain ⟨a, rfl, HA, q, g, HB⟩ := hrel
 rcases gk with _ | k1
 ·exact absurd HA.1 (by simp [slices_IndexFunc_impl_Ext_impl_Ext_with_impl_ExtOf_1.l0])
 have H := HA.1
 clear HA
 simp only [slices_IndexFunc_impl_Ext_impl_Ext_with_impl_ExtOf_1.l0] at H
 by_cases p : a < (i.length : Int)
 rotate_left
 ·rw [if_neg p] at H
  have s := decide_eq_false p
  clear p
  obtain rfl := Option.some.inj H
  go_wp2
  go_ret
  exact ⟨er_, pb_ HB.1⟩
 rw [if_pos p] at H
 have s := decide_eq_true p
 clear p
 by_cases y : 0 ≤ a
 rotate_left
 ·rw [if_neg y] at H
  exact nn_ H
 rw [if_pos y] at H
 have G := decide_eq_true y
 clear y
 by_cases z : a < (i.length : Int)
 rotate_left
 ·rw [if_neg z] at H
  exact nn_ H
 rw [if_pos z] at H
 have I := decide_eq_true z
 clear z
 obtain ⟨o, J, H⟩ := bs_ H
 (try dsimp only at H)
 have HS_ := Q_ H
 clear H
 have m : 0 ≤ (a : Int) := dt_
 have n : a < (i.length : Int) := dt_
 obtain ⟨D, v, x, t, c, d, j, l⟩ := at_U44 B.1 a m n
 cases t
 replace c := bt_ HB c
 replace d := bt_ HB d
 replace m := eq_true m
 replace n := eq_true n
 go_upto_if 16 with (first | (go_at_call 68; (with_reducible refine (impl_ExtOf_1.calls ((rd_T44 i a).f0) _ _ ((rd_T44 i a).f1) _ b o _ (cb_ l HB) j.1 ?side3 J.1).mono ?_); (case side3 => exact pk_ g.1); rintro e M ⟨rfl, hb⟩; have _ := Q_ (bb_ g.1 hb); have _ := Q_ (below_step (pb_ HB.1) hb); clear g HB; rename_i g HB; (try clear hb)))
 (try simp only [Act.put, s1_, s2_, s3_])
 have H := HS_.1
 clear HS_
 by_cases A : o = true
 rotate_left
 ·replace A := bf_ A
  subst A
  rw [if_neg ff_] at H
  have H' := Q_ H
  clear H
  go_wp2
  go_roundg k1
  case measure => have := q.1; omega
  case rel => exact ⟨(wrap64 (a + 1)), el_, H', ⟨by have := q.1; omega⟩, ⟨pk_ g.1⟩, ⟨pb_ HB.1⟩⟩
 subst A
 rw [if_pos rfl] at H
 obtain rfl := Option.some.inj H
 go_wp2
 go_ret
 exact ⟨er_, pb_ HB.1⟩

end Go.Proofs.Ytibmehnippjakaa.Print
