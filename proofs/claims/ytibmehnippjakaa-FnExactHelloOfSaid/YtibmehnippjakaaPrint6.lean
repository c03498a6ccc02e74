-- Written by a program of this session (printx.py) out of the translation; Lean checks it.
import Derived.Test.YtibmehnippjakaaPrint0
import Derived.Test.YtibmehnippjakaaPrint5
namespace Go.Proofs.Ytibmehnippjakaa.Print
open Go.RowKit Go.Proofs.YtibmehnippjakaaW.PrintWords Go.Proofs.YtibmehnippjakaaW.PrintLast Go.Proofs.YtibmehnippjakaaW.PrintMore Go.Proofs.Ytibmehnippjakaa.Short
attribute [local go_sem] max2_int min2_int max_two min_two max_three min_three max_four min_four   -- for this text's walks alone
set_option linter.unusedVariables false
set_option maxHeartbeats 8000000
set_option maxRecDepth 100000
set_option linter.unusedSimpArgs false

/-! ### slices_IndexFunc_int_int_with_impl_areNumbers_1: function 100001 -/
def slices_IndexFunc_int_int_with_impl_areNumbers_1.l0 : Nat → List Int → Int → Int → Int → Int → Option (Int)
 | 0, _, _, _, _, _ => none
 | k + 1, e, g, c, a, b => if c < g then (if 0 ≤ c then (if c < (e.length : Int) then ((impl_areNumbers_1.f (rd e c) a b).bind fun d => (if d = true then (some c) else (slices_IndexFunc_int_int_with_impl_areNumbers_1.l0 k e g (wrap64 (c + 1)) a b))) else (none)) else (none)) else (some (-1))
def slices_IndexFunc_int_int_with_impl_areNumbers_1.f (k : Nat) (c : List Int) (a : Int) (b : Int) : Option (Int) := slices_IndexFunc_int_int_with_impl_areNumbers_1.l0 k c (c.length : Int) 0 a b
theorem slices_IndexFunc_int_int_with_impl_areNumbers_1.mono_l : ∀ k, (∀ a b c d e, LeO (slices_IndexFunc_int_int_with_impl_areNumbers_1.l0 k a b c d e) (slices_IndexFunc_int_int_with_impl_areNumbers_1.l0 (k + 1) a b c d e))
 | 0 => fun _ _ _ _ _ r h => by simp [slices_IndexFunc_int_int_with_impl_areNumbers_1.l0] at h
 | k + 1 => by
  have ih0 := slices_IndexFunc_int_int_with_impl_areNumbers_1.mono_l k
  ·intro a b c d e
   unfold slices_IndexFunc_int_int_with_impl_areNumbers_1.l0
   exact mo1_ ih0
theorem slices_IndexFunc_int_int_with_impl_areNumbers_1.mono : ∀ a b c k, LeO (slices_IndexFunc_int_int_with_impl_areNumbers_1.f k a b c) (slices_IndexFunc_int_int_with_impl_areNumbers_1.f (k + 1) a b c) := by
 intro a b c k
 have ih0 := slices_IndexFunc_int_int_with_impl_areNumbers_1.mono_l k
 unfold slices_IndexFunc_int_int_with_impl_areNumbers_1.f
 exact mo1_ ih0
theorem slices_IndexFunc_int_int_with_impl_areNumbers_1.calls (k : Nat) (D : Option Addr) (E : Nat) (g : List Int) (B1 : Nat) (b : Int) (B2 : Nat) (c : Int) (r : Int) (w : World) (hr0 : Kd.C (Kd.int .i64) w D g.length g) (u : g.length ≤ E) (hbv1 : w.heap[B1]? = some (.cells #[.int .i64 b] 3 (0, 0))) (hbv2 : w.heap[B2]? = some (.cells #[.int .i64 c] 3 (0, 0))) (hnv1_2 : B1 ≠ B2) (h : slices_IndexFunc_int_int_with_impl_areNumbers_1.f k g b c = some r) :
  Calls Try.prog 76 #[.slice D g.length E, .func (.func 75) #[] #[.pointer (some ⟨B1, 0, none⟩), .pointer (some ⟨B2, 0, none⟩)]] w fun e w' => e = .returned (.int .i64 r) ∧ Below w.heap.size w w' := by
 have z := Q_ hr0
 have J := Q_ u
 clear hr0 u
 have l := Q_ hbv1
 clear hbv1
 have m := Q_ hbv2
 clear hbv2
 have o := Q_ hnv1_2
 have A := Q_ (Ne.symm hnv1_2)
 clear hnv1_2
 have HB := Q_ (Below.refl w.heap.size w)
 have H : (slices_IndexFunc_int_int_with_impl_areNumbers_1.l0 k g (g.length : Int) 0 b c) = some r := h
 clear h
 have H' := Q_ H
 clear H
 go_enter Try.func76, Try.ntmps76
 go_wp2
 go_loopg [8] k (fun kq K w' => ∃ (a : Int), K = .int .i64 a ∧ Aside0 (slices_IndexFunc_int_int_with_impl_areNumbers_1.l0 kq g (g.length : Int) a b c = some r) ∧ Aside0 (kq ≤ k) ∧ Aside0 (w'.heap[B1]? = some (.cells #[.int .i64 b] 3 (0, 0))) ∧ Aside0 (w'.heap[B2]? = some (.cells #[.int .i64 c] 3 (0, 0))) ∧ Aside0 (Below w.heap.size w w'))
 case atStart => exact ⟨(0), el_, H', ⟨Nat.le_refl _⟩, ⟨pk_ l.1⟩, ⟨pk_ m.1⟩, ⟨pb_ HB.1⟩⟩
 clear H'
 obtain ⟨a, rfl, HA, q, l, m, HB⟩ := hrel
 rcases gk with _ | k1
 ·exact absurd HA.1 (by simp [slices_IndexFunc_int_int_with_impl_areNumbers_1.l0])
 have H := HA.1
 clear HA
 simp only [slices_IndexFunc_int_int_with_impl_areNumbers_1.l0] at H
 by_cases p : a < (g.length : Int)
 rotate_left
 ·rw [if_neg p] at H
  have s := decide_eq_false p
  clear p
  obtain rfl := Option.some.inj H
  go_wp2
  go_ret
  exact ⟨er_, pb_ HB.1⟩
 rw [if_pos p] at H
 have s := decide_eq_true p
 clear p
 by_cases v : 0 ≤ a
 rotate_left
 ·rw [if_neg v] at H
  exact nn_ H
 rw [if_pos v] at H
 have F := decide_eq_true v
 clear v
 by_cases x : a < (g.length : Int)
 rotate_left
 ·rw [if_neg x] at H
  exact nn_ H
 rw [if_pos x] at H
 have G := decide_eq_true x
 clear x
 obtain ⟨n, I, H⟩ := bs_ H
 (try dsimp only at H)
 have HS_ := Q_ H
 clear H
 have i : 0 ≤ (a : Int) := dt_
 have j : a < (g.length : Int) := dt_
 obtain ⟨B, t, d⟩ := Kd.at_int z.1 a i j
 cases t
 replace d := bt_ HB d
 replace i := eq_true i
 replace j := eq_true j
 go_upto_if 16 with (first | (go_at_call 75; (with_reducible refine (impl_areNumbers_1.calls (rd g a) _ b _ c n _ ?side1 ?side2 o.1 I.1).mono ?_); (case side1 => exact pk_ l.1); (case side2 => exact pk_ m.1); rintro e w' ⟨rfl, ⟨nd, rfl⟩⟩))
 (try simp only [Act.put, s1_, s2_, s3_])
 have H := HS_.1
 clear HS_
 by_cases y : n = true
 rotate_left
 ·replace y := bf_ y
  subst y
  rw [if_neg ff_] at H
  have H' := Q_ H
  clear H
  go_wp2
  go_roundg k1
  case measure => have := q.1; omega
  case rel => exact ⟨(wrap64 (a + 1)), el_, H', ⟨by have := q.1; omega⟩, ⟨pk_ l.1⟩, ⟨pk_ m.1⟩, ⟨pb_ HB.1⟩⟩
 subst y
 rw [if_pos rfl] at H
 obtain rfl := Option.some.inj H
 go_wp2
 go_ret
 exact ⟨er_, pb_ HB.1⟩

/-! ### slices_ContainsFunc_int_int_with_impl_areNumbers_1: function 100000 -/
def slices_ContainsFunc_int_int_with_impl_areNumbers_1.f (k : Nat) (d : List Int) (a : Int) (b : Int) : Option (Bool) := (slices_IndexFunc_int_int_with_impl_areNumbers_1.f k d a b).bind fun c => (some (decide (c ≥ 0)))
theorem slices_ContainsFunc_int_int_with_impl_areNumbers_1.mono : ∀ a b c k, LeO (slices_ContainsFunc_int_int_with_impl_areNumbers_1.f k a b c) (slices_ContainsFunc_int_int_with_impl_areNumbers_1.f (k + 1) a b c) := by
 intro a b c k
 unfold slices_ContainsFunc_int_int_with_impl_areNumbers_1.f
 exact mo1_ slices_IndexFunc_int_int_with_impl_areNumbers_1.mono
theorem slices_ContainsFunc_int_int_with_impl_areNumbers_1.calls (k : Nat) (p : Option Addr) (q : Nat) (j : List Int) (B1 : Nat) (a : Int) (B2 : Nat) (b : Int) (r : Bool) (w : World) (hr0 : Kd.C (Kd.int .i64) w p j.length j) (l : j.length ≤ q) (hbv1 : w.heap[B1]? = some (.cells #[.int .i64 a] 3 (0, 0))) (hbv2 : w.heap[B2]? = some (.cells #[.int .i64 b] 3 (0, 0))) (hnv1_2 : B1 ≠ B2) (h : slices_ContainsFunc_int_int_with_impl_areNumbers_1.f k j a b = some r) :
  Calls Try.prog 62 #[.slice p j.length q, .func (.func 75) #[] #[.pointer (some ⟨B1, 0, none⟩), .pointer (some ⟨B2, 0, none⟩)]] w fun e w' => e = .returned (.bool r) ∧ Below w.heap.size w w' := by
 have n := Q_ hr0
 have m := Q_ l
 clear hr0 l
 have d := Q_ hbv1
 clear hbv1
 have g := Q_ hbv2
 clear hbv2
 have i := Q_ hnv1_2
 have o := Q_ (Ne.symm hnv1_2)
 clear hnv1_2
 have HB := Q_ (Below.refl w.heap.size w)
 have H : ((slices_IndexFunc_int_int_with_impl_areNumbers_1.f k j a b).bind fun c => (some (decide (c ≥ 0)))) = some r := h
 clear h
 obtain ⟨c, s, H⟩ := bs_ H
 replace H : (some (decide (c ≥ 0))) = some r := H
 obtain rfl := Option.some.inj H
 go_enter Try.func62, Try.ntmps62
 go_wp2_with (first | (go_at_call 76; (with_reducible refine (slices_IndexFunc_int_int_with_impl_areNumbers_1.calls k _ _ j _ a _ b c _ (pc_ n.1) m.1 ?side3 ?side4 i.1 s.1).mono ?_); (case side3 => exact pk_ d.1); (case side4 => exact pk_ g.1); rintro e t ⟨rfl, hb⟩; have _ := Q_ (bb_ d.1 hb); have _ := Q_ (bb_ g.1 hb); have _ := Q_ (below_step (pb_ HB.1) hb); clear d g HB; rename_i d g HB; (try clear hb)))
 go_ret
 exact ⟨er_, pb_ HB.1⟩

/-! ### impl_areNumbers: function 61 -/
def impl_areNumbers.f (k : Nat) (d : List Int) (b : Int) (c : Int) : Option (Bool) := (slices_ContainsFunc_int_int_with_impl_areNumbers_1.f k d b c).bind fun a => (some (!a))
theorem impl_areNumbers.mono : ∀ a b c k, LeO (impl_areNumbers.f k a b c) (impl_areNumbers.f (k + 1) a b c) := by
 intro a b c k
 unfold impl_areNumbers.f
 exact mo1_ slices_ContainsFunc_int_int_with_impl_areNumbers_1.mono
theorem impl_areNumbers.calls (k : Nat) (x : Option Addr) (y : Nat) (n : List Int) (o : Int) (p : Int) (r : Bool) (w : World) (hr0 : Kd.C (Kd.int .i64) w x n.length n) (q : n.length ≤ y) (h : impl_areNumbers.f k n o p = some r) :
  Calls Try.prog 61 #[.slice x n.length y, .int .i64 o, .int .i64 p] w fun e w' => e = .returned (.bool r) ∧ Below w.heap.size w w' := by
 have t := Q_ hr0
 have s := Q_ q
 clear hr0 q
 have HB := Q_ (Below.refl w.heap.size w)
 have H : ((slices_ContainsFunc_int_int_with_impl_areNumbers_1.f k n o p).bind fun g => (some (!g))) = some r := h
 clear h
 obtain ⟨g, z, H⟩ := bs_ H
 replace H : (some (!g)) = some r := H
 obtain rfl := Option.some.inj H
 go_enter Try.func61, Try.ntmps61
 go_wp2_with (first | ((with_reducible refine gate_dst (N := 4) rfl ?_); refine bx_ 4 #[.int .i64 o] 3 ?_; intro u hg A hbox hb; have _ := Q_ (below_step (pb_ HB.1) hb); have a := Q_ (hbox); have j := Q_ (gw_ (w := w) hg (pb_ HB.1)); have d := j; clear HB; rename_i HB; clear hb hbox hg) | ((with_reducible refine gate_dst (N := 5) rfl ?_); refine bx_ 5 #[.int .i64 p] 3 ?_; intro v hg B hbox hb; have _ := Q_ (bb_ a.1 hb); have _ := Q_ (below_step (pb1_ HB.1 d.1) hb); have c := Q_ (hbox); have l := Q_ (gw_ (w := w) hg (pb1_ HB.1 d.1)); have i := l; have b := Q_ (nb_ hg a); have m := Q_ b.1.symm; clear a HB; rename_i a HB; clear hb hbox hg) | (go_at_call 62; (with_reducible refine (slices_ContainsFunc_int_int_with_impl_areNumbers_1.calls k _ _ n _ o _ p g _ (cb_ t HB) s.1 ?side3 ?side4 b.1 z.1).mono ?_); (case side3 => exact pk_ a.1); (case side4 => exact pk_ c.1); rintro e D ⟨rfl, hb⟩; have _ := Q_ (bb_ a.1 hb); have _ := Q_ (bb_ c.1 hb); have _ := Q_ (below_step (pb2_ HB.1 d.1 i.1) hb); clear a c HB; rename_i a c HB; (try clear hb)))
 go_ret
 exact ⟨er_, pb2_ HB.1 d.1 i.1⟩

/-! ### impl_areTags: function 41 -/
def impl_areTags.l0 : Nat → List Int → List Int → Int → Int → Option (Bool)
 | 0, _, _, _, _ => none
 | k + 1, c, d, e, a => if a < e then (if 0 ≤ a then (if a < (d.length : Int) then (if a > 0 then (if 0 ≤ (wrap64 (a - 1)) then (if (wrap64 (a - 1)) < (c.length : Int) then (if (rd c (wrap64 (a - 1))) ≥ (rd d a) then (some false) else (impl_areTags.l0 k c d e (wrap64 (a + 1)))) else (none)) else (none)) else (impl_areTags.l0 k c d e (wrap64 (a + 1)))) else (none)) else (none)) else ((impl_areNumbers.f k c 0 255).bind fun b => (some b))
def impl_areTags.f (k : Nat) (a : List Int) : Option (Bool) := impl_areTags.l0 k a a (a.length : Int) 0
theorem impl_areTags.mono_l : ∀ k, (∀ a b c d, LeO (impl_areTags.l0 k a b c d) (impl_areTags.l0 (k + 1) a b c d))
 | 0 => fun _ _ _ _ r h => by simp [impl_areTags.l0] at h
 | k + 1 => by
  have ih0 := impl_areTags.mono_l k
  ·intro a b c d
   unfold impl_areTags.l0
   exact mo2_ ih0 impl_areNumbers.mono
theorem impl_areTags.mono : ∀ a k, LeO (impl_areTags.f k a) (impl_areTags.f (k + 1) a) := by
 intro a k
 have ih0 := impl_areTags.mono_l k
 unfold impl_areTags.f
 exact mo2_ ih0 impl_areNumbers.mono
theorem impl_areTags.calls (k : Nat) (J : Option Addr) (L : Nat) (i : List Int) (r : Bool) (w : World) (hr0 : Kd.C (Kd.int .i64) w J i.length i) (E : i.length ≤ L) (h : impl_areTags.f k i = some r) :
  Calls Try.prog 41 #[.slice J i.length L] w fun e w' => e = .returned (.bool r) ∧ Below w.heap.size w w' := by
 have q := Q_ hr0
 have K := Q_ E
 clear hr0 E
 have HB := Q_ (Below.refl w.heap.size w)
 have H : (impl_areTags.l0 k i i (i.length : Int) 0) = some r := h
 clear h
 have H' := Q_ H
 clear H
 go_enter Try.func41, Try.ntmps41
 go_wp2
 go_loopg [7] k (fun kq R w' => ∃ (a : Int), R = .int .i64 a ∧ Aside0 (impl_areTags.l0 kq i i (i.length : Int) a = some r) ∧ Aside0 (kq ≤ k) ∧ Aside0 (Below w.heap.size w w'))
 case atStart => exact ⟨(0), el_, H', ⟨Nat.le_refl _⟩, ⟨pb_ HB.1⟩⟩
 clear H'
 obtain ⟨a, rfl, HA, u, HB⟩ := hrel
 rcases gk with _ | k1
 ·exact absurd HA.1 (by simp [impl_areTags.l0])
 have H := HA.1
 clear HA
 simp only [impl_areTags.l0] at H
 by_cases z : a < (i.length : Int)
 rotate_left
 ·rw [if_neg z] at H
  have B := decide_eq_false z
  clear z
  obtain ⟨x, Q, H⟩ := bs_ H
  replace H : (some x) = some r := H
  obtain rfl := Option.some.inj H
  go_wp2_with (first | ((with_reducible refine gate_callee (f := 61) rfl ?_); refine gl_ (some 25) Try.func61 #[.slice J i.length L, .int .i64 0, .int .i64 255] ?_; (with_reducible refine (impl_areNumbers.calls k1 _ _ i 0 255 x _ (cb_ q HB) K.1 Q.1).mono ?_); rintro e S ⟨rfl, hb⟩; refine ⟨_, rfl, ?_⟩; have _ := Q_ (below_step (pb_ HB.1) hb); clear HB; rename_i HB; (try clear hb)))
  go_ret
  exact ⟨er_, pb_ HB.1⟩
 rw [if_pos z] at H
 have B := decide_eq_true z
 clear z
 by_cases F : 0 ≤ a
 rotate_left
 ·rw [if_neg F] at H
  exact nn_ H
 rw [if_pos F] at H
 have N := decide_eq_true F
 clear F
 by_cases G : a < (i.length : Int)
 rotate_left
 ·rw [if_neg G] at H
  exact nn_ H
 rw [if_pos G] at H
 have O := decide_eq_true G
 clear G
 by_cases A : a > 0
 rotate_left
 ·rw [if_neg A] at H
  have D := decide_eq_false A
  clear A
  have H' := Q_ H
  clear H
  have d : 0 ≤ (a : Int) := dt_
  have g : a < (i.length : Int) := dt_
  obtain ⟨n, o, b⟩ := Kd.at_int q.1 a d g
  cases o
  replace b := bt_ HB b
  replace d := eq_true d
  replace g := eq_true g
  go_wp2
  go_roundg k1
  case measure => have := u.1; omega
  case rel => exact ⟨(wrap64 (a + 1)), el_, H', ⟨by have := u.1; omega⟩, ⟨pb_ HB.1⟩⟩
 rw [if_pos A] at H
 have D := decide_eq_true A
 clear A
 obtain ⟨j, hji8⟩ : ∃ j_ : Int, (wrap64 (a - 1)) = j_ := ⟨_, rfl⟩
 replace H : (if 0 ≤ (j) then (if (j) < (i.length : Int) then (if (rd i (j)) ≥ (rd i a) then (some false) else (impl_areTags.l0 k1 i i (i.length : Int) (wrap64 (a + 1)))) else (none)) else (none)) = some r := by first | (rw [hji8] at H; exact H) | (simp only [hji8] at H ⊢; exact H)
 have hji8w : (IntKind.i64.wrap (a - 1)) = j := (i64_w _).trans hji8
 by_cases I : 0 ≤ (j)
 rotate_left
 ·rw [if_neg I] at H
  exact nn_ H
 rw [if_pos I] at H
 have P := decide_eq_true I
 clear I
 by_cases v : (j) < (i.length : Int)
 rotate_left
 ·rw [if_neg v] at H
  exact nn_ H
 rw [if_pos v] at H
 have M := decide_eq_true v
 clear v
 by_cases s : (rd i (j)) ≥ (rd i a)
 rotate_left
 ·rw [if_neg s] at H
  have y := decide_eq_false s
  clear s
  have H' := Q_ H
  clear H
  have d : 0 ≤ (a : Int) := dt_
  have g : a < (i.length : Int) := dt_
  obtain ⟨n, o, b⟩ := Kd.at_int q.1 a d g
  cases o
  replace b := bt_ HB b
  replace d := eq_true d
  replace g := eq_true g
  have l : 0 ≤ ((j) : Int) := dt_
  have m : (j) < (i.length : Int) := dt_
  obtain ⟨p, t, c⟩ := Kd.at_int q.1 (j) l m
  obtain rfl : n = p := (by injection t)
  replace c := bt_ HB c
  replace l := eq_true l
  replace m := eq_true m
  go_wp2
  go_roundg k1
  case measure => have := u.1; omega
  case rel => exact ⟨(wrap64 (a + 1)), el_, H', ⟨by have := u.1; omega⟩, ⟨pb_ HB.1⟩⟩
 rw [if_pos s] at H
 have y := decide_eq_true s
 clear s
 obtain rfl := Option.some.inj H
 have d : 0 ≤ (a : Int) := dt_
 have g : a < (i.length : Int) := dt_
 obtain ⟨n, o, b⟩ := Kd.at_int q.1 a d g
 cases o
 replace b := bt_ HB b
 replace d := eq_true d
 replace g := eq_true g
 have l : 0 ≤ ((j) : Int) := dt_
 have m : (j) < (i.length : Int) := dt_
 obtain ⟨p, t, c⟩ := Kd.at_int q.1 (j) l m
 obtain rfl : n = p := (by injection t)
 replace c := bt_ HB c
 replace l := eq_true l
 replace m := eq_true m
 go_wp2
 go_ret
 exact ⟨by first | rfl | (simp [errW_none, errW_some] <;> rfl) | (simp only [← hji8]; first | rfl | (simp [errW_none, errW_some] <;> rfl)) | (simp [*, errW_none, errW_some] <;> rfl), pb_ HB.1⟩

/-! ### impl_IsReserved: function 63 -/
def impl_IsReserved.f (b : Int) : Option (Bool) := (impl_InRange.f b 0 255).bind fun a => (if a = true then (some ((Int.tmod b 16) == 10)) else (some false))
theorem impl_IsReserved.calls (b : Int) (r : Bool) (w : World) (h : impl_IsReserved.f b = some r) :
  Calls Try.prog 63 #[.int .i64 b] w fun e w' => e = .returned (.bool r) ∧ Drawn0 w w' := by
 have H : ((impl_InRange.f b 0 255).bind fun a => (if a = true then (some ((Int.tmod b 16) == 10)) else (some false))) = some r := h
 clear h
 obtain ⟨a, d, H⟩ := bs_ H
 (try dsimp only at H)
 by_cases c : a = true
 rotate_left
 ·replace c := bf_ c
  subst c
  rw [if_neg ff_] at H
  obtain rfl := Option.some.inj H
  go_enter Try.func63, Try.ntmps63
  go_wp2_with (first | ((with_reducible refine gate_callee (f := 46) rfl ?_); refine gl_ (some 4) Try.func46 #[.int .i64 b, .int .i64 0, .int .i64 255] ?_; (with_reducible refine (impl_InRange.calls b 0 255 false _ d.1).mono ?_); rintro e w' ⟨rfl, ⟨nd, rfl⟩⟩; refine ⟨_, rfl, ?_⟩))
  go_ret
  exact ⟨by first | rfl | (simp; done) | (simp [*]; done), by repeat (first | exact Drawn0.refl _ | apply Drawn0.step)⟩
 subst c
 rw [if_pos rfl] at H
 obtain rfl := Option.some.inj H
 go_enter Try.func63, Try.ntmps63
 go_wp2_with (first | ((with_reducible refine gate_callee (f := 46) rfl ?_); refine gl_ (some 4) Try.func46 #[.int .i64 b, .int .i64 0, .int .i64 255] ?_; (with_reducible refine (impl_InRange.calls b 0 255 true _ d.1).mono ?_); rintro e w' ⟨rfl, ⟨nd, rfl⟩⟩; refine ⟨_, rfl, ?_⟩))
 go_ret
 exact ⟨by first | rfl | (simp; done) | (simp [*]; done), by repeat (first | exact Drawn0.refl _ | apply Drawn0.step)⟩

/-! ### slices_IndexFunc_int_int_with_impl_IsReserved: function 100004 -/
def slices_IndexFunc_int_int_with_impl_IsReserved.l0 : Nat → List Int → Int → Int → Option (Int)
 | 0, _, _, _ => none
 | k + 1, c, d, a => if a < d then (if 0 ≤ a then (if a < (c.length : Int) then ((impl_IsReserved.f (rd c a)).bind fun b => (if b = true then (some a) else (slices_IndexFunc_int_int_with_impl_IsReserved.l0 k c d (wrap64 (a + 1))))) else (none)) else (none)) else (some (-1))
def slices_IndexFunc_int_int_with_impl_IsReserved.f (k : Nat) (a : List Int) : Option (Int) := slices_IndexFunc_int_int_with_impl_IsReserved.l0 k a (a.length : Int) 0
theorem slices_IndexFunc_int_int_with_impl_IsReserved.mono_l : ∀ k, (∀ a b c, LeO (slices_IndexFunc_int_int_with_impl_IsReserved.l0 k a b c) (slices_IndexFunc_int_int_with_impl_IsReserved.l0 (k + 1) a b c))
 | 0 => fun _ _ _ r h => by simp [slices_IndexFunc_int_int_with_impl_IsReserved.l0] at h
 | k + 1 => by
  have ih0 := slices_IndexFunc_int_int_with_impl_IsReserved.mono_l k
  ·intro a b c
   unfold slices_IndexFunc_int_int_with_impl_IsReserved.l0
   exact mo1_ ih0
theorem slices_IndexFunc_int_int_with_impl_IsReserved.mono : ∀ a k, LeO (slices_IndexFunc_int_int_with_impl_IsReserved.f k a) (slices_IndexFunc_int_int_with_impl_IsReserved.f (k + 1) a) := by
 intro a k
 have ih0 := slices_IndexFunc_int_int_with_impl_IsReserved.mono_l k
 unfold slices_IndexFunc_int_int_with_impl_IsReserved.f
 exact mo1_ ih0
theorem slices_IndexFunc_int_int_with_impl_IsReserved.calls (k : Nat) (v : Option Addr) (x : Nat) (b : List Int) (r : Int) (w : World) (hr0 : Kd.C (Kd.int .i64) w v b.length b) (n : b.length ≤ x) (h : slices_IndexFunc_int_int_with_impl_IsReserved.f k b = some r) :
  Calls Try.prog 76 #[.slice v b.length x, .func (.func 63) #[] #[]] w fun e w' => e = .returned (.int .i64 r) ∧ Drawn0 w w' := by
 have t := Q_ hr0
 have B := Q_ n
 clear hr0 n
 have H : (slices_IndexFunc_int_int_with_impl_IsReserved.l0 k b (b.length : Int) 0) = some r := h
 clear h
 have H' := Q_ H
 clear H
 go_enter Try.func76, Try.ntmps76
 go_wp2
 go_loopg [8] k (fun kq D w' => ∃ (a : Int), D = .int .i64 a ∧ Aside0 (slices_IndexFunc_int_int_with_impl_IsReserved.l0 kq b (b.length : Int) a = some r) ∧ Aside0 (kq ≤ k) ∧ Drawn0 w w')
 case atStart => exact ⟨(0), el_, H', ⟨Nat.le_refl _⟩, by repeat (first | exact Drawn0.refl _ | apply Drawn0.step)⟩
 clear H'
 obtain ⟨a, rfl, HA, j, ⟨m1, rfl⟩⟩ := hrel
 rcases gk with _ | k1
 ·exact absurd HA.1 (by simp [slices_IndexFunc_int_int_with_impl_IsReserved.l0])
 have H := HA.1
 clear HA
 simp only [slices_IndexFunc_int_int_with_impl_IsReserved.l0] at H
 by_cases i : a < (b.length : Int)
 rotate_left
 ·rw [if_neg i] at H
  have l := decide_eq_false i
  clear i
  obtain rfl := Option.some.inj H
  go_wp2
  go_ret
  exact ⟨by first | rfl | (simp; done) | (simp [*]; done), by repeat (first | exact Drawn0.refl _ | apply Drawn0.step)⟩
 rw [if_pos i] at H
 have l := decide_eq_true i
 clear i
 by_cases p : 0 ≤ a
 rotate_left
 ·rw [if_neg p] at H
  exact nn_ H
 rw [if_pos p] at H
 have y := decide_eq_true p
 clear p
 by_cases q : a < (b.length : Int)
 rotate_left
 ·rw [if_neg q] at H
  exact nn_ H
 rw [if_pos q] at H
 have z := decide_eq_true q
 clear q
 obtain ⟨g, A, H⟩ := bs_ H
 (try dsimp only at H)
 have HS_ := Q_ H
 clear H
 have c : 0 ≤ (a : Int) := dt_
 have d : a < (b.length : Int) := dt_
 obtain ⟨u, m, o⟩ := Kd.at_int t.1 a c d
 cases m
 replace c := eq_true c
 replace d := eq_true d
 go_upto_if 16 with (first | (go_at_call 63; (with_reducible refine (impl_IsReserved.calls (rd b a) g _ A.1).mono ?_); rintro e w' ⟨rfl, ⟨nd, rfl⟩⟩))
 (try simp only [Act.put, s1_, s2_, s3_])
 have H := HS_.1
 clear HS_
 by_cases s : g = true
 rotate_left
 ·replace s := bf_ s
  subst s
  rw [if_neg ff_] at H
  have H' := Q_ H
  clear H
  go_wp2
  go_roundg k1
  case measure => have := j.1; omega
  case rel => exact ⟨(wrap64 (a + 1)), el_, H', ⟨by have := j.1; omega⟩, by repeat (first | exact Drawn0.refl _ | apply Drawn0.step)⟩
 subst s
 rw [if_pos rfl] at H
 obtain rfl := Option.some.inj H
 go_wp2
 go_ret
 exact ⟨by first | rfl | (simp; done) | (simp [*]; done), by repeat (first | exact Drawn0.refl _ | apply Drawn0.step)⟩

/-! ### slices_ContainsFunc_int_int_with_impl_IsReserved: function 100003 -/
def slices_ContainsFunc_int_int_with_impl_IsReserved.f (k : Nat) (b : List Int) : Option (Bool) := (slices_IndexFunc_int_int_with_impl_IsReserved.f k b).bind fun a => (some (decide (a ≥ 0)))
theorem slices_ContainsFunc_int_int_with_impl_IsReserved.mono : ∀ a k, LeO (slices_ContainsFunc_int_int_with_impl_IsReserved.f k a) (slices_ContainsFunc_int_int_with_impl_IsReserved.f (k + 1) a) := by
 intro a k
 unfold slices_ContainsFunc_int_int_with_impl_IsReserved.f
 exact mo1_ slices_IndexFunc_int_int_with_impl_IsReserved.mono
theorem slices_ContainsFunc_int_int_with_impl_IsReserved.calls (k : Nat) (i : Option Addr) (j : Nat) (b : List Int) (r : Bool) (w : World) (hr0 : Kd.C (Kd.int .i64) w i b.length b) (c : b.length ≤ j) (h : slices_ContainsFunc_int_int_with_impl_IsReserved.f k b = some r) :
  Calls Try.prog 62 #[.slice i b.length j, .func (.func 63) #[] #[]] w fun e w' => e = .returned (.bool r) ∧ Below w.heap.size w w' := by
 have g := Q_ hr0
 have d := Q_ c
 clear hr0 c
 have HB := Q_ (Below.refl w.heap.size w)
 have H : ((slices_IndexFunc_int_int_with_impl_IsReserved.f k b).bind fun a => (some (decide (a ≥ 0)))) = some r := h
 clear h
 obtain ⟨a, l, H⟩ := bs_ H
 replace H : (some (decide (a ≥ 0))) = some r := H
 obtain rfl := Option.some.inj H
 go_enter Try.func62, Try.ntmps62
 go_wp2_with (first | (go_at_call 76; (with_reducible refine (slices_IndexFunc_int_int_with_impl_IsReserved.calls k _ _ b a _ (pc_ g.1) d.1 l.1).mono ?_); rintro e w' ⟨rfl, ⟨nd, rfl⟩⟩))
 go_ret
 exact ⟨er_, pb_ HB.1⟩

/-! ### impl_IsHardened: function 42 -/
def impl_IsHardened.f (k : Nat) (b : List Int) : Option (Bool) := (slices_ContainsFunc_int_int_with_impl_IsReserved.f k b).bind fun a => (some a)
theorem impl_IsHardened.mono : ∀ a k, LeO (impl_IsHardened.f k a) (impl_IsHardened.f (k + 1) a) := by
 intro a k
 unfold impl_IsHardened.f
 exact mo1_ slices_ContainsFunc_int_int_with_impl_IsReserved.mono
theorem impl_IsHardened.calls (k : Nat) (i : Option Addr) (j : Nat) (b : List Int) (r : Bool) (w : World) (hr0 : Kd.C (Kd.int .i64) w i b.length b) (c : b.length ≤ j) (h : impl_IsHardened.f k b = some r) :
  Calls Try.prog 42 #[.slice i b.length j] w fun e w' => e = .returned (.bool r) ∧ Below w.heap.size w w' := by
 have g := Q_ hr0
 have d := Q_ c
 clear hr0 c
 have HB := Q_ (Below.refl w.heap.size w)
 have H : ((slices_ContainsFunc_int_int_with_impl_IsReserved.f k b).bind fun a => (some a)) = some r := h
 clear h
 obtain ⟨a, l, H⟩ := bs_ H
 replace H : (some a) = some r := H
 obtain rfl := Option.some.inj H
 go_enter Try.func42, Try.ntmps42
 go_wp2_with (first | (go_at_call 62; (with_reducible refine (slices_ContainsFunc_int_int_with_impl_IsReserved.calls k _ _ b a _ (pc_ g.1) d.1 l.1).mono ?_); rintro e m ⟨rfl, hb⟩; have _ := Q_ (below_step (pb_ HB.1) hb); clear HB; rename_i HB; (try clear hb)))
 go_ret
 exact ⟨er_, pb_ HB.1⟩

/-! ### impl_IsBox: function 45 -/
def impl_IsBox.f (k : Nat) (c : Int) (a : List Int) (b : List Int) (h : Bool) : Option (Bool) := (impl_InRange.f c 0 9).bind fun d => (if d = true then (if (a.length : Int) ≤ 6 then (if (b.length : Int) ≤ 6 then ((impl_areNumbers.f k a 0 255).bind fun e => (if e = true then ((impl_areNumbers.f k b 0 255).bind fun g => (some g)) else (some false))) else (some false)) else (some false)) else (some false))
theorem impl_IsBox.mono : ∀ a b c d k, LeO (impl_IsBox.f k a b c d) (impl_IsBox.f (k + 1) a b c d) := by
 intro a b c d k
 unfold impl_IsBox.f
 exact mo1_ impl_areNumbers.mono
theorem impl_IsBox.calls (k : Nat) (b : Int) (l : Option Addr) (q : Nat) (d : List Int) (m : Option Addr) (s : Nat) (g : List Int) (p : Bool) (r : Bool) (w : World) (hr0_1 : Kd.C (Kd.int .i64) w l d.length d) (u : d.length ≤ q) (hr0_2 : Kd.C (Kd.int .i64) w m g.length g) (v : g.length ≤ s) (h : impl_IsBox.f k b d g p = some r) :
  Calls Try.prog 45 #[.agg #[.int .i64 b, .slice l d.length q, .slice m g.length s, .bool p]] w fun e w' => e = .returned (.bool r) ∧ Below w.heap.size w w' := by
 have hu59 := Try.underlying59
 have o := Q_ hr0_1
 have n := Q_ u
 clear hr0_1 u
 have D := Q_ hr0_2
 have B := Q_ v
 clear hr0_2 v
 have HB := Q_ (Below.refl w.heap.size w)
 have H : ((impl_InRange.f b 0 9).bind fun x => (if x = true then (if (d.length : Int) ≤ 6 then (if (g.length : Int) ≤ 6 then ((impl_areNumbers.f k d 0 255).bind fun y => (if y = true then ((impl_areNumbers.f k g 0 255).bind fun j => (some j)) else (some false))) else (some false)) else (some false)) else (some false))) = some r := h
 clear h
 have HS_ := Q_ H
 clear H
 go_enter Try.func45, Try.ntmps45
 go_upto_region 1 with (first | ((with_reducible refine gate_dst (N := 1) rfl ?_); (try (refine gate_guard (by rfl) ?_; dsimp only)); refine bx_ 1 #[.int .i64 b, .slice l d.length q, .slice m g.length s, .bool p] 59 ?_; intro O hg Y hbox hb; have _ := Q_ (below_step (pb_ HB.1) hb); have a := Q_ (hbox); have A := Q_ (gw_ (w := w) hg (pb_ HB.1)); have c := A; clear HB; rename_i HB; clear hb hbox hg))
 (try simp only [Act.put, s1_, s2_, s3_])
 have H := HS_.1
 clear HS_
 obtain ⟨x, I, H⟩ := bs_ H
 (try dsimp only at H)
 by_cases L : x = true
 rotate_left
 ·replace L := bf_ L
  subst L
  rw [if_neg ff_] at H
  obtain rfl := Option.some.inj H
  have S := bc4_ a.1
  go_wp2_with (first | ((with_reducible refine gate_callee (f := 46) rfl ?_); refine gl_ (some 5) Try.func46 #[.int .i64 b, .int .i64 0, .int .i64 9] ?_; (with_reducible refine (impl_InRange.calls b 0 9 false _ I.1).mono ?_); rintro e w' ⟨rfl, ⟨nd, rfl⟩⟩; refine ⟨_, rfl, ?_⟩))
  go_ret
  exact ⟨er_, pb1_ HB.1 c.1⟩
 subst L
 rw [if_pos rfl] at H
 by_cases E : (d.length : Int) ≤ 6
 rotate_left
 ·rw [if_neg E] at H
  have i := decide_eq_false E
  have t : decide (d.length ≤ 6) = false := decide_eq_false (by omega)
  clear E
  (first | rw [i] | (simp only [i64_w, i32_w]; rw [i]) | rw [t] | skip)
  obtain rfl := Option.some.inj H
  have T := bc4_ a.1
  go_wp2_with (first | ((with_reducible refine gate_callee (f := 46) rfl ?_); refine gl_ (some 5) Try.func46 #[.int .i64 b, .int .i64 0, .int .i64 9] ?_; (with_reducible refine (impl_InRange.calls b 0 9 true _ I.1).mono ?_); rintro e w' ⟨rfl, ⟨nd, rfl⟩⟩; refine ⟨_, rfl, ?_⟩))
  go_ret
  exact ⟨er_, pb1_ HB.1 c.1⟩
 rw [if_pos E] at H
 have i := decide_eq_true E
 have t : decide (d.length ≤ 6) = true := decide_eq_true (by omega)
 clear E
 (first | rw [i] | (simp only [i64_w, i32_w]; rw [i]) | rw [t] | skip)
 by_cases F : (g.length : Int) ≤ 6
 rotate_left
 ·rw [if_neg F] at H
  have J := decide_eq_false F
  have K : decide (g.length ≤ 6) = false := decide_eq_false (by omega)
  clear F
  obtain rfl := Option.some.inj H
  have U := bc4_ a.1
  go_wp2_with (first | ((with_reducible refine gate_callee (f := 46) rfl ?_); refine gl_ (some 5) Try.func46 #[.int .i64 b, .int .i64 0, .int .i64 9] ?_; (with_reducible refine (impl_InRange.calls b 0 9 true _ I.1).mono ?_); rintro e w' ⟨rfl, ⟨nd, rfl⟩⟩; refine ⟨_, rfl, ?_⟩))
  go_ret
  exact ⟨er_, pb1_ HB.1 c.1⟩
 rw [if_pos F] at H
 have J := decide_eq_true F
 have K : decide (g.length ≤ 6) = true := decide_eq_true (by omega)
 clear F
 obtain ⟨y, G, H⟩ := bs_ H
 (try dsimp only at H)
 by_cases z : y = true
 rotate_left
 ·replace z := bf_ z
  subst z
  rw [if_neg ff_] at H
  obtain rfl := Option.some.inj H
  have P := bc4_ a.1
  go_wp2_with (first | ((with_reducible refine gate_callee (f := 46) rfl ?_); refine gl_ (some 5) Try.func46 #[.int .i64 b, .int .i64 0, .int .i64 9] ?_; (with_reducible refine (impl_InRange.calls b 0 9 true _ I.1).mono ?_); rintro e w' ⟨rfl, ⟨nd, rfl⟩⟩; refine ⟨_, rfl, ?_⟩) | (go_at_call 61; (with_reducible refine (impl_areNumbers.calls k _ _ d 0 255 false _ ?side1 n.1 G.1).mono ?_); (case side1 => exact pc_ (Kd.C_below o.1 (pb1_ HB.1 c.1))); rintro e V ⟨rfl, hb⟩; have _ := Q_ (bb_ a.1 hb); have _ := Q_ (below_step (pb1_ HB.1 c.1) hb); clear a HB; rename_i a HB; (try clear hb)))
  go_ret
  exact ⟨er_, pb1_ HB.1 c.1⟩
 subst z
 rw [if_pos rfl] at H
 obtain ⟨j, M, H⟩ := bs_ H
 replace H : (some j) = some r := H
 obtain rfl := Option.some.inj H
 have Q := bc4_ a.1
 go_wp2_with (first | ((with_reducible refine gate_callee (f := 46) rfl ?_); refine gl_ (some 5) Try.func46 #[.int .i64 b, .int .i64 0, .int .i64 9] ?_; (with_reducible refine (impl_InRange.calls b 0 9 true _ I.1).mono ?_); rintro e w' ⟨rfl, ⟨nd, rfl⟩⟩; refine ⟨_, rfl, ?_⟩) | (go_at_call 61; (with_reducible refine (impl_areNumbers.calls k _ _ d 0 255 true _ ?side1 n.1 G.1).mono ?_); (case side1 => exact pc_ (Kd.C_below o.1 (pb1_ HB.1 c.1))); rintro e W ⟨rfl, hb⟩; have _ := Q_ (bb_ a.1 hb); have _ := Q_ (below_step (pb1_ HB.1 c.1) hb); clear a HB; rename_i a HB; (try clear hb); have R := bc4_ a.1) | (go_at_call 61; (with_reducible refine (impl_areNumbers.calls k _ _ g 0 255 j _ (cb_ D HB) B.1 M.1).mono ?_); rintro e X ⟨rfl, hb⟩; have _ := Q_ (bb_ a.1 hb); have _ := Q_ (below_step (pb1_ HB.1 c.1) hb); clear a HB; rename_i a HB; (try clear hb)))
 go_ret
 exact ⟨er_, pb1_ HB.1 c.1⟩

/-! ### impl_IsEndpoint_1: function 44 -/
def impl_IsEndpoint_1.f (k : Nat) (a : Int) (c : List Int) (d : List Int) (b : Bool) : Option (Bool) := (impl_IsBox.f k a c d b).bind fun e => (some (!e))
theorem impl_IsEndpoint_1.mono : ∀ a b c d k, LeO (impl_IsEndpoint_1.f k a b c d) (impl_IsEndpoint_1.f (k + 1) a b c d) := by
 intro a b c d k
 unfold impl_IsEndpoint_1.f
 exact mo1_ impl_IsBox.mono
theorem impl_IsEndpoint_1.calls (k : Nat) (c : Int) (i : Option Addr) (l : Nat) (a : List Int) (j : Option Addr) (m : Nat) (b : List Int) (d : Bool) (r : Bool) (w : World) (hr0_1 : Kd.C (Kd.int .i64) w i a.length a) (p : a.length ≤ l) (hr0_2 : Kd.C (Kd.int .i64) w j b.length b) (q : b.length ≤ m) (h : impl_IsEndpoint_1.f k c a b d = some r) :
  Calls Try.prog 44 #[.agg #[.int .i64 c, .slice i a.length l, .slice j b.length m, .bool d]] w fun e w' => e = .returned (.bool r) ∧ Below w.heap.size w w' := by
 have hu59 := Try.underlying59
 have v := Q_ hr0_1
 have t := Q_ p
 clear hr0_1 p
 have x := Q_ hr0_2
 have u := Q_ q
 clear hr0_2 q
 have HB := Q_ (Below.refl w.heap.size w)
 have H : ((impl_IsBox.f k c a b d).bind fun n => (some (!n))) = some r := h
 clear h
 obtain ⟨n, A, H⟩ := bs_ H
 replace H : (some (!n)) = some r := H
 obtain rfl := Option.some.inj H
 go_enter Try.func44, Try.ntmps44
 go_wp2_with (first | ((with_reducible refine gate_dst (N := 1) rfl ?_); refine bx_ 1 #[.int .i64 c, .slice i a.length l, .slice j b.length m, .bool d] 59 ?_; intro y hg B hbox hb; have _ := Q_ (below_step (pb_ HB.1) hb); have g := Q_ (hbox); have s := Q_ (gw_ (w := w) hg (pb_ HB.1)); have o := s; clear HB; rename_i HB; clear hb hbox hg; have z := bc4_ g.1) | ((with_reducible refine gate_callee (f := 45) rfl ?_); refine gl_ (some 4) Try.func45 #[.agg #[.int .i64 c, .slice i a.length l, .slice j b.length m, .bool d]] ?_; (with_reducible refine (impl_IsBox.calls k c _ _ a _ _ b d n _ (cb_ v HB) t.1 (cb_ x HB) u.1 A.1).mono ?_); rintro e D ⟨rfl, hb⟩; refine ⟨_, rfl, ?_⟩; have _ := Q_ (bb_ g.1 hb); have _ := Q_ (below_step (pb1_ HB.1 o.1) hb); clear g HB; rename_i g HB; (try clear hb)))
 go_ret
 exact ⟨er_, pb1_ HB.1 o.1⟩

/-! ### slices_IndexFunc_impl_Box_impl_Box_with_impl_IsEndpoint_1: function 100006 -/
def slices_IndexFunc_impl_Box_impl_Box_with_impl_IsEndpoint_1.l0 : Nat → List (S59) → Int → Int → Option (Int)
 | 0, _, _, _ => none
 | k + 1, b, d, a => if a < d then (if 0 ≤ a then (if a < (b.length : Int) then ((impl_IsEndpoint_1.f k ((rd_T59 b a).f0) ((rd_T59 b a).f1) ((rd_T59 b a).f2) ((rd_T59 b a).f3)).bind fun c => (if c = true then (some a) else (slices_IndexFunc_impl_Box_impl_Box_with_impl_IsEndpoint_1.l0 k b d (wrap64 (a + 1))))) else (none)) else (none)) else (some (-1))
def slices_IndexFunc_impl_Box_impl_Box_with_impl_IsEndpoint_1.f (k : Nat) (a : List (S59)) : Option (Int) := slices_IndexFunc_impl_Box_impl_Box_with_impl_IsEndpoint_1.l0 k a (a.length : Int) 0
theorem slices_IndexFunc_impl_Box_impl_Box_with_impl_IsEndpoint_1.mono_l : ∀ k, (∀ a b c, LeO (slices_IndexFunc_impl_Box_impl_Box_with_impl_IsEndpoint_1.l0 k a b c) (slices_IndexFunc_impl_Box_impl_Box_with_impl_IsEndpoint_1.l0 (k + 1) a b c))
 | 0 => fun _ _ _ r h => by simp [slices_IndexFunc_impl_Box_impl_Box_with_impl_IsEndpoint_1.l0] at h
 | k + 1 => by
  have ih0 := slices_IndexFunc_impl_Box_impl_Box_with_impl_IsEndpoint_1.mono_l k
  ·intro a b c
   unfold slices_IndexFunc_impl_Box_impl_Box_with_impl_IsEndpoint_1.l0
   exact mo2_ ih0 impl_IsEndpoint_1.mono
theorem slices_IndexFunc_impl_Box_impl_Box_with_impl_IsEndpoint_1.mono : ∀ a k, LeO (slices_IndexFunc_impl_Box_impl_Box_with_impl_IsEndpoint_1.f k a) (slices_IndexFunc_impl_Box_impl_Box_with_impl_IsEndpoint_1.f (k + 1) a) := by
 intro a k
 have ih0 := slices_IndexFunc_impl_Box_impl_Box_with_impl_IsEndpoint_1.mono_l k
 unfold slices_IndexFunc_impl_Box_impl_Box_with_impl_IsEndpoint_1.f
 exact mo2_ ih0 impl_IsEndpoint_1.mono
theorem slices_IndexFunc_impl_Box_impl_Box_with_impl_IsEndpoint_1.calls (k : Nat) (J : Option Addr) (K : Nat) (i : List (S59)) (r : Int) (w : World) (hr0 : Kd.C k59 w J i.length i) (x : i.length ≤ K) (h : slices_IndexFunc_impl_Box_impl_Box_with_impl_IsEndpoint_1.f k i = some r) :
  Calls Try.prog 64 #[.slice J i.length K, .func (.func 44) #[] #[]] w fun e w' => e = .returned (.int .i64 r) ∧ Below w.heap.size w w' := by
 have hu59 := Try.underlying59
 have G := Q_ hr0
 have O := Q_ x
 clear hr0 x
 have HB := Q_ (Below.refl w.heap.size w)
 have H : (slices_IndexFunc_impl_Box_impl_Box_with_impl_IsEndpoint_1.l0 k i (i.length : Int) 0) = some r := h
 clear h
 have H' := Q_ H
 clear H
 go_enter Try.func64, Try.ntmps64
 go_wp2
 go_loopg [8] k (fun kq P w' => ∃ (a : Int), P = .int .i64 a ∧ Aside0 (slices_IndexFunc_impl_Box_impl_Box_with_impl_IsEndpoint_1.l0 kq i (i.length : Int) a = some r) ∧ Aside0 (kq ≤ k) ∧ Aside0 (Below w.heap.size w w'))
 case atStart => exact ⟨(0), el_, H', ⟨Nat.le_refl _⟩, ⟨pb_ HB.1⟩⟩
 clear H'
 obtain ⟨a, rfl, HA, t, HB⟩ := hrel
 rcases gk with _ | k1
 ·exact absurd HA.1 (by simp [slices_IndexFunc_impl_Box_impl_Box_with_impl_IsEndpoint_1.l0])
 have H := HA.1
 clear HA
 simp only [slices_IndexFunc_impl_Box_impl_Box_with_impl_IsEndpoint_1.l0] at H
 by_cases s : a < (i.length : Int)
 rotate_left
 ·rw [if_neg s] at H
  have u := decide_eq_false s
  clear s
  obtain rfl := Option.some.inj H
  go_wp2
  go_ret
  exact ⟨er_, pb_ HB.1⟩
 rw [if_pos s] at H
 have u := decide_eq_true s
 clear s
 by_cases A : 0 ≤ a
 rotate_left
 ·rw [if_neg A] at H
  exact nn_ H
 rw [if_pos A] at H
 have L := decide_eq_true A
 clear A
 by_cases E : a < (i.length : Int)
 rotate_left
 ·rw [if_neg E] at H
  exact nn_ H
 rw [if_pos E] at H
 have M := decide_eq_true E
 clear E
 obtain ⟨q, N, H⟩ := bs_ H
 (try dsimp only at H)
 have HS_ := Q_ H
 clear H
 have o : 0 ≤ (a : Int) := dt_
 have p : a < (i.length : Int) := dt_
 obtain ⟨I, y, B, z, D, v, b, c, d, g, j, m, l, n⟩ := at_U59 G.1 a o p
 cases v
 replace b := bt_ HB b
 replace c := bt_ HB c
 replace d := bt_ HB d
 replace g := bt_ HB g
 replace o := eq_true o
 replace p := eq_true p
 go_upto_if 16 with (first | (go_at_call 44; (with_reducible refine (impl_IsEndpoint_1.calls k1 ((rd_T59 i a).f0) _ _ ((rd_T59 i a).f1) _ _ ((rd_T59 i a).f2) ((rd_T59 i a).f3) q _ (cb_ m HB) j.1 (cb_ n HB) l.1 N.1).mono ?_); rintro e Q ⟨rfl, hb⟩; have _ := Q_ (below_step (pb_ HB.1) hb); clear HB; rename_i HB; (try clear hb)))
 (try simp only [Act.put, s1_, s2_, s3_])
 have H := HS_.1
 clear HS_
 by_cases F : q = true
 rotate_left
 ·replace F := bf_ F
  subst F
  rw [if_neg ff_] at H
  have H' := Q_ H
  clear H
  go_wp2
  go_roundg k1
  case measure => have := t.1; omega
  case rel => exact ⟨(wrap64 (a + 1)), el_, H', ⟨by have := t.1; omega⟩, ⟨pb_ HB.1⟩⟩
 subst F
 rw [if_pos rfl] at H
 obtain rfl := Option.some.inj H
 go_wp2
 go_ret
 exact ⟨er_, pb_ HB.1⟩

end Go.Proofs.Ytibmehnippjakaa.Print
