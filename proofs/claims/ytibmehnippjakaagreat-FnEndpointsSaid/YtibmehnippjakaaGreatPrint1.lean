-- Written by a program of this session (printx.py) out of the translation; Lean checks it.
import Derived.Test.YtibmehnippjakaaGreatPrint0
namespace Go.Proofs.YtibmehnippjakaaGreat.Print
open Go.RowKit Go.Proofs.YtibmehnippjakaaGreatW.PrintWords Go.Proofs.YtibmehnippjakaaGreatW.PrintLast Go.Proofs.YtibmehnippjakaaGreatW.PrintMore Go.Proofs.YtibmehnippjakaaGreat.Short
attribute [local go_sem] F8 Fq G5 G6 FA FH F5 Fp
set_option linter.unusedVariables false
set_option maxHeartbeats 8000000
set_option maxRecDepth 100000
set_option linter.unusedSimpArgs false
def Cb.f (a : Int) (b : Int) (c : Int) : Option (Bool) := if b ≤ a then (some (decide (a ≤ c))) else (some false)
theorem Cb.calls (b : Int) (d : Int) (g : Int) (r : Bool) (w : World) (h : Cb.f b d g = some r) :
  Calls Tryz.prog 53 #[.int .i64 b, .int .i64 d, .int .i64 g] w fun e w' => e = .returned (.bool r) ∧ C' w w' := by
 unfold Cb.f at h
 have H := h
 clear h
 by_cases a : d ≤ b
 rotate_left
 ·rw [if_neg a] at H
  have c := decide_eq_false a
  clear a
  obtain rfl := Option.some.inj H
  go_enter Tryz.func53, Tryz.ntmps53
  go_wp2
  go_ret
  exact ⟨by first | rfl | (simp; done) | (simp [*]; done), by repeat (first | exact C'.refl _ | apply C'.step)⟩
 rw [if_pos a] at H
 have c := decide_eq_true a
 clear a
 obtain rfl := Option.some.inj H
 go_enter Tryz.func53, Tryz.ntmps53
 go_wp2
 go_ret
 exact ⟨by first | rfl | (simp; done) | (simp [*]; done), by repeat (first | exact C'.refl _ | apply C'.step)⟩
def Ah.l0 : Nat → List Int → List Int → Int → Int → Option (Bool)
 | 0, _, _, _, _ => none
 | k + 1, c, d, e, a => if a < e then (if 0 ≤ a then (if a < (d.length : Int) then ((Cb.f (rd d a) 1 9).bind fun b => (if b = true then (if a > 0 then (if 0 ≤ (wrap64 (a - 1)) then (if (wrap64 (a - 1)) < (c.length : Int) then (if (rd c (wrap64 (a - 1))) ≥ (rd d a) then (some false) else (Ah.l0 k c d e (wrap64 (a + 1)))) else (none)) else (none)) else (Ah.l0 k c d e (wrap64 (a + 1)))) else (some false))) else (none)) else (none)) else (some (decide ((c.length : Int) > 0)))
def Ah.f (k : Nat) (a : List Int) : Option (Bool) := Ah.l0 k a a (a.length : Int) 0
theorem Ah.mono_l : ∀ k, (∀ a b c d, LeO (Ah.l0 k a b c d) (Ah.l0 (k + 1) a b c d))
 | 0 => fun _ _ _ _ r h => by simp [Ah.l0] at h
 | k + 1 => by
  have ih0 := Ah.mono_l k
  ·intro a b c d
   unfold Ah.l0
   exact G7 ih0
theorem Ah.mono : ∀ a k, LeO (Ah.f k a) (Ah.f (k + 1) a) := by
 intro a k
 have ih0 := Ah.mono_l k
 unfold Ah.f
 exact G7 ih0
theorem Ah.calls (k : Nat) (M : Option Addr) (N : Nat) (d : List Int) (r : Bool) (w : World) (hr0 : Kd.C (Kd.int .i64) w M d.length d) (B : d.length ≤ N) (h : Ah.f k d = some r) :
  Calls Tryz.prog 47 #[.slice M d.length N] w fun e w' => e = .returned (.bool r) ∧ C' w w' := by
 have s := Q_ hr0
 have R := Q_ B
 clear hr0 B
 unfold Ah.f at h
 have H := h
 clear h
 have H' := Q_ H
 clear H
 go_enter Tryz.func47, Tryz.ntmps47
 go_wp2
 go_loopg [7] k (fun kq S w' => ∃ (a : Int), S = .int .i64 a ∧ Aside0 (Ah.l0 kq d d (d.length : Int) a = some r) ∧ Aside0 (kq ≤ k) ∧ C' w w')
 case atStart => exact ⟨(0), el_, H', ⟨Nat.le_refl _⟩, by repeat (first | exact C'.refl _ | apply C'.step)⟩
 clear H'
 obtain ⟨a, rfl, HA, q, ⟨m1, rfl⟩⟩ := hrel
 rcases gk with _ | k1
 ·exact absurd HA.1 (by simp [Ah.l0])
 have H := HA.1
 clear HA
 simp only [Ah.l0] at H
 by_cases v : a < (d.length : Int)
 rotate_left
 ·rw [if_neg v] at H
  have y := decide_eq_false v
  clear v
  obtain rfl := Option.some.inj H
  go_wp2
  go_ret
  exact ⟨by first | rfl | (simp; done) | (simp [*]; done), by repeat (first | exact C'.refl _ | apply C'.step)⟩
 rw [if_pos v] at H
 have y := decide_eq_true v
 clear v
 by_cases G : 0 ≤ a
 rotate_left
 ·rw [if_neg G] at H
  exact nn_ H
 rw [if_pos G] at H
 have O := decide_eq_true G
 clear G
 by_cases I : a < (d.length : Int)
 rotate_left
 ·rw [if_neg I] at H
  exact nn_ H
 rw [if_pos I] at H
 have P := decide_eq_true I
 clear I
 obtain ⟨E, F, H⟩ := bs_ H
 (try dsimp only at H)
 by_cases J : E = true
 rotate_left
 ·replace J := bf_ J
  subst J
  rw [if_neg ff_] at H
  obtain rfl := Option.some.inj H
  have b : 0 ≤ (a : Int) := dt_
  have c : a < (d.length : Int) := dt_
  obtain ⟨m, j, l⟩ := Kd.GG s.1 a b c
  cases j
  replace b := eq_true b
  replace c := eq_true c
  go_wp2_with (first | (refine gk_ 53 13 Tryz.func53 #[.int .i64 (rd d a), .int .i64 1, .int .i64 9] ?_; (with_reducible refine (Cb.calls (rd d a) 1 9 false _ F.1).mono ?_); rintro e w' ⟨rfl, ⟨nd, rfl⟩⟩; refine ⟨_, rfl, ?_⟩))
  go_ret
  exact ⟨by first | rfl | (simp; done) | (simp [*]; done), by repeat (first | exact C'.refl _ | apply C'.step)⟩
 subst J
 rw [if_pos rfl] at H
 by_cases x : a > 0
 rotate_left
 ·rw [if_neg x] at H
  have z := decide_eq_false x
  clear x
  have H' := Q_ H
  clear H
  have b : 0 ≤ (a : Int) := dt_
  have c : a < (d.length : Int) := dt_
  obtain ⟨m, j, l⟩ := Kd.GG s.1 a b c
  cases j
  replace b := eq_true b
  replace c := eq_true c
  go_wp2_with (first | (refine gk_ 53 13 Tryz.func53 #[.int .i64 (rd d a), .int .i64 1, .int .i64 9] ?_; (with_reducible refine (Cb.calls (rd d a) 1 9 true _ F.1).mono ?_); rintro e w' ⟨rfl, ⟨nd, rfl⟩⟩; refine ⟨_, rfl, ?_⟩))
  go_roundg k1
  case measure => have := q.1; omega
  case rel => exact ⟨(wrap64 (a + 1)), el_, H', ⟨by have := q.1; omega⟩, by repeat (first | exact C'.refl _ | apply C'.step)⟩
 rw [if_pos x] at H
 have z := decide_eq_true x
 clear x
 obtain ⟨i, hji8⟩ : ∃ j_ : Int, (wrap64 (a - 1)) = j_ := ⟨_, rfl⟩
 replace H : (if 0 ≤ (i) then (if (i) < (d.length : Int) then (if (rd d (i)) ≥ (rd d a) then (some false) else (Ah.l0 k1 d d (d.length : Int) (wrap64 (a + 1)))) else (none)) else (none)) = some r := by first | (rw [hji8] at H; exact H) | (simp only [hji8] at H ⊢; exact H)
 (try rw [hji8] at F)
 have hji8w : (IntKind.i64.wrap (a - 1)) = i := (E4 _).trans hji8
 by_cases K : 0 ≤ (i)
 rotate_left
 ·rw [if_neg K] at H
  exact nn_ H
 rw [if_pos K] at H
 have Q := decide_eq_true K
 clear K
 by_cases t : (i) < (d.length : Int)
 rotate_left
 ·rw [if_neg t] at H
  exact nn_ H
 rw [if_pos t] at H
 have L := decide_eq_true t
 clear t
 have HS_ := Q_ H
 clear H
 have b : 0 ≤ (a : Int) := dt_
 have c : a < (d.length : Int) := dt_
 obtain ⟨m, j, l⟩ := Kd.GG s.1 a b c
 cases j
 replace b := eq_true b
 replace c := eq_true c
 go_upto_if 27 with (first | (refine gk_ 53 13 Tryz.func53 #[.int .i64 (rd d a), .int .i64 1, .int .i64 9] ?_; (with_reducible refine (Cb.calls (rd d a) 1 9 true _ F.1).mono ?_); rintro e w' ⟨rfl, ⟨nd, rfl⟩⟩; refine ⟨_, rfl, ?_⟩; have o : 0 ≤ ((i) : Int) := dt_; have p : (i) < (d.length : Int) := dt_; obtain ⟨u, A, D⟩ := Kd.GG s.1 (i) o p; obtain rfl : m = u := (by injection A); replace o := eq_true o; replace p := eq_true p))
 (try simp only [Act.put, s1_, s2_, s3_])
 have H := HS_.1
 clear HS_
 by_cases n : (rd d (i)) ≥ (rd d a)
 rotate_left
 ·rw [if_neg n] at H
  have g := decide_eq_false n
  clear n
  (first | rw [g] | (simp only [E4, E']; rw [g]) | skip)
  have H' := Q_ H
  clear H
  go_wp2
  go_roundg k1
  case measure => have := q.1; omega
  case rel => exact ⟨(wrap64 (a + 1)), el_, H', ⟨by have := q.1; omega⟩, by repeat (first | exact C'.refl _ | apply C'.step)⟩
 rw [if_pos n] at H
 have g := decide_eq_true n
 clear n
 (first | rw [g] | (simp only [E4, E']; rw [g]) | skip)
 obtain rfl := Option.some.inj H
 go_wp2
 go_ret
 exact ⟨by first | rfl | (simp; done) | (simp only [← hji8] <;> (first | rfl | simp)) | (simp [*]; done), by repeat (first | exact C'.refl _ | apply C'.step)⟩
def HE.f (d : Int) (a : Int) (b : Int) : Option (Bool) := (Cb.f d a b).bind fun c => (some (!c))
theorem HE.calls (k : Int) (B1 : Nat) (a : Int) (B2 : Nat) (b : Int) (r : Bool) (w : World) (hbv1 : w.heap[B1]? = some (.cells #[.int .i64 a] 3 (0, 0))) (hbv2 : w.heap[B2]? = some (.cells #[.int .i64 b] 3 (0, 0))) (hnv1_2 : B1 ≠ B2) (h : HE.f k a b = some r) :
  Calls Tryz.prog 118 #[.int .i64 k, .pointer (some ⟨B1, 0, none⟩), .pointer (some ⟨B2, 0, none⟩)] w fun e w' => e = .returned (.bool r) ∧ C' w w' := by
 have i := Q_ hbv1
 clear hbv1
 have j := Q_ hbv2
 clear hbv2
 have d := Q_ hnv1_2
 have g := Q_ (Ne.symm hnv1_2)
 clear hnv1_2
 unfold HE.f at h
 have H := h
 clear h
 obtain ⟨c, s, H⟩ := bs_ H
 replace H : (some (!c)) = some r := H
 obtain rfl := Option.some.inj H
 have p := d.1
 have q := g.1
 have l : w.cell? ⟨B1, 0, none⟩ = some (.int .i64 a) := (BM i.1 0).trans rfl
 have n := DI i.1 0
 have m : w.cell? ⟨B2, 0, none⟩ = some (.int .i64 b) := (BM j.1 0).trans rfl
 have o := DI j.1 0
 go_enter Tryz.func118, Tryz.ntmps118
 go_wp2_with (first | (refine gk_ 53 8 Tryz.func53 #[.int .i64 k, .int .i64 a, .int .i64 b] ?_; (with_reducible refine (Cb.calls k a b c _ s.1).mono ?_); rintro e w' ⟨rfl, ⟨nd, rfl⟩⟩; refine ⟨_, rfl, ?_⟩))
 go_ret
 exact ⟨by first | rfl | (simp; done) | (simp [*]; done), by repeat (first | exact C'.refl _ | apply C'.step)⟩
def AK.l0 : Nat → List Int → Int → Int → Int → Int → Option (Int)
 | 0, _, _, _, _, _ => none
 | k + 1, e, g, c, a, b => if c < g then (if 0 ≤ c then (if c < (e.length : Int) then ((HE.f (rd e c) a b).bind fun d => (if d = true then (some c) else (AK.l0 k e g (wrap64 (c + 1)) a b))) else (none)) else (none)) else (some (-1))
def AK.f (k : Nat) (c : List Int) (a : Int) (b : Int) : Option (Int) := AK.l0 k c (c.length : Int) 0 a b
theorem AK.mono_l : ∀ k, (∀ a b c d e, LeO (AK.l0 k a b c d e) (AK.l0 (k + 1) a b c d e))
 | 0 => fun _ _ _ _ _ r h => by simp [AK.l0] at h
 | k + 1 => by
  have ih0 := AK.mono_l k
  ·intro a b c d e
   unfold AK.l0
   exact G7 ih0
theorem AK.mono : ∀ a b c k, LeO (AK.f k a b c) (AK.f (k + 1) a b c) := by
 intro a b c k
 have ih0 := AK.mono_l k
 unfold AK.f
 exact G7 ih0
theorem AK.calls (k : Nat) (D : Option Addr) (E : Nat) (g : List Int) (B1 : Nat) (b : Int) (B2 : Nat) (c : Int) (r : Int) (w : World) (hr0 : Kd.C (Kd.int .i64) w D g.length g) (u : g.length ≤ E) (hbv1 : w.heap[B1]? = some (.cells #[.int .i64 b] 3 (0, 0))) (hbv2 : w.heap[B2]? = some (.cells #[.int .i64 c] 3 (0, 0))) (hnv1_2 : B1 ≠ B2) (h : AK.f k g b c = some r) :
  Calls Tryz.prog 119 #[.slice D g.length E, .func (.func 118) #[] #[.pointer (some ⟨B1, 0, none⟩), .pointer (some ⟨B2, 0, none⟩)]] w fun e w' => e = .returned (.int .i64 r) ∧ Below w.heap.size w w' := by
 have z := Q_ hr0
 have J := Q_ u
 clear hr0 u
 have l := Q_ hbv1
 clear hbv1
 have m := Q_ hbv2
 clear hbv2
 have o := Q_ hnv1_2
 have A := Q_ (Ne.symm hnv1_2)
 clear hnv1_2
 have HB := Q_ (Below.refl w.heap.size w)
 unfold AK.f at h
 have H := h
 clear h
 have H' := Q_ H
 clear H
 go_enter Tryz.func119, Tryz.ntmps119
 go_wp2
 go_loopg [8] k (fun kq K w' => ∃ (a : Int), K = .int .i64 a ∧ Aside0 (AK.l0 kq g (g.length : Int) a b c = some r) ∧ Aside0 (kq ≤ k) ∧ Aside0 (w'.heap[B1]? = some (.cells #[.int .i64 b] 3 (0, 0))) ∧ Aside0 (w'.heap[B2]? = some (.cells #[.int .i64 c] 3 (0, 0))) ∧ Aside0 (Below w.heap.size w w'))
 case atStart => exact ⟨(0), el_, H', ⟨Nat.le_refl _⟩, ⟨pk_ l.1⟩, ⟨pk_ m.1⟩, ⟨pb_ HB.1⟩⟩
 clear H'
 obtain ⟨a, rfl, HA, q, l, m, HB⟩ := hrel
 rcases gk with _ | k1
 ·exact absurd HA.1 (by simp [AK.l0])
 have H := HA.1
 clear HA
 simp only [AK.l0] at H
 by_cases p : a < (g.length : Int)
 rotate_left
 ·rw [if_neg p] at H
  have s := decide_eq_false p
  clear p
  obtain rfl := Option.some.inj H
  go_wp2
  go_ret
  exact ⟨er_, pb_ HB.1⟩
 rw [if_pos p] at H
 have s := decide_eq_true p
 clear p
 by_cases v : 0 ≤ a
 rotate_left
 ·rw [if_neg v] at H
  exact nn_ H
 rw [if_pos v] at H
 have F := decide_eq_true v
 clear v
 by_cases x : a < (g.length : Int)
 rotate_left
 ·rw [if_neg x] at H
  exact nn_ H
 rw [if_pos x] at H
 have G := decide_eq_true x
 clear x
 obtain ⟨n, I, H⟩ := bs_ H
 (try dsimp only at H)
 have HS_ := Q_ H
 clear H
 have i : 0 ≤ (a : Int) := dt_
 have j : a < (g.length : Int) := dt_
 obtain ⟨B, t, d⟩ := Kd.GG z.1 a i j
 cases t
 replace d := bt_ HB d
 replace i := eq_true i
 replace j := eq_true j
 go_upto_if 16 with (first | (go_at_call 118; (with_reducible refine (HE.calls (rd g a) _ b _ c n _ ?side1 ?side2 o.1 I.1).mono ?_); (case side1 => exact pk_ l.1); (case side2 => exact pk_ m.1); rintro e w' ⟨rfl, ⟨nd, rfl⟩⟩))
 (try simp only [Act.put, s1_, s2_, s3_])
 have H := HS_.1
 clear HS_
 by_cases y : n = true
 rotate_left
 ·replace y := bf_ y
  subst y
  rw [if_neg ff_] at H
  have H' := Q_ H
  clear H
  go_wp2
  go_roundg k1
  case measure => have := q.1; omega
  case rel => exact ⟨(wrap64 (a + 1)), el_, H', ⟨by have := q.1; omega⟩, ⟨pk_ l.1⟩, ⟨pk_ m.1⟩, ⟨pb_ HB.1⟩⟩
 subst y
 rw [if_pos rfl] at H
 obtain rfl := Option.some.inj H
 go_wp2
 go_ret
 exact ⟨er_, pb_ HB.1⟩
def Ao.f (k : Nat) (d : List Int) (a : Int) (b : Int) : Option (Bool) := (AK.f k d a b).bind fun c => (some (decide (c ≥ 0)))
theorem Ao.mono : ∀ a b c k, LeO (Ao.f k a b c) (Ao.f (k + 1) a b c) := by
 intro a b c k
 unfold Ao.f
 exact G7 AK.mono
theorem Ao.calls (k : Nat) (p : Option Addr) (q : Nat) (j : List Int) (B1 : Nat) (a : Int) (B2 : Nat) (b : Int) (r : Bool) (w : World) (hr0 : Kd.C (Kd.int .i64) w p j.length j) (l : j.length ≤ q) (hbv1 : w.heap[B1]? = some (.cells #[.int .i64 a] 3 (0, 0))) (hbv2 : w.heap[B2]? = some (.cells #[.int .i64 b] 3 (0, 0))) (hnv1_2 : B1 ≠ B2) (h : Ao.f k j a b = some r) :
  Calls Tryz.prog 80 #[.slice p j.length q, .func (.func 118) #[] #[.pointer (some ⟨B1, 0, none⟩), .pointer (some ⟨B2, 0, none⟩)]] w fun e w' => e = .returned (.bool r) ∧ Below w.heap.size w w' := by
 have n := Q_ hr0
 have m := Q_ l
 clear hr0 l
 have d := Q_ hbv1
 clear hbv1
 have g := Q_ hbv2
 clear hbv2
 have i := Q_ hnv1_2
 have o := Q_ (Ne.symm hnv1_2)
 clear hnv1_2
 have HB := Q_ (Below.refl w.heap.size w)
 unfold Ao.f at h
 have H := h
 clear h
 obtain ⟨c, s, H⟩ := bs_ H
 replace H : (some (decide (c ≥ 0))) = some r := H
 obtain rfl := Option.some.inj H
 go_enter Tryz.func80, Tryz.ntmps80
 go_wp2_with (first | (go_at_call 119; (with_reducible refine (AK.calls k _ _ j _ a _ b c _ (pc_ n.1) m.1 ?side3 ?side4 i.1 s.1).mono ?_); (case side3 => exact pk_ d.1); (case side4 => exact pk_ g.1); rintro e t ⟨rfl, hb⟩; have _ := Q_ (bb_ d.1 hb); have _ := Q_ (bb_ g.1 hb); have _ := Q_ (AD (pb_ HB.1) hb); clear d g HB; rename_i d g HB; (try clear hb)))
 go_ret
 exact ⟨er_, pb_ HB.1⟩
def Bn.f (k : Nat) (d : List Int) (b : Int) (c : Int) : Option (Bool) := (Ao.f k d b c).bind fun a => (some (!a))
theorem Bn.mono : ∀ a b c k, LeO (Bn.f k a b c) (Bn.f (k + 1) a b c) := by
 intro a b c k
 unfold Bn.f
 exact G7 Ao.mono
theorem Bn.calls (k : Nat) (x : Option Addr) (y : Nat) (n : List Int) (o : Int) (p : Int) (r : Bool) (w : World) (hr0 : Kd.C (Kd.int .i64) w x n.length n) (q : n.length ≤ y) (h : Bn.f k n o p = some r) :
  Calls Tryz.prog 79 #[.slice x n.length y, .int .i64 o, .int .i64 p] w fun e w' => e = .returned (.bool r) ∧ Below w.heap.size w w' := by
 have t := Q_ hr0
 have s := Q_ q
 clear hr0 q
 have HB := Q_ (Below.refl w.heap.size w)
 unfold Bn.f at h
 have H := h
 clear h
 obtain ⟨g, z, H⟩ := bs_ H
 replace H : (some (!g)) = some r := H
 obtain rfl := Option.some.inj H
 go_enter Tryz.func79, Tryz.ntmps79
 go_wp2_with (first | (refine bg_ 4 #[.int .i64 o] 3 ?_; intro u hg A hbox hb; have _ := Q_ (AD (pb_ HB.1) hb); have a := Q_ (hbox); have j := Q_ (gw_ (w := w) hg (pb_ HB.1)); have d := j; clear HB; rename_i HB; clear hb hbox hg) | (refine bg_ 5 #[.int .i64 p] 3 ?_; intro v hg B hbox hb; have _ := Q_ (bb_ a.1 hb); have _ := Q_ (AD (CM HB.1 d.1) hb); have c := Q_ (hbox); have l := Q_ (gw_ (w := w) hg (CM HB.1 d.1)); have i := l; have b := Q_ (nb_ hg a); have m := Q_ b.1.symm; clear a HB; rename_i a HB; clear hb hbox hg) | (go_at_call 80; (with_reducible refine (Ao.calls k _ _ n _ o _ p g _ (cb_ t HB) s.1 ?side3 ?side4 b.1 z.1).mono ?_); (case side3 => exact pk_ a.1); (case side4 => exact pk_ c.1); rintro e D ⟨rfl, hb⟩; have _ := Q_ (bb_ a.1 hb); have _ := Q_ (bb_ c.1 hb); have _ := Q_ (AD (Dw HB.1 d.1 i.1) hb); clear a c HB; rename_i a c HB; (try clear hb)))
 go_ret
 exact ⟨er_, Dw HB.1 d.1 i.1⟩
def Bm.l0 : Nat → List Int → List Int → Int → Int → Option (Bool)
 | 0, _, _, _, _ => none
 | k + 1, c, d, e, a => if a < e then (if 0 ≤ a then (if a < (d.length : Int) then (if a > 0 then (if 0 ≤ (wrap64 (a - 1)) then (if (wrap64 (a - 1)) < (c.length : Int) then (if (rd c (wrap64 (a - 1))) ≥ (rd d a) then (some false) else (Bm.l0 k c d e (wrap64 (a + 1)))) else (none)) else (none)) else (Bm.l0 k c d e (wrap64 (a + 1)))) else (none)) else (none)) else ((Bn.f k c 0 255).bind fun b => (some b))
def Bm.f (k : Nat) (a : List Int) : Option (Bool) := Bm.l0 k a a (a.length : Int) 0
theorem Bm.mono_l : ∀ k, (∀ a b c d, LeO (Bm.l0 k a b c d) (Bm.l0 (k + 1) a b c d))
 | 0 => fun _ _ _ _ r h => by simp [Bm.l0] at h
 | k + 1 => by
  have ih0 := Bm.mono_l k
  ·intro a b c d
   unfold Bm.l0
   exact H8 ih0 Bn.mono
theorem Bm.mono : ∀ a k, LeO (Bm.f k a) (Bm.f (k + 1) a) := by
 intro a k
 have ih0 := Bm.mono_l k
 unfold Bm.f
 exact H8 ih0 Bn.mono
theorem Bm.calls (k : Nat) (J : Option Addr) (L : Nat) (i : List Int) (r : Bool) (w : World) (hr0 : Kd.C (Kd.int .i64) w J i.length i) (E : i.length ≤ L) (h : Bm.f k i = some r) :
  Calls Tryz.prog 48 #[.slice J i.length L] w fun e w' => e = .returned (.bool r) ∧ Below w.heap.size w w' := by
 have q := Q_ hr0
 have K := Q_ E
 clear hr0 E
 have HB := Q_ (Below.refl w.heap.size w)
 unfold Bm.f at h
 have H := h
 clear h
 have H' := Q_ H
 clear H
 go_enter Tryz.func48, Tryz.ntmps48
 go_wp2
 go_loopg [7] k (fun kq R w' => ∃ (a : Int), R = .int .i64 a ∧ Aside0 (Bm.l0 kq i i (i.length : Int) a = some r) ∧ Aside0 (kq ≤ k) ∧ Aside0 (Below w.heap.size w w'))
 case atStart => exact ⟨(0), el_, H', ⟨Nat.le_refl _⟩, ⟨pb_ HB.1⟩⟩
 clear H'
 obtain ⟨a, rfl, HA, u, HB⟩ := hrel
 rcases gk with _ | k1
 ·exact absurd HA.1 (by simp [Bm.l0])
 have H := HA.1
 clear HA
 simp only [Bm.l0] at H
 by_cases z : a < (i.length : Int)
 rotate_left
 ·rw [if_neg z] at H
  have B := decide_eq_false z
  clear z
  obtain ⟨x, Q, H⟩ := bs_ H
  replace H : (some x) = some r := H
  obtain rfl := Option.some.inj H
  go_wp2_with (first | (refine gk_ 79 25 Tryz.func79 #[.slice J i.length L, .int .i64 0, .int .i64 255] ?_; (with_reducible refine (Bn.calls k1 _ _ i 0 255 x _ (cb_ q HB) K.1 Q.1).mono ?_); rintro e S ⟨rfl, hb⟩; refine ⟨_, rfl, ?_⟩; have _ := Q_ (AD (pb_ HB.1) hb); clear HB; rename_i HB; (try clear hb)))
  go_ret
  exact ⟨er_, pb_ HB.1⟩
 rw [if_pos z] at H
 have B := decide_eq_true z
 clear z
 by_cases F : 0 ≤ a
 rotate_left
 ·rw [if_neg F] at H
  exact nn_ H
 rw [if_pos F] at H
 have N := decide_eq_true F
 clear F
 by_cases G : a < (i.length : Int)
 rotate_left
 ·rw [if_neg G] at H
  exact nn_ H
 rw [if_pos G] at H
 have O := decide_eq_true G
 clear G
 by_cases A : a > 0
 rotate_left
 ·rw [if_neg A] at H
  have D := decide_eq_false A
  clear A
  have H' := Q_ H
  clear H
  have d : 0 ≤ (a : Int) := dt_
  have g : a < (i.length : Int) := dt_
  obtain ⟨n, o, b⟩ := Kd.GG q.1 a d g
  cases o
  replace b := bt_ HB b
  replace d := eq_true d
  replace g := eq_true g
  go_wp2
  go_roundg k1
  case measure => have := u.1; omega
  case rel => exact ⟨(wrap64 (a + 1)), el_, H', ⟨by have := u.1; omega⟩, ⟨pb_ HB.1⟩⟩
 rw [if_pos A] at H
 have D := decide_eq_true A
 clear A
 obtain ⟨j, hji8⟩ : ∃ j_ : Int, (wrap64 (a - 1)) = j_ := ⟨_, rfl⟩
 replace H : (if 0 ≤ (j) then (if (j) < (i.length : Int) then (if (rd i (j)) ≥ (rd i a) then (some false) else (Bm.l0 k1 i i (i.length : Int) (wrap64 (a + 1)))) else (none)) else (none)) = some r := by first | (rw [hji8] at H; exact H) | (simp only [hji8] at H ⊢; exact H)
 have hji8w : (IntKind.i64.wrap (a - 1)) = j := (E4 _).trans hji8
 by_cases I : 0 ≤ (j)
 rotate_left
 ·rw [if_neg I] at H
  exact nn_ H
 rw [if_pos I] at H
 have P := decide_eq_true I
 clear I
 by_cases v : (j) < (i.length : Int)
 rotate_left
 ·rw [if_neg v] at H
  exact nn_ H
 rw [if_pos v] at H
 have M := decide_eq_true v
 clear v
 by_cases s : (rd i (j)) ≥ (rd i a)
 rotate_left
 ·rw [if_neg s] at H
  have y := decide_eq_false s
  clear s
  have H' := Q_ H
  clear H
  have d : 0 ≤ (a : Int) := dt_
  have g : a < (i.length : Int) := dt_
  obtain ⟨n, o, b⟩ := Kd.GG q.1 a d g
  cases o
  replace b := bt_ HB b
  replace d := eq_true d
  replace g := eq_true g
  have l : 0 ≤ ((j) : Int) := dt_
  have m : (j) < (i.length : Int) := dt_
  obtain ⟨p, t, c⟩ := Kd.GG q.1 (j) l m
  obtain rfl : n = p := (by injection t)
  replace c := bt_ HB c
  replace l := eq_true l
  replace m := eq_true m
  go_wp2
  go_roundg k1
  case measure => have := u.1; omega
  case rel => exact ⟨(wrap64 (a + 1)), el_, H', ⟨by have := u.1; omega⟩, ⟨pb_ HB.1⟩⟩
 rw [if_pos s] at H
 have y := decide_eq_true s
 clear s
 obtain rfl := Option.some.inj H
 have d : 0 ≤ (a : Int) := dt_
 have g : a < (i.length : Int) := dt_
 obtain ⟨n, o, b⟩ := Kd.GG q.1 a d g
 cases o
 replace b := bt_ HB b
 replace d := eq_true d
 replace g := eq_true g
 have l : 0 ≤ ((j) : Int) := dt_
 have m : (j) < (i.length : Int) := dt_
 obtain ⟨p, t, c⟩ := Kd.GG q.1 (j) l m
 obtain rfl : n = p := (by injection t)
 replace c := bt_ HB c
 replace l := eq_true l
 replace m := eq_true m
 go_wp2
 go_ret
 exact ⟨by first | rfl | (simp [Jh, Jg] <;> rfl) | (simp only [← hji8]; first | rfl | (simp [Jh, Jg] <;> rfl)) | (simp [*, Jh, Jg] <;> rfl), pb_ HB.1⟩
def GU.f (b : Int) : Option (Bool) := (Cb.f b 0 255).bind fun a => (if a = true then (some ((Int.tmod b 16) == 10)) else (some false))
theorem GU.calls (b : Int) (r : Bool) (w : World) (h : GU.f b = some r) :
  Calls Tryz.prog 81 #[.int .i64 b] w fun e w' => e = .returned (.bool r) ∧ C' w w' := by
 unfold GU.f at h
 have H := h
 clear h
 obtain ⟨a, d, H⟩ := bs_ H
 (try dsimp only at H)
 by_cases c : a = true
 rotate_left
 ·replace c := bf_ c
  subst c
  rw [if_neg ff_] at H
  obtain rfl := Option.some.inj H
  go_enter Tryz.func81, Tryz.ntmps81
  go_wp2_with (first | (refine gk_ 53 4 Tryz.func53 #[.int .i64 b, .int .i64 0, .int .i64 255] ?_; (with_reducible refine (Cb.calls b 0 255 false _ d.1).mono ?_); rintro e w' ⟨rfl, ⟨nd, rfl⟩⟩; refine ⟨_, rfl, ?_⟩))
  go_ret
  exact ⟨by first | rfl | (simp; done) | (simp [*]; done), by repeat (first | exact C'.refl _ | apply C'.step)⟩
 subst c
 rw [if_pos rfl] at H
 obtain rfl := Option.some.inj H
 go_enter Tryz.func81, Tryz.ntmps81
 go_wp2_with (first | (refine gk_ 53 4 Tryz.func53 #[.int .i64 b, .int .i64 0, .int .i64 255] ?_; (with_reducible refine (Cb.calls b 0 255 true _ d.1).mono ?_); rintro e w' ⟨rfl, ⟨nd, rfl⟩⟩; refine ⟨_, rfl, ?_⟩))
 go_ret
 exact ⟨by first | rfl | (simp; done) | (simp [*]; done), by repeat (first | exact C'.refl _ | apply C'.step)⟩
def AO.l0 : Nat → List Int → Int → Int → Option (Int)
 | 0, _, _, _ => none
 | k + 1, c, d, a => if a < d then (if 0 ≤ a then (if a < (c.length : Int) then ((GU.f (rd c a)).bind fun b => (if b = true then (some a) else (AO.l0 k c d (wrap64 (a + 1))))) else (none)) else (none)) else (some (-1))
def AO.f (k : Nat) (a : List Int) : Option (Int) := AO.l0 k a (a.length : Int) 0
theorem AO.mono_l : ∀ k, (∀ a b c, LeO (AO.l0 k a b c) (AO.l0 (k + 1) a b c))
 | 0 => fun _ _ _ r h => by simp [AO.l0] at h
 | k + 1 => by
  have ih0 := AO.mono_l k
  ·intro a b c
   unfold AO.l0
   exact G7 ih0
theorem AO.mono : ∀ a k, LeO (AO.f k a) (AO.f (k + 1) a) := by
 intro a k
 have ih0 := AO.mono_l k
 unfold AO.f
 exact G7 ih0
theorem AO.calls (k : Nat) (v : Option Addr) (x : Nat) (b : List Int) (r : Int) (w : World) (hr0 : Kd.C (Kd.int .i64) w v b.length b) (n : b.length ≤ x) (h : AO.f k b = some r) :
  Calls Tryz.prog 119 #[.slice v b.length x, .func (.func 81) #[] #[]] w fun e w' => e = .returned (.int .i64 r) ∧ C' w w' := by
 have t := Q_ hr0
 have B := Q_ n
 clear hr0 n
 unfold AO.f at h
 have H := h
 clear h
 have H' := Q_ H
 clear H
 go_enter Tryz.func119, Tryz.ntmps119
 go_wp2
 go_loopg [8] k (fun kq D w' => ∃ (a : Int), D = .int .i64 a ∧ Aside0 (AO.l0 kq b (b.length : Int) a = some r) ∧ Aside0 (kq ≤ k) ∧ C' w w')
 case atStart => exact ⟨(0), el_, H', ⟨Nat.le_refl _⟩, by repeat (first | exact C'.refl _ | apply C'.step)⟩
 clear H'
 obtain ⟨a, rfl, HA, j, ⟨m1, rfl⟩⟩ := hrel
 rcases gk with _ | k1
 ·exact absurd HA.1 (by simp [AO.l0])
 have H := HA.1
 clear HA
 simp only [AO.l0] at H
 by_cases i : a < (b.length : Int)
 rotate_left
 ·rw [if_neg i] at H
  have l := decide_eq_false i
  clear i
  obtain rfl := Option.some.inj H
  go_wp2
  go_ret
  exact ⟨by first | rfl | (simp; done) | (simp [*]; done), by repeat (first | exact C'.refl _ | apply C'.step)⟩
 rw [if_pos i] at H
 have l := decide_eq_true i
 clear i
 by_cases p : 0 ≤ a
 rotate_left
 ·rw [if_neg p] at H
  exact nn_ H
 rw [if_pos p] at H
 have y := decide_eq_true p
 clear p
 by_cases q : a < (b.length : Int)
 rotate_left
 ·rw [if_neg q] at H
  exact nn_ H
 rw [if_pos q] at H
 have z := decide_eq_true q
 clear q
 obtain ⟨g, A, H⟩ := bs_ H
 (try dsimp only at H)
 have HS_ := Q_ H
 clear H
 have c : 0 ≤ (a : Int) := dt_
 have d : a < (b.length : Int) := dt_
 obtain ⟨u, m, o⟩ := Kd.GG t.1 a c d
 cases m
 replace c := eq_true c
 replace d := eq_true d
 go_upto_if 16 with (first | (go_at_call 81; (with_reducible refine (GU.calls (rd b a) g _ A.1).mono ?_); rintro e w' ⟨rfl, ⟨nd, rfl⟩⟩))
 (try simp only [Act.put, s1_, s2_, s3_])
 have H := HS_.1
 clear HS_
 by_cases s : g = true
 rotate_left
 ·replace s := bf_ s
  subst s
  rw [if_neg ff_] at H
  have H' := Q_ H
  clear H
  go_wp2
  go_roundg k1
  case measure => have := j.1; omega
  case rel => exact ⟨(wrap64 (a + 1)), el_, H', ⟨by have := j.1; omega⟩, by repeat (first | exact C'.refl _ | apply C'.step)⟩
 subst s
 rw [if_pos rfl] at H
 obtain rfl := Option.some.inj H
 go_wp2
 go_ret
 exact ⟨by first | rfl | (simp; done) | (simp [*]; done), by repeat (first | exact C'.refl _ | apply C'.step)⟩
def Ap.f (k : Nat) (b : List Int) : Option (Bool) := (AO.f k b).bind fun a => (some (decide (a ≥ 0)))
theorem Ap.mono : ∀ a k, LeO (Ap.f k a) (Ap.f (k + 1) a) := by
 intro a k
 unfold Ap.f
 exact G7 AO.mono
theorem Ap.calls (k : Nat) (i : Option Addr) (j : Nat) (b : List Int) (r : Bool) (w : World) (hr0 : Kd.C (Kd.int .i64) w i b.length b) (c : b.length ≤ j) (h : Ap.f k b = some r) :
  Calls Tryz.prog 80 #[.slice i b.length j, .func (.func 81) #[] #[]] w fun e w' => e = .returned (.bool r) ∧ Below w.heap.size w w' := by
 have g := Q_ hr0
 have d := Q_ c
 clear hr0 c
 have HB := Q_ (Below.refl w.heap.size w)
 unfold Ap.f at h
 have H := h
 clear h
 obtain ⟨a, l, H⟩ := bs_ H
 replace H : (some (decide (a ≥ 0))) = some r := H
 obtain rfl := Option.some.inj H
 go_enter Tryz.func80, Tryz.ntmps80
 go_wp2_with (first | (go_at_call 119; (with_reducible refine (AO.calls k _ _ b a _ (pc_ g.1) d.1 l.1).mono ?_); rintro e w' ⟨rfl, ⟨nd, rfl⟩⟩))
 go_ret
 exact ⟨er_, pb_ HB.1⟩
def DJ.f (k : Nat) (b : List Int) : Option (Bool) := (Ap.f k b).bind fun a => (some a)
theorem DJ.mono : ∀ a k, LeO (DJ.f k a) (DJ.f (k + 1) a) := by
 intro a k
 unfold DJ.f
 exact G7 Ap.mono
theorem DJ.calls (k : Nat) (i : Option Addr) (j : Nat) (b : List Int) (r : Bool) (w : World) (hr0 : Kd.C (Kd.int .i64) w i b.length b) (c : b.length ≤ j) (h : DJ.f k b = some r) :
  Calls Tryz.prog 49 #[.slice i b.length j] w fun e w' => e = .returned (.bool r) ∧ Below w.heap.size w w' := by
 have g := Q_ hr0
 have d := Q_ c
 clear hr0 c
 have HB := Q_ (Below.refl w.heap.size w)
 unfold DJ.f at h
 have H := h
 clear h
 obtain ⟨a, l, H⟩ := bs_ H
 replace H : (some a) = some r := H
 obtain rfl := Option.some.inj H
 go_enter Tryz.func49, Tryz.ntmps49
 go_wp2_with (first | (go_at_call 80; (with_reducible refine (Ap.calls k _ _ b a _ (pc_ g.1) d.1 l.1).mono ?_); rintro e m ⟨rfl, hb⟩; have _ := Q_ (AD (pb_ HB.1) hb); clear HB; rename_i HB; (try clear hb)))
 go_ret
 exact ⟨er_, pb_ HB.1⟩
def EW.f (k : Nat) (c : Int) (a : List Int) (b : List Int) (h : Bool) : Option (Bool) := (Cb.f c 0 9).bind fun d => (if d = true then (if (a.length : Int) ≤ 6 then (if (b.length : Int) ≤ 6 then ((Bn.f k a 0 255).bind fun e => (if e = true then ((Bn.f k b 0 255).bind fun g => (some g)) else (some false))) else (some false)) else (some false)) else (some false))
theorem EW.mono : ∀ a b c d k, LeO (EW.f k a b c d) (EW.f (k + 1) a b c d) := by
 intro a b c d k
 unfold EW.f
 exact G7 Bn.mono
theorem EW.calls (k : Nat) (b : Int) (l : Option Addr) (q : Nat) (d : List Int) (m : Option Addr) (s : Nat) (g : List Int) (p : Bool) (r : Bool) (w : World) (hr0_1 : Kd.C (Kd.int .i64) w l d.length d) (u : d.length ≤ q) (hr0_2 : Kd.C (Kd.int .i64) w m g.length g) (v : g.length ≤ s) (h : EW.f k b d g p = some r) :
  Calls Tryz.prog 52 #[.agg #[.int .i64 b, .slice l d.length q, .slice m g.length s, .bool p]] w fun e w' => e = .returned (.bool r) ∧ Below w.heap.size w w' := by
 have hu75 := Tryz.underlying75
 have o := Q_ hr0_1
 have n := Q_ u
 clear hr0_1 u
 have D := Q_ hr0_2
 have B := Q_ v
 clear hr0_2 v
 have HB := Q_ (Below.refl w.heap.size w)
 unfold EW.f at h
 have H := h
 clear h
 have HS_ := Q_ H
 clear H
 go_enter Tryz.func52, Tryz.ntmps52
 go_upto_region 1 with (first | ((with_reducible refine FP (N := 1) rfl ?_); (try (refine GK (by rfl) ?_; dsimp only)); refine bx_ 1 #[.int .i64 b, .slice l d.length q, .slice m g.length s, .bool p] 75 ?_; intro O hg Y hbox hb; have _ := Q_ (AD (pb_ HB.1) hb); have a := Q_ (hbox); have A := Q_ (gw_ (w := w) hg (pb_ HB.1)); have c := A; clear HB; rename_i HB; clear hb hbox hg))
 (try simp only [Act.put, s1_, s2_, s3_])
 have H := HS_.1
 clear HS_
 obtain ⟨x, I, H⟩ := bs_ H
 (try dsimp only at H)
 by_cases L : x = true
 rotate_left
 ·replace L := bf_ L
  subst L
  rw [if_neg ff_] at H
  obtain rfl := Option.some.inj H
  have S := E8 a.1
  go_wp2_with (first | (refine gk_ 53 5 Tryz.func53 #[.int .i64 b, .int .i64 0, .int .i64 9] ?_; (with_reducible refine (Cb.calls b 0 9 false _ I.1).mono ?_); rintro e w' ⟨rfl, ⟨nd, rfl⟩⟩; refine ⟨_, rfl, ?_⟩))
  go_ret
  exact ⟨er_, CM HB.1 c.1⟩
 subst L
 rw [if_pos rfl] at H
 by_cases E : (d.length : Int) ≤ 6
 rotate_left
 ·rw [if_neg E] at H
  have i := decide_eq_false E
  have t : decide (d.length ≤ 6) = false := decide_eq_false (by omega)
  clear E
  (first | rw [i] | (simp only [E4, E']; rw [i]) | rw [t] | skip)
  obtain rfl := Option.some.inj H
  have T := E8 a.1
  go_wp2_with (first | (refine gk_ 53 5 Tryz.func53 #[.int .i64 b, .int .i64 0, .int .i64 9] ?_; (with_reducible refine (Cb.calls b 0 9 true _ I.1).mono ?_); rintro e w' ⟨rfl, ⟨nd, rfl⟩⟩; refine ⟨_, rfl, ?_⟩))
  go_ret
  exact ⟨er_, CM HB.1 c.1⟩
 rw [if_pos E] at H
 have i := decide_eq_true E
 have t : decide (d.length ≤ 6) = true := decide_eq_true (by omega)
 clear E
 (first | rw [i] | (simp only [E4, E']; rw [i]) | rw [t] | skip)
 by_cases F : (g.length : Int) ≤ 6
 rotate_left
 ·rw [if_neg F] at H
  have J := decide_eq_false F
  have K : decide (g.length ≤ 6) = false := decide_eq_false (by omega)
  clear F
  obtain rfl := Option.some.inj H
  have U := E8 a.1
  go_wp2_with (first | (refine gk_ 53 5 Tryz.func53 #[.int .i64 b, .int .i64 0, .int .i64 9] ?_; (with_reducible refine (Cb.calls b 0 9 true _ I.1).mono ?_); rintro e w' ⟨rfl, ⟨nd, rfl⟩⟩; refine ⟨_, rfl, ?_⟩))
  go_ret
  exact ⟨er_, CM HB.1 c.1⟩
 rw [if_pos F] at H
 have J := decide_eq_true F
 have K : decide (g.length ≤ 6) = true := decide_eq_true (by omega)
 clear F
 obtain ⟨y, G, H⟩ := bs_ H
 (try dsimp only at H)
 by_cases z : y = true
 rotate_left
 ·replace z := bf_ z
  subst z
  rw [if_neg ff_] at H
  obtain rfl := Option.some.inj H
  have P := E8 a.1
  go_wp2_with (first | (refine gk_ 53 5 Tryz.func53 #[.int .i64 b, .int .i64 0, .int .i64 9] ?_; (with_reducible refine (Cb.calls b 0 9 true _ I.1).mono ?_); rintro e w' ⟨rfl, ⟨nd, rfl⟩⟩; refine ⟨_, rfl, ?_⟩) | (go_at_call 79; (with_reducible refine (Bn.calls k _ _ d 0 255 false _ ?side1 n.1 G.1).mono ?_); (case side1 => exact pc_ (Kd.Ec o.1 (CM HB.1 c.1))); rintro e V ⟨rfl, hb⟩; have _ := Q_ (bb_ a.1 hb); have _ := Q_ (AD (CM HB.1 c.1) hb); clear a HB; rename_i a HB; (try clear hb)))
  go_ret
  exact ⟨er_, CM HB.1 c.1⟩
 subst z
 rw [if_pos rfl] at H
 obtain ⟨j, M, H⟩ := bs_ H
 replace H : (some j) = some r := H
 obtain rfl := Option.some.inj H
 have Q := E8 a.1
 go_wp2_with (first | (refine gk_ 53 5 Tryz.func53 #[.int .i64 b, .int .i64 0, .int .i64 9] ?_; (with_reducible refine (Cb.calls b 0 9 true _ I.1).mono ?_); rintro e w' ⟨rfl, ⟨nd, rfl⟩⟩; refine ⟨_, rfl, ?_⟩) | (go_at_call 79; (with_reducible refine (Bn.calls k _ _ d 0 255 true _ ?side1 n.1 G.1).mono ?_); (case side1 => exact pc_ (Kd.Ec o.1 (CM HB.1 c.1))); rintro e W ⟨rfl, hb⟩; have _ := Q_ (bb_ a.1 hb); have _ := Q_ (AD (CM HB.1 c.1) hb); clear a HB; rename_i a HB; (try clear hb); have R := E8 a.1) | (go_at_call 79; (with_reducible refine (Bn.calls k _ _ g 0 255 j _ (cb_ D HB) B.1 M.1).mono ?_); rintro e X ⟨rfl, hb⟩; have _ := Q_ (bb_ a.1 hb); have _ := Q_ (AD (CM HB.1 c.1) hb); clear a HB; rename_i a HB; (try clear hb)))
 go_ret
 exact ⟨er_, CM HB.1 c.1⟩
def Di.f (k : Nat) (a : Int) (c : List Int) (d : List Int) (b : Bool) : Option (Bool) := (EW.f k a c d b).bind fun e => (some (!e))
theorem Di.mono : ∀ a b c d k, LeO (Di.f k a b c d) (Di.f (k + 1) a b c d) := by
 intro a b c d k
 unfold Di.f
 exact G7 EW.mono
theorem Di.calls (k : Nat) (c : Int) (i : Option Addr) (l : Nat) (a : List Int) (j : Option Addr) (m : Nat) (b : List Int) (d : Bool) (r : Bool) (w : World) (hr0_1 : Kd.C (Kd.int .i64) w i a.length a) (p : a.length ≤ l) (hr0_2 : Kd.C (Kd.int .i64) w j b.length b) (q : b.length ≤ m) (h : Di.f k c a b d = some r) :
  Calls Tryz.prog 51 #[.agg #[.int .i64 c, .slice i a.length l, .slice j b.length m, .bool d]] w fun e w' => e = .returned (.bool r) ∧ Below w.heap.size w w' := by
 have hu75 := Tryz.underlying75
 have v := Q_ hr0_1
 have t := Q_ p
 clear hr0_1 p
 have x := Q_ hr0_2
 have u := Q_ q
 clear hr0_2 q
 have HB := Q_ (Below.refl w.heap.size w)
 unfold Di.f at h
 have H := h
 clear h
 obtain ⟨n, A, H⟩ := bs_ H
 replace H : (some (!n)) = some r := H
 obtain rfl := Option.some.inj H
 go_enter Tryz.func51, Tryz.ntmps51
 go_wp2_with (first | (refine bg_ 1 #[.int .i64 c, .slice i a.length l, .slice j b.length m, .bool d] 75 ?_; intro y hg B hbox hb; have _ := Q_ (AD (pb_ HB.1) hb); have g := Q_ (hbox); have s := Q_ (gw_ (w := w) hg (pb_ HB.1)); have o := s; clear HB; rename_i HB; clear hb hbox hg; have z := E8 g.1) | (refine gk_ 52 4 Tryz.func52 #[.agg #[.int .i64 c, .slice i a.length l, .slice j b.length m, .bool d]] ?_; (with_reducible refine (EW.calls k c _ _ a _ _ b d n _ (cb_ v HB) t.1 (cb_ x HB) u.1 A.1).mono ?_); rintro e D ⟨rfl, hb⟩; refine ⟨_, rfl, ?_⟩; have _ := Q_ (bb_ g.1 hb); have _ := Q_ (AD (CM HB.1 o.1) hb); clear g HB; rename_i g HB; (try clear hb)))
 go_ret
 exact ⟨er_, CM HB.1 o.1⟩
def AC.l0 : Nat → List (S75) → Int → Int → Option (Int)
 | 0, _, _, _ => none
 | k + 1, b, d, a => if a < d then (if 0 ≤ a then (if a < (b.length : Int) then ((Di.f k ((EM b a).f0) ((EM b a).f1) ((EM b a).f2) ((EM b a).f3)).bind fun c => (if c = true then (some a) else (AC.l0 k b d (wrap64 (a + 1))))) else (none)) else (none)) else (some (-1))
def AC.f (k : Nat) (a : List (S75)) : Option (Int) := AC.l0 k a (a.length : Int) 0
theorem AC.mono_l : ∀ k, (∀ a b c, LeO (AC.l0 k a b c) (AC.l0 (k + 1) a b c))
 | 0 => fun _ _ _ r h => by simp [AC.l0] at h
 | k + 1 => by
  have ih0 := AC.mono_l k
  ·intro a b c
   unfold AC.l0
   exact H8 ih0 Di.mono
theorem AC.mono : ∀ a k, LeO (AC.f k a) (AC.f (k + 1) a) := by
 intro a k
 have ih0 := AC.mono_l k
 unfold AC.f
 exact H8 ih0 Di.mono
theorem AC.calls (k : Nat) (J : Option Addr) (K : Nat) (i : List (S75)) (r : Int) (w : World) (hr0 : Kd.C k75 w J i.length i) (x : i.length ≤ K) (h : AC.f k i = some r) :
  Calls Tryz.prog 82 #[.slice J i.length K, .func (.func 51) #[] #[]] w fun e w' => e = .returned (.int .i64 r) ∧ Below w.heap.size w w' := by
 have hu75 := Tryz.underlying75
 have G := Q_ hr0
 have O := Q_ x
 clear hr0 x
 have HB := Q_ (Below.refl w.heap.size w)
 unfold AC.f at h
 have H := h
 clear h
 have H' := Q_ H
 clear H
 go_enter Tryz.func82, Tryz.ntmps82
 go_wp2
 go_loopg [8] k (fun kq P w' => ∃ (a : Int), P = .int .i64 a ∧ Aside0 (AC.l0 kq i (i.length : Int) a = some r) ∧ Aside0 (kq ≤ k) ∧ Aside0 (Below w.heap.size w w'))
 case atStart => exact ⟨(0), el_, H', ⟨Nat.le_refl _⟩, ⟨pb_ HB.1⟩⟩
 clear H'
 obtain ⟨a, rfl, HA, t, HB⟩ := hrel
 rcases gk with _ | k1
 ·exact absurd HA.1 (by simp [AC.l0])
 have H := HA.1
 clear HA
 simp only [AC.l0] at H
 by_cases s : a < (i.length : Int)
 rotate_left
 ·rw [if_neg s] at H
  have u := decide_eq_false s
  clear s
  obtain rfl := Option.some.inj H
  go_wp2
  go_ret
  exact ⟨er_, pb_ HB.1⟩
 rw [if_pos s] at H
 have u := decide_eq_true s
 clear s
 by_cases D : 0 ≤ a
 rotate_left
 ·rw [if_neg D] at H
  exact nn_ H
 rw [if_pos D] at H
 have L := decide_eq_true D
 clear D
 by_cases E : a < (i.length : Int)
 rotate_left
 ·rw [if_neg E] at H
  exact nn_ H
 rw [if_pos E] at H
 have M := decide_eq_true E
 clear E
 obtain ⟨q, N, H⟩ := bs_ H
 (try dsimp only at H)
 have HS_ := Q_ H
 clear H
 have o : 0 ≤ (a : Int) := dt_
 have p : a < (i.length : Int) := dt_
 obtain ⟨I, y, A, z, B, v, b, c, d, g, j, m, l, n⟩ := S4 G.1 a o p
 cases v
 replace b := bt_ HB b
 replace c := bt_ HB c
 replace d := bt_ HB d
 replace g := bt_ HB g
 replace o := eq_true o
 replace p := eq_true p
 go_upto_if 16 with (first | (go_at_call 51; (with_reducible refine (Di.calls k1 ((EM i a).f0) _ _ ((EM i a).f1) _ _ ((EM i a).f2) ((EM i a).f3) q _ (cb_ m HB) j.1 (cb_ n HB) l.1 N.1).mono ?_); rintro e Q ⟨rfl, hb⟩; have _ := Q_ (AD (pb_ HB.1) hb); clear HB; rename_i HB; (try clear hb)))
 (try simp only [Act.put, s1_, s2_, s3_])
 have H := HS_.1
 clear HS_
 by_cases F : q = true
 rotate_left
 ·replace F := bf_ F
  subst F
  rw [if_neg ff_] at H
  have H' := Q_ H
  clear H
  go_wp2
  go_roundg k1
  case measure => have := t.1; omega
  case rel => exact ⟨(wrap64 (a + 1)), el_, H', ⟨by have := t.1; omega⟩, ⟨pb_ HB.1⟩⟩
 subst F
 rw [if_pos rfl] at H
 obtain rfl := Option.some.inj H
 go_wp2
 go_ret
 exact ⟨er_, pb_ HB.1⟩
def Aa.f (k : Nat) (b : List (S75)) : Option (Bool) := (AC.f k b).bind fun a => (some (decide (a ≥ 0)))
theorem Aa.mono : ∀ a k, LeO (Aa.f k a) (Aa.f (k + 1) a) := by
 intro a k
 unfold Aa.f
 exact G7 AC.mono
theorem Aa.calls (k : Nat) (i : Option Addr) (j : Nat) (b : List (S75)) (r : Bool) (w : World) (hr0 : Kd.C k75 w i b.length b) (c : b.length ≤ j) (h : Aa.f k b = some r) :
  Calls Tryz.prog 50 #[.slice i b.length j, .func (.func 51) #[] #[]] w fun e w' => e = .returned (.bool r) ∧ Below w.heap.size w w' := by
 have g := Q_ hr0
 have d := Q_ c
 clear hr0 c
 have HB := Q_ (Below.refl w.heap.size w)
 unfold Aa.f at h
 have H := h
 clear h
 obtain ⟨a, l, H⟩ := bs_ H
 replace H : (some (decide (a ≥ 0))) = some r := H
 obtain rfl := Option.some.inj H
 go_enter Tryz.func50, Tryz.ntmps50
 go_wp2_with (first | (go_at_call 82; (with_reducible refine (AC.calls k _ _ b a _ (pc_ g.1) d.1 l.1).mono ?_); rintro e m ⟨rfl, hb⟩; have _ := Q_ (AD (pb_ HB.1) hb); clear HB; rename_i HB; (try clear hb)))
 go_ret
 exact ⟨er_, pb_ HB.1⟩
def B9.f (k : Nat) (d : List Int) (a : List Int) (b : List (S75)) (c : Int) : Option (Bool) := (Ah.f k d).bind fun e => (if e = true then (if (a.length : Int) ≤ 5 then ((Bm.f k a).bind fun g => (if g = true then ((DJ.f k a).bind fun h => (if h = true then (some false) else (if (b.length : Int) ≤ 4 then ((Aa.f k b).bind fun i => (if i = true then (some false) else ((Cb.f c 0 5).bind fun j => (some j)))) else (some false)))) else (some false))) else (some false)) else (some false))
theorem B9.mono : ∀ a b c d k, LeO (B9.f k a b c d) (B9.f (k + 1) a b c d) := by
 intro a b c d k
 unfold B9.f
 exact M5 Ah.mono DJ.mono Bm.mono Aa.mono
theorem B9.calls (k : Nat) (l : Option Addr) (m : Nat) (c : List Int) (u : Option Addr) (z : Nat) (d : List Int) (v : Option Addr) (A : Nat) (g : List (S75)) (p : Int) (r : Bool) (w : World) (hr0_0 : Kd.C (Kd.int .i64) w l c.length c) (D : c.length ≤ m) (hr0_1 : Kd.C (Kd.int .i64) w u d.length d) (E : d.length ≤ z) (hr0_2 : Kd.C k75 w v g.length g) (F : g.length ≤ A) (h : B9.f k c d g p = some r) :
  Calls Tryz.prog 20 #[.agg #[.slice l c.length m, .slice u d.length z, .slice v g.length A, .int .i64 p]] w fun e w' => e = .returned (.bool r) ∧ Below w.heap.size w w' := by
 have hu34 := Tryz.underlying34
 have o := Q_ hr0_0
 have n := Q_ D
 clear hr0_0 D
 have j := Q_ hr0_1
 have i := Q_ E
 clear hr0_1 E
 have y := Q_ hr0_2
 have x := Q_ F
 clear hr0_2 F
 have HB := Q_ (Below.refl w.heap.size w)
 unfold B9.f at h
 have H := h
 clear h
 have HS_ := Q_ H
 clear H
 go_enter Tryz.func20, Tryz.ntmps20
 go_upto_region 1 with (first | ((with_reducible refine FP (N := 1) rfl ?_); (try (refine GK (by rfl) ?_; dsimp only)); refine bx_ 1 #[.slice l c.length m, .slice u d.length z, .slice v g.length A, .int .i64 p] 34 ?_; intro Z hg w2 hbox hb; have _ := Q_ (AD (pb_ HB.1) hb); have a := Q_ (hbox); have Q := Q_ (gw_ (w := w) hg (pb_ HB.1)); have b := Q; clear HB; rename_i HB; clear hb hbox hg))
 (try simp only [Act.put, s1_, s2_, s3_])
 have H := HS_.1
 clear HS_
 obtain ⟨G, P, H⟩ := bs_ H
 (try dsimp only at H)
 by_cases W : G = true
 rotate_left
 ·replace W := bf_ W
  subst W
  rw [if_neg ff_] at H
  obtain rfl := Option.some.inj H
  have an := E8 a.1
  go_wp2_with (first | (refine gk_ 47 5 Tryz.func47 #[.slice l c.length m] ?_; (with_reducible refine (Ah.calls k _ _ c false _ (cb_ o HB) n.1 P.1).mono ?_); rintro e w' ⟨rfl, ⟨nd, rfl⟩⟩; refine ⟨_, rfl, ?_⟩))
  go_ret
  exact ⟨er_, CM HB.1 b.1⟩
 subst W
 rw [if_pos rfl] at H
 by_cases T : (d.length : Int) ≤ 5
 rotate_left
 ·rw [if_neg T] at H
  have q := decide_eq_false T
  have B : decide (d.length ≤ 5) = false := decide_eq_false (by omega)
  clear T
  (first | rw [q] | (simp only [E4, E']; rw [q]) | rw [B] | skip)
  obtain rfl := Option.some.inj H
  have ao := E8 a.1
  go_wp2_with (first | (refine gk_ 47 5 Tryz.func47 #[.slice l c.length m] ?_; (with_reducible refine (Ah.calls k _ _ c true _ (cb_ o HB) n.1 P.1).mono ?_); rintro e w' ⟨rfl, ⟨nd, rfl⟩⟩; refine ⟨_, rfl, ?_⟩))
  go_ret
  exact ⟨er_, CM HB.1 b.1⟩
 rw [if_pos T] at H
 have q := decide_eq_true T
 have B : decide (d.length ≤ 5) = true := decide_eq_true (by omega)
 clear T
 (first | rw [q] | (simp only [E4, E']; rw [q]) | rw [B] | skip)
 obtain ⟨I, V, H⟩ := bs_ H
 (try dsimp only at H)
 by_cases X : I = true
 rotate_left
 ·replace X := bf_ X
  subst X
  rw [if_neg ff_] at H
  obtain rfl := Option.some.inj H
  have aa := E8 a.1
  go_wp2_with (first | (refine gk_ 47 5 Tryz.func47 #[.slice l c.length m] ?_; (with_reducible refine (Ah.calls k _ _ c true _ (cb_ o HB) n.1 P.1).mono ?_); rintro e w' ⟨rfl, ⟨nd, rfl⟩⟩; refine ⟨_, rfl, ?_⟩) | (go_at_call 48; (with_reducible refine (Bm.calls k _ _ d false _ ?side1 i.1 V.1).mono ?_); (case side1 => exact pc_ (Kd.Ec j.1 (CM HB.1 b.1))); rintro e ap ⟨rfl, hb⟩; have _ := Q_ (bb_ a.1 hb); have _ := Q_ (AD (CM HB.1 b.1) hb); clear a HB; rename_i a HB; (try clear hb)))
  go_ret
  exact ⟨er_, CM HB.1 b.1⟩
 subst X
 rw [if_pos rfl] at H
 obtain ⟨J, L, H⟩ := bs_ H
 (try dsimp only at H)
 by_cases M : J = true
 ·subst M
  rw [if_pos rfl] at H
  obtain rfl := Option.some.inj H
  have ab := E8 a.1
  go_wp2_with (first | (refine gk_ 47 5 Tryz.func47 #[.slice l c.length m] ?_; (with_reducible refine (Ah.calls k _ _ c true _ (cb_ o HB) n.1 P.1).mono ?_); rintro e w' ⟨rfl, ⟨nd, rfl⟩⟩; refine ⟨_, rfl, ?_⟩) | (go_at_call 48; (with_reducible refine (Bm.calls k _ _ d true _ ?side1 i.1 V.1).mono ?_); (case side1 => exact pc_ (Kd.Ec j.1 (CM HB.1 b.1))); rintro e aq ⟨rfl, hb⟩; have _ := Q_ (bb_ a.1 hb); have _ := Q_ (AD (CM HB.1 b.1) hb); clear a HB; rename_i a HB; (try clear hb); have ac := E8 a.1) | (go_at_call 49; (with_reducible refine (DJ.calls k _ _ d true _ (cb_ j HB) i.1 L.1).mono ?_); rintro e ar ⟨rfl, hb⟩; have _ := Q_ (bb_ a.1 hb); have _ := Q_ (AD (CM HB.1 b.1) hb); clear a HB; rename_i a HB; (try clear hb)))
  go_ret
  exact ⟨er_, CM HB.1 b.1⟩
 replace M := bf_ M
 subst M
 rw [if_neg ff_] at H
 by_cases t : (g.length : Int) ≤ 4
 rotate_left
 ·rw [if_neg t] at H
  have R := decide_eq_false t
  have S : decide (g.length ≤ 4) = false := decide_eq_false (by omega)
  clear t
  obtain rfl := Option.some.inj H
  have ad := E8 a.1
  go_wp2_with (first | (refine gk_ 47 5 Tryz.func47 #[.slice l c.length m] ?_; (with_reducible refine (Ah.calls k _ _ c true _ (cb_ o HB) n.1 P.1).mono ?_); rintro e w' ⟨rfl, ⟨nd, rfl⟩⟩; refine ⟨_, rfl, ?_⟩) | (go_at_call 48; (with_reducible refine (Bm.calls k _ _ d true _ ?side1 i.1 V.1).mono ?_); (case side1 => exact pc_ (Kd.Ec j.1 (CM HB.1 b.1))); rintro e au ⟨rfl, hb⟩; have _ := Q_ (bb_ a.1 hb); have _ := Q_ (AD (CM HB.1 b.1) hb); clear a HB; rename_i a HB; (try clear hb); have ae := E8 a.1) | (go_at_call 49; (with_reducible refine (DJ.calls k _ _ d false _ (cb_ j HB) i.1 L.1).mono ?_); rintro e av ⟨rfl, hb⟩; have _ := Q_ (bb_ a.1 hb); have _ := Q_ (AD (CM HB.1 b.1) hb); clear a HB; rename_i a HB; (try clear hb); have af := E8 a.1))
  go_ret
  exact ⟨er_, CM HB.1 b.1⟩
 rw [if_pos t] at H
 have R := decide_eq_true t
 have S : decide (g.length ≤ 4) = true := decide_eq_true (by omega)
 clear t
 obtain ⟨K, U, H⟩ := bs_ H
 (try dsimp only at H)
 by_cases O : K = true
 ·subst O
  rw [if_pos rfl] at H
  obtain rfl := Option.some.inj H
  have ag := E8 a.1
  go_wp2_with (first | (refine gk_ 47 5 Tryz.func47 #[.slice l c.length m] ?_; (with_reducible refine (Ah.calls k _ _ c true _ (cb_ o HB) n.1 P.1).mono ?_); rintro e w' ⟨rfl, ⟨nd, rfl⟩⟩; refine ⟨_, rfl, ?_⟩) | (go_at_call 48; (with_reducible refine (Bm.calls k _ _ d true _ ?side1 i.1 V.1).mono ?_); (case side1 => exact pc_ (Kd.Ec j.1 (CM HB.1 b.1))); rintro e aw ⟨rfl, hb⟩; have _ := Q_ (bb_ a.1 hb); have _ := Q_ (AD (CM HB.1 b.1) hb); clear a HB; rename_i a HB; (try clear hb); have ah := E8 a.1) | (go_at_call 49; (with_reducible refine (DJ.calls k _ _ d false _ (cb_ j HB) i.1 L.1).mono ?_); rintro e ax ⟨rfl, hb⟩; have _ := Q_ (bb_ a.1 hb); have _ := Q_ (AD (CM HB.1 b.1) hb); clear a HB; rename_i a HB; (try clear hb); have ai := E8 a.1) | (go_at_call 50; (with_reducible refine (Aa.calls k _ _ g true _ (cb_ y HB) x.1 U.1).mono ?_); rintro e ay ⟨rfl, hb⟩; have _ := Q_ (bb_ a.1 hb); have _ := Q_ (AD (CM HB.1 b.1) hb); clear a HB; rename_i a HB; (try clear hb)))
  go_ret
  exact ⟨er_, CM HB.1 b.1⟩
 replace O := bf_ O
 subst O
 rw [if_neg ff_] at H
 obtain ⟨s, Y, H⟩ := bs_ H
 replace H : (some s) = some r := H
 obtain rfl := Option.some.inj H
 have aj := E8 a.1
 go_wp2_with (first | (refine gk_ 47 5 Tryz.func47 #[.slice l c.length m] ?_; (with_reducible refine (Ah.calls k _ _ c true _ (cb_ o HB) n.1 P.1).mono ?_); rintro e w' ⟨rfl, ⟨nd, rfl⟩⟩; refine ⟨_, rfl, ?_⟩) | (go_at_call 48; (with_reducible refine (Bm.calls k _ _ d true _ ?side1 i.1 V.1).mono ?_); (case side1 => exact pc_ (Kd.Ec j.1 (CM HB.1 b.1))); rintro e az ⟨rfl, hb⟩; have _ := Q_ (bb_ a.1 hb); have _ := Q_ (AD (CM HB.1 b.1) hb); clear a HB; rename_i a HB; (try clear hb); have ak := E8 a.1) | (go_at_call 49; (with_reducible refine (DJ.calls k _ _ d false _ (cb_ j HB) i.1 L.1).mono ?_); rintro e aA ⟨rfl, hb⟩; have _ := Q_ (bb_ a.1 hb); have _ := Q_ (AD (CM HB.1 b.1) hb); clear a HB; rename_i a HB; (try clear hb); have al := E8 a.1) | (go_at_call 50; (with_reducible refine (Aa.calls k _ _ g false _ (cb_ y HB) x.1 U.1).mono ?_); rintro e aB ⟨rfl, hb⟩; have _ := Q_ (bb_ a.1 hb); have _ := Q_ (AD (CM HB.1 b.1) hb); clear a HB; rename_i a HB; (try clear hb); have am := E8 a.1) | (go_at_call 53; (with_reducible refine (Cb.calls p 0 5 s _ Y.1).mono ?_); rintro e w' ⟨rfl, ⟨nd, rfl⟩⟩))
 go_ret
 exact ⟨er_, CM HB.1 b.1⟩
def H7.f (a : Int) (c : List Int) (b : Int) : Option (Bool) := some (a == b)
theorem H7.calls (c : Int) (i : Option Addr) (k : Nat) (a : List Int) (B1 : Nat) (d : Int) (r : Bool) (w : World) (hr0_1 : Kd.C (Kd.int .i64) w i a.length a) (l : a.length ≤ k) (hbv1 : w.heap[B1]? = some (.cells #[.int .i64 d] 3 (0, 0))) (h : H7.f c a d = some r) :
  Calls Tryz.prog 125 #[.agg #[.int .i64 c, .slice i a.length k], .pointer (some ⟨B1, 0, none⟩)] w fun e w' => e = .returned (.bool r) ∧ Below w.heap.size w w' := by
 have hu81 := Tryz.underlying81
 have u := Q_ hr0_1
 have t := Q_ l
 clear hr0_1 l
 have g := Q_ hbv1
 clear hbv1
 have HB := Q_ (Below.refl w.heap.size w)
 unfold H7.f at h
 have H := h
 clear h
 obtain rfl := Option.some.inj H
 go_enter Tryz.func125, Tryz.ntmps125
 go_wp2_with (first | (refine bg_ 2 #[.int .i64 c, .slice i a.length k] 81 ?_; intro p hg z hbox hb; have _ := Q_ (bb_ g.1 hb); have _ := Q_ (AD (pb_ HB.1) hb); have m := Q_ (hbox); have o := Q_ (gw_ (w := w) hg (pb_ HB.1)); have n := o; have b := Q_ ((by rw [hg]; exact Nat.ne_of_lt (Hl (pk_ g.1)) : B1 ≠ p)); have j := Q_ b.1.symm; clear g HB; rename_i g HB; clear hb hbox hg; have x := j.1; have y := b.1; have v := Ew m.1; have q : z.cell? ⟨B1, 0, none⟩ = some (.int .i64 d) := (BM g.1 0).trans rfl; have s := DI g.1 0))
 go_ret
 exact ⟨er_, CM HB.1 n.1⟩
def AG.l0 : Nat → List (S81) → Int → Int → Int → Option (Int)
 | 0, _, _, _, _ => none
 | k + 1, d, e, b, a => if b < e then (if 0 ≤ b then (if b < (d.length : Int) then ((H7.f ((AX d b).f0) ((AX d b).f1) a).bind fun c => (if c = true then (some b) else (AG.l0 k d e (wrap64 (b + 1)) a))) else (none)) else (none)) else (some (-1))
def AG.f (k : Nat) (b : List (S81)) (a : Int) : Option (Int) := AG.l0 k b (b.length : Int) 0 a
theorem AG.mono_l : ∀ k, (∀ a b c d, LeO (AG.l0 k a b c d) (AG.l0 (k + 1) a b c d))
 | 0 => fun _ _ _ _ r h => by simp [AG.l0] at h
 | k + 1 => by
  have ih0 := AG.mono_l k
  ·intro a b c d
   unfold AG.l0
   exact G7 ih0
theorem AG.mono : ∀ a b k, LeO (AG.f k a b) (AG.f (k + 1) a b) := by
 intro a b k
 have ih0 := AG.mono_l k
 unfold AG.f
 exact G7 ih0
theorem AG.calls (k : Nat) (E : Option Addr) (F : Nat) (i : List (S81)) (B1 : Nat) (b : Int) (r : Int) (w : World) (hr0 : Kd.C k81 w E i.length i) (u : i.length ≤ F) (hbv1 : w.heap[B1]? = some (.cells #[.int .i64 b] 3 (0, 0))) (h : AG.f k i b = some r) :
  Calls Tryz.prog 124 #[.slice E i.length F, .func (.func 125) #[] #[.pointer (some ⟨B1, 0, none⟩)]] w fun e w' => e = .returned (.int .i64 r) ∧ Below w.heap.size w w' := by
 have hu81 := Tryz.underlying81
 have B := Q_ hr0
 have K := Q_ u
 clear hr0 u
 have g := Q_ hbv1
 clear hbv1
 have HB := Q_ (Below.refl w.heap.size w)
 unfold AG.f at h
 have H := h
 clear h
 have H' := Q_ H
 clear H
 go_enter Tryz.func124, Tryz.ntmps124
 go_wp2
 go_loopg [8] k (fun kq L w' => ∃ (a : Int), L = .int .i64 a ∧ Aside0 (AG.l0 kq i (i.length : Int) a b = some r) ∧ Aside0 (kq ≤ k) ∧ Aside0 (w'.heap[B1]? = some (.cells #[.int .i64 b] 3 (0, 0))) ∧ Aside0 (Below w.heap.size w w'))
 case atStart => exact ⟨(0), el_, H', ⟨Nat.le_refl _⟩, ⟨pk_ g.1⟩, ⟨pb_ HB.1⟩⟩
 clear H'
 obtain ⟨a, rfl, HA, q, g, HB⟩ := hrel
 rcases gk with _ | k1
 ·exact absurd HA.1 (by simp [AG.l0])
 have H := HA.1
 clear HA
 simp only [AG.l0] at H
 by_cases p : a < (i.length : Int)
 rotate_left
 ·rw [if_neg p] at H
  have s := decide_eq_false p
  clear p
  obtain rfl := Option.some.inj H
  go_wp2
  go_ret
  exact ⟨er_, pb_ HB.1⟩
 rw [if_pos p] at H
 have s := decide_eq_true p
 clear p
 by_cases y : 0 ≤ a
 rotate_left
 ·rw [if_neg y] at H
  exact nn_ H
 rw [if_pos y] at H
 have G := decide_eq_true y
 clear y
 by_cases z : a < (i.length : Int)
 rotate_left
 ·rw [if_neg z] at H
  exact nn_ H
 rw [if_pos z] at H
 have I := decide_eq_true z
 clear z
 obtain ⟨o, J, H⟩ := bs_ H
 (try dsimp only at H)
 have HS_ := Q_ H
 clear H
 have m : 0 ≤ (a : Int) := dt_
 have n : a < (i.length : Int) := dt_
 obtain ⟨D, v, x, t, c, d, j, l⟩ := Ip B.1 a m n
 cases t
 replace c := bt_ HB c
 replace d := bt_ HB d
 replace m := eq_true m
 replace n := eq_true n
 go_upto_if 16 with (first | (go_at_call 125; (with_reducible refine (H7.calls ((AX i a).f0) _ _ ((AX i a).f1) _ b o _ (cb_ l HB) j.1 ?side3 J.1).mono ?_); (case side3 => exact pk_ g.1); rintro e M ⟨rfl, hb⟩; have _ := Q_ (bb_ g.1 hb); have _ := Q_ (AD (pb_ HB.1) hb); clear g HB; rename_i g HB; (try clear hb)))
 (try simp only [Act.put, s1_, s2_, s3_])
 have H := HS_.1
 clear HS_
 by_cases A : o = true
 rotate_left
 ·replace A := bf_ A
  subst A
  rw [if_neg ff_] at H
  have H' := Q_ H
  clear H
  go_wp2
  go_roundg k1
  case measure => have := q.1; omega
  case rel => exact ⟨(wrap64 (a + 1)), el_, H', ⟨by have := q.1; omega⟩, ⟨pk_ g.1⟩, ⟨pb_ HB.1⟩⟩
 subst A
 rw [if_pos rfl] at H
 obtain rfl := Option.some.inj H
 go_wp2
 go_ret
 exact ⟨er_, pb_ HB.1⟩
def EO.f (k : Nat) (c : List (S81)) (b : Int) : Option (Int) := (AG.f k c b).bind fun a => (some a)
theorem EO.mono : ∀ a b k, LeO (EO.f k a b) (EO.f (k + 1) a b) := by
 intro a b k
 unfold EO.f
 exact G7 AG.mono
theorem EO.calls (k : Nat) (o : Option Addr) (p : Nat) (g : List (S81)) (i : Int) (r : Int) (w : World) (hr0 : Kd.C k81 w o g.length g) (j : g.length ≤ p) (h : EO.f k g i = some r) :
  Calls Tryz.prog 88 #[.slice o g.length p, .int .i64 i] w fun e w' => e = .returned (.int .i64 r) ∧ Below w.heap.size w w' := by
 have m := Q_ hr0
 have l := Q_ j
 clear hr0 j
 have HB := Q_ (Below.refl w.heap.size w)
 unfold EO.f at h
 have H := h
 clear h
 obtain ⟨b, q, H⟩ := bs_ H
 replace H : (some b) = some r := H
 obtain rfl := Option.some.inj H
 go_enter Tryz.func88, Tryz.ntmps88
 go_wp2_with (first | (refine bg_ 3 #[.int .i64 i] 3 ?_; intro n hg s hbox hb; have _ := Q_ (AD (pb_ HB.1) hb); have a := Q_ (hbox); have d := Q_ (gw_ (w := w) hg (pb_ HB.1)); have c := d; clear HB; rename_i HB; clear hb hbox hg) | (go_at_call 124; (with_reducible refine (AG.calls k _ _ g _ i b _ (cb_ m HB) l.1 ?side3 q.1).mono ?_); (case side3 => exact pk_ a.1); rintro e t ⟨rfl, hb⟩; have _ := Q_ (bb_ a.1 hb); have _ := Q_ (AD (CM HB.1 c.1) hb); clear a HB; rename_i a HB; (try clear hb)))
 go_ret
 exact ⟨er_, CM HB.1 c.1⟩
def BE.l0 : Nat → List (S81) → List (S81) → Int → Int → Option (Bool)
 | 0, _, _, _, _ => none
 | k + 1, g, b, h, a => if a < h then (if 0 ≤ a then (if a < (b.length : Int) then ((Cb.f ((AX b a).f0) 0 255).bind fun c => (if c = true then (if a ≤ (g.length : Int) then ((EO.f k (g.take (a : Int).toNat) ((AX b a).f0)).bind fun d => (if d ≥ 0 then (some false) else (if (((AX b a).f1).length : Int) > 4 then (some false) else ((Bn.f k ((AX b a).f1) 0 255).bind fun e => (if e = true then (BE.l0 k g b h (wrap64 (a + 1))) else (some false)))))) else (none)) else (some false))) else (none)) else (none)) else (some (decide ((g.length : Int) ≤ 6)))
def BE.f (k : Nat) (a : List (S81)) : Option (Bool) := BE.l0 k a a (a.length : Int) 0
theorem BE.mono_l : ∀ k, (∀ a b c d, LeO (BE.l0 k a b c d) (BE.l0 (k + 1) a b c d))
 | 0 => fun _ _ _ _ r h => by simp [BE.l0] at h
 | k + 1 => by
  have ih0 := BE.mono_l k
  ·intro a b c d
   unfold BE.l0
   exact Jz ih0 EO.mono Bn.mono
theorem BE.mono : ∀ a k, LeO (BE.f k a) (BE.f (k + 1) a) := by
 intro a k
 have ih0 := BE.mono_l k
 unfold BE.f
 exact Jz ih0 EO.mono Bn.mono
def BE.T4 : Bool × List (List Nat × List Nat) := (true, [([], []), ([0], [0]), ([1], [1]), ([2], [2]), ([3, 2], [3]), ([4], [4]), ([4], [4]), ([5, 6, 4], [4, 5, 6]), ([4], [4]), ([8, 4], [4, 8]), ([7, 9, 4, 4], [4, 7, 9]), ([10, 4], [4, 10]), ([4, 11], [4, 11]), ([12, 10], [12]), ([13], [13]), ([14, 13], [13, 14]), ([15, 13], [13, 15]), ([16, 13], [13, 16]), ([13, 17], [13, 17]), ([18, 13], [18]), ([19], [19]), ([20, 19], [19, 20]), ([21, 19, 19], [19, 21]), ([22, 19], [19, 22]), ([19, 23], [19, 23])])
def BE.B4 : List Nat := [0, 1, 3, 7, 15, 31, 31, 127, 31, 287, 1023, 2047, 4095, 8191, 16383, 32767, 65535, 131071, 262143, 524287, 1048575, 2097151, 4194303, 8388607, 16777215]
theorem BE.tab4 : rtab .any (opsOf Tryz.f57 4) = BE.T4 := by kernel_rfl
theorem BE.bits4 : Fa BE.T4.2 BE.B4 = true := by kernel_rfl
theorem BE.calls (k : Nat) (A0 : Option Addr) (y : Nat) (i : List (S81)) (r : Bool) (w : World) (hr0 : Kd.C k81 w A0 i.length i) (ai : i.length ≤ y) (h : BE.f k i = some r) :
  Calls Tryz.prog 57 #[.slice A0 i.length y] w fun e w' => e = .returned (.bool r) ∧ Below w.heap.size w w' := by
 have hu81 := Tryz.underlying81
 have U := Q_ hr0
 have Y := Q_ ai
 clear hr0 ai
 have HB := Q_ (Below.refl w.heap.size w)
 unfold BE.f at h
 have H := h
 clear h
 have H' := Q_ H
 clear H
 go_enter Tryz.func57, Tryz.ntmps57
 go_wp2
 go_loopg [7] k (fun kq v7 w' => ∃ (a : Int), v7 = .int .i64 a ∧ Aside0 (BE.l0 kq i i (i.length : Int) a = some r) ∧ Aside0 (kq ≤ k) ∧ Aside0 (Below w.heap.size w w'))
 case atStart => exact ⟨(0), el_, H', ⟨Nat.le_refl _⟩, ⟨pb_ HB.1⟩⟩
 clear H'
 obtain ⟨a, rfl, HA, af, HB⟩ := hrel
 rcases gk with _ | k1
 ·exact absurd HA.1 (by simp [BE.l0])
 have H := HA.1
 clear HA
 simp only [BE.l0] at H
 by_cases c2 : a < (i.length : Int)
 rotate_left
 ·rw [if_neg c2] at H
  have ag := decide_eq_false c2
  clear c2
  obtain rfl := Option.some.inj H
  go_wp2
  go_ret
  exact ⟨er_, pb_ HB.1⟩
 rw [if_pos c2] at H
 have ag := decide_eq_true c2
 clear c2
 by_cases c3 : 0 ≤ a
 rotate_left
 ·rw [if_neg c3] at H
  exact nn_ H
 rw [if_pos c3] at H
 have aw := decide_eq_true c3
 clear c3
 by_cases c4 : a < (i.length : Int)
 rotate_left
 ·rw [if_neg c4] at H
  exact nn_ H
 rw [if_pos c4] at H
 have ax := decide_eq_true c4
 clear c4
 have HS_ := Q_ H
 clear H
 have M : 0 ≤ (a : Int) := dt_
 have O : a < (i.length : Int) := dt_
 obtain ⟨o, d, g, ah, v, x, E, F⟩ := Ip U.1 a M O
 cases ah
 replace v := bt_ HB v
 replace x := bt_ HB x
 replace M := eq_true M
 replace O := eq_true O
 go_upto_region 4 with (first | ((with_reducible refine FP (N := 4) rfl ?_); (try (refine GK (by rfl) ?_; dsimp only)); refine bx_ 4 #[.int .i64 0, .slice none 0 0] 81 ?_; intro c hg D hbox hb; have _ := Q_ (AD (pb_ HB.1) hb); have b := Q_ (hbox); have X := Q_ (gw_ (w := w) hg (pb_ HB.1)); have j := X; clear HB; rename_i HB; clear hb hbox hg; have ay := Ew b.1))
 (try simp only [Act.put, s1_, s2_, s3_])
 have H := HS_.1
 clear HS_
 obtain ⟨aj, A7, H⟩ := bs_ H
 (try dsimp only at H)
 by_cases c8 : aj = true
 rotate_left
 ·replace c8 := bf_ c8
  subst c8
  rw [if_neg ff_] at H
  obtain rfl := Option.some.inj H
  try go_wp2
  have n0_ : Aside0 (((D.setCell ⟨c, 0, none⟩ (.int .i64 ((AX i a).f0))).setCell ⟨c, 1, none⟩ (.slice d ((AX i a).f1).length g)).heap[c]? = some (.cells #[.int .i64 ((AX i a).f0), .slice d ((AX i a).f1).length g] 81 (0, 0))) := ⟨pp_ b.1⟩
  have n1_ : Aside0 (Below w.heap.size w ((D.setCell ⟨c, 0, none⟩ (.int .i64 ((AX i a).f0))).setCell ⟨c, 1, none⟩ (.slice d ((AX i a).f1).length g))) := ⟨CM HB.1 j.1⟩
  (try clear b)
  (try clear HB)
  generalize ((D.setCell ⟨c, 0, none⟩ (.int .i64 ((AX i a).f0))).setCell ⟨c, 1, none⟩ (.slice d ((AX i a).f1).length g)) = w9 at n0_ n1_ ⊢
  (try (rw [show w9.drewN nd = w9.drewN nd from rfl]; replace n0_ := Q_ (E2 n0_.1 nd); replace n1_ := Q_ (D5 n1_.1 nd); generalize w9.drewN nd = w9 at n0_ n1_ ⊢))
  have b := n0_
  have HB := n1_
  clear n0_ n1_
  have _ := Q_ (Bq b.1)
  have _ := Q_ (Cm HB.1)
  clear b HB
  rename_i b HB
  refine sw_ (S := fun w' => w'.cell? ⟨c, 0, none⟩ = some (.int .i64 ((AX i a).f0)) ∧ w'.cell? ⟨c, 1, none⟩ = some (.slice d ((AX i a).f1).length g)) 25 BE.tab4 BE.bits4 (sb_ b.1) (fun hHeld HT_ HW_ => ?_)
  generalize w9.drew = aA at b HB hHeld ⊢
  refine Ba 0 12 25 1 ?_
  refine E1 1 13 25 3 hHeld ?_
  refine on_ 2 (some 14) (tf_ 3 25) HT_ (fun K hK => ?_)
  refine gs_ Tryz.func53 #[.int .i64 ((AX i a).f0), .int .i64 0, .int .i64 255] ?_
  with_reducible refine (Cb.calls ((AX i a).f0) 0 255 false _ A7.1).mono ?_
  rintro e w' ⟨rfl, ⟨nd, rfl⟩⟩
  refine ⟨_, rfl, ?_⟩
  refine hK.out _ _ (sb_ b.1) (fun hHeld => ?_)
  clear hK K
  refine no_ (some 14) ?_
  refine Ba 3 15 25 15 ?_
  refine Ba 4 16 25 31 ?_
  refine En 5 17 25 63 ?_
  refine En 6 18 25 127 ?_
  refine En 7 19 25 255 ?_
  refine En 8 20 25 511 ?_
  refine En 9 21 25 1023 ?_
  refine En 10 22 25 2047 ?_
  refine En 11 23 25 4095 ?_
  refine Ba 12 24 25 8191 ?_
  refine Ba 13 25 25 16383 ?_
  refine En 14 26 25 32767 ?_
  refine En 15 27 25 65535 ?_
  refine En 16 28 25 131071 ?_
  refine En 17 29 25 262143 ?_
  refine Ba 18 30 25 524287 ?_
  refine Ba 19 31 25 1048575 ?_
  refine En 20 32 25 2097151 ?_
  refine En 21 33 25 4194303 ?_
  refine En 22 34 25 8388607 ?_
  refine En 23 35 25 16777215 ?_
  refine Ba 24 36 25 33554431 ?_
  refine G8 (E0 HT_.1 (by kernel_rfl)) ?_
  try go_wp2
  go_ret
  exact ⟨er_, CM HB.1 j.1⟩
 subst c8
 rw [if_pos rfl] at H
 have aq := eq_true (dt_ : 0 ≤ a)
 by_cases G : a ≤ (i.length : Int)
 rotate_left
 ·rw [if_neg G] at H
  exact nn_ H
 rw [if_pos G] at H
 have ar := eq_true G
 have au : decide (a ≤ (i.length : Int)) = true := decide_eq_true G
 clear G
 obtain ⟨l, hy142⟩ : ∃ y_ : List (S81), y_ = (i.take (a : Int).toNat) := ⟨_, rfl⟩
 replace H : ((EO.f k1 l ((AX i a).f0)).bind fun u => (if u ≥ 0 then (some false) else (if (((AX i a).f1).length : Int) > 4 then (some false) else ((Bn.f k1 ((AX i a).f1) 0 255).bind fun z => (if z = true then (BE.l0 k1 i i (i.length : Int) (wrap64 (a + 1))) else (some false)))))) = some r := hb_ hy142 H
 have p := Q_ hy142
 clear hy142
 obtain ⟨u, W, H⟩ := bs_ H
 (try dsimp only at H)
 by_cases A : u ≥ 0
 ·rw [if_pos A] at H
  have t := decide_eq_true A
  clear A
  (first | rw [t] | (simp only [E4, E']; rw [t]) | skip)
  obtain rfl := Option.some.inj H
  try go_wp2
  have n0_ : Aside0 (((D.setCell ⟨c, 0, none⟩ (.int .i64 ((AX i a).f0))).setCell ⟨c, 1, none⟩ (.slice d ((AX i a).f1).length g)).heap[c]? = some (.cells #[.int .i64 ((AX i a).f0), .slice d ((AX i a).f1).length g] 81 (0, 0))) := ⟨pp_ b.1⟩
  have n1_ : Aside0 (Below w.heap.size w ((D.setCell ⟨c, 0, none⟩ (.int .i64 ((AX i a).f0))).setCell ⟨c, 1, none⟩ (.slice d ((AX i a).f1).length g))) := ⟨CM HB.1 j.1⟩
  (try clear b)
  (try clear HB)
  generalize ((D.setCell ⟨c, 0, none⟩ (.int .i64 ((AX i a).f0))).setCell ⟨c, 1, none⟩ (.slice d ((AX i a).f1).length g)) = Q at n0_ n1_ ⊢
  (try (rw [show Q.drewN nd = Q.drewN nd from rfl]; replace n0_ := Q_ (E2 n0_.1 nd); replace n1_ := Q_ (D5 n1_.1 nd); generalize Q.drewN nd = Q at n0_ n1_ ⊢))
  have b := n0_
  have HB := n1_
  clear n0_ n1_
  have _ := Q_ (Bq b.1)
  have _ := Q_ (Cm HB.1)
  clear b HB
  rename_i b HB
  refine sw_ (S := fun w' => w'.cell? ⟨c, 0, none⟩ = some (.int .i64 ((AX i a).f0)) ∧ w'.cell? ⟨c, 1, none⟩ = some (.slice d ((AX i a).f1).length g)) 25 BE.tab4 BE.bits4 (sb_ b.1) (fun hHeld HT_ HW_ => ?_)
  generalize Q.drew = aB at b HB hHeld ⊢
  refine Ba 0 12 25 1 ?_
  refine E1 1 13 25 3 hHeld ?_
  refine on_ 2 (some 14) (tf_ 3 25) HT_ (fun K hK => ?_)
  refine gs_ Tryz.func53 #[.int .i64 ((AX i a).f0), .int .i64 0, .int .i64 255] ?_
  with_reducible refine (Cb.calls ((AX i a).f0) 0 255 true _ A7.1).mono ?_
  rintro e w' ⟨rfl, ⟨nd, rfl⟩⟩
  refine ⟨_, rfl, ?_⟩
  have ab : (a : Int) ≤ ((i.length : Int) : Int) := dt_
  obtain ⟨i017, I, _, hsz17, _⟩ := info_parts Jv
  have hroom17 : i.length ≤ y := Y.1
  have hC17 : Kd.C k81 _ (some o) i.length i := U.1
  have hcut17 := RN (P := Tryz.prog) 51 81 .i64 Tryz.underlying51 I (some o) i.length y a dt_ ab hroom17
  have hr17 := Kd.Sr (m := (a : Int).toNat) hC17 (by omega)
  have hy17 : l.length = (a : Int).toNat := (by rw [p.1, List.length_take]; omega)
  rw [← p.1] at hr17
  rw [← hy17] at hcut17
  have s := Q_ hr17
  have q := Q_ (show l.length ≤ y from by omega)
  clear hr17 hC17 hroom17 I hsz17
  have KY17 := Q_ hy17
  clear hy17
  replace ab := eq_true ab
  refine hK.out _ _ (sb_ b.1) (fun hHeld => ?_)
  clear hK K
  refine no_ (some 14) ?_
  refine Ba 3 15 25 15 ?_
  refine Ba 4 16 25 31 ?_
  refine Ba 5 17 25 63 ?_
  refine Ba 6 18 25 127 ?_
  refine Ba 7 19 25 255 ?_
  refine Ba 8 20 25 511 ?_
  refine E1 9 21 25 1023 hHeld ?_
  refine on_ 10 (some 22) (tf_ 11 25) HT_ (fun K hK => ?_)
  refine gs_ Tryz.func88 #[.slice (some o) l.length y, .int .i64 ((AX i a).f0)] ?_
  with_reducible refine (EO.calls k1 _ _ l ((AX i a).f0) u _ ?side1 q.1 W.1).mono ?_
  (case side1 => exact pc_ (Kd.Ec s.1 (CM HB.1 j.1)))
  rintro e aC ⟨rfl, hb⟩
  refine ⟨_, rfl, ?_⟩
  have _ := Q_ (bb_ b.1 hb)
  have _ := Q_ (AD (CM HB.1 j.1) hb)
  clear b HB
  rename_i b HB
  (try clear hb)
  refine hK.out _ _ (sb_ b.1) (fun hHeld => ?_)
  clear hK K
  refine no_ (some 22) ?_
  refine Ba 11 23 25 4095 ?_
  refine Ba 12 24 25 8191 ?_
  refine Ba 13 25 25 16383 ?_
  refine En 14 26 25 32767 ?_
  refine En 15 27 25 65535 ?_
  refine En 16 28 25 131071 ?_
  refine En 17 29 25 262143 ?_
  refine Ba 18 30 25 524287 ?_
  refine Ba 19 31 25 1048575 ?_
  refine En 20 32 25 2097151 ?_
  refine En 21 33 25 4194303 ?_
  refine En 22 34 25 8388607 ?_
  refine En 23 35 25 16777215 ?_
  refine Ba 24 36 25 33554431 ?_
  refine G8 (E0 HT_.1 (by kernel_rfl)) ?_
  try go_wp2
  go_ret
  exact ⟨er_, CM HB.1 j.1⟩
 rw [if_neg A] at H
 have t := decide_eq_false A
 clear A
 (first | rw [t] | (simp only [E4, E']; rw [t]) | skip)
 by_cases B : (((AX i a).f1).length : Int) > 4
 ·rw [if_pos B] at H
  have Z := decide_eq_true B
  have aa : decide (4 < ((AX i a).f1).length) = true := decide_eq_true (by omega)
  clear B
  obtain rfl := Option.some.inj H
  try go_wp2
  have n0_ : Aside0 (((D.setCell ⟨c, 0, none⟩ (.int .i64 ((AX i a).f0))).setCell ⟨c, 1, none⟩ (.slice d ((AX i a).f1).length g)).heap[c]? = some (.cells #[.int .i64 ((AX i a).f0), .slice d ((AX i a).f1).length g] 81 (0, 0))) := ⟨pp_ b.1⟩
  have n1_ : Aside0 (Below w.heap.size w ((D.setCell ⟨c, 0, none⟩ (.int .i64 ((AX i a).f0))).setCell ⟨c, 1, none⟩ (.slice d ((AX i a).f1).length g))) := ⟨CM HB.1 j.1⟩
  (try clear b)
  (try clear HB)
  generalize ((D.setCell ⟨c, 0, none⟩ (.int .i64 ((AX i a).f0))).setCell ⟨c, 1, none⟩ (.slice d ((AX i a).f1).length g)) = R at n0_ n1_ ⊢
  (try (rw [show R.drewN nd = R.drewN nd from rfl]; replace n0_ := Q_ (E2 n0_.1 nd); replace n1_ := Q_ (D5 n1_.1 nd); generalize R.drewN nd = R at n0_ n1_ ⊢))
  have b := n0_
  have HB := n1_
  clear n0_ n1_
  have _ := Q_ (Bq b.1)
  have _ := Q_ (Cm HB.1)
  clear b HB
  rename_i b HB
  refine sw_ (S := fun w' => w'.cell? ⟨c, 0, none⟩ = some (.int .i64 ((AX i a).f0)) ∧ w'.cell? ⟨c, 1, none⟩ = some (.slice d ((AX i a).f1).length g)) 25 BE.tab4 BE.bits4 (sb_ b.1) (fun hHeld HT_ HW_ => ?_)
  generalize R.drew = aD at b HB hHeld ⊢
  refine Ba 0 12 25 1 ?_
  refine E1 1 13 25 3 hHeld ?_
  refine on_ 2 (some 14) (tf_ 3 25) HT_ (fun K hK => ?_)
  refine gs_ Tryz.func53 #[.int .i64 ((AX i a).f0), .int .i64 0, .int .i64 255] ?_
  with_reducible refine (Cb.calls ((AX i a).f0) 0 255 true _ A7.1).mono ?_
  rintro e w' ⟨rfl, ⟨nd, rfl⟩⟩
  refine ⟨_, rfl, ?_⟩
  have ac : (a : Int) ≤ ((i.length : Int) : Int) := dt_
  obtain ⟨i022, J, _, hsz22, _⟩ := info_parts Jv
  have hroom22 : i.length ≤ y := Y.1
  have hC22 : Kd.C k81 _ (some o) i.length i := U.1
  have hcut22 := RN (P := Tryz.prog) 51 81 .i64 Tryz.underlying51 J (some o) i.length y a dt_ ac hroom22
  have hr22 := Kd.Sr (m := (a : Int).toNat) hC22 (by omega)
  have hy22 : l.length = (a : Int).toNat := (by rw [p.1, List.length_take]; omega)
  rw [← p.1] at hr22
  rw [← hy22] at hcut22
  have s := Q_ hr22
  have q := Q_ (show l.length ≤ y from by omega)
  clear hr22 hC22 hroom22 J hsz22
  have KY22 := Q_ hy22
  clear hy22
  replace ac := eq_true ac
  refine hK.out _ _ (sb_ b.1) (fun hHeld => ?_)
  clear hK K
  refine no_ (some 14) ?_
  refine Ba 3 15 25 15 ?_
  refine Ba 4 16 25 31 ?_
  refine Ba 5 17 25 63 ?_
  refine Ba 6 18 25 127 ?_
  refine Ba 7 19 25 255 ?_
  refine Ba 8 20 25 511 ?_
  refine E1 9 21 25 1023 hHeld ?_
  refine on_ 10 (some 22) (tf_ 11 25) HT_ (fun K hK => ?_)
  refine gs_ Tryz.func88 #[.slice (some o) l.length y, .int .i64 ((AX i a).f0)] ?_
  with_reducible refine (EO.calls k1 _ _ l ((AX i a).f0) u _ ?side1 q.1 W.1).mono ?_
  (case side1 => exact pc_ (Kd.Ec s.1 (CM HB.1 j.1)))
  rintro e aE ⟨rfl, hb⟩
  refine ⟨_, rfl, ?_⟩
  have _ := Q_ (bb_ b.1 hb)
  have _ := Q_ (AD (CM HB.1 j.1) hb)
  clear b HB
  rename_i b HB
  (try clear hb)
  refine hK.out _ _ (sb_ b.1) (fun hHeld => ?_)
  clear hK K
  refine no_ (some 22) ?_
  refine Ba 11 23 25 4095 ?_
  refine Ba 12 24 25 8191 ?_
  refine Ba 13 25 25 16383 ?_
  refine Ba 14 26 25 32767 ?_
  refine E1 15 27 25 65535 hHeld ?_
  refine Ba 16 28 25 131071 ?_
  refine Ba 17 29 25 262143 ?_
  refine Ba 18 30 25 524287 ?_
  refine Ba 19 31 25 1048575 ?_
  refine En 20 32 25 2097151 ?_
  refine En 21 33 25 4194303 ?_
  refine En 22 34 25 8388607 ?_
  refine En 23 35 25 16777215 ?_
  refine Ba 24 36 25 33554431 ?_
  refine G8 (E0 HT_.1 (by kernel_rfl)) ?_
  try go_wp2
  go_ret
  exact ⟨er_, CM HB.1 j.1⟩
 rw [if_neg B] at H
 have Z := decide_eq_false B
 have aa : decide (4 < ((AX i a).f1).length) = false := decide_eq_false (by omega)
 clear B
 obtain ⟨z, ap, H⟩ := bs_ H
 (try dsimp only at H)
 have HS_ := Q_ H
 clear H
 try go_wp2
 have n0_ : Aside0 (((D.setCell ⟨c, 0, none⟩ (.int .i64 ((AX i a).f0))).setCell ⟨c, 1, none⟩ (.slice d ((AX i a).f1).length g)).heap[c]? = some (.cells #[.int .i64 ((AX i a).f0), .slice d ((AX i a).f1).length g] 81 (0, 0))) := ⟨pp_ b.1⟩
 have n1_ : Aside0 (Below w.heap.size w ((D.setCell ⟨c, 0, none⟩ (.int .i64 ((AX i a).f0))).setCell ⟨c, 1, none⟩ (.slice d ((AX i a).f1).length g))) := ⟨CM HB.1 j.1⟩
 (try clear b)
 (try clear HB)
 generalize ((D.setCell ⟨c, 0, none⟩ (.int .i64 ((AX i a).f0))).setCell ⟨c, 1, none⟩ (.slice d ((AX i a).f1).length g)) = T at n0_ n1_ ⊢
 (try (rw [show T.drewN nd = T.drewN nd from rfl]; replace n0_ := Q_ (E2 n0_.1 nd); replace n1_ := Q_ (D5 n1_.1 nd); generalize T.drewN nd = T at n0_ n1_ ⊢))
 have b := n0_
 have HB := n1_
 clear n0_ n1_
 have _ := Q_ (Bq b.1)
 have _ := Q_ (Cm HB.1)
 clear b HB
 rename_i b HB
 refine sw_ (S := fun w' => w'.cell? ⟨c, 0, none⟩ = some (.int .i64 ((AX i a).f0)) ∧ w'.cell? ⟨c, 1, none⟩ = some (.slice d ((AX i a).f1).length g)) 25 BE.tab4 BE.bits4 (sb_ b.1) (fun hHeld HT_ HW_ => ?_)
 generalize T.drew = aF at b HB hHeld ⊢
 refine Ba 0 12 25 1 ?_
 refine E1 1 13 25 3 hHeld ?_
 refine on_ 2 (some 14) (tf_ 3 25) HT_ (fun K hK => ?_)
 refine gs_ Tryz.func53 #[.int .i64 ((AX i a).f0), .int .i64 0, .int .i64 255] ?_
 with_reducible refine (Cb.calls ((AX i a).f0) 0 255 true _ A7.1).mono ?_
 rintro e w' ⟨rfl, ⟨nd, rfl⟩⟩
 refine ⟨_, rfl, ?_⟩
 have ad : (a : Int) ≤ ((i.length : Int) : Int) := dt_
 obtain ⟨i027, L, _, hsz27, _⟩ := info_parts Jv
 have hroom27 : i.length ≤ y := Y.1
 have hC27 : Kd.C k81 _ (some o) i.length i := U.1
 have hcut27 := RN (P := Tryz.prog) 51 81 .i64 Tryz.underlying51 L (some o) i.length y a dt_ ad hroom27
 have hr27 := Kd.Sr (m := (a : Int).toNat) hC27 (by omega)
 have hy27 : l.length = (a : Int).toNat := (by rw [p.1, List.length_take]; omega)
 rw [← p.1] at hr27
 rw [← hy27] at hcut27
 have s := Q_ hr27
 have q := Q_ (show l.length ≤ y from by omega)
 clear hr27 hC27 hroom27 L hsz27
 have KY27 := Q_ hy27
 clear hy27
 replace ad := eq_true ad
 refine hK.out _ _ (sb_ b.1) (fun hHeld => ?_)
 clear hK K
 refine no_ (some 14) ?_
 refine Ba 3 15 25 15 ?_
 refine Ba 4 16 25 31 ?_
 refine Ba 5 17 25 63 ?_
 refine Ba 6 18 25 127 ?_
 refine Ba 7 19 25 255 ?_
 refine Ba 8 20 25 511 ?_
 refine E1 9 21 25 1023 hHeld ?_
 refine on_ 10 (some 22) (tf_ 11 25) HT_ (fun K hK => ?_)
 refine gs_ Tryz.func88 #[.slice (some o) l.length y, .int .i64 ((AX i a).f0)] ?_
 with_reducible refine (EO.calls k1 _ _ l ((AX i a).f0) u _ ?side1 q.1 W.1).mono ?_
 (case side1 => exact pc_ (Kd.Ec s.1 (CM HB.1 j.1)))
 rintro e aG ⟨rfl, hb⟩
 refine ⟨_, rfl, ?_⟩
 have _ := Q_ (bb_ b.1 hb)
 have _ := Q_ (AD (CM HB.1 j.1) hb)
 clear b HB
 rename_i b HB
 (try clear hb)
 refine hK.out _ _ (sb_ b.1) (fun hHeld => ?_)
 clear hK K
 refine no_ (some 22) ?_
 refine Ba 11 23 25 4095 ?_
 refine Ba 12 24 25 8191 ?_
 refine Ba 13 25 25 16383 ?_
 refine Ba 14 26 25 32767 ?_
 refine E1 15 27 25 65535 hHeld ?_
 refine Ba 16 28 25 131071 ?_
 refine Ba 17 29 25 262143 ?_
 refine Ba 18 30 25 524287 ?_
 refine Ba 19 31 25 1048575 ?_
 refine Ba 20 32 25 2097151 ?_
 refine E1 21 33 25 4194303 hHeld ?_
 refine on_ 22 (some 34) (tf_ 23 25) HT_ (fun K hK => ?_)
 refine gs_ Tryz.func79 #[.slice d ((AX i a).f1).length g, .int .i64 0, .int .i64 255] ?_
 with_reducible refine (Bn.calls k1 _ _ ((AX i a).f1) 0 255 z _ (cb_ F HB) E.1 ap.1).mono ?_
 rintro e aH ⟨rfl, hb⟩
 refine ⟨_, rfl, ?_⟩
 have _ := Q_ (bb_ b.1 hb)
 have _ := Q_ (AD (CM HB.1 j.1) hb)
 clear b HB
 rename_i b HB
 (try clear hb)
 refine hK.out _ _ (sb_ b.1) (fun hHeld => ?_)
 clear hK K
 refine no_ (some 34) ?_
 refine Ba 23 35 25 16777215 ?_
 refine Ba 24 36 25 33554431 ?_
 refine G8 (E0 HT_.1 (by kernel_rfl)) ?_
 go_upto_if 36 with (fail)
 have H := HS_.1
 clear HS_
 by_cases V : z = true
 rotate_left
 ·replace V := bf_ V
  subst V
  rw [if_neg ff_] at H
  obtain rfl := Option.some.inj H
  go_wp2
  go_ret
  exact ⟨er_, CM HB.1 j.1⟩
 subst V
 rw [if_pos rfl] at H
 have H' := Q_ H
 clear H
 go_wp2
 go_roundg k1
 case measure => have := af.1; omega
 case rel => exact ⟨(wrap64 (a + 1)), el_, H', ⟨by have := af.1; omega⟩, ⟨CM HB.1 j.1⟩⟩
def HJ.f (a : Int) : Option (Bool) := some true
theorem HJ.calls (a : Int) (r : Bool) (w : World) (h : HJ.f a = some r) :
  Calls Tryz.prog 123 #[.int .i64 a] w fun e w' => e = .returned (.bool r) ∧ C' w w' := by
 unfold HJ.f at h
 have H := h
 clear h
 obtain rfl := Option.some.inj H
 go_enter Tryz.func123, Tryz.ntmps123
 go_wp2
 go_ret
 exact ⟨by first | rfl | (simp; done) | (simp [*]; done), by repeat (first | exact C'.refl _ | apply C'.step)⟩
def AN.l0 : Nat → List (S81) → List (S81) → Int → Int → Option ((List (S81)))
 | 0, _, _, _, _ => none
 | k + 1, g, d, c, a => if a < c then (if 0 ≤ a then (if a < (d.length : Int) then ((HJ.f ((AX d a).f0)).bind fun e => (if e = true then ((some (([] : List Int) : List Int)).bind fun b => (if b.length + ((AX d a).f1).length < 17592186044416 then (if g.length < 4398046511104 then (AN.l0 k (g ++ [(⟨(AX d a).f0, (b ++ ((AX d a).f1))⟩ : S81)]) d c (wrap64 (a + 1))) else (none)) else (none))) else (AN.l0 k g d c (wrap64 (a + 1))))) else (none)) else (none)) else (some g)
def AN.f (k : Nat) (a : List (S81)) : Option ((List (S81))) := AN.l0 k (([] : List (S81))) a (a.length : Int) 0
theorem AN.mono_l : ∀ k, (∀ a b c d, LeO (AN.l0 k a b c d) (AN.l0 (k + 1) a b c d))
 | 0 => fun _ _ _ _ r h => by simp [AN.l0] at h
 | k + 1 => by
  have ih0 := AN.mono_l k
  ·intro a b c d
   unfold AN.l0
   exact G7 ih0
theorem AN.mono : ∀ a k, LeO (AN.f k a) (AN.f (k + 1) a) := by
 intro a k
 have ih0 := AN.mono_l k
 unfold AN.f
 exact G7 ih0
def AN.T6 : Bool × List (List Nat × List Nat) := (true, [([], []), ([], []), ([1], [1]), ([], []), ([], []), ([4], [4]), ([3, 5], [3, 5]), ([2, 6], [2, 6]), ([7], [7]), ([0, 8, 6], [0, 8]), ([9, 9, 0, 1, 2, 3, 4, 5, 6, 7, 8, 9], [0, 9])])
def AN.B6 : List Nat := [0, 0, 2, 0, 0, 16, 56, 126, 254, 511, 1023]
theorem AN.tab6 : rtab .any (opsOf Tryz.f122 6) = AN.T6 := by kernel_rfl
theorem AN.bits6 : Fa AN.T6.2 AN.B6 = true := by kernel_rfl
theorem AN.calls (k : Nat) (A0 : Option Addr) (c0 : Nat) (l : List (S81)) (r : List (S81)) (w : World) (hr0 : Kd.C k81 w A0 l.length l) (ai : l.length ≤ c0) (h : AN.f k l = some r) :
  Calls Tryz.prog 122 #[.slice A0 l.length c0, .func (.func 123) #[] #[]] w fun e w' => ∃ v0_ : Value, e = .returned (v0_) ∧ Kd.S k81 81 w' w.heap.size (fun _ => True) v0_ r ∧ Below w.heap.size w w' := by
 have hu81 := Tryz.underlying81
 have an := Q_ hr0
 have aD := Q_ ai
 clear hr0 ai
 have HB := Q_ (Below.refl w.heap.size w)
 unfold AN.f at h
 have H := h
 clear h
 obtain ⟨V, hy148⟩ : ∃ y_ : List (S81), y_ = (([] : List (S81))) := ⟨_, rfl⟩
 replace H : (AN.l0 k V l (l.length : Int) 0) = some r := hb_ hy148 H
 have E := Q_ hy148
 clear hy148
 have H' := Q_ H
 clear H
 go_enter Tryz.func122, Tryz.ntmps122
 go_wp2_with (first | ((with_reducible refine FP (N := 8) rfl ?_); refine Kd.Nn k81 _ 81 ?hg (N := 8) ?hd (xs := ([] : List (S81))) (inner := []) (ok := fun _ => True) (okp := fun _ => True) ?hr ?hp (fun _ hk => hk) trivial (Below.refl _ _) (Nat.le_refl _) (by simp) ?_; (case hd => rfl); (case hg => rfl); (case hr => first | (go_simp; done) | (go_simp; rfl)); (case hp => exact (Reps.none _ _)); intro ay w2 G hb hg_ hnew_; clear hg_ hnew_; rw [← E.1] at G; have _ := Q_ (Kd.Fh G (AZ (pb_ HB.1))); have _ := Q_ (AD (pb_ HB.1) hb); clear HB; rename_i Y HB; clear hb G))
 (try simp only [Act.put, s1_, s2_, s3_])
 go_loopg [5, 11] k (fun kq v5 aq w' => ∃ (q : List (S81)) (a : Int), aq = .int .i64 a ∧ Aside0 (AN.l0 kq q l (l.length : Int) a = some r) ∧ Aside0 (kq ≤ k) ∧ Aside0 (Kd.S k81 81 w' w.heap.size (fun _ => True) v5 q) ∧ Aside0 (Below w.heap.size w w'))
 case atStart => exact ⟨(V), (0), el_, H', ⟨Nat.le_refl _⟩, ⟨ps_ Y.1⟩, ⟨pb_ HB.1⟩⟩
 clear H'
 obtain ⟨q, a, rfl, HA, L, d, HB⟩ := hrel
 rcases gk with _ | k1
 ·exact absurd HA.1 (by simp [AN.l0])
 have H := HA.1
 clear HA
 simp only [AN.l0] at H
 by_cases c4 : a < (l.length : Int)
 rotate_left
 ·rw [if_neg c4] at H
  have ag := decide_eq_false c4
  clear c4
  obtain rfl := Option.some.inj H
  go_wp2
  go_ret
  exact ⟨_, er_, ps_ d.1, pb_ HB.1⟩
 rw [if_pos c4] at H
 have ag := decide_eq_true c4
 clear c4
 by_cases c5 : 0 ≤ a
 rotate_left
 ·rw [if_neg c5] at H
  exact nn_ H
 rw [if_pos c5] at H
 have av := decide_eq_true c5
 clear c5
 by_cases c6 : a < (l.length : Int)
 rotate_left
 ·rw [if_neg c6] at H
  exact nn_ H
 rw [if_pos c6] at H
 have aw := decide_eq_true c6
 clear c6
 have HS_ := Q_ H
 clear H
 have I : 0 ≤ (a : Int) := dt_
 have J : a < (l.length : Int) := dt_
 obtain ⟨ao, i, j, ah, y, z, af, D⟩ := Ip an.1 a I J
 cases ah
 replace y := bt_ HB y
 replace z := bt_ HB z
 replace I := eq_true I
 replace J := eq_true J
 go_upto_region 5 with (first | (refine bg_ 7 #[.int .i64 0, .slice none 0 0] 81 ?_; intro c hg w7 hbox hb; have _ := Q_ (Kd.FB (Kd.J5 (ps_ d.1) c (Nat.le_of_eq hg.symm)) hb); have _ := Q_ (AD (pb_ HB.1) hb); have b := Q_ (hbox); have X := Q_ (gw_ (w := w) hg (pb_ HB.1)); have m := X; clear d HB; rename_i d HB; clear hb hbox hg; have ax := Ew b.1))
 (try simp only [Act.put, s1_, s2_, s3_])
 have H := HS_.1
 clear HS_
 obtain ⟨U, A9, H⟩ := bs_ H
 (try dsimp only at H)
 have HS_ := Q_ H
 clear H
 have ap := Ew b.1
 go_upto_if 18 with (first | (go_at_call 123; (with_reducible refine (HJ.calls ((AX l a).f0) U _ A9.1).mono ?_); rintro e w' ⟨rfl, ⟨nd, rfl⟩⟩))
 (try simp only [Act.put, s1_, s2_, s3_])
 have H := HS_.1
 clear HS_
 by_cases M : U = true
 rotate_left
 ·replace M := bf_ M
  subst M
  rw [if_neg ff_] at H
  have H' := Q_ H
  clear H
  go_wp2
  go_roundg k1
  case measure => have := L.1; omega
  case rel => exact ⟨(q), (wrap64 (a + 1)), el_, H', ⟨by have := L.1; omega⟩, ⟨by (with_reducible repeat (first | apply Kd.Gq | apply Kd.Fz | apply Kd.Gz)); exact Kd.Ea (Kd.GQ (p := ⟨c, 1, none⟩) (Kd.GQ (p := ⟨c, 0, none⟩) (Kd.Ea d.1 (fun k_ hk => (⟨hk, hk.2⟩ : _ ∧ k_ ≠ c))) (fun _ hk => hk.2) (.int .i64 ((AX l a).f0))) (fun _ hk => hk.2) (.slice i ((AX l a).f1).length j)) (fun _ hk => trivial)⟩, ⟨CM HB.1 m.1⟩⟩
 subst M
 rw [if_pos rfl] at H
 obtain ⟨A, hy154⟩ : ∃ y_ : List Int, y_ = (([] : List Int)) := ⟨_, rfl⟩
 replace H : (if A.length + ((AX l a).f1).length < 17592186044416 then (if q.length < 4398046511104 then (AN.l0 k1 (q ++ [(⟨(AX l a).f0, (A ++ ((AX l a).f1))⟩ : S81)]) l (l.length : Int) (wrap64 (a + 1))) else (none)) else (none)) = some r := hb_ hy154 H
 have F := Q_ hy154
 clear hy154
 by_cases O : A.length + ((AX l a).f1).length < 17592186044416
 rotate_left
 ·rw [if_neg O] at H
  exact nn_ H
 rw [if_pos O] at H
 have aa := Q_ O
 clear O
 obtain ⟨u, hy157⟩ : ∃ y_ : List Int, y_ = (A ++ ((AX l a).f1)) := ⟨_, rfl⟩
 replace H : (if q.length < 4398046511104 then (AN.l0 k1 (q ++ [(⟨(AX l a).f0, u⟩ : S81)]) l (l.length : Int) (wrap64 (a + 1))) else (none)) = some r := hb_ hy157 H
 have ac := Q_ hy157
 clear hy157
 by_cases P : q.length < 4398046511104
 rotate_left
 ·rw [if_neg P] at H
  exact nn_ H
 rw [if_pos P] at H
 have ab := Q_ P
 clear P
 obtain ⟨W, hy160⟩ : ∃ y_ : List (S81), y_ = (q ++ [(⟨(AX l a).f0, u⟩ : S81)]) := ⟨_, rfl⟩
 replace H : (AN.l0 k1 W l (l.length : Int) (wrap64 (a + 1))) = some r := hb_ hy160 H
 have ad := Q_ hy160
 clear hy160
 have H' := Q_ H
 clear H
 try go_wp2
 have n0_ : Aside0 (Kd.S k81 81 ((w7.setCell ⟨c, 0, none⟩ (.int .i64 ((AX l a).f0))).setCell ⟨c, 1, none⟩ (.slice i ((AX l a).f1).length j)) w.heap.size (fun k_ => k_ ≠ c) u5 q) := ⟨by (with_reducible repeat (first | apply Kd.Gq | apply Kd.Fz | apply Kd.Gz)); exact Kd.Ea (Kd.GQ (p := ⟨c, 1, none⟩) (Kd.GQ (p := ⟨c, 0, none⟩) (Kd.Ea d.1 (fun k_ hk => (⟨hk, hk.2⟩ : _ ∧ k_ ≠ c))) (fun _ hk => hk.2) (.int .i64 ((AX l a).f0))) (fun _ hk => hk.2) (.slice i ((AX l a).f1).length j)) (fun _ hk => hk.1.2)⟩
 have n1_ : Aside0 (((w7.setCell ⟨c, 0, none⟩ (.int .i64 ((AX l a).f0))).setCell ⟨c, 1, none⟩ (.slice i ((AX l a).f1).length j)).heap[c]? = some (.cells #[.int .i64 ((AX l a).f0), .slice i ((AX l a).f1).length j] 81 (0, 0))) := ⟨pp_ b.1⟩
 have n2_ : Aside0 (Below w.heap.size w ((w7.setCell ⟨c, 0, none⟩ (.int .i64 ((AX l a).f0))).setCell ⟨c, 1, none⟩ (.slice i ((AX l a).f1).length j))) := ⟨CM HB.1 m.1⟩
 (try clear d)
 (try clear b)
 (try clear HB)
 generalize ((w7.setCell ⟨c, 0, none⟩ (.int .i64 ((AX l a).f0))).setCell ⟨c, 1, none⟩ (.slice i ((AX l a).f1).length j)) = s at n0_ n1_ n2_ ⊢
 (try (rw [show s.drewN nd = s.drewN nd from rfl]; replace n0_ := Q_ (Kd.Fz n0_.1 nd); replace n1_ := Q_ (E2 n1_.1 nd); replace n2_ := Q_ (D5 n2_.1 nd); generalize s.drewN nd = s at n0_ n1_ n2_ ⊢))
 have d := n0_
 have b := n1_
 have HB := n2_
 clear n0_ n1_ n2_
 (try (rw [JK s]; generalize hq_ : World.drewN s _ = s; have n0_ : Aside0 (Kd.S k81 81 s w.heap.size (fun k_ => k_ ≠ c) u5 q) := ⟨by rw [← hq_]; exact (ps_ d.1)⟩; have n1_ : Aside0 (s.heap[c]? = some (.cells #[.int .i64 ((AX l a).f0), .slice i ((AX l a).f1).length j] 81 (0, 0))) := ⟨by rw [← hq_]; exact (pk_ b.1)⟩; have n2_ : Aside0 (Below w.heap.size w s) := ⟨by rw [← hq_]; exact (CM HB.1 m.1)⟩; clear d b HB hq_; have d := n0_; have b := n1_; have HB := n2_; clear n0_ n1_ n2_))
 have _ := Q_ (Kd.Gz d.1)
 have _ := Q_ (Bq b.1)
 have _ := Q_ (Cm HB.1)
 clear d b HB
 rename_i d b HB
 refine sw_ (S := fun w' => w'.cell? ⟨c, 0, none⟩ = some (.int .i64 ((AX l a).f0)) ∧ w'.cell? ⟨c, 1, none⟩ = some (.slice i ((AX l a).f1).length j)) 11 AN.tab6 AN.bits6 (sb_ b.1) (fun hHeld HT_ HW_ => ?_)
 generalize s.drew = aG at d b HB hHeld ⊢
 refine Ba 0 19 11 1 ?_
 refine Ba 1 20 11 3 ?_
 refine Ba 4 23 11 19 ?_
 refine E1 2 21 11 23 hHeld ?_
 refine E1 5 24 11 55 hHeld ?_
 refine on_ 3 (some 22) (tf_ 6 11) HT_ (fun K hK => ?_)
 refine JY .i64 3 22 ([] : List Int) ?_
 intro aj aH t hb
 rw [← F.1] at t
 have _ := Q_ (Kd.H2 (ps_ d.1) (Kd.BJ t) hb)
 have _ := Q_ (Kd.BV t (AZ (CM HB.1 m.1)))
 have _ := Q_ (bb_ b.1 hb)
 have _ := Q_ (AD (CM HB.1 m.1) hb)
 clear d b HB
 rename_i d B b HB
 clear hb t
 refine hK.out _ _ (sb_ b.1) (fun hHeld => ?_)
 clear hK K
 refine no_ (some 22) ?_
 refine on_ 6 (some 25) (tf_ 7 11) HT_ (fun K hK => ?_)
 refine Kd.D2 (Kd.int .i64) (w0 := w) w.heap.size (by rfl) (.tmp 22) (.tmp 24) 22 3 (.int .i64 0) 8 rfl Tryz.underlying22 HI rfl (by decide) (by omega) aj A ((AX l a).f1) _ _ _ (fun _ => True) (fun _ => False) rfl rfl ?aO ?aR (fun _ _ h => h) (fun _ h => h.elim) ?aF ?aB ?aS ?aL ?_
 (case aR => exact cb_ D HB)
 (case aB => exact (CM HB.1 m.1))
 (case aF => exact (fun _ _ => trivial))
 (case aO => exact (pr_ B.1))
 (case aS => exact (AZ (CM HB.1 m.1)))
 (case aL => have := aa.1; omega)
 intro az aI ho hb hg hat
 rw [← ac.1] at ho
 have _ := Q_ (Kd.JP (ok := (fun k_ => k_ ≠ c)) (ps_ d.1) hg hat)
 have _ := Q_ (Eb (g := c) (o := .cells #[.int .i64 ((AX l a).f0), .slice i ((AX l a).f1).length j] 81 (0, 0)) (pk_ b.1) hg (Kd.JB B.1 b.1 (by decide)))
 have _ := Q_ (hb)
 have _ := Q_ (ho)
 clear d b HB B
 rename_i d b HB x
 clear ho hb hg hat
 obtain ⟨Q, R, T⟩ := Kd.Bo x.1
 (first | subst T | (injection T with f1_ f2_ f3_; have f4_ := f1_.symm; have f5_ := f3_.symm; clear f1_ f2_ f3_; subst f4_; subst f5_))
 refine hK.out _ _ (sb_ b.1) (fun hHeld => ?_)
 clear hK K
 refine no_ (some 25) ?_
 refine Ba 7 26 11 255 ?_
 refine on_ 8 (some 27) (tf_ 9 11) HT_ (fun K hK => ?_)
 refine Nz (w1 := ?_) (v := ?_) (by rfl) rfl ?_ ?_
 rotate_left 2
 ·go_simp
  constructor
  ·rfl
  ·rfl
 refine hK.out _ _ (sb_ (G3 b.1 _)) (fun hHeld => ?_)
 clear hK K
 refine no_ (some 27) ?_
 refine on_ 9 (some 28) (tf_ 10 11) HT_ (fun K hK => ?_)
 refine Kd.IR k81 (w0 := w) w.heap.size (by rfl) (.tmp 19) (.tmp 27) 51 81 (.agg #[(.int .i64 0), (.slice none 0 0)]) 32 rfl Tryz.underlying51 Jv rfl (by decide) (by omega) u5 q (⟨(AX l a).f0, u⟩ : S81) [.int .i64 ((AX l a).f0), .slice Q u.length R] (fun k_ => k_ ≠ c) (fun k_ => some k_ = (.slice Q u.length R : Value).ownBlock) rfl rfl ?aP (fun k_ hk_ => ((Kd.Ax (ok' := fun k_ => ((fun k_ => k_ ≠ c)) k_ ∧ some k_ ≠ (u5 : Value).ownBlock) (Kd.Bi (Kd.Eh (x.1) (Kd.IG d.1) (by decide)) b.1 (by decide)) (fun k_ hk => ⟨hk.2, hk.1.2⟩))).1 k_ hk_.symm) ?aF ?aO ?aB ?aS ?aL ?_
 (case aP => exact Jq _ _ _ (⟨(AX l a).f0, u⟩ : S81) (Kd.Ax (Kd.I' rfl (Kd.Ax (ok' := fun k_ => ((fun k_ => k_ ≠ c)) k_ ∧ some k_ ≠ (u5 : Value).ownBlock) (Kd.Bi (Kd.Eh (x.1) (Kd.IG d.1) (by decide)) b.1 (by decide)) (fun k_ hk => ⟨hk.2, hk.1.2⟩))) (fun _ h_ => h_)))
 (case aB => exact (CM HB.1 m.1))
 (case aF => exact (fun k_ hk => Kd.Gy (g := c) (o := .cells #[.int .i64 ((AX l a).f0), .slice i ((AX l a).f1).length j] 81 (0, 0)) (pk_ b.1) k_ hk))
 (case aO => exact (by (with_reducible repeat (first | apply Kd.Gq | apply Kd.Fz | apply Kd.Gz)); exact Kd.Ea d.1 (fun k_ hk => ⟨hk.1, fun e_ => hk.2 e_⟩)))
 (case aS => exact (AZ (CM HB.1 m.1)))
 (case aL => have := ab.1; omega)
 intro aA aJ ho hb hg hat
 rw [← ad.1] at ho
 have _ := Q_ (Eb (g := c) (o := .cells #[.int .i64 ((AX l a).f0), .slice i ((AX l a).f1).length j] 81 (0, 0)) (pk_ b.1) hg (Kd.Nv d.1 (fun _ hk => hk.1)))
 have _ := Q_ (hb)
 have _ := Q_ (ho)
 clear b HB d x
 rename_i b HB Z
 clear ho hb hg hat
 refine hK.out _ _ (sb_ b.1) (fun hHeld => ?_)
 clear hK K
 refine no_ (some 28) ?_
 refine Ba 10 5 11 2047 ?_
 refine G8 (E0 HT_.1 (by kernel_rfl)) ?_
 try go_wp2
 go_roundg k1
 case measure => have := L.1; omega
 case rel => exact ⟨(W), (wrap64 (a + 1)), el_, H', ⟨by have := L.1; omega⟩, ⟨ps_ (Kd.Ea Z.1 (fun _ hk => trivial))⟩, ⟨CM HB.1 m.1⟩⟩
def Dc.f (k : Nat) (b : List (S81)) : Option ((List (S81))) := (AN.f k b).bind fun a => (some a)
theorem Dc.mono : ∀ a k, LeO (Dc.f k a) (Dc.f (k + 1) a) := by
 intro a k
 unfold Dc.f
 exact G7 AN.mono
theorem Dc.calls (k : Nat) (l : Option Addr) (m : Nat) (c : List (S81)) (r : List (S81)) (w : World) (hr0 : Kd.C k81 w l c.length c) (d : c.length ≤ m) (h : Dc.f k c = some r) :
  Calls Tryz.prog 86 #[.slice l c.length m] w fun e w' => ∃ v0_ : Value, e = .returned (v0_) ∧ Kd.S k81 81 w' w.heap.size (fun _ => True) v0_ r ∧ Below w.heap.size w w' := by
 have j := Q_ hr0
 have i := Q_ d
 clear hr0 d
 have HB := Q_ (Below.refl w.heap.size w)
 unfold Dc.f at h
 have H := h
 clear h
 obtain ⟨a, o, H⟩ := bs_ H
 replace H : (some a) = some r := H
 obtain rfl := Option.some.inj H
 go_enter Tryz.func86, Tryz.ntmps86
 go_wp2_with (first | (go_at_call 122; (with_reducible refine (AN.calls k _ _ c a _ (pc_ j.1) i.1 o.1).mono ?_); rintro e p ⟨n, rfl, g, hb⟩; have _ := Q_ (Kd.Fh g (AZ (pb_ HB.1))); have _ := Q_ (AD (pb_ HB.1) hb); clear HB; rename_i b HB; (try clear hb g)))
 go_ret
 exact ⟨_, er_, ps_ b.1, pb_ HB.1⟩
def Hq.f (c : Int) (a : Int) : Option (Int) := (Cb.f a 1 1000000000000).bind fun b => (if b = true then (if a = 0 then (none) else (some (Int.tmod (wrap64 ((Int.tmod c a) + a)) a))) else (some 0))
theorem Hq.calls (j : Int) (b : Int) (r : Int) (w : World) (h : Hq.f j b = some r) :
  Calls Tryz.prog 127 #[.int .i64 j, .int .i64 b] w fun e w' => e = .returned (.int .i64 r) ∧ C' w w' := by
 unfold Hq.f at h
 have H := h
 clear h
 obtain ⟨a, k, H⟩ := bs_ H
 (try dsimp only at H)
 have HS_ := Q_ H
 clear H
 go_enter Tryz.func127, Tryz.ntmps127
 go_upto_if 7 with (first | (refine gk_ 53 6 Tryz.func53 #[.int .i64 b, .int .i64 1, .int .i64 1000000000000] ?_; (with_reducible refine (Cb.calls b 1 1000000000000 a _ k.1).mono ?_); rintro e w' ⟨rfl, ⟨nd, rfl⟩⟩; refine ⟨_, rfl, ?_⟩))
 (try simp only [Act.put, s1_, s2_, s3_])
 have H := HS_.1
 clear HS_
 by_cases g : a = true
 rotate_left
 ·replace g := bf_ g
  subst g
  rw [if_neg ff_] at H
  obtain rfl := Option.some.inj H
  go_wp2
  go_ret
  exact ⟨by first | rfl | (simp; done) | (simp [*]; done), by repeat (first | exact C'.refl _ | apply C'.step)⟩
 subst g
 rw [if_pos rfl] at H
 by_cases i : b = 0
 rotate_left
 ·rw [if_neg i] at H
  have c : (b == 0) = false := beq_eq_false_iff_ne.mpr i
  have d : (b != 0) = true := bne_iff_ne.mpr i
  (first | rw [c] | (simp only [E4, E']; rw [c]) | rw [d] | (have c_ := d; rw [bne] at c_; rw [c_]; clear c_) | skip)
  obtain rfl := Option.some.inj H
  go_wp2
  go_ret
  exact ⟨by first | rfl | (simp; done) | (simp [*]; done), by repeat (first | exact C'.refl _ | apply C'.step)⟩
 rw [if_pos i] at H
 exact nn_ H
end Go.Proofs.YtibmehnippjakaaGreat.Print
