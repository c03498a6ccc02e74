-- Written by a program of this session (printx.py) out of the translation; Lean checks it.
import Derived.Test.YtfhndlgbjhffiaaPrint0
import Derived.Test.YtfhndlgbjhffiaaPrint6
namespace Go.Proofs.Ytfhndlgbjhffiaa.Print
open Go.RowKit Go.Proofs.YtfhndlgbjhffiaaW.PrintWords Go.Proofs.YtfhndlgbjhffiaaW.PrintLast Go.Proofs.YtfhndlgbjhffiaaW.PrintMore Go.Proofs.Ytfhndlgbjhffiaa.Short
attribute [local go_sem] max2_int min2_int max_two min_two max_three min_three max_four min_four   -- for this text's walks alone
set_option linter.unusedVariables false
set_option maxHeartbeats 8000000
set_option maxRecDepth 100000
set_option linter.unusedSimpArgs false

/-! ### laws_markIntSS: function 17, by hand -/
def laws_markIntSS.l0 : Nat → List (List Int) → Int → Int → Option (Int × List (List Int))
 | 0, _, _, _ => none
 | k + 1, c, d, b => if b < (c.length : Int) then (if 0 ≤ b then ((laws_markIntS.f k (rd_L1 c b) d).bind fun a => (laws_markIntSS.l0 k (c.set (b : Int).toNat a.2) a.1 (wrap64 (b + 1)))) else (none)) else (some (d, c))
def laws_markIntSS.f (k : Nat) (b : List (List Int)) (a : Int) : Option (Int × List (List Int)) := laws_markIntSS.l0 k b a 0
theorem S_call0_ {α : Type} {d : Kd α} {e g n cap : Nat} {W : World} {base : Nat} {ok : Nat → Prop} {xs : List α} (h : Kd.S d e W base ok (.slice (some ⟨g, 0, none⟩) n cap) xs) (z : α) (i : Int) (h0 : 0 ≤ i) (h1 : i < n) :
  ∃ (oki : Nat → Prop) (c : List Value), c.length = d.sz ∧ d.M W base oki (xs.getD i.toNat z) c ∧ (∀ j u, c[j]? = some u → W.cell? ⟨g, i.toNat * d.sz + j, none⟩ = some u) ∧ (∀ k, oki k → ok k) ∧
   ∀ {w1 : World} {x' : α}, Kept W w1 oki → d.M w1 base oki x' c → Kd.S d e w1 base ok (.slice (some ⟨g, 0, none⟩) n cap) (xs.set i.toNat x') := by
 obtain ⟨oki, c, hcl, hM, hcc, hoki, hH⟩ := Kd.S_lend h z i h0 h1
 exact ⟨oki, c, hcl, hM, hcc, fun k hk => (hoki k hk).1, fun hk a => Kd.H_back (Kd.H_step hH (fun k _ hn hlt => hk.2 k hlt hn)) a (fun _ h_ => h_)⟩
theorem bN_ {W w1 : World} (_ : Below W.heap.size W w1) : ∃ N, N = W.heap.size := ⟨_, rfl⟩
theorem S_oldN_ {α : Type} {d : Kd α} {e N : Nat} {W w1 : World} {base : Nat} {ok : Nat → Prop} {u : Value} {xs : List α} (hN : N = W.heap.size) (h : Kd.S d e W base ok u xs) (hb : Below W.heap.size W w1) : Kd.S d e w1 base (fun k => ok k ∧ k < N) u xs := hN ▸ Kd.S_old h hb
theorem R_oldN_ {α : Type} {d : Kd α} {e N : Nat} {W w1 : World} {base : Nat} {ok : Nat → Prop} {u : Value} {xs : List α} (hN : N = W.heap.size) (h : Kd.R d e W base ok u xs) (hb : Below W.heap.size W w1) : Kd.R d e w1 base (fun k => ok k ∧ k < N) u xs := hN ▸ Kd.R_old h hb
theorem S_toldN_ {α : Type} {d : Kd α} {e N M : Nat} {w1 : World} {base : Nat} {ok : Nat → Prop} {u v : Value} {xs : List α} (hN : N = M) (h : Kd.S d e w1 base (fun k => ok k ∧ k < N) u xs) (hb : ∀ k, v.ownBlock = some k → M ≤ k) : Kd.S d e w1 base (fun k => (ok k ∧ some k ≠ v.ownBlock) ∧ k < N) u xs := Kd.S_told h (hN ▸ hb)
theorem R_toldN_ {α : Type} {d : Kd α} {e N M : Nat} {w1 : World} {base : Nat} {ok : Nat → Prop} {u v : Value} {xs : List α} (hN : N = M) (h : Kd.R d e w1 base (fun k => ok k ∧ k < N) u xs) (hb : ∀ k, v.ownBlock = some k → M ≤ k) : Kd.R d e w1 base (fun k => (ok k ∧ some k ≠ v.ownBlock) ∧ k < N) u xs := Kd.R_told h (hN ▸ hb)
theorem S_geN_ {α : Type} {d : Kd α} {e N M : Nat} {w1 : World} {ok : Nat → Prop} {v : Value} {xs : List α} (hN : N = M) (h : Kd.S d e w1 M ok v xs) : Kd.S d e w1 M (fun k => ok k ∧ N ≤ k) v xs := Kd.S_mono (Kd.S_bound h) (fun _ hk => ⟨hk.1, hN ▸ hk.2.1⟩)
theorem R_geN_ {α : Type} {d : Kd α} {e N M : Nat} {w1 : World} {ok : Nat → Prop} {v : Value} {xs : List α} (hN : N = M) (h : Kd.R d e w1 M ok v xs) : Kd.R d e w1 M (fun k => ok k ∧ N ≤ k) v xs := Kd.R_mono (Kd.R_bound h) (fun _ hk => ⟨hk.1, hN ▸ hk.2.1⟩)
theorem laws_markIntSS.mono_l : ∀ k, (∀ a b c, LeO (laws_markIntSS.l0 k a b c) (laws_markIntSS.l0 (k + 1) a b c))
 | 0 => fun _ _ _ r h => by simp [laws_markIntSS.l0] at h
 | k + 1 => by
  have ih0 := laws_markIntSS.mono_l k
  ·intro a b c
   unfold laws_markIntSS.l0
   exact mo2_ ih0 laws_markIntS.mono
theorem laws_markIntSS.mono : ∀ a b k, LeO (laws_markIntSS.f k a b) (laws_markIntSS.f (k + 1) a b) := by
 intro a b k
 have ih0 := laws_markIntSS.mono_l k
 unfold laws_markIntSS.f
 exact mo2_ ih0 laws_markIntS.mono
theorem laws_markIntSS.calls (k : Nat) (P0_ : Nat → Prop) (u9000_ : Value) (q : List (List Int)) (r : Int) (t : Int) (u : List (List Int)) (w0 w : World) (hB : Below w0.heap.size w0 w) (D : Kd.S (Kd.slice 3 (Kd.int .i64)) 22 w w0.heap.size P0_ u9000_ q) (h : laws_markIntSS.f k q r = some (t, u)) :
  Calls Try.prog 17 #[u9000_, .int .i64 r] w fun e w' => e = .returned (.int .i64 t) ∧ Kd.S (Kd.slice 3 (Kd.int .i64)) 22 w' w0.heap.size (fun k_ => P0_ k_) u9000_ u ∧ Below w0.heap.size w0 w' ∧ Kept w w' (fun k_ => P0_ k_) := by
 have y := Q_ (show Kd.S (Kd.slice 3 (Kd.int .i64)) 22 w w0.heap.size (fun k_ => P0_ k_) u9000_ q from D)
 have HK := Q_ (Kept.refl w (fun k_ => P0_ k_))
 have HW0 := Q_ hB.size
 have HB := Q_ hB
 clear hB
 have H : (laws_markIntSS.l0 k q r 0) = some (t, u) := h
 clear h
 have H' := Q_ H
 clear H
 go_enter Try.func17, Try.ntmps17
 go_wp2
 go_loopg [1, 5] k (fun kq Q T w' => ∃ (b : List (List Int)) (d : Int) (a : Int), Q = .int .i64 d ∧ T = .int .i64 a ∧ Aside0 (laws_markIntSS.l0 kq b d a = some (t, u)) ∧ Aside0 (kq ≤ k) ∧ Aside0 (Kd.S (Kd.slice 3 (Kd.int .i64)) 22 w' w0.heap.size (fun k_ => P0_ k_) u9000_ b) ∧ Aside0 (Kept w w' (fun k_ => P0_ k_)) ∧ Aside0 (Below w0.heap.size w0 w'))
 case atStart => exact ⟨(q), (r), (0), el_, el_, H', ⟨Nat.le_refl _⟩, ⟨by (with_reducible repeat (first | apply Kd.S_alloc | apply Kd.S_drewN | apply Kd.S_drew)); exact y.1⟩, ⟨qt0_ HK.1⟩, ⟨qb0_ HB.1⟩⟩
 clear H'
 obtain ⟨b, d, a, rfl, rfl, HA, n, c, HK, HB⟩ := hrel
 rcases gk with _ | k1
 ·exact absurd HA.1 (by simp [laws_markIntSS.l0])
 have H := HA.1
 clear HA
 simp only [laws_markIntSS.l0] at H
 by_cases m : a < (b.length : Int)
 rotate_left
 ·rw [if_neg m] at H
  have p := decide_eq_false m
  clear m
  simp only [Option.some.injEq, Prod.mk.injEq] at H
  obtain ⟨rfl, rfl⟩ := H
  obtain ⟨L, N, z⟩ := Kd.S_slice c.1
  subst z
  go_wp2
  go_ret
  exact ⟨el_, by (with_reducible repeat (first | apply Kd.S_alloc | apply Kd.S_drewN | apply Kd.S_drew)); exact c.1, qb0_ HB.1, qt0_ HK.1⟩
 rw [if_pos m] at H
 have p := decide_eq_true m
 clear m
 by_cases s : 0 ≤ a
 rotate_left
 ·rw [if_neg s] at H
  exact nn_ H
 rw [if_pos s] at H
 have G := decide_eq_true s
 clear s
 obtain ⟨⟨I, J⟩, K, H⟩ := bs_ H
 (try dsimp only at H)
 have H' := Q_ H
 clear H
 have E : 0 ≤ (a : Int) := dt_
 have F : (a : Int) < ((b.length : Int) : Int) := dt_
 obtain ⟨P, O, A, B, gl6, HG6⟩ := Kd.S_form c.1 (by omega)
 subst A
 clear B gl6 HG6
 obtain ⟨g, M, _, C, j, hoki6, i⟩ := S_call0_ c.1 ([] : List Int) a E F
 obtain ⟨vr6, rfl, hr6⟩ := C
 replace hr6 : Kd.R (Kd.int .i64) 3 _ w0.heap.size g vr6 (rd_L1 b a) := hr6
 obtain ⟨Ar6, cr6, er6⟩ := Kd.R_slice hr6
 subst er6
 have l := j 0 _ rfl
 rw [Nat.add_zero, show (Kd.slice 3 (Kd.int .i64)).sz = 1 from rfl, Nat.mul_one] at l
 have o := Q_ (show Kd.R (Kd.int .i64) 3 _ w0.heap.size g (.slice Ar6 (rd_L1 b a).length cr6) (rd_L1 b a) from hr6)
 clear hr6 j
 have v := Q_ hoki6
 have x := Q_ @i
 clear hoki6 i
 replace E := eq_true E
 replace F := eq_true F
 go_wp2_with (first | ((with_reducible refine gate_callee (f := 12) rfl ?_); refine goesL_ (some 17) rfl rfl Try.func12 (by kernel_rfl) rfl #[.slice Ar6 (rd_L1 b a).length cr6, .int .i64 d] rfl mp_ ?_; (with_reducible refine (laws_markIntS.calls k1 g (.slice Ar6 (rd_L1 b a).length cr6) (rd_L1 b a) d I J w0 _ ?side1 ?side2 K.1).mono ?_); (case side1 => exact (qb0_ HB.1)); (case side2 => (with_reducible repeat (first | apply Kd.R_alloc | apply Kd.R_drewN | apply Kd.R_drew)); exact o.1); rintro e U ⟨rfl, hy0, hb, hkp⟩; refine ⟨_, rfl, ?_⟩; have _ := Q_ (x.1 (x' := J) (Kept.then_ (S := g) (by repeat (first | exact Kept.refl _ _ | apply Kept.alloc | apply Kept.drewN | apply Kept.drew)) hkp (fun _ h_ => .inl h_)) ⟨_, rfl, Kd.R_reok rfl hy0 (fun k_ e_ => o.1.1 k_ e_)⟩); have _ := Q_ hb; have _ := Q_ (Kept.then_ (S := (fun k_ => P0_ k_)) (qt0_ HK.1) hkp (fun k_ hs_ => .inl (v.1 k_ hs_))); clear c HB HK; rename_i c HB HK; clear hy0 hb hkp))
 go_roundg k1
 case measure => have := n.1; omega
 case rel => exact ⟨_, I, (wrap64 (a + 1)), el_, el_, H', ⟨by have := n.1; omega⟩, ⟨by (with_reducible repeat (first | apply Kd.S_alloc | apply Kd.S_drewN | apply Kd.S_drew)); exact c.1⟩, ⟨qt0_ HK.1⟩, ⟨qb0_ HB.1⟩⟩

/-! ### laws_heldIntS: function 13 -/
def laws_heldIntS.l0 : Nat → List Int → Int → Int → Option (Int)
 | 0, _, _, _ => none
 | k + 1, b, c, a => if a < (b.length : Int) then (if 0 ≤ a then (if (rd b a) = c then (laws_heldIntS.l0 k b (wrap64 (c + 1)) (wrap64 (a + 1))) else (some (-1))) else (none)) else (some c)
def laws_heldIntS.f (k : Nat) (b : List Int) (a : Int) : Option (Int) := laws_heldIntS.l0 k b a 0
theorem laws_heldIntS.mono_l : ∀ k, (∀ a b c, LeO (laws_heldIntS.l0 k a b c) (laws_heldIntS.l0 (k + 1) a b c))
 | 0 => fun _ _ _ r h => by simp [laws_heldIntS.l0] at h
 | k + 1 => by
  have ih0 := laws_heldIntS.mono_l k
  ·intro a b c
   unfold laws_heldIntS.l0
   exact mo1_ ih0
theorem laws_heldIntS.mono : ∀ a b k, LeO (laws_heldIntS.f k a b) (laws_heldIntS.f (k + 1) a b) := by
 intro a b k
 have ih0 := laws_heldIntS.mono_l k
 unfold laws_heldIntS.f
 exact mo1_ ih0
theorem laws_heldIntS.calls (k : Nat) (y : Option Addr) (z : Nat) (g : List Int) (v : Int) (r : Int) (w : World) (hr0 : Kd.C (Kd.int .i64) w y g.length g) (u : g.length ≤ z) (h : laws_heldIntS.f k g v = some r) :
  Calls Try.prog 13 #[.slice y g.length z, .int .i64 v] w fun e w' => e = .returned (.int .i64 r) ∧ Drawn0 w w' := by
 have p := Q_ hr0
 have B := Q_ u
 clear hr0 u
 have H : (laws_heldIntS.l0 k g v 0) = some r := h
 clear h
 have H' := Q_ H
 clear H
 go_enter Try.func13, Try.ntmps13
 go_wp2
 go_loopg [1, 5] k (fun kq D E w' => ∃ (b : Int) (a : Int), D = .int .i64 b ∧ E = .int .i64 a ∧ Aside0 (laws_heldIntS.l0 kq g b a = some r) ∧ Aside0 (kq ≤ k) ∧ Drawn0 w w')
 case atStart => exact ⟨(v), (0), el_, el_, H', ⟨Nat.le_refl _⟩, by repeat (first | exact Drawn0.refl _ | apply Drawn0.step)⟩
 clear H'
 obtain ⟨b, a, rfl, rfl, HA, o, ⟨m1, rfl⟩⟩ := hrel
 rcases gk with _ | k1
 ·exact absurd HA.1 (by simp [laws_heldIntS.l0])
 have H := HA.1
 clear HA
 simp only [laws_heldIntS.l0] at H
 by_cases n : a < (g.length : Int)
 rotate_left
 ·rw [if_neg n] at H
  have q := decide_eq_false n
  clear n
  obtain rfl := Option.some.inj H
  go_wp2
  go_ret
  exact ⟨by first | rfl | (simp; done) | (simp [*]; done), by repeat (first | exact Drawn0.refl _ | apply Drawn0.step)⟩
 rw [if_pos n] at H
 have q := decide_eq_true n
 clear n
 by_cases x : 0 ≤ a
 rotate_left
 ·rw [if_neg x] at H
  exact nn_ H
 rw [if_pos x] at H
 have A := decide_eq_true x
 clear x
 by_cases m : (rd g a) = b
 rotate_left
 ·rw [if_neg m] at H
  have s : ((rd g a) == b) = false := beq_eq_false_iff_ne.mpr m
  have t : ((rd g a) != b) = true := bne_iff_ne.mpr m
  obtain rfl := Option.some.inj H
  have c : 0 ≤ (a : Int) := dt_
  have d : a < (g.length : Int) := dt_
  obtain ⟨l, i, j⟩ := Kd.at_int p.1 a c d
  cases i
  replace c := eq_true c
  replace d := eq_true d
  go_wp2
  go_ret
  exact ⟨by first | rfl | (simp; done) | (simp [*]; done), by repeat (first | exact Drawn0.refl _ | apply Drawn0.step)⟩
 rw [if_pos m] at H
 have s : ((rd g a) == b) = true := beq_iff_eq.mpr m
 have t : ((rd g a) != b) = false := bne_eq_false_iff_eq.mpr m
 clear m
 have H' := Q_ H
 clear H
 have c : 0 ≤ (a : Int) := dt_
 have d : a < (g.length : Int) := dt_
 obtain ⟨l, i, j⟩ := Kd.at_int p.1 a c d
 cases i
 replace c := eq_true c
 replace d := eq_true d
 go_wp2
 go_roundg k1
 case measure => have := o.1; omega
 case rel => exact ⟨(wrap64 (b + 1)), (wrap64 (a + 1)), el_, el_, H', ⟨by have := o.1; omega⟩, by repeat (first | exact Drawn0.refl _ | apply Drawn0.step)⟩

/-! ### laws_heldIntSS: function 18 -/
def laws_heldIntSS.l0 : Nat → List (List Int) → Int → Int → Option (Int)
 | 0, _, _, _ => none
 | k + 1, c, d, b => if b < (c.length : Int) then (if 0 ≤ b then ((laws_heldIntS.f k (rd_L1 c b) d).bind fun a => (if a < 0 then (some (-1)) else (laws_heldIntSS.l0 k c a (wrap64 (b + 1))))) else (none)) else (some d)
def laws_heldIntSS.f (k : Nat) (b : List (List Int)) (a : Int) : Option (Int) := laws_heldIntSS.l0 k b a 0
theorem laws_heldIntSS.mono_l : ∀ k, (∀ a b c, LeO (laws_heldIntSS.l0 k a b c) (laws_heldIntSS.l0 (k + 1) a b c))
 | 0 => fun _ _ _ r h => by simp [laws_heldIntSS.l0] at h
 | k + 1 => by
  have ih0 := laws_heldIntSS.mono_l k
  ·intro a b c
   unfold laws_heldIntSS.l0
   exact mo2_ ih0 laws_heldIntS.mono
theorem laws_heldIntSS.mono : ∀ a b k, LeO (laws_heldIntSS.f k a b) (laws_heldIntSS.f (k + 1) a b) := by
 intro a b k
 have ih0 := laws_heldIntSS.mono_l k
 unfold laws_heldIntSS.f
 exact mo2_ ih0 laws_heldIntS.mono
theorem laws_heldIntSS.calls (k : Nat) (F : Option Addr) (G : Nat) (l : List (List Int)) (A : Int) (r : Int) (w : World) (hr0 : Kd.C (Kd.slice 3 (Kd.int .i64)) w F l.length l) (y : l.length ≤ G) (h : laws_heldIntSS.f k l A = some r) :
  Calls Try.prog 18 #[.slice F l.length G, .int .i64 A] w fun e w' => e = .returned (.int .i64 r) ∧ Drawn0 w w' := by
 have D := Q_ hr0
 have K := Q_ y
 clear hr0 y
 have H : (laws_heldIntSS.l0 k l A 0) = some r := h
 clear h
 have H' := Q_ H
 clear H
 go_enter Try.func18, Try.ntmps18
 go_wp2
 go_loopg [1, 5] k (fun kq L M w' => ∃ (g : Int) (a : Int), L = .int .i64 g ∧ M = .int .i64 a ∧ Aside0 (laws_heldIntSS.l0 kq l g a = some r) ∧ Aside0 (kq ≤ k) ∧ Drawn0 w w')
 case atStart => exact ⟨(A), (0), el_, el_, H', ⟨Nat.le_refl _⟩, by repeat (first | exact Drawn0.refl _ | apply Drawn0.step)⟩
 clear H'
 obtain ⟨g, a, rfl, rfl, HA, u, ⟨m1, rfl⟩⟩ := hrel
 rcases gk with _ | k1
 ·exact absurd HA.1 (by simp [laws_heldIntSS.l0])
 have H := HA.1
 clear HA
 simp only [laws_heldIntSS.l0] at H
 by_cases s : a < (l.length : Int)
 rotate_left
 ·rw [if_neg s] at H
  have v := decide_eq_false s
  clear s
  obtain rfl := Option.some.inj H
  go_wp2
  go_ret
  exact ⟨by first | rfl | (simp; done) | (simp [*]; done), by repeat (first | exact Drawn0.refl _ | apply Drawn0.step)⟩
 rw [if_pos s] at H
 have v := decide_eq_true s
 clear s
 by_cases B : 0 ≤ a
 rotate_left
 ·rw [if_neg B] at H
  exact nn_ H
 rw [if_pos B] at H
 have I := decide_eq_true B
 clear B
 obtain ⟨o, J, H⟩ := bs_ H
 (try dsimp only at H)
 have HS_ := Q_ H
 clear H
 have m : 0 ≤ (a : Int) := dt_
 have n : a < (l.length : Int) := dt_
 obtain ⟨E, p, q, x, z, d, c⟩ := at_L1 D.1 a m n
 cases x
 have j := Q_ c
 have i := Q_ d
 clear c d
 replace m := eq_true m
 replace n := eq_true n
 go_upto_if 19 with (first | ((with_reducible refine gate_callee (f := 13) rfl ?_); refine gl_ (some 17) Try.func13 #[.slice p (rd_L1 l a).length q, .int .i64 g] ?_; (with_reducible refine (laws_heldIntS.calls k1 _ _ (rd_L1 l a) g o _ (pc_ j.1) i.1 J.1).mono ?_); rintro e w' ⟨rfl, ⟨nd, rfl⟩⟩; refine ⟨_, rfl, ?_⟩))
 (try simp only [Act.put, s1_, s2_, s3_])
 have H := HS_.1
 clear HS_
 by_cases t : o < 0
 rotate_left
 ·rw [if_neg t] at H
  have b := decide_eq_false t
  clear t
  (first | rw [b] | (simp only [i64_w, i32_w]; rw [b]) | skip)
  have H' := Q_ H
  clear H
  go_wp2
  go_roundg k1
  case measure => have := u.1; omega
  case rel => exact ⟨(o), (wrap64 (a + 1)), el_, el_, H', ⟨by have := u.1; omega⟩, by repeat (first | exact Drawn0.refl _ | apply Drawn0.step)⟩
 rw [if_pos t] at H
 have b := decide_eq_true t
 clear t
 (first | rw [b] | (simp only [i64_w, i32_w]; rw [b]) | skip)
 obtain rfl := Option.some.inj H
 go_wp2
 go_ret
 exact ⟨by first | rfl | (simp; done) | (simp [*]; done), by repeat (first | exact Drawn0.refl _ | apply Drawn0.step)⟩

end Go.Proofs.Ytfhndlgbjhffiaa.Print
