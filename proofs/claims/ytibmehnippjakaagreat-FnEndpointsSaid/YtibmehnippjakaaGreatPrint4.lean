-- Written by a program of this session (printx.py) out of the translation; Lean checks it.
import Derived.Test.YtibmehnippjakaaGreatPrint0
import Derived.Test.YtibmehnippjakaaGreatPrint1
namespace Go.Proofs.YtibmehnippjakaaGreat.Print
open Go.RowKit Go.Proofs.YtibmehnippjakaaGreatW.PrintWords Go.Proofs.YtibmehnippjakaaGreatW.PrintLast Go.Proofs.YtibmehnippjakaaGreatW.PrintMore Go.Proofs.YtibmehnippjakaaGreat.Short
attribute [local go_sem] F8 Fq G5 G6 FA FH F5 Fp
set_option linter.unusedVariables false
set_option maxHeartbeats 8000000
set_option maxRecDepth 100000
set_option linter.unusedSimpArgs false
def CJ.l0 : Nat → Int → List Int → Int → Int → Option (Int)
  | 0, _, _, _, _ => none
  | k + 1, d, c, e, b => if b < e then (if 0 ≤ b then (if b < (c.length : Int) then ((Hq.f (rd c b) 2147483647).bind fun a => (CJ.l0 k (Int.tmod (wrap64 ((wrap64 ((wrap64 (d * 1000003)) + a)) + 13)) 2147483647) c e (wrap64 (b + 1)))) else (none)) else (none)) else (some d)
def CJ.f (k : Nat) (a : List Int) : Option (Int) := CJ.l0 k 11 a (a.length : Int) 0
theorem CJ.mono_l : ∀ k, (∀ a b c d, LeO (CJ.l0 k a b c d) (CJ.l0 (k + 1) a b c d))
  | 0 => fun _ _ _ _ r h => by simp [CJ.l0] at h
  | k + 1 => by
    have ih0 := CJ.mono_l k
    · intro a b c d
      unfold CJ.l0
      exact G7 ih0
theorem CJ.mono : ∀ a k, LeO (CJ.f k a) (CJ.f (k + 1) a) := by
  intro a k
  have ih0 := CJ.mono_l k
  unfold CJ.f
  exact G7 ih0
theorem CJ.calls (k : Nat) (v : Option Addr) (x : Nat) (b : List Int) (r : Int) (w : World) (hr0 : Kd.C (Kd.int .i64) w v b.length b) (o : b.length ≤ x) (h : CJ.f k b = some r) :
    Calls Tryz.prog 128 #[.slice v b.length x] w fun e w' => e = .returned (.int .i64 r) ∧ C' w w' := by
  have t := Q_ hr0
  have B := Q_ o
  clear hr0 o
  have H : (CJ.l0 k 11 b (b.length : Int) 0) = some r := h
  clear h
  have H' := Q_ H
  clear H
  go_enter Tryz.func128, Tryz.ntmps128
  go_wp2
  go_loopg [3, 8] k (fun kq D E w' => ∃ (c : Int) (a : Int), D = .int .i64 c ∧ E = .int .i64 a ∧ Aside0 (CJ.l0 kq c b (b.length : Int) a = some r) ∧ Aside0 (kq ≤ k) ∧ C' w w')
  case atStart => exact ⟨(11), (0), el_, el_, H', ⟨Nat.le_refl _⟩, by repeat (first | exact C'.refl _ | apply C'.step)⟩
  clear H'
  obtain ⟨c, a, rfl, rfl, HA, l, ⟨m1, rfl⟩⟩ := hrel
  rcases gk with _ | k1
  · exact absurd HA.1 (by simp [CJ.l0])
  have H := HA.1
  clear HA
  simp only [CJ.l0] at H
  by_cases j : a < (b.length : Int)
  rotate_left
  · rw [if_neg j] at H
    have m := decide_eq_false j
    clear j
    obtain rfl := Option.some.inj H
    go_wp2
    go_ret
    exact ⟨by first | rfl | (simp; done) | (simp [*]; done), by repeat (first | exact C'.refl _ | apply C'.step)⟩
  rw [if_pos j] at H
  have m := decide_eq_true j
  clear j
  by_cases q : 0 ≤ a
  rotate_left
  · rw [if_neg q] at H
    exact nn_ H
  rw [if_pos q] at H
  have y := decide_eq_true q
  clear q
  by_cases s : a < (b.length : Int)
  rotate_left
  · rw [if_neg s] at H
    exact nn_ H
  rw [if_pos s] at H
  have z := decide_eq_true s
  clear s
  obtain ⟨i, A, H⟩ := bs_ H
  (try dsimp only at H)
  have H' := Q_ H
  clear H
  have d : 0 ≤ (a : Int) := dt_
  have g : a < (b.length : Int) := dt_
  obtain ⟨u, n, p⟩ := Kd.GG t.1 a d g
  cases n
  replace d := eq_true d
  replace g := eq_true g
  go_wp2_with (first | (refine gk_ 127 15 Tryz.func127 #[.int .i64 (rd b a), .int .i64 2147483647] ?_; (with_reducible refine (Hq.calls (rd b a) 2147483647 i _ A.1).mono ?_); rintro e w' ⟨rfl, ⟨nd, rfl⟩⟩; refine ⟨_, rfl, ?_⟩))
  go_roundg k1
  case measure => have := l.1; omega
  case rel => exact ⟨(Int.tmod (wrap64 ((wrap64 ((wrap64 (c * 1000003)) + i)) + 13)) 2147483647), (wrap64 (a + 1)), el_, el_, H', ⟨by have := l.1; omega⟩, by repeat (first | exact C'.refl _ | apply C'.step)⟩
def D4.f (k : Nat) (d : Int) (e : Int) (c : Int) : Option (Int) := if c < 1 then (some 0) else ((CJ.f k (([d, e] : List Int))).bind fun a => ((Hq.f a c).bind fun b => (some b)))
theorem D4.mono : ∀ a b c k, LeO (D4.f k a b c) (D4.f (k + 1) a b c) := by
  intro a b c k
  unfold D4.f
  exact G7 CJ.mono
theorem D4.calls (k : Nat) (l : Int) (m : Int) (j : Int) (r : Int) (w : World) (h : D4.f k l m j = some r) :
    Calls Tryz.prog 90 #[.int .i64 l, .int .i64 m, .int .i64 j] w fun e w' => e = .returned (.int .i64 r) ∧ Below w.heap.size w w' := by
  have HB := Q_ (Below.refl w.heap.size w)
  have H : (if j < 1 then (some 0) else ((CJ.f k (([l, m] : List Int))).bind fun a => ((Hq.f a j).bind fun b => (some b)))) = some r := h
  clear h
  by_cases n : j < 1
  · rw [if_pos n] at H
    have o := decide_eq_true n
    clear n
    obtain rfl := Option.some.inj H
    go_enter Tryz.func90, Tryz.ntmps90
    go_wp2
    go_ret
    exact ⟨er_, pb_ HB.1⟩
  rw [if_neg n] at H
  have o := decide_eq_false n
  clear n
  obtain ⟨i, hy169⟩ : ∃ y_ : List Int, y_ = (([l, m] : List Int)) := ⟨_, rfl⟩
  replace H : ((CJ.f k i).bind fun a => ((Hq.f a j).bind fun b => (some b))) = some r := hb_ hy169 H
  have d := Q_ hy169
  clear hy169
  obtain ⟨a, u, H⟩ := bs_ H
  replace H : ((Hq.f a j).bind fun b => (some b)) = some r := H
  obtain ⟨b, v, H⟩ := bs_ H
  replace H : (some b) = some r := H
  obtain rfl := Option.some.inj H
  go_enter Tryz.func90, Tryz.ntmps90
  go_wp2_with (first | (refine Ie .i64 3 11 ([l, m] : List Int) ?_; intro t x g hb; rw [← d.1] at g; have _ := Q_ (Kd.BV g (AZ (pb_ HB.1))); have _ := Q_ (AD (pb_ HB.1) hb); clear HB; rename_i c HB; clear hb g; obtain ⟨p, q, s⟩ := Kd.Bo c.1; subst s) | (refine gk_ 128 12 Tryz.func128 #[.slice p i.length q] ?_; (with_reducible refine (CJ.calls k _ _ i a _ ?side1 ?side2 u.1).mono ?_); (case side1 => exact pc_ ((Kd.BH c.1).2.2)); (case side2 => exact (Kd.BH c.1).2.1); rintro e w' ⟨rfl, ⟨nd, rfl⟩⟩; refine ⟨_, rfl, ?_⟩) | (refine gk_ 127 14 Tryz.func127 #[.int .i64 a, .int .i64 j] ?_; (with_reducible refine (Hq.calls a j b _ v.1).mono ?_); rintro e w' ⟨rfl, ⟨nd, rfl⟩⟩; refine ⟨_, rfl, ?_⟩))
  go_ret
  exact ⟨er_, pb_ HB.1⟩
def EJ.f (k : Nat) (b : Int) : Option (Int) := (D4.f k b 0 16).bind fun a => (some (wrap64 ((wrap64 (16 * a)) + 10)))
theorem EJ.mono : ∀ a k, LeO (EJ.f k a) (EJ.f (k + 1) a) := by
  intro a k
  unfold EJ.f
  exact G7 D4.mono
theorem EJ.calls (k : Nat) (b : Int) (r : Int) (w : World) (h : EJ.f k b = some r) :
    Calls Tryz.prog 87 #[.int .i64 b] w fun e w' => e = .returned (.int .i64 r) ∧ Below w.heap.size w w' := by
  have HB := Q_ (Below.refl w.heap.size w)
  have H : ((D4.f k b 0 16).bind fun a => (some (wrap64 ((wrap64 (16 * a)) + 10)))) = some r := h
  clear h
  obtain ⟨a, c, H⟩ := bs_ H
  replace H : (some (wrap64 ((wrap64 (16 * a)) + 10))) = some r := H
  obtain rfl := Option.some.inj H
  go_enter Tryz.func87, Tryz.ntmps87
  go_wp2_with (first | (refine gk_ 90 4 Tryz.func90 #[.int .i64 b, .int .i64 0, .int .i64 16] ?_; (with_reducible refine (D4.calls k b 0 16 a _ c.1).mono ?_); rintro e d ⟨rfl, hb⟩; refine ⟨_, rfl, ?_⟩; have _ := Q_ (AD (pb_ HB.1) hb); clear HB; rename_i HB; (try clear hb)))
  go_ret
  exact ⟨er_, pb_ HB.1⟩
def JD.f (a : Int) (b : Int) : Option (Int × Int) := some (IntKind.u64.wrap ((IntKind.u64.wrap ((IntKind.u64.wrap ((a / 4294967296) * (b / 4294967296))) + ((IntKind.u64.wrap ((IntKind.u64.wrap ((a / 4294967296) * (Go.bits .and .u64 b 4294967295))) + ((IntKind.u64.wrap ((Go.bits .and .u64 a 4294967295) * (Go.bits .and .u64 b 4294967295))) / 4294967296))) / 4294967296))) + ((IntKind.u64.wrap ((Go.bits .and .u64 (IntKind.u64.wrap ((IntKind.u64.wrap ((a / 4294967296) * (Go.bits .and .u64 b 4294967295))) + ((IntKind.u64.wrap ((Go.bits .and .u64 a 4294967295) * (Go.bits .and .u64 b 4294967295))) / 4294967296))) 4294967295) + (IntKind.u64.wrap ((Go.bits .and .u64 a 4294967295) * (b / 4294967296))))) / 4294967296)), IntKind.u64.wrap (a * b))
theorem JD.calls (a : Int) (b : Int) (c : Int) (d : Int) (w : World) (h : JD.f a b = some (c, d)) :
    Calls Tryz.prog 164 #[.int .u64 a, .int .u64 b] w fun e w' => e = .returned (.tuple #[.int .u64 c, .int .u64 d]) ∧ C' w w' := by
  have H : (some (IntKind.u64.wrap ((IntKind.u64.wrap ((IntKind.u64.wrap ((a / 4294967296) * (b / 4294967296))) + ((IntKind.u64.wrap ((IntKind.u64.wrap ((a / 4294967296) * (Go.bits .and .u64 b 4294967295))) + ((IntKind.u64.wrap ((Go.bits .and .u64 a 4294967295) * (Go.bits .and .u64 b 4294967295))) / 4294967296))) / 4294967296))) + ((IntKind.u64.wrap ((Go.bits .and .u64 (IntKind.u64.wrap ((IntKind.u64.wrap ((a / 4294967296) * (Go.bits .and .u64 b 4294967295))) + ((IntKind.u64.wrap ((Go.bits .and .u64 a 4294967295) * (Go.bits .and .u64 b 4294967295))) / 4294967296))) 4294967295) + (IntKind.u64.wrap ((Go.bits .and .u64 a 4294967295) * (b / 4294967296))))) / 4294967296)), IntKind.u64.wrap (a * b))) = some (c, d) := h
  clear h
  simp only [Option.some.injEq, Prod.mk.injEq] at H
  obtain ⟨rfl, rfl⟩ := H
  go_enter Tryz.func164, Tryz.ntmps164
  go_wp2
  go_ret2
  exact ⟨by first | rfl | (simp; done) | (simp [*]; done), by repeat (first | exact C'.refl _ | apply C'.step)⟩
def LM.f (b : Int) (c : Int) : Option (Int × Int) := (JD.f b c).bind fun a => (some (a.1, a.2))
theorem LM.calls (d : Int) (g : Int) (i : Int) (j : Int) (w : World) (h : LM.f d g = some (i, j)) :
    Calls Tryz.prog 126 #[.int .u64 d, .int .u64 g] w fun e w' => e = .returned (.tuple #[.int .u64 i, .int .u64 j]) ∧ C' w w' := by
  have H : ((JD.f d g).bind fun a => (some (a.1, a.2))) = some (i, j) := h
  clear h
  obtain ⟨⟨b, c⟩, k, H⟩ := bs_ H
  replace H : (some (b, c)) = some (i, j) := H
  simp only [Option.some.injEq, Prod.mk.injEq] at H
  obtain ⟨rfl, rfl⟩ := H
  go_enter Tryz.func126, Tryz.ntmps126
  go_wp2_with (first | (refine gk_ 164 25 Tryz.func164 #[.int .u64 d, .int .u64 g] ?_; (with_reducible refine (JD.calls d g b c _ k.1).mono ?_); rintro e w' ⟨rfl, ⟨nd, rfl⟩⟩; refine ⟨_, rfl, ?_⟩))
  go_ret2
  exact ⟨by first | rfl | (simp; done) | (simp [*]; done), by repeat (first | exact C'.refl _ | apply C'.step)⟩
def Dt.f (k : Nat) (a : List (S81)) (s : Int) : Option (List (S81)) := (Dc.f k a).bind fun b => ((EJ.f k s).bind fun t => ((BE.f k a).bind fun o => (if o = true then (if (a.length : Int) = 6 then (some b) else ((EO.f k a t).bind fun e => (if 0 ≤ e then (some b) else ((D4.f k s 3 256).bind fun p => ((D4.f k s 2 3).bind fun c => ((D4.f k s 1 (wrap64 ((a.length : Int) + 1))).bind fun i => (if 0 ≤ c then (if c ≤ 2 then (if 0 ≤ i then (if i ≤ (b.length : Int) then (if (b.length : Int) ≤ 1000000 then (some (b.take i.toNat ++ (⟨t, List.replicate c.toNat p⟩ : S81) :: b.drop i.toNat)) else (none)) else (none)) else (none)) else (none)) else (none)))))))) else (some b))))
theorem Dt.mono : ∀ a b k, LeO (Dt.f k a b) (Dt.f (k + 1) a b) := by
 intro a b k
 unfold Dt.f
 repeat' first
  | (with_reducible exact Dc.mono _ _)
  | (with_reducible exact EJ.mono _ _)
  | (with_reducible exact BE.mono _ _)
  | (with_reducible exact EO.mono _ _ _)
  | (with_reducible exact D4.mono _ _ _ _)
  | (with_reducible exact LeO.refl _)
  | (with_reducible exact LeO.none _)
  | (with_reducible refine LeO.ite ?_ ?_)
  | (with_reducible refine LeO.bind ?_ (fun _ => ?_))
theorem Dt.calls (k : Nat) (d : Option Addr) (g : Nat) (a : List (S81)) (s : Int) (r : List (S81)) (w : World) (hr0 : Kd.C k81 w d a.length a) (ai0 : a.length ≤ g) (h : Dt.f k a s = some r) :
  Calls Tryz.prog 56 #[.slice d a.length g, .int .i64 s] w fun e w' => ∃ v0_ : Value, e = .returned (v0_) ∧ Kd.S k81 81 w' w.heap.size (fun _ => True) v0_ r ∧ Below w.heap.size w w' := by
 unfold Dt.f at h
 obtain ⟨b, hb, h⟩ := Option.bind_eq_some_iff.1 h
 obtain ⟨t, ht, h⟩ := Option.bind_eq_some_iff.1 h
 obtain ⟨o, ho, h⟩ := Option.bind_eq_some_iff.1 h
 have h47 := Dc.calls k d g a b w hr0 ai0 hb
 have h48 := fun w => EJ.calls k s t w ht
 have h49 := fun w hC => BE.calls k d g a o w hC ai0 ho
 cases o with
 | false =>
  obtain rfl := Option.some.inj h
  exact GreaseK.Vk hr0 ai0 trivial h47 h48 h49
 | true =>
  rw [if_pos rfl] at h
  by_cases h6 : (a.length : Int) = 6
  · rw [if_pos h6] at h
    obtain rfl := Option.some.inj h
    exact GreaseK.VH hr0 ai0 (by omega) h47 h48 h49
  rw [if_neg h6] at h
  obtain ⟨e, he, h⟩ := Option.bind_eq_some_iff.1 h
  have h50 := fun w hC => EO.calls k d g a t e w hC ai0 he
  by_cases h0 : 0 ≤ e
  · rw [if_pos h0] at h
    obtain rfl := Option.some.inj h
    exact GreaseK.VB hr0 ai0 (by omega) h47 h48 h49 e h0 h50
  rw [if_neg h0] at h
  obtain ⟨p, hp, h⟩ := Option.bind_eq_some_iff.1 h
  obtain ⟨c, hc, h⟩ := Option.bind_eq_some_iff.1 h
  obtain ⟨i, hi, h⟩ := Option.bind_eq_some_iff.1 h
  by_cases g1 : 0 ≤ c
  rotate_left
  · rw [if_neg g1] at h
    cases h
  rw [if_pos g1] at h
  by_cases g2 : c ≤ 2
  rotate_left
  · rw [if_neg g2] at h
    cases h
  rw [if_pos g2] at h
  by_cases g3 : 0 ≤ i
  rotate_left
  · rw [if_neg g3] at h
    cases h
  rw [if_pos g3] at h
  by_cases g4 : i ≤ (b.length : Int)
  rotate_left
  · rw [if_neg g4] at h
    cases h
  rw [if_pos g4] at h
  by_cases g5 : (b.length : Int) ≤ 1000000
  rotate_left
  · rw [if_neg g5] at h
    cases h
  rw [if_pos g5] at h
  obtain rfl := Option.some.inj h
  obtain ⟨c, rfl⟩ := Int.eq_ofNat_of_zero_le g1
  obtain ⟨i, rfl⟩ := Int.eq_ofNat_of_zero_le g3
  have hm : LM.f 1 (c : Int) = some (0, (c : Int)) := by
   obtain rfl | rfl | rfl : c = 0 ∨ c = 1 ∨ c = 2 := by omega
   all_goals decide
  exact GreaseK.Vr hr0 ai0 (by omega) h47 h48 h49 e h0 h50 rfl (fun t ps => (⟨t, ps⟩ : S81)) (fun w base ok t v ps hR => Jq w base ok ⟨t, ps⟩ hR) p c i (by omega) (by omega) (by omega) (fun w => D4.calls k s 3 256 p w hp) (fun w => D4.calls k s 2 3 c w hc) (fun w => D4.calls k s 1 _ i w hi) (fun w => LM.calls 1 c 0 c w hm)
def Bj.l0 : Nat → Int → List (S81) → List Int → Int → Int → List Int → List Int → List (S75) → Int → Option (List Int × (List (S81)))
  | 0, _, _, _, _, _, _, _, _, _ => none
  | k + 1, m, l, h, j, b, a, c, d, e => if b < j then (if 0 ≤ b then (if b < (h.length : Int) then (if l.length < 4398046511104 then (Bj.l0 k m (l ++ [(⟨rd h b, ([] : List Int)⟩ : S81)]) h j (wrap64 (b + 1)) a c d e) else (none)) else (none)) else (none)) else ((some (([] : List Int) : List Int)).bind fun g => (if g.length + a.length < 17592186044416 then ((Dt.f k l m).bind fun i => (some ((g ++ a), i))) else (none)))
def Bj.f (k : Nat) (c : List Int) (a : List Int) (d : List (S75)) (b : Int) (g : Int) : Option (List Int × (List (S81))) := (B9.f k c a d b).bind fun e => (if e = true then (Bj.l0 k g (([] : List (S81))) a (a.length : Int) 0 c a d b) else (some (([] : List Int), ([] : List (S81)))))
theorem Bj.mono_l : ∀ k, (∀ a b c d e f g i j, LeO (Bj.l0 k a b c d e f g i j) (Bj.l0 (k + 1) a b c d e f g i j))
  | 0 => fun _ _ _ _ _ _ _ _ _ r h => by simp [Bj.l0] at h
  | k + 1 => by
    have ih0 := Bj.mono_l k
    · intro a b c d e f g i j
      unfold Bj.l0
      exact Jz ih0 Dt.mono B9.mono
theorem Bj.mono : ∀ a b c d e k, LeO (Bj.f k a b c d e) (Bj.f (k + 1) a b c d e) := by
  intro a b c d e k
  have ih0 := Bj.mono_l k
  unfold Bj.f
  exact Jz ih0 Dt.mono B9.mono
theorem Bj.calls (k : Nat) (z : Option Addr) (B : Nat) (j : List Int) (G : Option Addr) (D : Nat) (d : List Int) (A : Option Addr) (E : Nat) (q : List (S75)) (s : Int) (a1 : Int) (r1 : List Int) (r2 : List (S81)) (w : World) (hr0_0 : Kd.C (Kd.int .i64) w z j.length j) (Z : j.length ≤ B) (hr0_1 : Kd.C (Kd.int .i64) w G d.length d) (aa : d.length ≤ D) (hr0_2 : Kd.C k75 w A q.length q) (ab : q.length ≤ E) (h : Bj.f k j d q s a1 = some (r1, r2)) :
    Calls Tryz.prog 22 #[.agg #[.slice z j.length B, .slice G d.length D, .slice A q.length E, .int .i64 s], .int .i64 a1] w fun e w' => ∃ v0_ v1_ : Value, e = .returned (.agg #[v0_, v1_]) ∧ Kd.R (Kd.int .i64) 3 w' w.heap.size (fun _ => True) v0_ r1 ∧ Kd.S k81 81 w' w.heap.size (fun k_ => some k_ ≠ (v0_ : Value).ownBlock) v1_ r2 ∧ Below w.heap.size w w' := by
  have hu34 := Tryz.underlying34
  have hu53 := Tryz.underlying53
  have hu81 := Tryz.underlying81
  have V := Q_ hr0_0
  have av := Q_ Z
  clear hr0_0 Z
  have W := Q_ hr0_1
  have aw := Q_ aa
  clear hr0_1 aa
  have aA := Q_ hr0_2
  have ax := Q_ ab
  clear hr0_2 ab
  have HB := Q_ (Below.refl w.heap.size w)
  have H : ((B9.f k j d q s).bind fun P => (if P = true then (Bj.l0 k a1 (([] : List (S81))) d (d.length : Int) 0 j d q s) else (some (([] : List Int), ([] : List (S81)))))) = some (r1, r2) := h
  clear h
  have HS_ := Q_ H
  clear H
  go_enter Tryz.func22, Tryz.ntmps22
  go_upto_region 1 with (first | (refine bg_ 2 #[.slice z j.length B, .slice G d.length D, .slice A q.length E, .int .i64 s] 34 ?_; intro O hg w3 hbox hb; have _ := Q_ (AD (pb_ HB.1) hb); have a := Q_ (hbox); have ar := Q_ (gw_ (w := w) hg (pb_ HB.1)); have i := ar; clear HB; rename_i HB; clear hb hbox hg) | (refine bg_ 4 #[.slice none 0 0, .slice none 0 0] 53 ?_; intro v hg w4 hbox hb; have _ := Q_ (bb_ a.1 hb); have _ := Q_ (AD (CM HB.1 i.1) hb); have c := Q_ (hbox); have au := Q_ (gw_ (w := w) hg (CM HB.1 i.1)); have l := au; have r := Q_ (nb_ hg a); have t := Q_ r.1.symm; clear a HB; rename_i a HB; clear hb hbox hg))
  (try simp only [Act.put, s1_, s2_, s3_])
  have H := HS_.1
  clear HS_
  obtain ⟨P, A5, H⟩ := bs_ H
  (try dsimp only at H)
  have HS_ := Q_ H
  clear H
  have bd := r.1
  have be := t.1
  have bc := E8 a.1
  go_upto_if 10 with (first | (refine gk_ 20 9 Tryz.func20 #[.agg #[.slice z j.length B, .slice G d.length D, .slice A q.length E, .int .i64 s]] ?_; (with_reducible refine (B9.calls k _ _ j _ _ d _ _ q s P _ (cb_ V HB) av.1 (cb_ W HB) aw.1 (cb_ aA HB) ax.1 A5.1).mono ?_); rintro e w8 ⟨rfl, hb⟩; refine ⟨_, rfl, ?_⟩; have _ := Q_ (bb_ a.1 hb); have _ := Q_ (bb_ c.1 hb); have _ := Q_ (AD (Dw HB.1 i.1 l.1) hb); clear a c HB; rename_i a c HB; (try clear hb)))
  (try simp only [Act.put, s1_, s2_, s3_])
  have H := HS_.1
  clear HS_
  by_cases c9 : P = true
  rotate_left
  · replace c9 := bf_ c9
    subst c9
    rw [if_neg ff_] at H
    simp only [Option.some.injEq, Prod.mk.injEq] at H
    obtain ⟨rfl, rfl⟩ := H
    have a5 := t.1
    have a8 := r.1
    have a0 := Ew c.1
    go_wp2
    refine bodyPost_ret (results_cell_row rfl _ _ v 53 #[.slice none 0 0, .slice none 0 0] (0, 0) _ rfl (pp_ c.1) Tryz.underlying53 rfl (by kernel_rfl)) rfl ?_
    exact ⟨_, _, er_, nl_, by first | exact Kd.J' _ _ _ _ _ | exact Kd.J4 _ _ _ _ _ | exact Kd.KO _ _ _ _ _ | exact Kd.KX _ _ _ _ _ | exact Kd.I7 _ _ _ _ _, Dw HB.1 i.1 l.1⟩
  subst c9
  rw [if_pos rfl] at H
  obtain ⟨ap, hy195⟩ : ∃ y_ : List (S81), y_ = (([] : List (S81))) := ⟨_, rfl⟩
  replace H : (Bj.l0 k a1 ap d (d.length : Int) 0 j d q s) = some (r1, r2) := hb_ hy195 H
  have X := Q_ hy195
  clear hy195
  have H' := Q_ H
  clear H
  go_wp2_with (first | ((with_reducible refine FP (N := 12) rfl ?_); refine Kd.Nn k81 _ 81 ?hg (N := 12) ?hd (xs := ([] : List (S81))) (inner := []) (ok := fun _ => True) (okp := fun _ => True) ?hr ?hp (fun _ hk => hk) trivial (Below.refl _ _) (Nat.le_refl _) (by simp) ?_; (case hd => rfl); (case hg => rfl); (case hr => first | (go_simp; done) | (go_simp; rfl)); (case hp => exact (Reps.none _ _)); intro bf bl K hb hg_ hnew_; clear hg_ hnew_; rw [← X.1] at K; have _ := Q_ (Kd.Fh K (AZ (Dw HB.1 i.1 l.1))); have _ := Q_ (bb_ a.1 hb); have _ := Q_ (bb_ c.1 hb); have _ := Q_ (AD (Dw HB.1 i.1 l.1) hb); clear a c HB; rename_i ay a c HB; clear hb K; have a6 := r.1; have a9 := t.1; have a2 := E8 a.1))
  (try simp only [Act.put, s1_, s2_, s3_])
  go_loopg [5, 16] k (fun kq v5 bb w' => ∃ (u : List (S81)) (m : Int), bb = .int .i64 m ∧ Aside0 (Bj.l0 kq a1 u d (d.length : Int) m j d q s = some (r1, r2)) ∧ Aside0 (kq ≤ k) ∧ Aside0 (Kd.S k81 81 w' w.heap.size (fun _ => True) v5 u) ∧ Aside0 (w'.heap[O]? = some (.cells #[(.slice z j.length B), (.slice G d.length D), (.slice A q.length E), .int .i64 s] 34 (0, 0))) ∧ Aside0 (w'.heap[v]? = some (.cells #[(.slice none 0 0), (.slice none 0 0)] 53 (0, 0))) ∧ Aside0 (Below w.heap.size w w'))
  case atStart => exact ⟨(ap), (0), el_, H', ⟨Nat.le_refl _⟩, ⟨ps_ ay.1⟩, ⟨pk_ a.1⟩, ⟨pk_ c.1⟩, ⟨Dw HB.1 i.1 l.1⟩⟩
  clear H'
  obtain ⟨u, m, rfl, HA, aK, n, a, c, HB⟩ := hrel
  rcases gk with _ | k1
  · exact absurd HA.1 (by simp [Bj.l0])
  have H := HA.1
  clear HA
  simp only [Bj.l0] at H
  by_cases T : m < (d.length : Int)
  · rw [if_pos T] at H
    have F := decide_eq_true T
    clear T
    (first | rw [F] | (simp only [E4, E']; rw [F]) | skip)
    by_cases af : 0 ≤ m
    rotate_left
    · rw [if_neg af] at H
      exact nn_ H
    rw [if_pos af] at H
    have aY := decide_eq_true af
    clear af
    by_cases ag : m < (d.length : Int)
    rotate_left
    · rw [if_neg ag] at H
      exact nn_ H
    rw [if_pos ag] at H
    have aZ := decide_eq_true ag
    clear ag
    by_cases ah : u.length < 4398046511104
    rotate_left
    · rw [if_neg ah] at H
      exact nn_ H
    rw [if_pos ah] at H
    have aC := Q_ ah
    clear ah
    obtain ⟨aq, hy199⟩ : ∃ y_ : List (S81), y_ = (u ++ [(⟨rd d m, ([] : List Int)⟩ : S81)]) := ⟨_, rfl⟩
    replace H : (Bj.l0 k1 a1 aq d (d.length : Int) (wrap64 (m + 1)) j d q s) = some (r1, r2) := hb_ hy199 H
    have aE := Q_ hy199
    clear hy199
    have H' := Q_ H
    clear H
    have ac : 0 ≤ (m : Int) := dt_
    have ad : m < (d.length : Int) := dt_
    obtain ⟨aH, aN, L⟩ := Kd.GG W.1 m ac ad
    cases aN
    replace L := bt_ HB L
    replace ac := eq_true ac
    replace ad := eq_true ad
    go_wp2_with (first | ((with_reducible refine FO (b := .append) (xs := #[.tmp 20, .tmp 23]) rfl ?_); at_builtin; refine Kd.QO k81 (w0 := w) w.heap.size rfl (.tmp 20) (.tmp 23) 51 81 (.agg #[(.int .i64 0), (.slice none 0 0)]) 32 rfl Tryz.underlying51 Jv rfl (by decide) (by omega) u5 u (⟨rd d m, ([] : List Int)⟩ : S81) [.int .i64 (rd d m), .slice none 0 0] (fun _ => True) (fun _ => False) rfl rfl ?aP (fun k_ hk_ => hk_.elim) ?aF ?aO ?aB ?aS ?aL ?_; (case aP => exact Jq _ _ _ (⟨rd d m, ([] : List Int)⟩ : S81) (Kd.I7 _ _ _ _ _)); (case aB => exact (Dw HB.1 i.1 l.1)); (case aF => exact (fun _ _ => trivial)); (case aO => exact (by (with_reducible repeat (first | apply Kd.Gq | apply Kd.Fz | apply Kd.Gz)); exact Kd.Ea n.1 (fun k_ hk => ⟨trivial, fun e_ => e_⟩))); (case aS => exact (AZ (Dw HB.1 i.1 l.1))); (case aL => have := aC.1; omega); intro bg bm ho hb hg hat; rw [← aE.1] at ho; have _ := Q_ (Eb (g := O) (o := .cells #[.slice z j.length B, .slice (some aH) d.length D, .slice A q.length E, .int .i64 s] 34 (0, 0)) (pk_ a.1) hg (Kd.UH n.1 a.1 (by decide))); have _ := Q_ (Eb (g := v) (o := .cells #[.slice none 0 0, .slice none 0 0] 53 (0, 0)) (pk_ c.1) hg (Kd.UH n.1 c.1 (by decide))); have _ := Q_ (hb); have _ := Q_ (ho); clear a c HB n; rename_i a c HB az; clear ho hb hg hat))
    go_roundg k1
    case measure => have := aK.1; omega
    case rel => exact ⟨(aq), (wrap64 (m + 1)), el_, H', ⟨by have := aK.1; omega⟩, ⟨ps_ az.1⟩, ⟨pk_ a.1⟩, ⟨pk_ c.1⟩, ⟨Dw HB.1 i.1 l.1⟩⟩
  rw [if_neg T] at H
  have F := decide_eq_false T
  clear T
  (first | rw [F] | (simp only [E4, E']; rw [F]) | skip)
  obtain ⟨M, hy202⟩ : ∃ y_ : List Int, y_ = (([] : List Int)) := ⟨_, rfl⟩
  replace H : (if M.length + j.length < 17592186044416 then ((Dt.f k1 u a1).bind fun y => (some ((M ++ j), y))) else (none)) = some (r1, r2) := hb_ hy202 H
  have Y := Q_ hy202
  clear hy202
  by_cases ai : M.length + j.length < 17592186044416
  rotate_left
  · rw [if_neg ai] at H
    exact nn_ H
  rw [if_pos ai] at H
  have aD := Q_ ai
  clear ai
  obtain ⟨Q, hy205⟩ : ∃ y_ : List Int, y_ = (M ++ j) := ⟨_, rfl⟩
  replace H : ((Dt.f k1 u a1).bind fun y => (some (Q, y))) = some (r1, r2) := hb_ hy205 H
  have aG := Q_ hy205
  clear hy205
  obtain ⟨y, aX, H⟩ := bs_ H
  replace H : (some (Q, y)) = some (r1, r2) := H
  simp only [Option.some.injEq, Prod.mk.injEq] at H
  obtain ⟨rfl, rfl⟩ := H
  go_wp2_with (first | (refine Ie .i64 3 26 ([] : List Int) ?_; intro aV bn I hb; rw [← Y.1] at I; have _ := Q_ (Kd.H2 (ps_ n.1) (Kd.BJ I) hb); have _ := Q_ (Kd.BV I (AZ (Dw HB.1 i.1 l.1))); have _ := Q_ (bb_ a.1 hb); have _ := Q_ (bb_ c.1 hb); have _ := Q_ (AD (Dw HB.1 i.1 l.1) hb); clear n a c HB; rename_i n J a c HB; clear hb I; have a7 := r.1; have ba := t.1; have a3 := E8 a.1) | ((with_reducible refine FO (b := .append) (xs := #[.tmp 26, .tmp 28]) rfl ?_); at_builtin; refine Kd.Hi (Kd.int .i64) (w0 := w) w.heap.size rfl (.tmp 26) (.tmp 28) 22 3 (.int .i64 0) 8 rfl Tryz.underlying22 HI rfl (by decide) (by omega) aV M j _ _ _ (fun _ => True) (fun _ => False) rfl rfl ?aO ?aR (fun _ _ h => h) (fun _ h => h.elim) ?aF ?aB ?aS ?aL ?_; (case aR => exact cb_ V HB); (case aB => exact (Dw HB.1 i.1 l.1)); (case aF => exact (fun _ _ => trivial)); (case aO => exact (pr_ J.1)); (case aS => exact (AZ (Dw HB.1 i.1 l.1))); (case aL => have := aD.1; omega); intro bh bo ho hb hg hat; rw [← aG.1] at ho; have _ := Q_ (Kd.JP (ok := (fun _ => True)) (ps_ n.1) hg hat); have _ := Q_ (Eb (g := O) (o := .cells #[.slice z j.length B, .slice G d.length D, .slice A q.length E, .int .i64 s] 34 (0, 0)) (pk_ a.1) hg (Kd.JB J.1 a.1 (by decide))); have _ := Q_ (Eb (g := v) (o := .cells #[.slice none 0 0, .slice none 0 0] 53 (0, 0)) (pk_ c.1) hg (Kd.JB J.1 c.1 (by decide))); have _ := Q_ (hb); have _ := Q_ (ho); clear n a c HB J; rename_i n a c HB x; clear ho hb hg hat; obtain ⟨aJ, aM, aQ⟩ := Kd.Gv n.1; subst aQ) | (refine gk_ 56 32 Tryz.func56 #[.slice aJ u.length aM, .int .i64 a1] ?_; (with_reducible refine (Dt.calls k1 _ _ u a1 y _ ?side1 ?side2 aX.1).mono ?_); (case side1 => exact pc_ ((Kd.GX n.1).2.2)); (case side2 => exact (Kd.GX n.1).2.1); rintro e bp ⟨bi, rfl, aI, hb⟩; refine ⟨_, rfl, ?_⟩; have _ := Q_ (Kd.H2 (ps_ n.1) (Kd.L6 aI) hb); have _ := Q_ (Kd.Bv (pr_ x.1) hb); have _ := Q_ (Kd.Fh (Kd.Hz (Kd.Hz aI (Kd.Uf (ps_ n.1))) (Kd.Dj (pr_ x.1))) (AZ (Dw HB.1 i.1 l.1))); have _ := Q_ (bb_ a.1 hb); have _ := Q_ (bb_ c.1 hb); have _ := Q_ (AD (Dw HB.1 i.1 l.1) hb); clear n x a c HB; rename_i n x U a c HB; (try clear hb aI); obtain ⟨al, an, aT⟩ := Kd.Gv U.1; subst aT; obtain ⟨am, ao, aU⟩ := Kd.Bo x.1; subst aU; have a4 := Ew c.1))
  refine bodyPost_ret (results_cell_row rfl _ _ v 53 #[.slice am Q.length ao, .slice al y.length an] (0, 0) _ rfl (pp_ c.1) Tryz.underlying53 rfl (by kernel_rfl)) rfl ?_
  exact ⟨_, _, er_, pr_ (Kd.Ax (H5 x.1 c.1) (fun _ hk => trivial)), ps_ (Kd.Ea (Kd.GQ (p := ⟨v, 1, none⟩) (Kd.GQ (p := ⟨v, 0, none⟩) (Kd.IL U.1 c.1 (by decide)) (fun _ hk => hk.2) (.slice am Q.length ao)) (fun _ hk => hk.2) (.slice al y.length an)) (fun _ hk => hk.1.2)), Dw HB.1 i.1 l.1⟩
def BQ.f (k : Nat) (a : List Int) (b : List (S81)) : Option (Bool) := (Ah.f k a).bind fun c => (if c = true then ((BE.f k b).bind fun d => (some d)) else (some false))
theorem BQ.mono : ∀ a b k, LeO (BQ.f k a b) (BQ.f (k + 1) a b) := by
  intro a b k
  unfold BQ.f
  exact H8 BE.mono Ah.mono
theorem BQ.calls (k : Nat) (g : Option Addr) (i : Nat) (a : List Int) (l : Option Addr) (o : Nat) (b : List (S81)) (r : Bool) (w : World) (hr0_0 : Kd.C (Kd.int .i64) w g a.length a) (p : a.length ≤ i) (hr0_1 : Kd.C k81 w l b.length b) (q : b.length ≤ o) (h : BQ.f k a b = some r) :
    Calls Tryz.prog 23 #[.agg #[.slice g a.length i, .slice l b.length o]] w fun e w' => e = .returned (.bool r) ∧ Below w.heap.size w w' := by
  have hu53 := Tryz.underlying53
  have n := Q_ hr0_0
  have m := Q_ p
  clear hr0_0 p
  have v := Q_ hr0_1
  have u := Q_ q
  clear hr0_1 q
  have HB := Q_ (Below.refl w.heap.size w)
  have H : ((Ah.f k a).bind fun s => (if s = true then ((BE.f k b).bind fun j => (some j)) else (some false))) = some r := h
  clear h
  have HS_ := Q_ H
  clear H
  go_enter Tryz.func23, Tryz.ntmps23
  go_upto_region 1 with (first | (refine bg_ 1 #[.slice g a.length i, .slice l b.length o] 53 ?_; intro y hg E hbox hb; have _ := Q_ (AD (pb_ HB.1) hb); have c := Q_ (hbox); have t := Q_ (gw_ (w := w) hg (pb_ HB.1)); have d := t; clear HB; rename_i HB; clear hb hbox hg))
  (try simp only [Act.put, s1_, s2_, s3_])
  have H := HS_.1
  clear HS_
  obtain ⟨s, z, H⟩ := bs_ H
  (try dsimp only at H)
  by_cases x : s = true
  rotate_left
  · replace x := bf_ x
    subst x
    rw [if_neg ff_] at H
    obtain rfl := Option.some.inj H
    have A := Ew c.1
    go_wp2_with (first | (refine gk_ 47 5 Tryz.func47 #[.slice g a.length i] ?_; (with_reducible refine (Ah.calls k _ _ a false _ (cb_ n HB) m.1 z.1).mono ?_); rintro e w' ⟨rfl, ⟨nd, rfl⟩⟩; refine ⟨_, rfl, ?_⟩))
    go_ret
    exact ⟨er_, CM HB.1 d.1⟩
  subst x
  rw [if_pos rfl] at H
  obtain ⟨j, D, H⟩ := bs_ H
  replace H : (some j) = some r := H
  obtain rfl := Option.some.inj H
  have B := Ew c.1
  go_wp2_with (first | (refine gk_ 47 5 Tryz.func47 #[.slice g a.length i] ?_; (with_reducible refine (Ah.calls k _ _ a true _ (cb_ n HB) m.1 z.1).mono ?_); rintro e w' ⟨rfl, ⟨nd, rfl⟩⟩; refine ⟨_, rfl, ?_⟩) | (go_at_call 57; (with_reducible refine (BE.calls k _ _ b j _ ?side1 u.1 D.1).mono ?_); (case side1 => exact pc_ (Kd.Ec v.1 (CM HB.1 d.1))); rintro e F ⟨rfl, hb⟩; have _ := Q_ (bb_ c.1 hb); have _ := Q_ (AD (CM HB.1 d.1) hb); clear c HB; rename_i c HB; (try clear hb)))
  go_ret
  exact ⟨er_, CM HB.1 d.1⟩
def DC.f (k : Nat) (a : List Int) (c : List (S81)) : Option (List Int × (List (S81))) := (some (([] : List Int) : List Int)).bind fun b => (if b.length + a.length < 17592186044416 then ((Dc.f k c).bind fun d => (some ((b ++ a), d))) else (none))
theorem DC.mono : ∀ a b k, LeO (DC.f k a b) (DC.f (k + 1) a b) := by
  intro a b k
  unfold DC.f
  exact G7 Dc.mono
def DC.T1 : Bool × List (List Nat × List Nat) := (true, [([], []), ([], []), ([1], [1]), ([0, 2], [0, 2]), ([], []), ([4], [4]), ([5, 3], [5]), ([3, 6], [3, 6]), ([7, 6, 0, 1, 2, 3, 4, 5, 6, 7], [7])])
def DC.B1 : List Nat := [0, 0, 2, 7, 0, 16, 63, 127, 255]
theorem DC.tab1 : rtab .any (opsOf Tryz.f111 1) = DC.T1 := by kernel_rfl
theorem DC.bits1 : Fa DC.T1.2 DC.B1 = true := by kernel_rfl
theorem DC.calls (k : Nat) (y : Option Addr) (z : Nat) (d : List Int) (u : Option Addr) (v : Nat) (j : List (S81)) (Z : List Int) (r2 : List (S81)) (w : World) (hr0_0 : Kd.C (Kd.int .i64) w y d.length d) (F : d.length ≤ z) (hr0_1 : Kd.C k81 w u j.length j) (G : j.length ≤ v) (h : DC.f k d j = some (Z, r2)) :
    Calls Tryz.prog 111 #[.agg #[.slice y d.length z, .slice u j.length v]] w fun e w' => ∃ v0_ v1_ : Value, e = .returned (.agg #[v0_, v1_]) ∧ Kd.R (Kd.int .i64) 3 w' w.heap.size (fun _ => True) v0_ Z ∧ Kd.S k81 81 w' w.heap.size (fun k_ => some k_ ≠ (v0_ : Value).ownBlock) v1_ r2 ∧ Below w.heap.size w w' := by
  have hu53 := Tryz.underlying53
  have W := Q_ hr0_0
  have ak := Q_ F
  clear hr0_0 F
  have X := Q_ hr0_1
  have V := Q_ G
  clear hr0_1 G
  have HB := Q_ (Below.refl w.heap.size w)
  have H : ((some (([] : List Int) : List Int)).bind fun s => (if s.length + d.length < 17592186044416 then ((Dc.f k j).bind fun m => (some ((s ++ d), m))) else (none))) = some (Z, r2) := h
  clear h
  obtain ⟨s, hy216⟩ : ∃ y_ : List Int, y_ = (([] : List Int)) := ⟨_, rfl⟩
  replace H : (if s.length + d.length < 17592186044416 then ((Dc.f k j).bind fun m => (some ((s ++ d), m))) else (none)) = some (Z, r2) := hb_ hy216 H
  have E := Q_ hy216
  clear hy216
  by_cases c2 : s.length + d.length < 17592186044416
  rotate_left
  · rw [if_neg c2] at H
    exact nn_ H
  rw [if_pos c2] at H
  have ab := Q_ c2
  clear c2
  obtain ⟨B, hy219⟩ : ∃ y_ : List Int, y_ = (s ++ d) := ⟨_, rfl⟩
  replace H : ((Dc.f k j).bind fun m => (some (B, m))) = some (Z, r2) := hb_ hy219 H
  have Y := Q_ hy219
  clear hy219
  obtain ⟨m, A3, H⟩ := bs_ H
  replace H : (some (B, m)) = some (Z, r2) := H
  simp only [Option.some.injEq, Prod.mk.injEq] at H
  obtain ⟨rfl, rfl⟩ := H
  go_enter Tryz.func111, Tryz.ntmps111
  try go_wp2_with (first | (refine bg_ 1 #[.slice y d.length z, .slice u j.length v] 53 ?_; intro A hg w4 hbox hb; have _ := Q_ (AD (pb_ HB.1) hb); have a := Q_ (hbox); have T := Q_ (gw_ (w := w) hg (pb_ HB.1)); have l := T; clear HB; rename_i HB; clear hb hbox hg) | (refine bg_ 2 #[.slice none 0 0, .slice none 0 0] 53 ?_; intro i hg w5 hbox hb; have _ := Q_ (bb_ a.1 hb); have _ := Q_ (AD (CM HB.1 l.1) hb); have b := Q_ (hbox); have U := Q_ (gw_ (w := w) hg (CM HB.1 l.1)); have q := U; have c := Q_ (nb_ hg a); have t := Q_ c.1.symm; clear a HB; rename_i a HB; clear hb hbox hg))
  have _ := Q_ (Bq a.1)
  have _ := Q_ (Bq b.1)
  have _ := Q_ (Cm HB.1)
  clear a b HB
  rename_i a b HB
  refine sw_ (S := fun w' => w'.cell? ⟨A, 0, none⟩ = some (.slice y d.length z) ∧ w'.cell? ⟨A, 1, none⟩ = some (.slice u j.length v)) 9 DC.tab1 DC.bits1 (sb_ a.1) (fun hHeld HT_ HW_ => ?_)
  generalize w5.drew = w6 at a b HB hHeld ⊢
  refine Ba 1 4 9 2 ?_
  refine Ba 4 7 9 18 ?_
  refine E1 2 5 9 22 hHeld ?_
  refine E1 5 8 9 54 hHeld ?_
  refine on_ 0 (some 3) (tm_ 9 55) HT_ (fun K hK => ?_)
  refine JY .i64 3 3 ([] : List Int) ?_
  intro ah w7 I hb
  rw [← E.1] at I
  have _ := Q_ (Kd.BV I (AZ (Dw HB.1 l.1 q.1)))
  have _ := Q_ (bb_ a.1 hb)
  have _ := Q_ (bb_ b.1 hb)
  have _ := Q_ (AD (Dw HB.1 l.1 q.1) hb)
  clear a b HB
  rename_i x a b HB
  clear hb I
  refine hK.out _ _ (sb_ a.1) (fun hHeld => ?_)
  clear hK K
  refine no_ (some 3) ?_
  refine on_ 3 (some 6) (tf_ 6 9) HT_ (fun K hK => ?_)
  refine Kd.D2 (Kd.int .i64) (w0 := w) w.heap.size (by rfl) (.tmp 3) (.tmp 5) 22 3 (.int .i64 0) 8 rfl Tryz.underlying22 HI rfl (by decide) (by omega) ah s d _ _ _ (fun _ => True) (fun _ => False) rfl rfl ?aO ?aR (fun _ _ h => h) (fun _ h => h.elim) ?aF ?aB ?aS ?aL ?_
  (case aR => exact cb_ W HB)
  (case aB => exact (Dw HB.1 l.1 q.1))
  (case aF => exact (fun _ _ => trivial))
  (case aO => exact (pr_ x.1))
  (case aS => exact (AZ (Dw HB.1 l.1 q.1)))
  (case aL => have := ab.1; omega)
  intro ap w9 ho hb hg hat
  rw [← Y.1] at ho
  have _ := Q_ (Eb (g := A) (o := .cells #[.slice y d.length z, .slice u j.length v] 53 (0, 0)) (pk_ a.1) hg (Kd.JB x.1 a.1 (by decide)))
  have _ := Q_ (Eb (g := i) (o := .cells #[.slice none 0 0, .slice none 0 0] 53 (0, 0)) (pk_ b.1) hg (Kd.JB x.1 b.1 (by decide)))
  have _ := Q_ (hb)
  have _ := Q_ (ho)
  clear a b HB x
  rename_i a b HB r
  clear ho hb hg hat
  refine hK.out _ _ (sb_ a.1) (fun hHeld => ?_)
  clear hK K
  refine no_ (some 6) ?_
  refine on_ 6 (some 9) (tf_ 7 9) HT_ (fun K hK => ?_)
  refine gs_ Tryz.func86 #[.slice u j.length v] ?_
  with_reducible refine (Dc.calls k _ _ j m _ (cb_ X HB) V.1 A3.1).mono ?_
  rintro e ai ⟨aq, rfl, ag, hb⟩
  refine ⟨_, rfl, ?_⟩
  have _ := Q_ (Kd.Bv (pr_ r.1) hb)
  have _ := Q_ (Kd.Fh (Kd.Hz ag (Kd.Dj (pr_ r.1))) (AZ (Dw HB.1 l.1 q.1)))
  have _ := Q_ (bb_ a.1 hb)
  have _ := Q_ (bb_ b.1 hb)
  have _ := Q_ (AD (Dw HB.1 l.1 q.1) hb)
  clear r a b HB
  rename_i r D a b HB
  (try clear hb ag)
  obtain ⟨J, M, P⟩ := Kd.Gv D.1
  (first | subst P | (injection P with f1_ f2_ f3_; have f4_ := f1_.symm; have f5_ := f3_.symm; clear f1_ f2_ f3_; subst f4_; subst f5_))
  obtain ⟨L, O, Q⟩ := Kd.Bo r.1
  (first | subst Q | (injection Q with f1_ f2_ f3_; have f4_ := f1_.symm; have f5_ := f3_.symm; clear f1_ f2_ f3_; subst f4_; subst f5_))
  refine hK.out _ _ (sb_ a.1) (fun hHeld => ?_)
  clear hK K
  refine no_ (some 9) ?_
  refine Ba 7 10 9 255 ?_
  refine on_ 8 (none) (tf_ 9 9) HT_ (fun K hK => ?_)
  have an : ai.cell? ⟨i, 0, none⟩ = some (.slice none 0 0) := (BM b.1 0).trans rfl
  have al := DI b.1 0
  have ae := c.1
  have ac := t.1
  have ao : ai.cell? ⟨i, 1, none⟩ = some (.slice none 0 0) := (BM b.1 1).trans rfl
  have am := DI b.1 1
  have af := c.1
  have ad := t.1
  refine J2 (w1 := ?_) (by rfl) rfl ?_ ?_
  rotate_left
  · go_simp
    rfl
  refine hK.out _ _ ⟨((cell_far (p := ⟨i, _, none⟩) c.1 _).trans (((cell_far (p := ⟨i, _, none⟩) c.1 _).trans (hHeld.1)))), ((cell_far (p := ⟨i, _, none⟩) c.1 _).trans (((cell_far (p := ⟨i, _, none⟩) c.1 _).trans (hHeld.2))))⟩ (fun hHeld => ?_)
  clear hK K
  refine G8 (E0 HT_.1 (by kernel_rfl)) ?_
  try go_wp2
  refine bodyPost_ret (results_cell_row rfl _ _ i 53 #[.slice L B.length O, .slice J m.length M] (0, 0) _ rfl (pp_ b.1) Tryz.underlying53 rfl (by kernel_rfl)) rfl ?_
  exact ⟨_, _, er_, pr_ (Kd.Ax (H5 r.1 b.1) (fun _ hk => trivial)), ps_ (Kd.Ea (Kd.GQ (p := ⟨i, 1, none⟩) (Kd.GQ (p := ⟨i, 0, none⟩) (Kd.IL D.1 b.1 (by decide)) (fun _ hk => hk.2) (.slice L B.length O)) (fun _ hk => hk.2) (.slice J m.length M)) (fun _ hk => hk.1.2)), Dw HB.1 l.1 q.1⟩
def BG.l0 : Nat → List Int → Int → Int → Option (Int)
  | 0, _, _, _ => none
  | k + 1, b, c, a => if a < (b.length : Int) then (if 0 ≤ a then (BG.l0 k b (mx c (rd b a)) (wrap64 (a + 1))) else (none)) else (some c)
def BG.f (k : Nat) (a : List Int) : Option (Int) := if (a.length : Int) < 1 then (none) else (if 0 < (a.length : Int) then (BG.l0 k a (rd a 0) 1) else (none))
theorem BG.mono_l : ∀ k, (∀ a b c, LeO (BG.l0 k a b c) (BG.l0 (k + 1) a b c))
  | 0 => fun _ _ _ r h => by simp [BG.l0] at h
  | k + 1 => by
    have ih0 := BG.mono_l k
    · intro a b c
      unfold BG.l0
      exact G7 ih0
theorem BG.mono : ∀ a k, LeO (BG.f k a) (BG.f (k + 1) a) := by
  intro a k
  have ih0 := BG.mono_l k
  unfold BG.f
  exact G7 ih0
theorem BG.calls (k : Nat) (D : Option Addr) (E : Nat) (b : List Int) (r : Int) (w : World) (hr0 : Kd.C (Kd.int .i64) w D b.length b) (y : b.length ≤ E) (h : BG.f k b = some r) :
    Calls Tryz.prog 183 #[.slice D b.length E] w fun e w' => e = .returned (.int .i64 r) ∧ Below w.heap.size w w' := by
  have t := Q_ hr0
  have L := Q_ y
  clear hr0 y
  have HB := Q_ (Below.refl w.heap.size w)
  have H : (if (b.length : Int) < 1 then (none) else (if 0 < (b.length : Int) then (BG.l0 k b (rd b 0) 1) else (none))) = some r := h
  clear h
  by_cases z : (b.length : Int) < 1
  · rw [if_pos z] at H
    exact nn_ H
  rw [if_neg z] at H
  have F := decide_eq_false z
  have G : decide (b.length < 1) = false := decide_eq_false (by omega)
  clear z
  by_cases A : 0 < (b.length : Int)
  rotate_left
  · rw [if_neg A] at H
    exact nn_ H
  rw [if_pos A] at H
  have I := decide_eq_true A
  have J : decide (0 < b.length) = true := decide_eq_true (by omega)
  clear A
  have H' := Q_ H
  clear H
  have i : 0 ≤ (0 : Int) := (by omega)
  have l : 0 < (b.length : Int) := dt_
  obtain ⟨n, v, d⟩ := Kd.GG t.1 0 i l
  cases v
  have qi225 : (0 < b.length) = True := eq_true (by omega)
  (try rw [show ((0 : Int)).toNat = 0 from rfl] at d)
  (try rw [Addr.add_zero'] at d)
  replace i := eq_true i
  replace l := eq_true l
  go_enter Tryz.func183, Tryz.ntmps183
  go_wp2
  go_loopg [3, 4] k (fun kq M N w' => ∃ (c : Int) (a : Int), M = .int .i64 c ∧ N = .int .i64 a ∧ Aside0 (BG.l0 kq b c a = some r) ∧ Aside0 (kq ≤ k) ∧ Aside0 (Below w.heap.size w w'))
  case atStart => exact ⟨(rd b 0), (1), el_, el_, H', ⟨Nat.le_refl _⟩, ⟨pb_ HB.1⟩⟩
  clear H'
  obtain ⟨c, a, rfl, rfl, HA, s, HB⟩ := hrel
  rcases gk with _ | k1
  · exact absurd HA.1 (by simp [BG.l0])
  have H := HA.1
  clear HA
  simp only [BG.l0] at H
  by_cases q : a < (b.length : Int)
  rotate_left
  · rw [if_neg q] at H
    have u := decide_eq_false q
    clear q
    obtain rfl := Option.some.inj H
    go_wp2
    go_ret
    exact ⟨er_, pb_ HB.1⟩
  rw [if_pos q] at H
  have u := decide_eq_true q
  clear q
  by_cases B : 0 ≤ a
  rotate_left
  · rw [if_neg B] at H
    exact nn_ H
  rw [if_pos B] at H
  have K := decide_eq_true B
  clear B
  obtain ⟨p, hji6⟩ : ∃ j_ : Int, (mx c (rd b a)) = j_ := ⟨_, rfl⟩
  replace H : (BG.l0 k1 b p (wrap64 (a + 1))) = some r := by first | (rw [hji6] at H; exact H) | (simp only [hji6] at H ⊢; exact H)
  have hji6_ : (if c < (rd b a) then (rd b a) else c) = p := hji6
  have H' := Q_ H
  clear H
  have j : 0 ≤ (a : Int) := dt_
  have m : a < (b.length : Int) := dt_
  obtain ⟨o, x, g⟩ := Kd.GG t.1 a j m
  obtain rfl : n = o := (by injection x)
  replace g := bt_ HB g
  replace j := eq_true j
  replace m := eq_true m
  go_wp2
  go_roundg k1
  case measure => have := s.1; omega
  case rel => exact ⟨(p), (wrap64 (a + 1)), (by first | rfl | (simp; done) | (simp only [← hji6] <;> (first | rfl | simp)) | (simp [*]; done)), el_, H', ⟨by have := s.1; omega⟩, ⟨pb_ HB.1⟩⟩
def BC.l0 : Nat → List Int → Int → Int → Int → Option (Int)
 | 0, _, _, _, _ => none
 | k + 1, b, c, d, a => if a < d then (if 0 ≤ a then (if a < (b.length : Int) then (if c = (rd b a) then (some a) else (BC.l0 k b c d (wrap64 (a + 1)))) else (none)) else (none)) else (some (-1))
def BC.f (k : Nat) (a : List Int) (b : Int) : Option (Int) := BC.l0 k a b (a.length : Int) 0
theorem BC.mono_l : ∀ k, (∀ a b c d, LeO (BC.l0 k a b c d) (BC.l0 (k + 1) a b c d))
 | 0 => fun _ _ _ _ r h => by simp [BC.l0] at h
 | k + 1 => by
  have ih0 := BC.mono_l k
  ·intro a b c d
   unfold BC.l0
   exact G7 ih0
theorem BC.mono : ∀ a b k, LeO (BC.f k a b) (BC.f (k + 1) a b) := by
 intro a b k
 have ih0 := BC.mono_l k
 unfold BC.f
 exact G7 ih0
theorem BC.calls (k : Nat) (y : Option Addr) (z : Nat) (d : List Int) (j : Int) (r : Int) (w : World) (hr0 : Kd.C (Kd.int .i64) w y d.length d) (u : d.length ≤ z) (h : BC.f k d j = some r) :
  Calls Tryz.prog 120 #[.slice y d.length z, .int .i64 j] w fun e w' => e = .returned (.int .i64 r) ∧ C' w w' := by
 have p := Q_ hr0
 have D := Q_ u
 clear hr0 u
 unfold BC.f at h
 have H := h
 clear h
 have H' := Q_ H
 clear H
 go_enter Tryz.func120, Tryz.ntmps120
 go_wp2
 go_loopg [8] k (fun kq E w' => ∃ (a : Int), E = .int .i64 a ∧ Aside0 (BC.l0 kq d j (d.length : Int) a = some r) ∧ Aside0 (kq ≤ k) ∧ C' w w')
 case atStart => exact ⟨(0), el_, H', ⟨Nat.le_refl _⟩, by repeat (first | exact C'.refl _ | apply C'.step)⟩
 clear H'
 obtain ⟨a, rfl, HA, o, ⟨m1, rfl⟩⟩ := hrel
 rcases gk with _ | k1
 ·exact absurd HA.1 (by simp [BC.l0])
 have H := HA.1
 clear HA
 simp only [BC.l0] at H
 by_cases n : a < (d.length : Int)
 rotate_left
 ·rw [if_neg n] at H
  have q := decide_eq_false n
  clear n
  obtain rfl := Option.some.inj H
  go_wp2
  go_ret
  exact ⟨by first | rfl | (simp; done) | (simp [*]; done), by repeat (first | exact C'.refl _ | apply C'.step)⟩
 rw [if_pos n] at H
 have q := decide_eq_true n
 clear n
 by_cases v : 0 ≤ a
 rotate_left
 ·rw [if_neg v] at H
  exact nn_ H
 rw [if_pos v] at H
 have A := decide_eq_true v
 clear v
 by_cases x : a < (d.length : Int)
 rotate_left
 ·rw [if_neg x] at H
  exact nn_ H
 rw [if_pos x] at H
 have B := decide_eq_true x
 clear x
 by_cases m : j = (rd d a)
 rotate_left
 ·rw [if_neg m] at H
  have s : (j == (rd d a)) = false := beq_eq_false_iff_ne.mpr m
  have t : (j != (rd d a)) = true := bne_iff_ne.mpr m
  have H' := Q_ H
  clear H
  have b : 0 ≤ (a : Int) := dt_
  have c : a < (d.length : Int) := dt_
  obtain ⟨l, g, i⟩ := Kd.GG p.1 a b c
  cases g
  replace b := eq_true b
  replace c := eq_true c
  go_wp2
  go_roundg k1
  case measure => have := o.1; omega
  case rel => exact ⟨(wrap64 (a + 1)), el_, H', ⟨by have := o.1; omega⟩, by repeat (first | exact C'.refl _ | apply C'.step)⟩
 rw [if_pos m] at H
 have s : (j == (rd d a)) = true := beq_iff_eq.mpr m
 have t : (j != (rd d a)) = false := bne_eq_false_iff_eq.mpr m
 clear m
 obtain rfl := Option.some.inj H
 have b : 0 ≤ (a : Int) := dt_
 have c : a < (d.length : Int) := dt_
 obtain ⟨l, g, i⟩ := Kd.GG p.1 a b c
 cases g
 replace b := eq_true b
 replace c := eq_true c
 go_wp2
 go_ret
 exact ⟨by first | rfl | (simp; done) | (simp [*]; done), by repeat (first | exact C'.refl _ | apply C'.step)⟩
def Ad.f (k : Nat) (c : List Int) (b : Int) : Option (Bool) := (BC.f k c b).bind fun a => (some (decide (a ≥ 0)))
theorem Ad.mono : ∀ a b k, LeO (Ad.f k a b) (Ad.f (k + 1) a b) := by
 intro a b k
 unfold Ad.f
 exact G7 BC.mono
theorem Ad.calls (k : Nat) (g : Option Addr) (l : Nat) (b : List Int) (c : Int) (r : Bool) (w : World) (hr0 : Kd.C (Kd.int .i64) w g b.length b) (d : b.length ≤ l) (h : Ad.f k b c = some r) :
  Calls Tryz.prog 83 #[.slice g b.length l, .int .i64 c] w fun e w' => e = .returned (.bool r) ∧ C' w w' := by
 have j := Q_ hr0
 have i := Q_ d
 clear hr0 d
 unfold Ad.f at h
 have H := h
 clear h
 obtain ⟨a, m, H⟩ := bs_ H
 replace H : (some (decide (a ≥ 0))) = some r := H
 obtain rfl := Option.some.inj H
 go_enter Tryz.func83, Tryz.ntmps83
 go_wp2_with (first | (refine gk_ 120 7 Tryz.func120 #[.slice g b.length l, .int .i64 c] ?_; (with_reducible refine (BC.calls k _ _ b c a _ (pc_ j.1) i.1 m.1).mono ?_); rintro e w' ⟨rfl, ⟨nd, rfl⟩⟩; refine ⟨_, rfl, ?_⟩))
 go_ret
 exact ⟨by first | rfl | (simp; done) | (simp [*]; done), by repeat (first | exact C'.refl _ | apply C'.step)⟩
def Ee.f (k : Nat) (a : Int) (j : List Int) (i : Int) (c : List Int) (d : List Int) (b : Bool) : Option (Bool) := (Ad.f k c a).bind fun e => (if e = true then (some true) else (if b = true then ((Ad.f k d a).bind fun g => (if g = true then (some false) else ((Cb.f a 1 3).bind fun h => (some (!h))))) else (some false)))
theorem Ee.mono : ∀ a b c d e g k, LeO (Ee.f k a b c d e g) (Ee.f (k + 1) a b c d e g) := by
 intro a b c d e g k
 unfold Ee.f
 exact G7 Ad.mono
theorem Ee.calls (k : Nat) (a : Int) (u : Option Addr) (y : Nat) (m : List Int) (B1 : Nat) (I : Int) (j : Option Addr) (l : Nat) (b : List Int) (G : Option Addr) (J : Nat) (i : List Int) (s : Bool) (r : Bool) (w : World) (hr0_1 : Kd.C (Kd.int .i64) w u m.length m) (z : m.length ≤ y) (hr1_1 : Kd.C (Kd.int .i64) w j b.length b) (A : b.length ≤ l) (hr1_2 : Kd.C (Kd.int .i64) w G i.length i) (B : i.length ≤ J) (hbv1 : w.heap[B1]? = some (.cells #[.int .i64 I, .slice j b.length l, .slice G i.length J, .bool s] 75 (0, 0))) (h : Ee.f k a m I b i s = some r) :
  Calls Tryz.prog 185 #[.agg #[.int .i64 a, .slice u m.length y], .pointer (some ⟨B1, 0, none⟩)] w fun e w' => e = .returned (.bool r) ∧ Below w.heap.size w w' := by
 have hu81 := Tryz.underlying81
 have T := Q_ hr0_1
 have S := Q_ z
 clear hr0_1 z
 have p := Q_ hr1_1
 have o := Q_ A
 clear hr1_1 A
 have x := Q_ hr1_2
 have v := Q_ B
 clear hr1_2 B
 have q := Q_ hbv1
 clear hbv1
 have HB := Q_ (Below.refl w.heap.size w)
 have H : ((Ad.f k b a).bind fun D => (if D = true then (some true) else (if s = true then ((Ad.f k i a).bind fun E => (if E = true then (some false) else ((Cb.f a 1 3).bind fun t => (some (!t))))) else (some false)))) = some r := h
 clear h
 have HS_ := Q_ H
 clear H
 go_enter Tryz.func185, Tryz.ntmps185
 go_upto_region 1 with (first | ((with_reducible refine FP (N := 2) rfl ?_); refine bx_ 2 #[.int .i64 a, .slice u m.length y] 81 ?_; intro L hg w3 hbox hb; have _ := Q_ (bb_ q.1 hb); have _ := Q_ (AD (pb_ HB.1) hb); have n := Q_ (hbox); have K := Q_ (gw_ (w := w) hg (pb_ HB.1)); have g := K; have c := Q_ ((by rw [hg]; exact Nat.ne_of_lt (Hl (pk_ q.1)) : B1 ≠ L)); have d := Q_ c.1.symm; clear q HB; rename_i q HB; clear hb hbox hg))
 (try simp only [Act.put, s1_, s2_, s3_])
 have H := HS_.1
 clear HS_
 obtain ⟨D, O, H⟩ := bs_ H
 (try dsimp only at H)
 by_cases P : D = true
 ·subst P
  rw [if_pos rfl] at H
  obtain rfl := Option.some.inj H
  have ai := c.1
  have aj := d.1
  have ag := E8 q.1
  have ah := Ew n.1
  go_wp2_with (first | ((with_reducible refine I6 (f := 83) rfl ?_); refine gl_ (some 8) Tryz.func83 #[.slice j b.length l, .int .i64 a] ?_; (with_reducible refine (Ad.calls k _ _ b a true _ (cb_ p HB) o.1 O.1).mono ?_); rintro e w' ⟨rfl, ⟨nd, rfl⟩⟩; refine ⟨_, rfl, ?_⟩))
  go_ret
  exact ⟨er_, CM HB.1 g.1⟩
 replace P := bf_ P
 subst P
 rw [if_neg ff_] at H
 by_cases Q : s = true
 rotate_left
 ·replace Q := bf_ Q
  subst Q
  rw [if_neg ff_] at H
  obtain rfl := Option.some.inj H
  have aa := c.1
  have ad := d.1
  have U := E8 q.1
  have V := Ew n.1
  go_wp2_with (first | ((with_reducible refine I6 (f := 83) rfl ?_); refine gl_ (some 8) Tryz.func83 #[.slice j b.length l, .int .i64 a] ?_; (with_reducible refine (Ad.calls k _ _ b a false _ (cb_ p HB) o.1 O.1).mono ?_); rintro e w' ⟨rfl, ⟨nd, rfl⟩⟩; refine ⟨_, rfl, ?_⟩))
  go_ret
  exact ⟨er_, CM HB.1 g.1⟩
 subst Q
 rw [if_pos rfl] at H
 obtain ⟨E, M, H⟩ := bs_ H
 (try dsimp only at H)
 by_cases F : E = true
 ·subst F
  rw [if_pos rfl] at H
  obtain rfl := Option.some.inj H
  have ab := c.1
  have ae := d.1
  have W := E8 q.1
  have X := Ew n.1
  go_wp2_with (first | ((with_reducible refine I6 (f := 83) rfl ?_); refine gl_ (some 8) Tryz.func83 #[.slice j b.length l, .int .i64 a] ?_; (with_reducible refine (Ad.calls k _ _ b a false _ (cb_ p HB) o.1 O.1).mono ?_); rintro e w' ⟨rfl, ⟨nd, rfl⟩⟩; refine ⟨_, rfl, ?_⟩) | (go_at_call 83; (with_reducible refine (Ad.calls k _ _ i a true _ ?side1 v.1 M.1).mono ?_); (case side1 => exact pc_ (Kd.Ec x.1 (CM HB.1 g.1))); rintro e w' ⟨rfl, ⟨nd, rfl⟩⟩))
  go_ret
  exact ⟨er_, CM HB.1 g.1⟩
 replace F := bf_ F
 subst F
 rw [if_neg ff_] at H
 obtain ⟨t, R, H⟩ := bs_ H
 replace H : (some (!t)) = some r := H
 obtain rfl := Option.some.inj H
 have ac := c.1
 have af := d.1
 have Y := E8 q.1
 have Z := Ew n.1
 go_wp2_with (first | ((with_reducible refine I6 (f := 83) rfl ?_); refine gl_ (some 8) Tryz.func83 #[.slice j b.length l, .int .i64 a] ?_; (with_reducible refine (Ad.calls k _ _ b a false _ (cb_ p HB) o.1 O.1).mono ?_); rintro e w' ⟨rfl, ⟨nd, rfl⟩⟩; refine ⟨_, rfl, ?_⟩) | (go_at_call 83; (with_reducible refine (Ad.calls k _ _ i a false _ ?side1 v.1 M.1).mono ?_); (case side1 => exact pc_ (Kd.Ec x.1 (CM HB.1 g.1))); rintro e w' ⟨rfl, ⟨nd, rfl⟩⟩) | (go_at_call 53; (with_reducible refine (Cb.calls a 1 3 t _ R.1).mono ?_); rintro e w' ⟨rfl, ⟨nd, rfl⟩⟩))
 go_ret
 exact ⟨er_, CM HB.1 g.1⟩
def AE.l0 : Nat → List (S81) → Int → Int → Int → List Int → List Int → Bool → Option (Int)
 | 0, _, _, _, _, _, _, _ => none
 | k + 1, h, i, e, a, b, c, d => if e < i then (if 0 ≤ e then (if e < (h.length : Int) then ((Ee.f k ((AX h e).f0) ((AX h e).f1) a b c d).bind fun g => (if g = true then (some e) else (AE.l0 k h i (wrap64 (e + 1)) a b c d))) else (none)) else (none)) else (some (-1))
def AE.f (k : Nat) (e : List (S81)) (a : Int) (c : List Int) (d : List Int) (b : Bool) : Option (Int) := AE.l0 k e (e.length : Int) 0 a c d b
theorem AE.mono_l : ∀ k, (∀ a b c d e f g, LeO (AE.l0 k a b c d e f g) (AE.l0 (k + 1) a b c d e f g))
 | 0 => fun _ _ _ _ _ _ _ r h => by simp [AE.l0] at h
 | k + 1 => by
  have ih0 := AE.mono_l k
  ·intro a b c d e f g
   unfold AE.l0
   exact H8 ih0 Ee.mono
theorem AE.mono : ∀ a b c d e k, LeO (AE.f k a b c d e) (AE.f (k + 1) a b c d e) := by
 intro a b c d e k
 have ih0 := AE.mono_l k
 unfold AE.f
 exact H8 ih0 Ee.mono
theorem AE.calls (k : Nat) (S : Option Addr) (T : Nat) (q : List (S81)) (B1 : Nat) (d : Int) (m : Option Addr) (o : Nat) (b : List Int) (n : Option Addr) (p : Nat) (c : List Int) (g : Bool) (r : Int) (w : World) (hr0 : Kd.C k81 w S q.length q) (K : q.length ≤ T) (hr1_1 : Kd.C (Kd.int .i64) w m b.length b) (u : b.length ≤ o) (hr1_2 : Kd.C (Kd.int .i64) w n c.length c) (v : c.length ≤ p) (hbv1 : w.heap[B1]? = some (.cells #[.int .i64 d, .slice m b.length o, .slice n c.length p, .bool g] 75 (0, 0))) (h : AE.f k q d b c g = some r) :
  Calls Tryz.prog 124 #[.slice S q.length T, .func (.func 185) #[] #[.pointer (some ⟨B1, 0, none⟩)]] w fun e w' => e = .returned (.int .i64 r) ∧ Below w.heap.size w w' := by
 have hu81 := Tryz.underlying81
 have Q := Q_ hr0
 have X := Q_ K
 clear hr0 K
 have D := Q_ hr1_1
 have A := Q_ u
 clear hr1_1 u
 have E := Q_ hr1_2
 have B := Q_ v
 clear hr1_2 v
 have l := Q_ hbv1
 clear hbv1
 have HB := Q_ (Below.refl w.heap.size w)
 have H : (AE.l0 k q (q.length : Int) 0 d b c g) = some r := h
 clear h
 have H' := Q_ H
 clear H
 go_enter Tryz.func124, Tryz.ntmps124
 go_wp2
 go_loopg [8] k (fun kq Y w' => ∃ (a : Int), Y = .int .i64 a ∧ Aside0 (AE.l0 kq q (q.length : Int) a d b c g = some r) ∧ Aside0 (kq ≤ k) ∧ Aside0 (w'.heap[B1]? = some (.cells #[.int .i64 d, (.slice m b.length o), (.slice n c.length p), .bool g] 75 (0, 0))) ∧ Aside0 (Below w.heap.size w w'))
 case atStart => exact ⟨(0), el_, H', ⟨Nat.le_refl _⟩, ⟨pk_ l.1⟩, ⟨pb_ HB.1⟩⟩
 clear H'
 obtain ⟨a, rfl, HA, G, l, HB⟩ := hrel
 rcases gk with _ | k1
 ·exact absurd HA.1 (by simp [AE.l0])
 have H := HA.1
 clear HA
 simp only [AE.l0] at H
 by_cases F : a < (q.length : Int)
 rotate_left
 ·rw [if_neg F] at H
  have I := decide_eq_false F
  clear F
  obtain rfl := Option.some.inj H
  go_wp2
  go_ret
  exact ⟨er_, pb_ HB.1⟩
 rw [if_pos F] at H
 have I := decide_eq_true F
 clear F
 by_cases N : 0 ≤ a
 rotate_left
 ·rw [if_neg N] at H
  exact nn_ H
 rw [if_pos N] at H
 have U := decide_eq_true N
 clear N
 by_cases O : a < (q.length : Int)
 rotate_left
 ·rw [if_neg O] at H
  exact nn_ H
 rw [if_pos O] at H
 have V := decide_eq_true O
 clear O
 obtain ⟨z, W, H⟩ := bs_ H
 (try dsimp only at H)
 have HS_ := Q_ H
 clear H
 have x : 0 ≤ (a : Int) := dt_
 have y : a < (q.length : Int) := dt_
 obtain ⟨R, L, M, J, i, j, s, t⟩ := Ip Q.1 a x y
 cases J
 replace i := bt_ HB i
 replace j := bt_ HB j
 replace x := eq_true x
 replace y := eq_true y
 go_upto_if 16 with (first | (go_at_call 185; (with_reducible refine (Ee.calls k1 ((AX q a).f0) _ _ ((AX q a).f1) _ d m o b n p c g z _ (cb_ t HB) s.1 (cb_ D HB) A.1 (cb_ E HB) B.1 ?side7 W.1).mono ?_); (case side7 => exact pk_ l.1); rintro e Z ⟨rfl, hb⟩; have _ := Q_ (bb_ l.1 hb); have _ := Q_ (AD (pb_ HB.1) hb); clear l HB; rename_i l HB; (try clear hb)))
 (try simp only [Act.put, s1_, s2_, s3_])
 have H := HS_.1
 clear HS_
 by_cases P : z = true
 rotate_left
 ·replace P := bf_ P
  subst P
  rw [if_neg ff_] at H
  have H' := Q_ H
  clear H
  go_wp2
  go_roundg k1
  case measure => have := G.1; omega
  case rel => exact ⟨(wrap64 (a + 1)), el_, H', ⟨by have := G.1; omega⟩, ⟨pk_ l.1⟩, ⟨pb_ HB.1⟩⟩
 subst P
 rw [if_pos rfl] at H
 obtain rfl := Option.some.inj H
 go_wp2
 go_ret
 exact ⟨er_, pb_ HB.1⟩
def Ac.f (k : Nat) (g : List (S81)) (a : Int) (c : List Int) (d : List Int) (b : Bool) : Option (Bool) := (AE.f k g a c d b).bind fun e => (some (decide (e ≥ 0)))
theorem Ac.mono : ∀ a b c d e k, LeO (Ac.f k a b c d e) (Ac.f (k + 1) a b c d e) := by
 intro a b c d e k
 unfold Ac.f
 exact G7 AE.mono
theorem Ac.calls (k : Nat) (A : Option Addr) (B : Nat) (v : List (S81)) (B1 : Nat) (c : Int) (i : Option Addr) (l : Nat) (a : List Int) (j : Option Addr) (m : Nat) (b : List Int) (d : Bool) (r : Bool) (w : World) (hr0 : Kd.C k81 w A v.length v) (x : v.length ≤ B) (hr1_1 : Kd.C (Kd.int .i64) w i a.length a) (n : a.length ≤ l) (hr1_2 : Kd.C (Kd.int .i64) w j b.length b) (o : b.length ≤ m) (hbv1 : w.heap[B1]? = some (.cells #[.int .i64 c, .slice i a.length l, .slice j b.length m, .bool d] 75 (0, 0))) (h : Ac.f k v c a b d = some r) :
  Calls Tryz.prog 184 #[.slice A v.length B, .func (.func 185) #[] #[.pointer (some ⟨B1, 0, none⟩)]] w fun e w' => e = .returned (.bool r) ∧ Below w.heap.size w w' := by
 have z := Q_ hr0
 have y := Q_ x
 clear hr0 x
 have t := Q_ hr1_1
 have q := Q_ n
 clear hr1_1 n
 have u := Q_ hr1_2
 have s := Q_ o
 clear hr1_2 o
 have p := Q_ hbv1
 clear hbv1
 have HB := Q_ (Below.refl w.heap.size w)
 unfold Ac.f at h
 have H := h
 clear h
 obtain ⟨g, D, H⟩ := bs_ H
 replace H : (some (decide (g ≥ 0))) = some r := H
 obtain rfl := Option.some.inj H
 go_enter Tryz.func184, Tryz.ntmps184
 go_wp2_with (first | (go_at_call 124; (with_reducible refine (AE.calls k _ _ v _ c i l a j m b d g _ (pc_ z.1) y.1 (pc_ t.1) q.1 (pc_ u.1) s.1 ?side7 D.1).mono ?_); (case side7 => exact pk_ p.1); rintro e E ⟨rfl, hb⟩; have _ := Q_ (bb_ p.1 hb); have _ := Q_ (AD (pb_ HB.1) hb); clear p HB; rename_i p HB; (try clear hb)))
 go_ret
 exact ⟨er_, pb_ HB.1⟩
def ED.f (k : Nat) (a : Int) (c : List Int) (d : List Int) (b : Bool) (g : List Int) (e : List (S81)) : Option (Bool) := if a = 0 then ((Ac.f k e a c d b).bind fun h => (some h)) else ((BG.f k g).bind fun i => (if i > a then (some true) else ((Ac.f k e a c d b).bind fun j => (some j))))
theorem ED.mono : ∀ a b c d e g k, LeO (ED.f k a b c d e g) (ED.f (k + 1) a b c d e g) := by
 intro a b c d e g k
 unfold ED.f
 exact H8 Ac.mono BG.mono
def ED.T1 : Bool × List (List Nat × List Nat) := (true, [([], []), ([0], [0]), ([1], [1]), ([2], [2]), ([3], [3]), ([4, 3], [3, 4]), ([5, 3, 3], [3, 5]), ([3], [3]), ([7, 3], [3, 7]), ([6, 8, 3], [3, 6, 8]), ([3, 9], [3, 9])])
def ED.B1 : List Nat := [0, 1, 3, 7, 15, 31, 63, 15, 143, 511, 1023]
theorem ED.tab1 : rtab .any (opsOf Tryz.f160 1) = ED.T1 := by kernel_rfl
theorem ED.bits1 : Fa ED.T1.2 ED.B1 = true := by kernel_rfl
theorem ED.calls (k : Nat) (c : Int) (s : Option Addr) (v : Nat) (d : List Int) (t : Option Addr) (x : Nat) (g : List Int) (p : Bool) (z : Option Addr) (A : Nat) (m : List Int) (E : Option Addr) (F : Nat) (l : List (S81)) (r : Bool) (w : World) (hr0_1 : Kd.C (Kd.int .i64) w s d.length d) (V : d.length ≤ v) (hr0_2 : Kd.C (Kd.int .i64) w t g.length g) (W : g.length ≤ x) (hr1_0 : Kd.C (Kd.int .i64) w z m.length m) (X : m.length ≤ A) (hr1_1 : Kd.C k81 w E l.length l) (Y : l.length ≤ F) (h : ED.f k c d g p m l = some r) :
  Calls Tryz.prog 160 #[.agg #[.int .i64 c, .slice s d.length v, .slice t g.length x, .bool p], .agg #[.slice z m.length A, .slice E l.length F]] w fun e w' => e = .returned (.bool r) ∧ Below w.heap.size w w' := by
 have hu75 := Tryz.underlying75
 have hu53 := Tryz.underlying53
 have Q := Q_ hr0_1
 have M := Q_ V
 clear hr0_1 V
 have R := Q_ hr0_2
 have O := Q_ W
 clear hr0_2 W
 have ac := Q_ hr1_0
 have ab := Q_ X
 clear hr1_0 X
 have T := Q_ hr1_1
 have P := Q_ Y
 clear hr1_1 Y
 have HB := Q_ (Below.refl w.heap.size w)
 unfold ED.f at h
 have H := h
 clear h
 have HS_ := Q_ H
 clear H
 go_enter Tryz.func160, Tryz.ntmps160
 go_upto_region 1 with (first | (refine bg_ 2 #[.int .i64 c, .slice s d.length v, .slice t g.length x, .bool p] 75 ?_; intro j hg w3 hbox hb; have _ := Q_ (AD (pb_ HB.1) hb); have a := Q_ (hbox); have Z := Q_ (gw_ (w := w) hg (pb_ HB.1)); have i := Z; clear HB; rename_i HB; clear hb hbox hg) | (refine bg_ 3 #[.slice z m.length A, .slice E l.length F] 53 ?_; intro U hg w4 hbox hb; have _ := Q_ (bb_ a.1 hb); have _ := Q_ (AD (CM HB.1 i.1) hb); have b := Q_ (hbox); have aa := Q_ (gw_ (w := w) hg (CM HB.1 i.1)); have q := aa; have o := Q_ (nb_ hg a); have u := Q_ o.1.symm; clear a HB; rename_i a HB; clear hb hbox hg))
 (try simp only [Act.put, s1_, s2_, s3_])
 have H := HS_.1
 clear HS_
 by_cases c5 : c = 0
 ·rw [if_pos c5] at H
  have B : (c == 0) = true := beq_iff_eq.mpr c5
  have D : (c != 0) = false := bne_eq_false_iff_eq.mpr c5
  clear c5
  (first | rw [B] | (simp only [E4, E']; rw [B]) | rw [D] | (have c_ := D; rw [bne] at c_; rw [c_]; clear c_) | skip)
  obtain ⟨G, A6, H⟩ := bs_ H
  replace H : (some G) = some r := H
  obtain rfl := Option.some.inj H
  try go_wp2
  have _ := Q_ (Bq a.1)
  have _ := Q_ (Bq b.1)
  have _ := Q_ (Cm HB.1)
  clear a b HB
  rename_i a b HB
  refine sw_ (S := fun w' => w'.cell? ⟨j, 0, none⟩ = some (.int .i64 c) ∧ w'.cell? ⟨j, 1, none⟩ = some (.slice s d.length v) ∧ w'.cell? ⟨j, 2, none⟩ = some (.slice t g.length x) ∧ w'.cell? ⟨j, 3, none⟩ = some (.bool p)) 11 ED.tab1 ED.bits1 (sb_ a.1) (fun hHeld HT_ HW_ => ?_)
  generalize w4.drew = w7 at a b HB hHeld ⊢
  refine Ba 0 5 11 1 ?_
  refine E1 1 6 11 3 hHeld ?_
  refine Ba 2 7 11 7 ?_
  refine Ba 3 8 11 15 ?_
  refine En 4 9 11 31 ?_
  refine En 5 10 11 63 ?_
  refine En 6 11 11 127 ?_
  refine En 7 12 11 255 ?_
  refine En 8 13 11 511 ?_
  refine En 9 14 11 1023 ?_
  refine Ba 10 15 11 2047 ?_
  refine G8 (E0 HT_.1 (by kernel_rfl)) ?_
  have ak := u.1
  have al := o.1
  have aj := Ew b.1
  try go_wp2_with (first | (go_at_call 184; (with_reducible refine (Ac.calls k _ _ l _ c s v d t x g p G _ (cb_ T HB) P.1 (cb_ Q HB) M.1 (cb_ R HB) O.1 ?side7 A6.1).mono ?_); (case side7 => exact pk_ a.1); rintro e ao ⟨rfl, hb⟩; have _ := Q_ (bb_ a.1 hb); have _ := Q_ (bb_ b.1 hb); have _ := Q_ (AD (Dw HB.1 i.1 q.1) hb); clear a b HB; rename_i a b HB; (try clear hb)))
  go_ret
  exact ⟨er_, Dw HB.1 i.1 q.1⟩
 rw [if_neg c5] at H
 have B : (c == 0) = false := beq_eq_false_iff_ne.mpr c5
 have D : (c != 0) = true := bne_iff_ne.mpr c5
 (first | rw [B] | (simp only [E4, E']; rw [B]) | rw [D] | (have c_ := D; rw [bne] at c_; rw [c_]; clear c_) | skip)
 obtain ⟨I, ae, H⟩ := bs_ H
 (try dsimp only at H)
 have HS_ := Q_ H
 clear H
 try go_wp2
 have _ := Q_ (Bq a.1)
 have _ := Q_ (Bq b.1)
 have _ := Q_ (Cm HB.1)
 clear a b HB
 rename_i a b HB
 refine sw_ (S := fun w' => w'.cell? ⟨j, 0, none⟩ = some (.int .i64 c) ∧ w'.cell? ⟨j, 1, none⟩ = some (.slice s d.length v) ∧ w'.cell? ⟨j, 2, none⟩ = some (.slice t g.length x) ∧ w'.cell? ⟨j, 3, none⟩ = some (.bool p) ∧ w'.cell? ⟨U, 0, none⟩ = some (.slice z m.length A) ∧ w'.cell? ⟨U, 1, none⟩ = some (.slice E l.length F)) 11 ED.tab1 ED.bits1 ⟨(BM a.1 0).trans rfl, (BM a.1 1).trans rfl, (BM a.1 2).trans rfl, (BM a.1 3).trans rfl, (BM b.1 0).trans rfl, (BM b.1 1).trans rfl⟩ (fun hHeld HT_ HW_ => ?_)
 generalize w4.drew = ap at a b HB hHeld ⊢
 refine Ba 0 5 11 1 ?_
 refine E1 1 6 11 3 hHeld ?_
 refine Ba 2 7 11 7 ?_
 refine Ba 3 8 11 15 ?_
 refine Ba 4 9 11 31 ?_
 refine Ba 7 12 11 159 ?_
 refine E1 5 10 11 191 hHeld ?_
 refine E1 8 13 11 447 hHeld ?_
 refine on_ 6 (some 11) (tf_ 9 11) HT_ (fun K hK => ?_)
 refine gs_ Tryz.func183 #[.slice z m.length A] ?_
 with_reducible refine (BG.calls k _ _ m I _ (cb_ ac HB) ab.1 ae.1).mono ?_
 rintro e aq ⟨rfl, hb⟩
 refine ⟨_, rfl, ?_⟩
 have _ := Q_ (bb_ a.1 hb)
 have _ := Q_ (bb_ b.1 hb)
 have _ := Q_ (AD (Dw HB.1 i.1 q.1) hb)
 clear a b HB
 rename_i a b HB
 (try clear hb)
 refine hK.out _ _ (Ht a.1 b.1) (fun hHeld => ?_)
 clear hK K
 refine no_ (some 11) ?_
 refine Ba 9 14 11 1023 ?_
 refine Ba 10 15 11 2047 ?_
 refine G8 (E0 HT_.1 (by kernel_rfl)) ?_
 go_upto_if 15 with (fail)
 have H := HS_.1
 clear HS_
 by_cases L : I > c
 ·rw [if_pos L] at H
  have y := decide_eq_true L
  clear L
  (first | rw [y] | (simp only [E4, E']; rw [y]) | skip)
  obtain rfl := Option.some.inj H
  go_wp2
  go_ret
  exact ⟨er_, Dw HB.1 i.1 q.1⟩
 rw [if_neg L] at H
 have y := decide_eq_false L
 clear L
 (first | rw [y] | (simp only [E4, E']; rw [y]) | skip)
 obtain ⟨J, af, H⟩ := bs_ H
 replace H : (some J) = some r := H
 obtain rfl := Option.some.inj H
 have ah := u.1
 have ai := o.1
 have ag := Ew b.1
 go_wp2_with (first | (go_at_call 184; (with_reducible refine (Ac.calls k _ _ l _ c s v d t x g p J _ (cb_ T HB) P.1 (cb_ Q HB) M.1 (cb_ R HB) O.1 ?side7 af.1).mono ?_); (case side7 => exact pk_ a.1); rintro e ar ⟨rfl, hb⟩; have _ := Q_ (bb_ a.1 hb); have _ := Q_ (bb_ b.1 hb); have _ := Q_ (AD (Dw HB.1 i.1 q.1) hb); clear a b HB; rename_i a b HB; (try clear hb)))
 go_ret
 exact ⟨er_, Dw HB.1 i.1 q.1⟩
def Ep.f (b : List Int) : Option (List Int) := (some (([] : List Int) : List Int)).bind fun a => (if a.length + b.length < 17592186044416 then (some (a ++ b)) else (none))
theorem Ep.eqlnil (w : World) (a : Option Addr) (n c n' c' : Nat) : (binOp .eql 22 (.slice a n c) (.slice none n' c')).run Tryz.prog w = .ok (.bool a.isNone) w := Go.Lib.run_eql_slice_nil w 22 _ a n c n' c' Tryz.underlying22
attribute [local go_sem] Ep.eqlnil
theorem Ep.calls (q : Option Addr) (t : Nat) (c : List Int) (r : List Int) (w : World) (hr0 : Kd.C (Kd.int .i64) w q c.length c) (m : c.length ≤ t) (h : Ep.f c = some r) :
  Calls Tryz.prog 161 #[.slice q c.length t] w fun e w' => ∃ v0_ : Value, e = .returned (v0_) ∧ Kd.R (Kd.int .i64) 3 w' w.heap.size (fun _ => True) v0_ r ∧ Below w.heap.size w w' := by
 rcases q with _ | a0_
 ·obtain rfl : c = [] := by
   rcases Nat.eq_zero_or_pos c.length with h_ | h_
   ·exact List.eq_nil_of_length_eq_zero h_
   ·obtain ⟨_, e_, _⟩ := hr0.2.2 h_
    cases e_
  obtain rfl : r = [] := by
   unfold Ep.f at h
   simp at h
   first | exact h | exact h.symm
  go_enter Tryz.func161, Tryz.ntmps161
  go_wp2
  go_ret
  exact ⟨_, rfl, Kd.I7 _ _ _ _ _, Below.refl _ _⟩
 have s := Q_ hr0
 have v := Q_ m
 clear hr0 m
 have HB := Q_ (Below.refl w.heap.size w)
 unfold Ep.f at h
 have H := h
 clear h
 obtain ⟨a, hy241⟩ : ∃ y_ : List Int, y_ = (([] : List Int)) := ⟨_, rfl⟩
 replace H : (if a.length + c.length < 17592186044416 then (some (a ++ c)) else (none)) = some r := hb_ hy241 H
 have g := Q_ hy241
 clear hy241
 by_cases p : a.length + c.length < 17592186044416
 rotate_left
 ·rw [if_neg p] at H
  exact nn_ H
 rw [if_pos p] at H
 have l := Q_ p
 clear p
 obtain ⟨o, hy244⟩ : ∃ y_ : List Int, y_ = (a ++ c) := ⟨_, rfl⟩
 replace H : (some o) = some r := hb_ hy244 H
 have k := Q_ hy244
 clear hy244
 obtain rfl := Option.some.inj H
 go_enter Tryz.func161, Tryz.ntmps161
 go_wp2_with (first | (refine Ie .i64 3 5 ([] : List Int) ?_; intro n x i hb; rw [← g.1] at i; have _ := Q_ (Kd.BV i (AZ (pb_ HB.1))); have _ := Q_ (AD (pb_ HB.1) hb); clear HB; rename_i d HB; clear hb i) | ((with_reducible refine FO (b := .append) (xs := #[.tmp 5, .tmp 6]) rfl ?_); at_builtin; refine Kd.Hi (Kd.int .i64) (w0 := w) w.heap.size rfl (.tmp 5) (.tmp 6) 22 3 (.int .i64 0) 8 rfl Tryz.underlying22 HI rfl (by decide) (by omega) n a c _ _ _ (fun _ => True) (fun _ => False) rfl rfl ?aO ?aR (fun _ _ h => h) (fun _ h => h.elim) ?aF ?aB ?aS ?aL ?_; (case aR => exact cb_ s HB); (case aB => exact (pb_ HB.1)); (case aF => exact (fun _ _ => trivial)); (case aO => exact (pr_ d.1)); (case aS => exact (AZ (pb_ HB.1))); (case aL => have := l.1; omega); intro u y ho hb hg hat; rw [← k.1] at ho; have _ := Q_ (hb); have _ := Q_ (ho); clear HB d; rename_i HB j; clear ho hb hg hat))
 go_ret
 exact ⟨_, er_, pr_ j.1, pb_ HB.1⟩
def EF.f (k : Nat) (g : Int) (c : Int) (e : List Int) (a : List Int) (d : Bool) : Option (Bool) := (Ad.f k a g).bind fun b => (some (!b))
theorem EF.mono : ∀ a b c d e k, LeO (EF.f k a b c d e) (EF.f (k + 1) a b c d e) := by
 intro a b c d e k
 unfold EF.f
 exact G7 Ad.mono
theorem EF.calls (k : Nat) (s : Int) (B1 : Nat) (m : Int) (l : Option Addr) (o : Nat) (b : List Int) (d : Option Addr) (g : Nat) (a : List Int) (n : Bool) (r : Bool) (w : World) (hr1_1 : Kd.C (Kd.int .i64) w l b.length b) (i : b.length ≤ o) (hr1_2 : Kd.C (Kd.int .i64) w d a.length a) (j : a.length ≤ g) (hbv1 : w.heap[B1]? = some (.cells #[.int .i64 m, .slice l b.length o, .slice d a.length g, .bool n] 75 (0, 0))) (h : EF.f k s m b a n = some r) :
  Calls Tryz.prog 162 #[.int .i64 s, .pointer (some ⟨B1, 0, none⟩)] w fun e w' => e = .returned (.bool r) ∧ C' w w' := by
 have v := Q_ hr1_1
 have u := Q_ i
 clear hr1_1 i
 have q := Q_ hr1_2
 have p := Q_ j
 clear hr1_2 j
 have t := Q_ hbv1
 clear hbv1
 unfold EF.f at h
 have H := h
 clear h
 obtain ⟨c, y, H⟩ := bs_ H
 replace H : (some (!c)) = some r := H
 obtain rfl := Option.some.inj H
 have x := E8 t.1
 go_enter Tryz.func162, Tryz.ntmps162
 go_wp2_with (first | (refine gk_ 83 7 Tryz.func83 #[.slice d a.length g, .int .i64 s] ?_; (with_reducible refine (Ad.calls k _ _ a s c _ (pc_ q.1) p.1 y.1).mono ?_); rintro e w' ⟨rfl, ⟨nd, rfl⟩⟩; refine ⟨_, rfl, ?_⟩))
 go_ret
 exact ⟨by first | rfl | (simp; done) | (simp [*]; done), by repeat (first | exact C'.refl _ | apply C'.step)⟩
end Go.Proofs.YtibmehnippjakaaGreat.Print
