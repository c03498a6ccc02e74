-- Written by a program of this session (printx.py) out of the translation; Lean checks it.
import Derived.Test.YtibmehnippjakaaGreatPrint0
import Derived.Test.YtibmehnippjakaaGreatPrint1
import Derived.Test.YtibmehnippjakaaGreatPrint4
import Derived.Test.YtibmehnippjakaaGreatPrint10
import Derived.Test.YtibmehnippjakaaGreatPrint8
namespace Go.Proofs.YtibmehnippjakaaGreat.Print
open Go.RowKit Go.Proofs.YtibmehnippjakaaGreatW.PrintWords Go.Proofs.YtibmehnippjakaaGreatW.PrintLast Go.Proofs.YtibmehnippjakaaGreatW.PrintMore Go.Proofs.YtibmehnippjakaaGreat.Short
attribute [local go_sem] F8 Fq G5 G6 FA FH F5 Fp
set_option linter.unusedVariables false
set_option maxHeartbeats 8000000
set_option maxRecDepth 100000
set_option linter.unusedSimpArgs false
def AH.l0 : Nat → List (List Int) → Int → Int → Option (Int)
  | 0, _, _, _ => none
  | k + 1, c, d, a => if a < d then (if 0 ≤ a then (if a < (c.length : Int) then ((DL.f k (HU c a)).bind fun b => (if b = true then (some a) else (AH.l0 k c d (wrap64 (a + 1))))) else (none)) else (none)) else (some (-1))
def AH.f (k : Nat) (a : List (List Int)) : Option (Int) := AH.l0 k a (a.length : Int) 0
theorem AH.mono_l : ∀ k, (∀ a b c, LeO (AH.l0 k a b c) (AH.l0 (k + 1) a b c))
  | 0 => fun _ _ _ r h => by simp [AH.l0] at h
  | k + 1 => by
    have ih0 := AH.mono_l k
    · intro a b c
      unfold AH.l0
      exact H8 ih0 DL.mono
theorem AH.mono : ∀ a k, LeO (AH.f k a) (AH.f (k + 1) a) := by
  intro a k
  have ih0 := AH.mono_l k
  unfold AH.f
  exact H8 ih0 DL.mono
theorem AH.calls (k : Nat) (D : Option Addr) (E : Nat) (g : List (List Int)) (r : Int) (w : World) (hr0 : Kd.C (Kd.slice 3 (Kd.int .i64)) w D g.length g) (t : g.length ≤ E) (h : AH.f k g = some r) :
    Calls Tryz.prog 194 #[.slice D g.length E, .func (.func 192) #[] #[]] w fun e w' => e = .returned (.int .i64 r) ∧ Below w.heap.size w w' := by
  have A := Q_ hr0
  have J := Q_ t
  clear hr0 t
  have HB := Q_ (Below.refl w.heap.size w)
  have H : (AH.l0 k g (g.length : Int) 0) = some r := h
  clear h
  have H' := Q_ H
  clear H
  go_enter Tryz.func194, Tryz.ntmps194
  go_wp2
  go_loopg [8] k (fun kq K w' => ∃ (a : Int), K = .int .i64 a ∧ Aside0 (AH.l0 kq g (g.length : Int) a = some r) ∧ Aside0 (kq ≤ k) ∧ Aside0 (Below w.heap.size w w'))
  case atStart => exact ⟨(0), el_, H', ⟨Nat.le_refl _⟩, ⟨pb_ HB.1⟩⟩
  clear H'
  obtain ⟨a, rfl, HA, p, HB⟩ := hrel
  rcases gk with _ | k1
  · exact absurd HA.1 (by simp [AH.l0])
  have H := HA.1
  clear HA
  simp only [AH.l0] at H
  by_cases o : a < (g.length : Int)
  rotate_left
  · rw [if_neg o] at H
    have q := decide_eq_false o
    clear o
    obtain rfl := Option.some.inj H
    go_wp2
    go_ret
    exact ⟨er_, pb_ HB.1⟩
  rw [if_pos o] at H
  have q := decide_eq_true o
  clear o
  by_cases v : 0 ≤ a
  rotate_left
  · rw [if_neg v] at H
    exact nn_ H
  rw [if_pos v] at H
  have F := decide_eq_true v
  clear v
  by_cases x : a < (g.length : Int)
  rotate_left
  · rw [if_neg x] at H
    exact nn_ H
  rw [if_pos x] at H
  have G := decide_eq_true x
  clear x
  obtain ⟨n, I, H⟩ := bs_ H
  (try dsimp only at H)
  have HS_ := Q_ H
  clear H
  have l : 0 ≤ (a : Int) := dt_
  have m : a < (g.length : Int) := dt_
  obtain ⟨B, u, y, s, d, c, b⟩ := T9 A.1 a l m
  cases s
  replace d := bt_ HB d
  have j := Q_ b
  have i := Q_ c
  clear b c
  replace l := eq_true l
  replace m := eq_true m
  go_upto_if 16 with (first | (go_at_call 192; (with_reducible refine (DL.calls k1 _ _ (HU g a) n _ (cb_ j HB) i.1 I.1).mono ?_); rintro e L ⟨rfl, hb⟩; have _ := Q_ (AD (pb_ HB.1) hb); clear HB; rename_i HB; (try clear hb)))
  (try simp only [Act.put, s1_, s2_, s3_])
  have H := HS_.1
  clear HS_
  by_cases z : n = true
  rotate_left
  · replace z := bf_ z
    subst z
    rw [if_neg ff_] at H
    have H' := Q_ H
    clear H
    go_wp2
    go_roundg k1
    case measure => have := p.1; omega
    case rel => exact ⟨(wrap64 (a + 1)), el_, H', ⟨by have := p.1; omega⟩, ⟨pb_ HB.1⟩⟩
  subst z
  rw [if_pos rfl] at H
  obtain rfl := Option.some.inj H
  go_wp2
  go_ret
  exact ⟨er_, pb_ HB.1⟩
def An.f (k : Nat) (b : List (List Int)) : Option (Bool) := (AH.f k b).bind fun a => (some (decide (a ≥ 0)))
theorem An.mono : ∀ a k, LeO (An.f k a) (An.f (k + 1) a) := by
  intro a k
  unfold An.f
  exact G7 AH.mono
theorem An.calls (k : Nat) (i : Option Addr) (j : Nat) (b : List (List Int)) (r : Bool) (w : World) (hr0 : Kd.C (Kd.slice 3 (Kd.int .i64)) w i b.length b) (c : b.length ≤ j) (h : An.f k b = some r) :
    Calls Tryz.prog 191 #[.slice i b.length j, .func (.func 192) #[] #[]] w fun e w' => e = .returned (.bool r) ∧ Below w.heap.size w w' := by
  have g := Q_ hr0
  have d := Q_ c
  clear hr0 c
  have HB := Q_ (Below.refl w.heap.size w)
  have H : ((AH.f k b).bind fun a => (some (decide (a ≥ 0)))) = some r := h
  clear h
  obtain ⟨a, l, H⟩ := bs_ H
  replace H : (some (decide (a ≥ 0))) = some r := H
  obtain rfl := Option.some.inj H
  go_enter Tryz.func191, Tryz.ntmps191
  go_wp2_with (first | (go_at_call 194; (with_reducible refine (AH.calls k _ _ b a _ (pc_ g.1) d.1 l.1).mono ?_); rintro e m ⟨rfl, hb⟩; have _ := Q_ (AD (pb_ HB.1) hb); clear HB; rename_i HB; (try clear hb)))
  go_ret
  exact ⟨er_, pb_ HB.1⟩
def Ce.f (k : Nat) (b : List (List Int)) : Option (Bool) := if (b.length : Int) ≤ 12 then ((An.f k b).bind fun a => (some (!a))) else (some false)
theorem Ce.mono : ∀ a k, LeO (Ce.f k a) (Ce.f (k + 1) a) := by
  intro a k
  unfold Ce.f
  exact G7 An.mono
theorem Ce.calls (k : Nat) (m : Option Addr) (n : Nat) (b : List (List Int)) (r : Bool) (w : World) (hr0 : Kd.C (Kd.slice 3 (Kd.int .i64)) w m b.length b) (i : b.length ≤ n) (h : Ce.f k b = some r) :
    Calls Tryz.prog 177 #[.slice m b.length n] w fun e w' => e = .returned (.bool r) ∧ Below w.heap.size w w' := by
  have l := Q_ hr0
  have j := Q_ i
  clear hr0 i
  have HB := Q_ (Below.refl w.heap.size w)
  have H : (if (b.length : Int) ≤ 12 then ((An.f k b).bind fun a => (some (!a))) else (some false)) = some r := h
  clear h
  by_cases c : (b.length : Int) ≤ 12
  rotate_left
  · rw [if_neg c] at H
    have d := decide_eq_false c
    have g : decide (b.length ≤ 12) = false := decide_eq_false (by omega)
    clear c
    obtain rfl := Option.some.inj H
    go_enter Tryz.func177, Tryz.ntmps177
    go_wp2
    go_ret
    exact ⟨er_, pb_ HB.1⟩
  rw [if_pos c] at H
  have d := decide_eq_true c
  have g : decide (b.length ≤ 12) = true := decide_eq_true (by omega)
  clear c
  obtain ⟨a, o, H⟩ := bs_ H
  replace H : (some (!a)) = some r := H
  obtain rfl := Option.some.inj H
  go_enter Tryz.func177, Tryz.ntmps177
  go_wp2_with (first | (go_at_call 191; (with_reducible refine (An.calls k _ _ b a _ (pc_ l.1) j.1 o.1).mono ?_); rintro e p ⟨rfl, hb⟩; have _ := Q_ (AD (pb_ HB.1) hb); clear HB; rename_i HB; (try clear hb)))
  go_ret
  exact ⟨er_, pb_ HB.1⟩
def DK.f (k : Nat) (a : Int) : Option (List Int) := if 0 ≤ a then (if a < 17592186044416 then (some []) else none) else none
theorem DK.mono : ∀ a k, LeO (DK.f k a) (DK.f (k + 1) a) := fun _ _ => LeO.refl _
theorem DK.calls (k : Nat) (a : Int) (r : List Int) (w : World) (h : DK.f k a = some r) :
  Calls Tryz.prog 193 #[.slice none 0 0, .int .i64 a] w fun e w' => ∃ v0_ : Value, e = .returned (v0_) ∧ Kd.R (Kd.int .i64) 3 w' w.heap.size (fun _ => True) v0_ r ∧ Below w.heap.size w w' := by
 unfold DK.f at h
 by_cases h0 : 0 ≤ a
 · rw [if_pos h0] at h
   by_cases h1 : a < 17592186044416
   · rw [if_pos h1] at h
     obtain rfl := Option.some.inj h
     exact GrowK.Y4 a h0 h1 w
   · rw [if_neg h1] at h
     cases h
 · rw [if_neg h0] at h
   cases h
mutual
def AW.l0 : Nat → List (List Int) → Int → List (List Int) → Int → Int → Option (List Int)
  | 0, _, _, _, _, _ => none
  | k + 1, e, g, d, c, a => if a < c then (if 0 ≤ a then (if a < (d.length : Int) then (if (wrap64 (g + ((HU d a).length : Int))) < 0 then (none) else (AW.l0 k e (wrap64 (g + ((HU d a).length : Int))) d c (wrap64 (a + 1)))) else (none)) else (none)) else ((DK.f k g).bind fun b => (AW.l1 k b e (e.length : Int) 0))
def AW.l1 : Nat → List Int → List (List Int) → Int → Int → Option (List Int)
  | 0, _, _, _, _ => none
  | k + 1, d, b, c, a => if a < c then (if 0 ≤ a then (if a < (b.length : Int) then (if d.length + (HU b a).length < 17592186044416 then (AW.l1 k (d ++ (HU b a)) b c (wrap64 (a + 1))) else (none)) else (none)) else (none)) else (some d)
end
def AW.f (k : Nat) (a : List (List Int)) : Option (List Int) := AW.l0 k a 0 a (a.length : Int) 0
theorem AW.mono_l : ∀ k, (∀ a b c d e, LeO (AW.l0 k a b c d e) (AW.l0 (k + 1) a b c d e)) ∧ (∀ a b c d, LeO (AW.l1 k a b c d) (AW.l1 (k + 1) a b c d))
  | 0 => ⟨fun _ _ _ _ _ r h => by simp [AW.l0] at h, fun _ _ _ _ r h => by simp [AW.l1] at h⟩
  | k + 1 => by
    obtain ⟨ih0, ih1⟩ := AW.mono_l k
    refine ⟨?_, ?_⟩
    · intro a b c d e
      unfold AW.l0
      exact Jz ih0 ih1 DK.mono
    · intro a b c d
      unfold AW.l1
      exact Jz ih0 ih1 DK.mono
theorem AW.mono : ∀ a k, LeO (AW.f k a) (AW.f (k + 1) a) := by
  intro a k
  obtain ⟨ih0, ih1⟩ := AW.mono_l k
  unfold AW.f
  exact Jz ih0 ih1 DK.mono
theorem AW.calls (k : Nat) (A0 : Option Addr) (c0 : Nat) (d : List (List Int)) (r : List Int) (w : World) (hr0 : Kd.C (Kd.slice 3 (Kd.int .i64)) w A0 d.length d) (W : d.length ≤ c0) (h : AW.f k d = some r) :
    Calls Tryz.prog 181 #[.slice A0 d.length c0] w fun e w' => ∃ v0_ : Value, e = .returned (v0_) ∧ Kd.R (Kd.int .i64) 3 w' w.heap.size (fun _ => True) v0_ r ∧ Below w.heap.size w w' := by
  have O := Q_ hr0
  have av := Q_ W
  clear hr0 W
  have HB := Q_ (Below.refl w.heap.size w)
  have H : (AW.l0 k d 0 d (d.length : Int) 0) = some r := h
  clear h
  have H' := Q_ H
  clear H
  go_enter Tryz.func181, Tryz.ntmps181
  go_wp2
  go_loopg [3, 11] k (fun kq v3 ak w' => ∃ (g : Int) (c : Int), v3 = .int .i64 g ∧ ak = .int .i64 c ∧ Aside0 (AW.l0 kq d g d (d.length : Int) c = some r) ∧ Aside0 (kq ≤ k) ∧ Aside0 (Below w.heap.size w w'))
  case atStart => exact ⟨(0), (0), el_, el_, H', ⟨Nat.le_refl _⟩, ⟨pb_ HB.1⟩⟩
  clear H'
  obtain ⟨g, c, rfl, rfl, HA, z, HB⟩ := hrel
  rcases gk with _ | k1
  · exact absurd HA.1 (by simp [AW.l0])
  have H := HA.1
  clear HA
  simp only [AW.l0] at H
  by_cases J : c < (d.length : Int)
  rotate_left
  · rw [if_neg J] at H
    have S := decide_eq_false J
    clear J
    obtain ⟨y, A3, H⟩ := bs_ H
    replace H : (AW.l1 k1 y d (d.length : Int) 0) = some r := H
    have H' := Q_ H
    clear H
    go_wp2_with (first | (go_at_call 193; (with_reducible refine (DK.calls k1 g y _ A3.1).mono ?_); rintro e w4 ⟨aq, rfl, X, hb⟩; have _ := Q_ (Kd.BV X (AZ (pb_ HB.1))); have _ := Q_ (AD (pb_ HB.1) hb); clear HB; rename_i F HB; (try clear hb X)))
    (try simp only [Act.put, s1_, s2_, s3_])
    go_loopg [6, 27] k1 (fun kq v6 al w' => ∃ (i : List Int) (a : Int), al = .int .i64 a ∧ Aside0 (AW.l1 kq i d (d.length : Int) a = some r) ∧ Aside0 (kq ≤ k1) ∧ Aside0 (Kd.R (Kd.int .i64) 3 w' w.heap.size (fun _ => True) v6 i) ∧ Aside0 (Below w.heap.size w w'))
    case atStart => exact ⟨(y), (0), el_, H', ⟨Nat.le_refl _⟩, ⟨pr_ F.1⟩, ⟨pb_ HB.1⟩⟩
    clear H'
    obtain ⟨i, a, rfl, HA, N, q, HB⟩ := hrel
    rcases gk with _ | k2
    · exact absurd HA.1 (by simp [AW.l1])
    have H := HA.1
    clear HA
    simp only [AW.l1] at H
    by_cases K : a < (d.length : Int)
    rotate_left
    · rw [if_neg K] at H
      have T := decide_eq_false K
      clear K
      obtain rfl := Option.some.inj H
      go_wp2
      go_ret
      exact ⟨_, er_, pr_ q.1, pb_ HB.1⟩
    rw [if_pos K] at H
    have T := decide_eq_true K
    clear K
    by_cases c6 : 0 ≤ a
    rotate_left
    · rw [if_neg c6] at H
      exact nn_ H
    rw [if_pos c6] at H
    have ao := decide_eq_true c6
    clear c6
    by_cases c7 : a < (d.length : Int)
    rotate_left
    · rw [if_neg c7] at H
      exact nn_ H
    rw [if_pos c7] at H
    have ap := decide_eq_true c7
    clear c7
    by_cases c8 : i.length + (HU d a).length < 17592186044416
    rotate_left
    · rw [if_neg c8] at H
      exact nn_ H
    rw [if_pos c8] at H
    have Q := Q_ c8
    clear c8
    obtain ⟨E, hy534⟩ : ∃ y_ : List Int, y_ = (i ++ (HU d a)) := ⟨_, rfl⟩
    replace H : (AW.l1 k2 E d (d.length : Int) (wrap64 (a + 1))) = some r := hb_ hy534 H
    have I := Q_ hy534
    clear hy534
    have H' := Q_ H
    clear H
    have u : 0 ≤ (a : Int) := dt_
    have x : a < (d.length : Int) := dt_
    obtain ⟨ag, Z, ab, V, p, n, l⟩ := T9 O.1 a u x
    cases V
    replace p := bt_ HB p
    have s := Q_ l
    have M := Q_ n
    clear l n
    replace u := eq_true u
    replace x := eq_true x
    go_wp2_with (first | ((with_reducible refine FO (b := .append) (xs := #[.tmp 31, .tmp 32]) rfl ?_); at_builtin; refine Kd.Hi (Kd.int .i64) (w0 := w) w.heap.size rfl (.tmp 31) (.tmp 32) 22 3 (.int .i64 0) 8 rfl Tryz.underlying22 HI rfl (by decide) (by omega) u6 i (HU d a) _ _ _ (fun _ => True) (fun _ => False) rfl rfl ?aO ?aR (fun _ _ h => h) (fun _ h => h.elim) ?aF ?aB ?aS ?aL ?_; (case aR => exact cb_ s HB); (case aB => exact (pb_ HB.1)); (case aF => exact (fun _ _ => trivial)); (case aO => exact (pr_ q.1)); (case aS => exact (AZ (pb_ HB.1))); (case aL => have := Q.1; omega); intro ar w9 ho hb hg hat; rw [← I.1] at ho; have _ := Q_ (hb); have _ := Q_ (ho); clear HB q; rename_i HB G; clear ho hb hg hat))
    go_roundg k2
    case measure => have := z.1; have := N.1; omega
    case rel => exact ⟨(E), (wrap64 (a + 1)), el_, H', ⟨by have := z.1; have := N.1; omega⟩, ⟨pr_ G.1⟩, ⟨pb_ HB.1⟩⟩
  rw [if_pos J] at H
  have S := decide_eq_true J
  clear J
  by_cases A : 0 ≤ c
  rotate_left
  · rw [if_neg A] at H
    exact nn_ H
  rw [if_pos A] at H
  have ah := decide_eq_true A
  clear A
  by_cases B : c < (d.length : Int)
  rotate_left
  · rw [if_neg B] at H
    exact nn_ H
  rw [if_pos B] at H
  have ai := decide_eq_true B
  clear B
  by_cases D : (wrap64 (g + ((HU d c).length : Int))) < 0
  · rw [if_pos D] at H
    exact nn_ H
  rw [if_neg D] at H
  have aj := decide_eq_false D
  clear D
  have H' := Q_ H
  clear H
  have t : 0 ≤ (c : Int) := dt_
  have v : c < (d.length : Int) := dt_
  obtain ⟨af, Y, aa, U, o, m, j⟩ := T9 O.1 c t v
  cases U
  replace o := bt_ HB o
  have P := Q_ j
  have L := Q_ m
  clear j m
  replace t := eq_true t
  replace v := eq_true v
  go_wp2
  go_roundg k1
  case measure => have := z.1; omega
  case rel => exact ⟨(wrap64 (g + ((HU d c).length : Int))), (wrap64 (c + 1)), el_, el_, H', ⟨by have := z.1; omega⟩, ⟨pb_ HB.1⟩⟩
def EB.f (k : Nat) (c : Int) (d : List Int) : Option (Int) := (AW.f k (([(([c] : List Int)), d, (([c] : List Int))] : List (List Int)))).bind fun a => ((CJ.f k a).bind fun b => (some b))
theorem EB.mono : ∀ a b k, LeO (EB.f k a b) (EB.f (k + 1) a b) := by
  intro a b k
  unfold EB.f
  exact H8 CJ.mono AW.mono
theorem EB.calls (k : Nat) (o : Int) (P1_ : Nat → Prop) (B : Option Addr) (F : Nat) (q : List Int) (r : Int) (w : World) (Q : Kd.V (Kd.int .i64) 3 w w.heap.size (fun k_ => P1_ k_) (.slice B q.length F) q) (h : EB.f k o q = some r) :
    Calls Tryz.prog 178 #[.int .i64 o, .slice B q.length F] w fun e w' => e = .returned (.int .i64 r) ∧ Below w.heap.size w w' := by
  have d := Q_ (show Kd.V (Kd.int .i64) 3 w w.heap.size (fun k_ => (P1_ k_ ∨ w.heap.size ≤ k_)) (.slice B q.length F) q from Kd.IJ Q (fun k_ hk => .inl hk))
  have HB := Q_ (Below.refl w.heap.size w)
  have H : ((AW.f k (([(([o] : List Int)), q, (([o] : List Int))] : List (List Int)))).bind fun a => ((CJ.f k a).bind fun b => (some b))) = some r := h
  clear h
  obtain ⟨i, hy537⟩ : ∃ y_ : List Int, y_ = (([o] : List Int)) := ⟨_, rfl⟩
  replace H : ((AW.f k (([i, q, (([o] : List Int))] : List (List Int)))).bind fun a => ((CJ.f k a).bind fun b => (some b))) = some r := hb_ hy537 H
  have t := Q_ hy537
  clear hy537
  obtain ⟨l, hy540⟩ : ∃ y_ : List Int, y_ = (([o] : List Int)) := ⟨_, rfl⟩
  replace H : ((AW.f k (([i, q, l] : List (List Int)))).bind fun a => ((CJ.f k a).bind fun b => (some b))) = some r := hb_ hy540 H
  have u := Q_ hy540
  clear hy540
  obtain ⟨x, hy543⟩ : ∃ y_ : List (List Int), y_ = (([i, q, l] : List (List Int))) := ⟨_, rfl⟩
  replace H : ((AW.f k x).bind fun a => ((CJ.f k a).bind fun b => (some b))) = some r := hb_ hy543 H
  have v := Q_ hy543
  clear hy543
  obtain ⟨a, W, H⟩ := bs_ H
  replace H : ((CJ.f k a).bind fun b => (some b)) = some r := H
  obtain ⟨b, X, H⟩ := bs_ H
  replace H : (some b) = some r := H
  obtain rfl := Option.some.inj H
  go_enter Tryz.func178, Tryz.ntmps178
  go_wp2_with (first | (refine Ie .i64 3 6 ([o] : List Int) ?_; intro R w5 s hb; rw [← t.1] at s; have _ := Q_ (Kd.II (by (with_reducible repeat (first | apply Kd.F6 | apply Kd.F7 | apply Kd.G1)); exact d.1) (Kd.BJ s) hb); have c := Q_ (Kd.BV (Kd.HN (M := fun k_ => (w.heap.size ≤ k_)) s (AZ (pb_ HB.1)) (fun k_ h_ => h_)) (AZ (pb_ HB.1))); have _ := Q_ (AD (pb_ HB.1) hb); clear d HB; rename_i d HB; clear hb s) | (refine Ie .i64 3 9 ([o] : List Int) ?_; intro S w7 p hb; rw [← u.1] at p; have _ := Q_ (Kd.II (by (with_reducible repeat (first | apply Kd.F6 | apply Kd.F7 | apply Kd.G1)); exact d.1) (Kd.BJ p) hb); have _ := Q_ (Kd.B0 (pr_ c.1) (Kd.BJ p) hb); have m := Q_ (Kd.BV (Kd.B8 (Kd.HN (M := fun k_ => (w.heap.size ≤ k_)) p (AZ (pb_ HB.1)) (fun k_ h_ => h_)) (Kd.Dj (pr_ c.1))) (AZ (pb_ HB.1))); have _ := Q_ (AD (pb_ HB.1) hb); clear d c HB; rename_i d c HB; clear hb p; obtain ⟨E, J, P⟩ := Kd.Bo c.1; subst P; obtain ⟨z, A, K⟩ := Kd.Bo m.1; subst K) | ((with_reducible refine FP (N := 10) rfl ?_); refine Kd.XU (Kd.slice 3 (Kd.int .i64)) _ 22 ?hg (N' := 10) ?hd (xs := ([i, q, l] : List (List Int))) (inner := [.slice E i.length J, .slice B q.length F, .slice z l.length A]) (ok := (fun k_ => (P1_ k_ ∨ w.heap.size ≤ k_))) (okp := (fun k_ => (P1_ k_ ∨ w.heap.size ≤ k_))) ?hr ?hp (fun _ hk => hk) ((show ∀ k_, w7.heap.size ≤ k_ → (fun k_ => (P1_ k_ ∨ w.heap.size ≤ k_)) k_ from fun k_ hk => (.inr (Nat.le_trans (AZ (pb_ HB.1)) hk))) _ (Nat.le_refl _)) (Below.refl _ _) (Nat.le_refl _) (by simp) ?_; (case hd => rfl); (case hg => rfl); (case hr => first | (go_simp; done) | (go_simp; rfl)); (case hp => exact (Reps.one (show Kd.FK (Kd.slice 3 (Kd.int .i64)) _ _ i [.slice E i.length J] from (Kd.Hh (Kd.BH (Kd.Ax (ok' := (fun k_ => (P1_ k_ ∨ w.heap.size ≤ k_))) (c.1) (fun k_ hk => (.inr (hk.1.1))))).2.1 (Kd.R_F (Kd.Ax (ok' := (fun k_ => (P1_ k_ ∨ w.heap.size ≤ k_))) (c.1) (fun k_ hk => (.inr (hk.1.1))))))) (Reps.one (show Kd.FK (Kd.slice 3 (Kd.int .i64)) _ _ q [.slice B q.length F] from (Kd.Hh (Kd.Ii (Kd.IJ (ok' := (fun k_ => (P1_ k_ ∨ w.heap.size ≤ k_))) (d.1) (fun k_ hk => hk.1.1))).2.1 (Kd.V_F (Kd.IJ (ok' := (fun k_ => (P1_ k_ ∨ w.heap.size ≤ k_))) (d.1) (fun k_ hk => hk.1.1))))) (Reps.one (show Kd.FK (Kd.slice 3 (Kd.int .i64)) _ _ l [.slice z l.length A] from (Kd.Hh (Kd.BH (Kd.Ax (ok' := (fun k_ => (P1_ k_ ∨ w.heap.size ≤ k_))) (m.1) (fun k_ hk => (.inr (hk.1.1))))).2.1 (Kd.R_F (Kd.Ax (ok' := (fun k_ => (P1_ k_ ∨ w.heap.size ≤ k_))) (m.1) (fun k_ hk => (.inr (hk.1.1))))))) (Reps.none _ _))))); intro T Y j hb hg_ hnew_; clear hg_ hnew_; rw [← v.1] at j; have _ := Q_ (Kd.II (by (with_reducible repeat (first | apply Kd.F6 | apply Kd.F7 | apply Kd.G1)); exact d.1) (Kd.JV j) hb); have g := Q_ (Kd.IW j (AZ (pb_ HB.1))); have _ := Q_ (AD (pb_ HB.1) hb); clear d HB c m; rename_i d HB; clear hb j; obtain ⟨C, G, L⟩ := Kd.IM g.1; subst L) | (refine gk_ 181 11 Tryz.func181 #[.slice C x.length G] ?_; (with_reducible refine (AW.calls k _ _ x a _ ?side1 ?side2 W.1).mono ?_); (case side1 => exact pc_ ((Kd.Em g.1).2.2)); (case side2 => exact (Kd.Em g.1).2.1); rintro e Z ⟨U, rfl, y, hb⟩; refine ⟨_, rfl, ?_⟩; have _ := Q_ (Kd.II (by (with_reducible repeat (first | apply Kd.F6 | apply Kd.F7 | apply Kd.G1)); exact d.1) (Kd.BJ y) hb); have _ := Q_ (Kd.E9 (px_ g.1) (Kd.BJ y) hb); have n := Q_ (Kd.BV (Kd.HN (M := fun k_ => (w.heap.size ≤ k_)) y (AZ (pb_ HB.1)) (fun k_ h_ => h_)) (AZ (pb_ HB.1))); have _ := Q_ (AD (pb_ HB.1) hb); clear d g HB; rename_i d g HB; (try clear hb y); obtain ⟨D, I, O⟩ := Kd.Bo n.1; subst O) | (refine gk_ 128 12 Tryz.func128 #[.slice D a.length I] ?_; (with_reducible refine (CJ.calls k _ _ a b _ ?side1 ?side2 X.1).mono ?_); (case side1 => exact pc_ ((Kd.BH n.1).2.2)); (case side2 => exact (Kd.BH n.1).2.1); rintro e w' ⟨rfl, ⟨nd, rfl⟩⟩; refine ⟨_, rfl, ?_⟩))
  go_ret
  exact ⟨er_, pb_ HB.1⟩
def BA.l0 : Nat → Int → List (List Int) → Int → Int → Option (Int)
  | 0, _, _, _, _ => none
  | k + 1, g, e, d, a => if a < d then (if 0 ≤ a then (if a < (e.length : Int) then ((some (([g, ((HU e a).length : Int)] : List Int) : List Int)).bind fun b => (if b.length + (HU e a).length < 17592186044416 then ((CJ.f k (b ++ (HU e a))).bind fun c => (BA.l0 k c e d (wrap64 (a + 1)))) else (none))) else (none)) else (none)) else (some g)
def BA.f (k : Nat) (b : List (List Int)) : Option (Int) := (Ce.f k b).bind fun a => (if a = true then (BA.l0 k 1 b (b.length : Int) 0) else (some 0))
theorem BA.mono_l : ∀ k, (∀ a b c d, LeO (BA.l0 k a b c d) (BA.l0 (k + 1) a b c d))
  | 0 => fun _ _ _ _ r h => by simp [BA.l0] at h
  | k + 1 => by
    have ih0 := BA.mono_l k
    · intro a b c d
      unfold BA.l0
      exact Jz ih0 CJ.mono Ce.mono
theorem BA.mono : ∀ a k, LeO (BA.f k a) (BA.f (k + 1) a) := by
  intro a k
  have ih0 := BA.mono_l k
  unfold BA.f
  exact Jz ih0 CJ.mono Ce.mono
theorem BA.calls (k : Nat) (V : Option Addr) (Y : Nat) (c : List (List Int)) (r : Int) (w : World) (hr0 : Kd.C (Kd.slice 3 (Kd.int .i64)) w V c.length c) (L : c.length ≤ Y) (h : BA.f k c = some r) :
    Calls Tryz.prog 179 #[.slice V c.length Y] w fun e w' => e = .returned (.int .i64 r) ∧ Below w.heap.size w w' := by
  have F := Q_ hr0
  have W := Q_ L
  clear hr0 L
  have HB := Q_ (Below.refl w.heap.size w)
  have H : ((Ce.f k c).bind fun q => (if q = true then (BA.l0 k 1 c (c.length : Int) 0) else (some 0))) = some r := h
  clear h
  obtain ⟨q, A2, H⟩ := bs_ H
  (try dsimp only at H)
  have HS_ := Q_ H
  clear H
  go_enter Tryz.func179, Tryz.ntmps179
  go_upto_if 8 with (first | (refine gk_ 177 7 Tryz.func177 #[.slice V c.length Y] ?_; (with_reducible refine (Ce.calls k _ _ c q _ (pc_ F.1) W.1 A2.1).mono ?_); rintro e w3 ⟨rfl, hb⟩; refine ⟨_, rfl, ?_⟩; have _ := Q_ (AD (pb_ HB.1) hb); clear HB; rename_i HB; (try clear hb)))
  (try simp only [Act.put, s1_, s2_, s3_])
  have H := HS_.1
  clear HS_
  by_cases Q : q = true
  rotate_left
  · replace Q := bf_ Q
    subst Q
    rw [if_neg ff_] at H
    obtain rfl := Option.some.inj H
    go_wp2
    go_ret
    exact ⟨er_, pb_ HB.1⟩
  subst Q
  rw [if_pos rfl] at H
  have H' := Q_ H
  clear H
  go_wp2
  go_loopg [3, 11] k (fun kq v3 Z w' => ∃ (d : Int) (a : Int), v3 = .int .i64 d ∧ Z = .int .i64 a ∧ Aside0 (BA.l0 kq d c (c.length : Int) a = some r) ∧ Aside0 (kq ≤ k) ∧ Aside0 (Below w.heap.size w w'))
  case atStart => exact ⟨(1), (0), el_, el_, H', ⟨Nat.le_refl _⟩, ⟨pb_ HB.1⟩⟩
  clear H'
  obtain ⟨d, a, rfl, rfl, HA, E, HB⟩ := hrel
  rcases gk with _ | k1
  · exact absurd HA.1 (by simp [BA.l0])
  have H := HA.1
  clear HA
  simp only [BA.l0] at H
  by_cases A : a < (c.length : Int)
  rotate_left
  · rw [if_neg A] at H
    have i := decide_eq_false A
    clear A
    (first | rw [i] | (simp only [E4, E']; rw [i]) | skip)
    obtain rfl := Option.some.inj H
    go_wp2
    go_ret
    exact ⟨er_, pb_ HB.1⟩
  rw [if_pos A] at H
  have i := decide_eq_true A
  clear A
  (first | rw [i] | (simp only [E4, E']; rw [i]) | skip)
  by_cases S : 0 ≤ a
  rotate_left
  · rw [if_neg S] at H
    exact nn_ H
  rw [if_pos S] at H
  have aa := decide_eq_true S
  clear S
  by_cases T : a < (c.length : Int)
  rotate_left
  · rw [if_neg T] at H
    exact nn_ H
  rw [if_pos T] at H
  have ab := decide_eq_true T
  clear T
  obtain ⟨o, hy552⟩ : ∃ y_ : List Int, y_ = (([d, ((HU c a).length : Int)] : List Int)) := ⟨_, rfl⟩
  replace H : (if o.length + (HU c a).length < 17592186044416 then ((CJ.f k1 (o ++ (HU c a))).bind fun g => (BA.l0 k1 g c (c.length : Int) (wrap64 (a + 1)))) else (none)) = some r := hb_ hy552 H
  have u := Q_ hy552
  clear hy552
  by_cases U : o.length + (HU c a).length < 17592186044416
  rotate_left
  · rw [if_neg U] at H
    exact nn_ H
  rw [if_pos U] at H
  have G := Q_ U
  clear U
  obtain ⟨y, hy555⟩ : ∃ y_ : List Int, y_ = (o ++ (HU c a)) := ⟨_, rfl⟩
  replace H : ((CJ.f k1 y).bind fun g => (BA.l0 k1 g c (c.length : Int) (wrap64 (a + 1)))) = some r := hb_ hy555 H
  have z := Q_ hy555
  clear hy555
  obtain ⟨g, A9, H⟩ := bs_ H
  (try dsimp only at H)
  have H' := Q_ H
  clear H
  have v : 0 ≤ (a : Int) := dt_
  have x : a < (c.length : Int) := dt_
  obtain ⟨X, P, R, J, n, l, j⟩ := T9 F.1 a v x
  cases J
  replace n := bt_ HB n
  have t := Q_ j
  have D := Q_ l
  clear j l
  replace v := eq_true v
  replace x := eq_true x
  go_wp2_with (first | (refine Ie .i64 3 18 ([d, ((HU c a).length : Int)] : List Int) ?_; intro O ag m hb; rw [← u.1] at m; have _ := Q_ (Kd.BV m (AZ (pb_ HB.1))); have _ := Q_ (AD (pb_ HB.1) hb); clear HB; rename_i s HB; clear hb m) | ((with_reducible refine FO (b := .append) (xs := #[.tmp 18, .tmp 19]) rfl ?_); at_builtin; refine Kd.Hi (Kd.int .i64) (w0 := w) w.heap.size rfl (.tmp 18) (.tmp 19) 22 3 (.int .i64 0) 8 rfl Tryz.underlying22 HI rfl (by decide) (by omega) O o (HU c a) _ _ _ (fun _ => True) (fun _ => False) rfl rfl ?aO ?aR (fun _ _ h => h) (fun _ h => h.elim) ?aF ?aB ?aS ?aL ?_; (case aR => exact cb_ t HB); (case aB => exact (pb_ HB.1)); (case aF => exact (fun _ _ => trivial)); (case aO => exact (pr_ s.1)); (case aS => exact (AZ (pb_ HB.1))); (case aL => have := G.1; omega); intro ac ah ho hb hg hat; rw [← z.1] at ho; have _ := Q_ (hb); have _ := Q_ (ho); clear HB s; rename_i HB p; clear ho hb hg hat; obtain ⟨B, I, K⟩ := Kd.Bo p.1; subst K) | (refine gk_ 128 21 Tryz.func128 #[.slice B y.length I] ?_; (with_reducible refine (CJ.calls k1 _ _ y g _ ?side1 ?side2 A9.1).mono ?_); (case side1 => exact pc_ ((Kd.BH p.1).2.2)); (case side2 => exact (Kd.BH p.1).2.1); rintro e w' ⟨rfl, ⟨nd, rfl⟩⟩; refine ⟨_, rfl, ?_⟩))
  go_roundg k1
  case measure => have := E.1; omega
  case rel => exact ⟨(g), (wrap64 (a + 1)), el_, el_, H', ⟨by have := E.1; omega⟩, ⟨pb_ HB.1⟩⟩
def BR.j0 : Nat → Int → List (List Int) → Int → Bool → Option (Int)
  | 0, _, _, _, _ => none
  | k + 1, d, e, g, c => if c = true then (some 0) else ((BA.f k e).bind fun a => ((EB.f k d (([g, a] : List Int))).bind fun b => (some b)))
def BR.f (k : Nat) (d : Int) (g : List (List Int)) (e : Int) : Option (Int) := (Ey.f d).bind fun a => (if a = true then ((Ce.f k g).bind fun b => (if b = true then ((Cb.f e 0 1).bind fun c => (BR.j0 k d g e (!c))) else (BR.j0 k d g e true))) else (BR.j0 k d g e true))
theorem BR.mono_l : ∀ k, (∀ a b c d, LeO (BR.j0 k a b c d) (BR.j0 (k + 1) a b c d))
  | 0 => fun _ _ _ _ r h => by simp [BR.j0] at h
  | k + 1 => by
    have ih0 := BR.mono_l k
    · intro a b c d
      unfold BR.j0
      exact M5 ih0 Ce.mono EB.mono BA.mono
theorem BR.mono : ∀ a b c k, LeO (BR.f k a b c) (BR.f (k + 1) a b c) := by
  intro a b c k
  have ih0 := BR.mono_l k
  unfold BR.f
  exact M5 ih0 Ce.mono EB.mono BA.mono
theorem BR.calls (k : Nat) (d : Int) (E : Option Addr) (K : Nat) (j : List (List Int)) (l : Int) (r : Int) (w : World) (hr1 : Kd.C (Kd.slice 3 (Kd.int .i64)) w E j.length j) (A : j.length ≤ K) (h : BR.f k d j l = some r) :
    Calls Tryz.prog 153 #[.int .i64 d, .slice E j.length K, .int .i64 l] w fun e w' => e = .returned (.int .i64 r) ∧ Below w.heap.size w w' := by
  have y := Q_ hr1
  have v := Q_ A
  clear hr1 A
  have HB := Q_ (Below.refl w.heap.size w)
  have H : ((Ey.f d).bind fun p => (if p = true then ((Ce.f k j).bind fun q => (if q = true then ((Cb.f l 0 1).bind fun i => (BR.j0 k d j l (!i))) else (BR.j0 k d j l true))) else (BR.j0 k d j l true))) = some r := h
  clear h
  have x := Q_ H
  clear H
  go_enter Tryz.func153, Tryz.ntmps153
  go_upto_region 1 with (fail)
  go_cut [19] (fun L wc => ∃ (kq : Nat) (c : Bool), L = .bool c ∧ Aside0 (BR.j0 kq d j l c = some r) ∧ Aside0 (kq ≤ k) ∧ Aside0 (Below w.heap.size w wc))
  case first =>
    have H := x.1
    clear x
    obtain ⟨p, J, H⟩ := bs_ H
    (try dsimp only at H)
    by_cases B : p = true
    rotate_left
    · replace B := bf_ B
      subst B
      rw [if_neg ff_] at H
      have H' := Q_ H
      clear H
      go_wp2_with (first | (refine gk_ 25 8 Tryz.func25 #[.int .i64 d] ?_; (with_reducible refine (Ey.calls d false _ J.1).mono ?_); rintro e w' ⟨rfl, ⟨nd, rfl⟩⟩; refine ⟨_, rfl, ?_⟩))
      go_meet
      case rel => exact ⟨_, (true), el_, H', ⟨by first | omega | exact Nat.le_refl _⟩, ⟨pb_ HB.1⟩⟩
    subst B
    rw [if_pos rfl] at H
    obtain ⟨q, O, H⟩ := bs_ H
    (try dsimp only at H)
    by_cases D : q = true
    rotate_left
    · replace D := bf_ D
      subst D
      rw [if_neg ff_] at H
      have H' := Q_ H
      clear H
      go_wp2_with (first | (refine gk_ 25 8 Tryz.func25 #[.int .i64 d] ?_; (with_reducible refine (Ey.calls d true _ J.1).mono ?_); rintro e w' ⟨rfl, ⟨nd, rfl⟩⟩; refine ⟨_, rfl, ?_⟩) | (go_at_call 177; (with_reducible refine (Ce.calls k _ _ j false _ ?side1 v.1 O.1).mono ?_); (case side1 => exact pc_ (Kd.Ec y.1 (pb_ HB.1))); rintro e V ⟨rfl, hb⟩; have _ := Q_ (AD (pb_ HB.1) hb); clear HB; rename_i HB; (try clear hb)))
      go_meet
      case rel => exact ⟨_, (true), el_, H', ⟨by first | omega | exact Nat.le_refl _⟩, ⟨pb_ HB.1⟩⟩
    subst D
    rw [if_pos rfl] at H
    obtain ⟨i, F, H⟩ := bs_ H
    replace H : (BR.j0 k d j l (!i)) = some r := H
    have H' := Q_ H
    clear H
    go_wp2_with (first | (refine gk_ 25 8 Tryz.func25 #[.int .i64 d] ?_; (with_reducible refine (Ey.calls d true _ J.1).mono ?_); rintro e w' ⟨rfl, ⟨nd, rfl⟩⟩; refine ⟨_, rfl, ?_⟩) | (go_at_call 177; (with_reducible refine (Ce.calls k _ _ j true _ ?side1 v.1 O.1).mono ?_); (case side1 => exact pc_ (Kd.Ec y.1 (pb_ HB.1))); rintro e R ⟨rfl, hb⟩; have _ := Q_ (AD (pb_ HB.1) hb); clear HB; rename_i HB; (try clear hb)) | (go_at_call 53; (with_reducible refine (Cb.calls l 0 1 i _ F.1).mono ?_); rintro e w' ⟨rfl, ⟨nd, rfl⟩⟩))
    go_meet
    case rel => exact ⟨_, (!i), el_, H', ⟨by first | omega | exact Nat.le_refl _⟩, ⟨pb_ HB.1⟩⟩
  clear x
  obtain ⟨kq, c, rfl, HA, Q, HB⟩ := hcut
  rcases kq with _ | kj3
  · exact absurd HA.1 (by simp [BR.j0])
  have H := HA.1
  clear HA
  simp only [BR.j0] at H
  by_cases s : c = true
  · subst s
    rw [if_pos rfl] at H
    obtain rfl := Option.some.inj H
    go_wp2
    go_ret
    exact ⟨er_, pb_ HB.1⟩
  replace s := bf_ s
  subst s
  rw [if_neg ff_] at H
  obtain ⟨b, G, H⟩ := bs_ H
  (try dsimp only at H)
  obtain ⟨n, hy563⟩ : ∃ y_ : List Int, y_ = (([l, b] : List Int)) := ⟨_, rfl⟩
  replace H : ((EB.f kj3 d n).bind fun m => (some m)) = some r := hb_ hy563 H
  have o := Q_ hy563
  clear hy563
  obtain ⟨m, I, H⟩ := bs_ H
  replace H : (some m) = some r := H
  obtain rfl := Option.some.inj H
  go_wp2_with (first | (refine gk_ 179 23 Tryz.func179 #[.slice E j.length K] ?_; (with_reducible refine (BA.calls kj3 _ _ j b _ (cb_ y HB) v.1 G.1).mono ?_); rintro e S ⟨rfl, hb⟩; refine ⟨_, rfl, ?_⟩; have _ := Q_ (AD (pb_ HB.1) hb); clear HB; rename_i HB; (try clear hb)) | (refine Ie .i64 3 24 ([l, b] : List Int) ?_; intro P T g hb; rw [← o.1] at g; have _ := Q_ (Kd.BV g (AZ (pb_ HB.1))); have _ := Q_ (AD (pb_ HB.1) hb); clear HB; rename_i a HB; clear hb g; obtain ⟨t, u, z⟩ := Kd.Bo a.1; subst z) | (refine gk_ 178 25 Tryz.func178 #[.int .i64 d, .slice t n.length u] ?_; (with_reducible refine (EB.calls kj3 d (fun k_ => some k_ = (.slice t n.length u : Value).ownBlock) _ _ n m _ ?side1 I.1).mono ?_); (case side1 => exact Kd.R_V (Kd.I' rfl (a.1))); rintro e U ⟨rfl, hb⟩; refine ⟨_, rfl, ?_⟩; have _ := Q_ (Kd.Bv (pr_ a.1) hb); have _ := Q_ (AD (pb_ HB.1) hb); clear a HB; rename_i a HB; (try clear hb)))
  go_ret
  exact ⟨er_, pb_ HB.1⟩
def BF.l0 : Nat → List Int → List (S81) → Int → Int → Option (List Int × Bool)
 | 0, _, _, _, _ => none
 | k + 1, f, b, e, a => if a < e then (if 0 ≤ a then (if a < (b.length : Int) then ((some (([(AX b a).f0, (((AX b a).f1).length : Int)] : List Int) : List Int)).bind fun c => (if f.length + c.length < 17592186044416 then ((some (f ++ c : List Int)).bind fun d => (if d.length + ((AX b a).f1).length < 17592186044416 then (BF.l0 k (d ++ ((AX b a).f1)) b e (wrap64 (a + 1))) else (none))) else (none))) else (none)) else (none)) else (some (f, true))
def BF.f (k : Nat) (b : List (S81)) : Option (List Int × Bool) := (BE.f k b).bind fun a => (if a = true then (BF.l0 k (([(b.length : Int)] : List Int)) b (b.length : Int) 0) else (some (([] : List Int), false)))
theorem BF.mono_l : ∀ k, (∀ a b c d, LeO (BF.l0 k a b c d) (BF.l0 (k + 1) a b c d))
 | 0 => fun _ _ _ _ r h => by simp [BF.l0] at h
 | k + 1 => by
  have ih0 := BF.mono_l k
  ·intro a b c d
   unfold BF.l0
   exact H8 ih0 BE.mono
theorem BF.mono : ∀ a k, LeO (BF.f k a) (BF.f (k + 1) a) := by
 intro a k
 have ih0 := BF.mono_l k
 unfold BF.f
 exact H8 ih0 BE.mono
def BF.T7 : Bool × List (List Nat × List Nat) := (true, [([], []), ([], []), ([1], [1]), ([], []), ([3], [3]), ([4], [4]), ([2, 5], [2, 5]), ([0, 6], [0, 6]), ([], []), ([8], [8]), ([7, 9, 7], [7, 9]), ([10, 10, 0, 1, 2, 3, 4, 5, 6, 7, 8, 9, 10], [0, 10])])
def BF.B7 : List Nat := [0, 0, 2, 0, 8, 24, 62, 127, 0, 256, 1023, 2047]
theorem BF.tab7 : rtab .any (opsOf Tryz.f180 7) = BF.T7 := by kernel_rfl
theorem BF.bits7 : Fa BF.T7.2 BF.B7 = true := by kernel_rfl
theorem BF.calls (k : Nat) (A0 : Option Addr) (c0 : Nat) (c : List (S81)) (U : List Int) (V : Bool) (w : World) (hr0 : Kd.C k81 w A0 c.length c) (ak : c.length ≤ c0) (h : BF.f k c = some (U, V)) :
  Calls Tryz.prog 180 #[.slice A0 c.length c0] w fun e w' => ∃ v0_ : Value, e = .returned (.tuple #[v0_, .bool V]) ∧ Kd.R (Kd.int .i64) 3 w' w.heap.size (fun _ => True) v0_ U ∧ Below w.heap.size w w' := by
 have hu81 := Tryz.underlying81
 have ai := Q_ hr0
 have aq := Q_ ak
 clear hr0 ak
 have HB := Q_ (Below.refl w.heap.size w)
 unfold BF.f at h
 have H := h
 clear h
 obtain ⟨z, A2, H⟩ := bs_ H
 (try dsimp only at H)
 have HS_ := Q_ H
 clear H
 go_enter Tryz.func180, Tryz.ntmps180
 go_upto_if 9 with (first | (refine gk_ 57 8 Tryz.func57 #[.slice A0 c.length c0] ?_; (with_reducible refine (BE.calls k _ _ c z _ (pc_ ai.1) aq.1 A2.1).mono ?_); rintro e w3 ⟨rfl, hb⟩; refine ⟨_, rfl, ?_⟩; have _ := Q_ (AD (pb_ HB.1) hb); clear HB; rename_i HB; (try clear hb)))
 (try simp only [Act.put, s1_, s2_, s3_])
 have H := HS_.1
 clear HS_
 by_cases c4 : z = true
 rotate_left
 ·replace c4 := bf_ c4
  subst c4
  rw [if_neg ff_] at H
  simp only [Option.some.injEq, Prod.mk.injEq] at H
  obtain ⟨rfl, rfl⟩ := H
  go_wp2
  go_ret2
  exact ⟨_, er_, nl_, pb_ HB.1⟩
 subst c4
 rw [if_pos rfl] at H
 obtain ⟨W, hy568⟩ : ∃ y_ : List Int, y_ = (([(c.length : Int)] : List Int)) := ⟨_, rfl⟩
 replace H : (BF.l0 k W c (c.length : Int) 0) = some (U, V) := hb_ hy568 H
 have B := Q_ hy568
 clear hy568
 have H' := Q_ H
 clear H
 go_wp2_with (first | (refine Ie .i64 3 12 ([(c.length : Int)] : List Int) ?_; intro az w5 E hb; rw [← B.1] at E; have _ := Q_ (Kd.BV E (AZ (pb_ HB.1))); have _ := Q_ (AD (pb_ HB.1) hb); clear HB; rename_i Z HB; clear hb E))
 (try simp only [Act.put, s1_, s2_, s3_])
 go_loopg [4, 15] k (fun kq v4 aw w' => ∃ (q : List Int) (a : Int), aw = .int .i64 a ∧ Aside0 (BF.l0 kq q c (c.length : Int) a = some (U, V)) ∧ Aside0 (kq ≤ k) ∧ Aside0 (Kd.R (Kd.int .i64) 3 w' w.heap.size (fun _ => True) v4 q) ∧ Aside0 (Below w.heap.size w w'))
 case atStart => exact ⟨(W), (0), el_, H', ⟨Nat.le_refl _⟩, ⟨pr_ Z.1⟩, ⟨pb_ HB.1⟩⟩
 clear H'
 obtain ⟨q, a, rfl, HA, ah, d, HB⟩ := hrel
 rcases gk with _ | k1
 ·exact absurd HA.1 (by simp [BF.l0])
 have H := HA.1
 clear HA
 simp only [BF.l0] at H
 by_cases c7 : a < (c.length : Int)
 rotate_left
 ·rw [if_neg c7] at H
  have u := decide_eq_false c7
  clear c7
  (first | rw [u] | (simp only [E4, E']; rw [u]) | skip)
  simp only [Option.some.injEq, Prod.mk.injEq] at H
  obtain ⟨rfl, rfl⟩ := H
  go_wp2
  go_ret2
  exact ⟨_, er_, pr_ d.1, pb_ HB.1⟩
 rw [if_pos c7] at H
 have u := decide_eq_true c7
 clear c7
 (first | rw [u] | (simp only [E4, E']; rw [u]) | skip)
 by_cases c8 : 0 ≤ a
 rotate_left
 ·rw [if_neg c8] at H
  exact nn_ H
 rw [if_pos c8] at H
 have ax := decide_eq_true c8
 clear c8
 by_cases c9 : a < (c.length : Int)
 rotate_left
 ·rw [if_neg c9] at H
  exact nn_ H
 rw [if_pos c9] at H
 have ay := decide_eq_true c9
 clear c9
 obtain ⟨s, hy573⟩ : ∃ y_ : List Int, y_ = (([(AX c a).f0, (((AX c a).f1).length : Int)] : List Int)) := ⟨_, rfl⟩
 replace H : (if q.length + s.length < 17592186044416 then ((some (q ++ s : List Int)).bind fun r => (if r.length + ((AX c a).f1).length < 17592186044416 then (BF.l0 k1 (r ++ ((AX c a).f1)) c (c.length : Int) (wrap64 (a + 1))) else (none))) else (none)) = some (U, V) := hb_ hy573 H
 have D := Q_ hy573
 clear hy573
 by_cases J : q.length + s.length < 17592186044416
 rotate_left
 ·rw [if_neg J] at H
  exact nn_ H
 rw [if_pos J] at H
 have ab := Q_ J
 clear J
 obtain ⟨r, hy576⟩ : ∃ y_ : List Int, y_ = (q ++ s) := ⟨_, rfl⟩
 replace H : (if r.length + ((AX c a).f1).length < 17592186044416 then (BF.l0 k1 (r ++ ((AX c a).f1)) c (c.length : Int) (wrap64 (a + 1))) else (none)) = some (U, V) := hb_ hy576 H
 have ad := Q_ hy576
 clear hy576
 by_cases L : r.length + ((AX c a).f1).length < 17592186044416
 rotate_left
 ·rw [if_neg L] at H
  exact nn_ H
 rw [if_pos L] at H
 have ac := Q_ L
 clear L
 obtain ⟨X, hy579⟩ : ∃ y_ : List Int, y_ = (r ++ ((AX c a).f1)) := ⟨_, rfl⟩
 replace H : (BF.l0 k1 X c (c.length : Int) (wrap64 (a + 1))) = some (U, V) := hb_ hy579 H
 have ae := Q_ hy579
 clear hy579
 have H' := Q_ H
 clear H
 have F : 0 ≤ (a : Int) := dt_
 have G : a < (c.length : Int) := dt_
 obtain ⟨ar, j, l, aj, v, x, ag, A⟩ := Ip ai.1 a F G
 cases aj
 replace v := bt_ HB v
 replace x := bt_ HB x
 replace F := eq_true F
 replace G := eq_true G
 try go_wp2_with (first | (refine bg_ 6 #[.int .i64 0, .slice none 0 0] 81 ?_; intro i hg O hbox hb; have _ := Q_ (Kd.Bv (pr_ d.1) hb); have _ := Q_ (AD (pb_ HB.1) hb); have b := Q_ (hbox); have Y := Q_ (gw_ (w := w) hg (pb_ HB.1)); have p := Y; clear d HB; rename_i d HB; clear hb hbox hg; have av := Ew b.1))
 have n0_ : Aside0 (Kd.R (Kd.int .i64) 3 ((O.setCell ⟨i, 0, none⟩ (.int .i64 ((AX c a).f0))).setCell ⟨i, 1, none⟩ (.slice j ((AX c a).f1).length l)) w.heap.size (fun _ => True) u4 q) := ⟨pr_ (Kd.Ax (H5 d.1 b.1) (fun _ hk => trivial))⟩
 have n1_ : Aside0 (((O.setCell ⟨i, 0, none⟩ (.int .i64 ((AX c a).f0))).setCell ⟨i, 1, none⟩ (.slice j ((AX c a).f1).length l)).heap[i]? = some (.cells #[.int .i64 ((AX c a).f0), .slice j ((AX c a).f1).length l] 81 (0, 0))) := ⟨pp_ b.1⟩
 have n2_ : Aside0 (Below w.heap.size w ((O.setCell ⟨i, 0, none⟩ (.int .i64 ((AX c a).f0))).setCell ⟨i, 1, none⟩ (.slice j ((AX c a).f1).length l))) := ⟨CM HB.1 p.1⟩
 (try clear d)
 (try clear b)
 (try clear HB)
 generalize ((O.setCell ⟨i, 0, none⟩ (.int .i64 ((AX c a).f0))).setCell ⟨i, 1, none⟩ (.slice j ((AX c a).f1).length l)) = I at n0_ n1_ n2_ ⊢
 (try (rw [show I.drewN nd = I.drewN nd from rfl]; replace n0_ := Q_ (Kd.Ed n0_.1 nd); replace n1_ := Q_ (E2 n1_.1 nd); replace n2_ := Q_ (D5 n2_.1 nd); generalize I.drewN nd = I at n0_ n1_ n2_ ⊢))
 have d := n0_
 have b := n1_
 have HB := n2_
 clear n0_ n1_ n2_
 have _ := Q_ (Kd.EU d.1)
 have _ := Q_ (Bq b.1)
 have _ := Q_ (Cm HB.1)
 clear d b HB
 rename_i d b HB
 refine sw_ (S := fun w' => w'.cell? ⟨i, 0, none⟩ = some (.int .i64 ((AX c a).f0)) ∧ w'.cell? ⟨i, 1, none⟩ = some (.slice j ((AX c a).f1).length l)) 12 BF.tab7 BF.bits7 (sb_ b.1) (fun hHeld HT_ HW_ => ?_)
 generalize I.drew = aG at d b HB hHeld ⊢
 refine Ba 0 19 12 1 ?_
 refine Ba 1 20 12 3 ?_
 refine Ba 3 22 12 11 ?_
 refine Ba 8 27 12 267 ?_
 refine E1 2 21 12 271 hHeld ?_
 refine E1 4 23 12 287 hHeld ?_
 refine Ba 5 24 12 319 ?_
 refine E1 9 28 12 831 hHeld ?_
 refine on_ 6 (some 25) (tm_ 12 895) HT_ (fun K hK => ?_)
 refine JY .i64 3 25 ([(AX c a).f0, (((AX c a).f1).length : Int)] : List Int) ?_
 intro aA aH t hb
 rw [← D.1] at t
 have _ := Q_ (Kd.B0 (pr_ d.1) (Kd.BJ t) hb)
 have _ := Q_ (Kd.BV (Kd.B8 t (Kd.Dj (pr_ d.1))) (AZ (CM HB.1 p.1)))
 have _ := Q_ (bb_ b.1 hb)
 have _ := Q_ (AD (CM HB.1 p.1) hb)
 clear d b HB
 rename_i d m b HB
 clear hb t
 obtain ⟨P, Q, T⟩ := Kd.Bo m.1
 (first | subst T | (injection T with f1_ f2_ f3_; have f4_ := f1_.symm; have f5_ := f3_.symm; clear f1_ f2_ f3_; subst f4_; subst f5_))
 refine hK.out _ _ (sb_ b.1) (fun hHeld => ?_)
 clear hK K
 refine no_ (some 25) ?_
 refine on_ 7 (some 26) (tf_ 10 12) HT_ (fun K hK => ?_)
 refine Kd.D2 (Kd.int .i64) (w0 := w) w.heap.size (by rfl) (.tmp 19) (.tmp 25) 22 3 (.int .i64 0) 8 rfl Tryz.underlying22 HI rfl (by decide) (by omega) u4 q s _ _ _ (fun k_ => some k_ ≠ (.slice P s.length Q : Value).ownBlock) (fun _ => False) rfl rfl ?aO ?aR (fun _ _ h => h) (fun _ h => h.elim) ?aF ?aB ?aS ?aL ?_
 (case aR => exact pc_ ((Kd.BH m.1).2.2))
 (case aB => exact (CM HB.1 p.1))
 (case aF => exact (fun k_ hk => Kd.fresh' (Kd.Dj (pr_ m.1)) k_ hk))
 (case aO => exact (pr_ (Kd.Ax d.1 (fun _ hk => hk.2))))
 (case aS => exact (AZ (CM HB.1 p.1)))
 (case aL => have := ab.1; omega)
 intro al aI ho hb hg hat
 rw [← ad.1] at ho
 have _ := Q_ (Eb (g := i) (o := .cells #[.int .i64 ((AX c a).f0), .slice j ((AX c a).f1).length l] 81 (0, 0)) (pk_ b.1) hg (Kd.JB d.1 b.1 (by decide)))
 have _ := Q_ (Kd.Ho (ok := (fun _ => True)) (pr_ m.1) hg hat)
 have _ := Q_ (hb)
 have _ := Q_ (ho)
 clear b m HB d
 rename_i b m HB y
 clear ho hb hg hat
 refine hK.out _ _ (sb_ b.1) (fun hHeld => ?_)
 clear hK K
 refine no_ (some 26) ?_
 refine on_ 10 (some 29) (tf_ 11 12) HT_ (fun K hK => ?_)
 refine Kd.D2 (Kd.int .i64) (w0 := w) w.heap.size (by rfl) (.tmp 26) (.tmp 28) 22 3 (.int .i64 0) 8 rfl Tryz.underlying22 HI rfl (by decide) (by omega) al r ((AX c a).f1) _ _ _ (fun k_ => some k_ ≠ (.slice P s.length Q : Value).ownBlock) (fun _ => False) rfl rfl ?aO ?aR (fun _ _ h => h) (fun _ h => h.elim) ?aF ?aB ?aS ?aL ?_
 (case aR => exact cb_ A HB)
 (case aB => exact (CM HB.1 p.1))
 (case aF => exact (fun k_ hk => Kd.fresh' (Kd.Dj (pr_ m.1)) k_ hk))
 (case aO => exact (pr_ y.1))
 (case aS => exact (AZ (CM HB.1 p.1)))
 (case aL => have := ac.1; omega)
 intro aC aJ ho hb hg hat
 rw [← ae.1] at ho
 have _ := Q_ (Eb (g := i) (o := .cells #[.int .i64 ((AX c a).f0), .slice j ((AX c a).f1).length l] 81 (0, 0)) (pk_ b.1) hg (Kd.JB y.1 b.1 (by decide)))
 have _ := Q_ (Kd.Ho (ok := (fun _ => True)) (pr_ m.1) hg hat)
 have _ := Q_ (hb)
 have _ := Q_ (ho)
 clear b m HB y
 rename_i b m HB aa
 clear ho hb hg hat
 refine hK.out _ _ (sb_ b.1) (fun hHeld => ?_)
 clear hK K
 refine no_ (some 29) ?_
 refine Ba 11 4 12 4095 ?_
 refine G8 (E0 HT_.1 (by kernel_rfl)) ?_
 try go_wp2
 go_roundg k1
 case measure => have := ah.1; omega
 case rel => exact ⟨(X), (wrap64 (a + 1)), el_, H', ⟨by have := ah.1; omega⟩, ⟨pr_ (Kd.Ax aa.1 (fun _ hk => trivial))⟩, ⟨CM HB.1 p.1⟩⟩
def DY.f (k : Nat) (a : List Int) (b : List (S81)) : Option (List Int) := (BQ.f k a b).bind fun d => (if d = true then ((BF.f k b).bind fun c => ((AW.f k (([(([(a.length : Int)] : List Int)), a, c.1] : List (List Int)))).bind fun e => (some e))) else (some ([] : List Int)))
theorem DY.mono : ∀ a b k, LeO (DY.f k a b) (DY.f (k + 1) a b) := by
 intro a b k
 unfold DY.f
 exact Jz BF.mono BQ.mono AW.mono
theorem DY.calls (k : Nat) (P0_0_ : Nat → Prop) (n : Option Addr) (p : Nat) (c : List Int) (u : Option Addr) (v : Nat) (j : List (S81)) (r : List Int) (w : World) (U : Kd.V (Kd.int .i64) 3 w w.heap.size (fun k_ => P0_0_ k_) (.slice n c.length p) c) (hr0_1 : Kd.C k81 w u j.length j) (I : j.length ≤ v) (h : DY.f k c j = some r) :
  Calls Tryz.prog 154 #[.agg #[.slice n c.length p, .slice u j.length v]] w fun e w' => ∃ v0_ : Value, e = .returned (v0_) ∧ Kd.R (Kd.int .i64) 3 w' w.heap.size (fun k_ => (w.heap.size ≤ k_)) v0_ r ∧ Below w.heap.size w w' := by
 have hu53 := Tryz.underlying53
 have b := Q_ (show Kd.V (Kd.int .i64) 3 w w.heap.size (fun k_ => (P0_0_ k_ ∨ w.heap.size ≤ k_)) (.slice n c.length p) c from Kd.IJ U (fun k_ hk => .inl hk))
 have E := Q_ hr0_1
 have D := Q_ I
 clear hr0_1 I
 have HB := Q_ (Below.refl w.heap.size w)
 unfold DY.f at h
 have H := h
 clear h
 have HS_ := Q_ H
 clear H
 go_enter Tryz.func154, Tryz.ntmps154
 go_upto_region 1 with (first | (refine bg_ 1 #[.slice n c.length p, .slice u j.length v] 53 ?_; intro i hg w2 hbox hb; have _ := Q_ (Kd.JC (Kd.OC (by (with_reducible repeat (first | apply Kd.F6 | apply Kd.F7 | apply Kd.G1)); exact b.1) i (Nat.le_of_eq hg.symm)) hb); have _ := Q_ (AD (pb_ HB.1) hb); have a := Q_ (hbox); have Q := Q_ (gw_ (w := w) hg (pb_ HB.1)); have d := Q; clear b HB; rename_i b HB; clear hb hbox hg))
 (try simp only [Act.put, s1_, s2_, s3_])
 have H := HS_.1
 clear HS_
 obtain ⟨B, A3, H⟩ := bs_ H
 (try dsimp only at H)
 have HS_ := Q_ H
 clear H
 have ag := Ew a.1
 go_upto_if 7 with (first | (refine gk_ 23 6 Tryz.func23 #[.agg #[.slice n c.length p, .slice u j.length v]] ?_; (with_reducible refine (BQ.calls k _ _ c _ _ j B _ ?side1 ?side2 (cb_ E HB) D.1 A3.1).mono ?_); (case side1 => exact pc_ ((Kd.Ii b.1).2.2)); (case side2 => exact (Kd.Ii b.1).2.1); rintro e w5 ⟨rfl, hb⟩; refine ⟨_, rfl, ?_⟩; have _ := Q_ (Kd.JC (by (with_reducible repeat (first | apply Kd.F6 | apply Kd.F7 | apply Kd.G1)); exact b.1) hb); have _ := Q_ (bb_ a.1 hb); have _ := Q_ (AD (CM HB.1 d.1) hb); clear b a HB; rename_i b a HB; (try clear hb)))
 (try simp only [Act.put, s1_, s2_, s3_])
 have H := HS_.1
 clear HS_
 by_cases c6 : B = true
 rotate_left
 ·replace c6 := bf_ c6
  subst c6
  rw [if_neg ff_] at H
  obtain rfl := Option.some.inj H
  go_wp2
  go_ret
  exact ⟨_, er_, nl_, CM HB.1 d.1⟩
 subst c6
 rw [if_pos rfl] at H
 obtain ⟨⟨t, ab⟩, A7, H⟩ := bs_ H
 (try dsimp only at H)
 obtain ⟨y, hy588⟩ : ∃ y_ : List Int, y_ = (([(c.length : Int)] : List Int)) := ⟨_, rfl⟩
 replace H : ((AW.f k (([y, c, t] : List (List Int)))).bind fun q => (some q)) = some r := hb_ hy588 H
 have F := Q_ hy588
 clear hy588
 obtain ⟨J, hy591⟩ : ∃ y_ : List (List Int), y_ = (([y, c, t] : List (List Int))) := ⟨_, rfl⟩
 replace H : ((AW.f k J).bind fun q => (some q)) = some r := hb_ hy591 H
 have G := Q_ hy591
 clear hy591
 obtain ⟨q, A8, H⟩ := bs_ H
 replace H : (some q) = some r := H
 obtain rfl := Option.some.inj H
 have ah := Ew a.1
 go_wp2_with (first | (refine gk_ 180 11 Tryz.func180 #[.slice u j.length v] ?_; (with_reducible refine (BF.calls k _ _ j t ab _ (cb_ E HB) D.1 A7.1).mono ?_); rintro e ap ⟨ai, rfl, A, hb⟩; refine ⟨_, rfl, ?_⟩; have _ := Q_ (Kd.II (by (with_reducible repeat (first | apply Kd.F6 | apply Kd.F7 | apply Kd.G1)); exact b.1) (Kd.BJ A) hb); have l := Q_ (Kd.BV (Kd.HN (M := fun k_ => (w.heap.size ≤ k_)) A (AZ (CM HB.1 d.1)) (fun k_ h_ => h_)) (AZ (CM HB.1 d.1))); have _ := Q_ (bb_ a.1 hb); have _ := Q_ (AD (CM HB.1 d.1) hb); clear b a HB; rename_i b a HB; (try clear hb A); have ad := Ew a.1) | (refine Ie .i64 3 17 ([(c.length : Int)] : List Int) ?_; intro aj af s hb; rw [← F.1] at s; have _ := Q_ (Kd.II (by (with_reducible repeat (first | apply Kd.F6 | apply Kd.F7 | apply Kd.G1)); exact b.1) (Kd.BJ s) hb); have _ := Q_ (Kd.B0 (pr_ l.1) (Kd.BJ s) hb); have z := Q_ (Kd.BV (Kd.B8 (Kd.HN (M := fun k_ => (w.heap.size ≤ k_)) s (AZ (CM HB.1 d.1)) (fun k_ h_ => h_)) (Kd.Dj (pr_ l.1))) (AZ (CM HB.1 d.1))); have _ := Q_ (bb_ a.1 hb); have _ := Q_ (AD (CM HB.1 d.1) hb); clear b l a HB; rename_i b l a HB; clear hb s; have ae := Ew a.1; obtain ⟨K, O, Y⟩ := Kd.Bo z.1; subst Y; obtain ⟨L, P, Z⟩ := Kd.Bo l.1; subst Z) | ((with_reducible refine FP (N := 21) rfl ?_); refine Kd.XU (Kd.slice 3 (Kd.int .i64)) _ 22 ?hg (N' := 21) ?hd (xs := ([y, c, t] : List (List Int))) (inner := [.slice K y.length O, .slice n c.length p, .slice L t.length P]) (ok := (fun k_ => (P0_0_ k_ ∨ w.heap.size ≤ k_) ∧ k_ ≠ i)) (okp := (fun k_ => (P0_0_ k_ ∨ w.heap.size ≤ k_) ∧ k_ ≠ i)) ?hr ?hp (fun _ hk => hk) ((show ∀ k_, af.heap.size ≤ k_ → (fun k_ => (P0_0_ k_ ∨ w.heap.size ≤ k_) ∧ k_ ≠ i) k_ from fun k_ hk => ⟨(.inr (Nat.le_trans (AZ (CM HB.1 d.1)) hk)), Kd.Gy (g := i) (o := .cells #[.slice n c.length p, .slice u j.length v] 53 (0, 0)) (pk_ a.1) k_ hk⟩) _ (Nat.le_refl _)) (Below.refl _ _) (Nat.le_refl _) (by simp) ?_; (case hd => rfl); (case hg => rfl); (case hr => first | (go_simp; done) | (go_simp; rfl)); (case hp => exact (Reps.one (show Kd.FK (Kd.slice 3 (Kd.int .i64)) _ _ y [.slice K y.length O] from (Kd.Hh (Kd.BH (Kd.Ax (ok' := (fun k_ => (P0_0_ k_ ∨ w.heap.size ≤ k_) ∧ k_ ≠ i)) (Kd.Bi (z.1) a.1 (by decide)) (fun k_ hk => ⟨(.inr (hk.1.1.1)), hk.2⟩))).2.1 (Kd.R_F (Kd.Ax (ok' := (fun k_ => (P0_0_ k_ ∨ w.heap.size ≤ k_) ∧ k_ ≠ i)) (Kd.Bi (z.1) a.1 (by decide)) (fun k_ hk => ⟨(.inr (hk.1.1.1)), hk.2⟩))))) (Reps.one (show Kd.FK (Kd.slice 3 (Kd.int .i64)) _ _ c [.slice n c.length p] from (Kd.Hh (Kd.Ii (Kd.IJ (ok' := (fun k_ => (P0_0_ k_ ∨ w.heap.size ≤ k_) ∧ k_ ≠ i)) (b.1) (fun k_ hk => ⟨hk.1.1.1, hk.1.1.2⟩))).2.1 (Kd.V_F (Kd.IJ (ok' := (fun k_ => (P0_0_ k_ ∨ w.heap.size ≤ k_) ∧ k_ ≠ i)) (b.1) (fun k_ hk => ⟨hk.1.1.1, hk.1.1.2⟩))))) (Reps.one (show Kd.FK (Kd.slice 3 (Kd.int .i64)) _ _ t [.slice L t.length P] from (Kd.Hh (Kd.BH (Kd.Ax (ok' := (fun k_ => (P0_0_ k_ ∨ w.heap.size ≤ k_) ∧ k_ ≠ i)) (Kd.Bi (l.1) a.1 (by decide)) (fun k_ hk => ⟨(.inr (hk.1.1.1)), hk.2⟩))).2.1 (Kd.R_F (Kd.Ax (ok' := (fun k_ => (P0_0_ k_ ∨ w.heap.size ≤ k_) ∧ k_ ≠ i)) (Kd.Bi (l.1) a.1 (by decide)) (fun k_ hk => ⟨(.inr (hk.1.1.1)), hk.2⟩))))) (Reps.none _ _))))); intro ak aq x hb hg_ hnew_; clear hg_ hnew_; rw [← G.1] at x; have _ := Q_ (Kd.II (by (with_reducible repeat (first | apply Kd.F6 | apply Kd.F7 | apply Kd.G1)); exact b.1) (Kd.JV x) hb); have m := Q_ (Kd.IW x (AZ (CM HB.1 d.1))); have _ := Q_ (bb_ a.1 hb); have _ := Q_ (AD (CM HB.1 d.1) hb); clear b a HB l z; rename_i b a HB; clear hb x; obtain ⟨W, X, aa⟩ := Kd.IM m.1; subst aa) | (refine gk_ 181 22 Tryz.func181 #[.slice W J.length X] ?_; (with_reducible refine (AW.calls k _ _ J q _ ?side1 ?side2 A8.1).mono ?_); (case side1 => exact pc_ ((Kd.Em m.1).2.2)); (case side2 => exact (Kd.Em m.1).2.1); rintro e ar ⟨al, rfl, A, hb⟩; refine ⟨_, rfl, ?_⟩; have _ := Q_ (Kd.II (by (with_reducible repeat (first | apply Kd.F6 | apply Kd.F7 | apply Kd.G1)); exact b.1) (Kd.BJ A) hb); have _ := Q_ (Kd.E9 (px_ m.1) (Kd.BJ A) hb); have S := Q_ (Kd.BV (Kd.HN (M := fun k_ => (w.heap.size ≤ k_)) A (AZ (CM HB.1 d.1)) (fun k_ h_ => h_)) (AZ (CM HB.1 d.1))); have _ := Q_ (bb_ a.1 hb); have _ := Q_ (AD (CM HB.1 d.1) hb); clear b m a HB; rename_i b m a HB; (try clear hb A)))
 go_ret
 exact ⟨_, er_, pr_ (Kd.Ax S.1 (fun _ hk => hk.1)), CM HB.1 d.1⟩
def Dk.f (k : Nat) (a : Int) (b : List (S81)) : Option (Bool) := (Cb.f a 1 9).bind fun c => (if c = true then ((BE.f k b).bind fun d => (some d)) else (some false))
theorem Dk.mono : ∀ a b k, LeO (Dk.f k a b) (Dk.f (k + 1) a b) := by
 intro a b k
 unfold Dk.f
 exact G7 BE.mono
theorem Dk.calls (k : Nat) (a : Int) (i : Option Addr) (j : Nat) (b : List (S81)) (r : Bool) (w : World) (hr0_1 : Kd.C k81 w i b.length b) (l : b.length ≤ j) (h : Dk.f k a b = some r) :
  Calls Tryz.prog 182 #[.agg #[.int .i64 a, .slice i b.length j]] w fun e w' => e = .returned (.bool r) ∧ Below w.heap.size w w' := by
 have hu113 := Tryz.underlying113
 have p := Q_ hr0_1
 have o := Q_ l
 clear hr0_1 l
 have HB := Q_ (Below.refl w.heap.size w)
 unfold Dk.f at h
 have H := h
 clear h
 have HS_ := Q_ H
 clear H
 go_enter Tryz.func182, Tryz.ntmps182
 go_upto_region 1 with (first | (refine bg_ 1 #[.int .i64 a, .slice i b.length j] 113 ?_; intro s hg y hbox hb; have _ := Q_ (AD (pb_ HB.1) hb); have c := Q_ (hbox); have n := Q_ (gw_ (w := w) hg (pb_ HB.1)); have d := n; clear HB; rename_i HB; clear hb hbox hg))
 (try simp only [Act.put, s1_, s2_, s3_])
 have H := HS_.1
 clear HS_
 obtain ⟨m, t, H⟩ := bs_ H
 (try dsimp only at H)
 by_cases q : m = true
 rotate_left
 ·replace q := bf_ q
  subst q
  rw [if_neg ff_] at H
  obtain rfl := Option.some.inj H
  have u := Ew c.1
  go_wp2_with (first | (refine gk_ 53 5 Tryz.func53 #[.int .i64 a, .int .i64 1, .int .i64 9] ?_; (with_reducible refine (Cb.calls a 1 9 false _ t.1).mono ?_); rintro e w' ⟨rfl, ⟨nd, rfl⟩⟩; refine ⟨_, rfl, ?_⟩))
  go_ret
  exact ⟨er_, CM HB.1 d.1⟩
 subst q
 rw [if_pos rfl] at H
 obtain ⟨g, x, H⟩ := bs_ H
 replace H : (some g) = some r := H
 obtain rfl := Option.some.inj H
 have v := Ew c.1
 go_wp2_with (first | (refine gk_ 53 5 Tryz.func53 #[.int .i64 a, .int .i64 1, .int .i64 9] ?_; (with_reducible refine (Cb.calls a 1 9 true _ t.1).mono ?_); rintro e w' ⟨rfl, ⟨nd, rfl⟩⟩; refine ⟨_, rfl, ?_⟩) | (go_at_call 57; (with_reducible refine (BE.calls k _ _ b g _ ?side1 o.1 x.1).mono ?_); (case side1 => exact pc_ (Kd.Ec p.1 (CM HB.1 d.1))); rintro e z ⟨rfl, hb⟩; have _ := Q_ (bb_ c.1 hb); have _ := Q_ (AD (CM HB.1 d.1) hb); clear c HB; rename_i c HB; (try clear hb)))
 go_ret
 exact ⟨er_, CM HB.1 d.1⟩
def DT.f (k : Nat) (b : Int) (c : List (S81)) : Option (List Int) := (Dk.f k b c).bind fun e => (if e = true then ((BF.f k c).bind fun a => ((some (([b] : List Int) : List Int)).bind fun d => (if d.length + a.1.length < 17592186044416 then (some (d ++ a.1)) else (none)))) else (some ([] : List Int)))
theorem DT.mono : ∀ a b k, LeO (DT.f k a b) (DT.f (k + 1) a b) := by
 intro a b k
 unfold DT.f
 exact H8 BF.mono Dk.mono
theorem DT.calls (k : Nat) (d : Int) (n : Option Addr) (p : Nat) (i : List (S81)) (r : List Int) (w : World) (hr0_1 : Kd.C k81 w n i.length i) (z : i.length ≤ p) (h : DT.f k d i = some r) :
  Calls Tryz.prog 155 #[.agg #[.int .i64 d, .slice n i.length p]] w fun e w' => ∃ v0_ : Value, e = .returned (v0_) ∧ Kd.R (Kd.int .i64) 3 w' w.heap.size (fun _ => True) v0_ r ∧ Below w.heap.size w w' := by
 have hu113 := Tryz.underlying113
 have v := Q_ hr0_1
 have u := Q_ z
 clear hr0_1 z
 have HB := Q_ (Below.refl w.heap.size w)
 unfold DT.f at h
 have H := h
 clear h
 have HS_ := Q_ H
 clear H
 go_enter Tryz.func155, Tryz.ntmps155
 go_upto_region 1 with (first | (refine bg_ 1 #[.int .i64 d, .slice n i.length p] 113 ?_; intro E hg w2 hbox hb; have _ := Q_ (AD (pb_ HB.1) hb); have a := Q_ (hbox); have A := Q_ (gw_ (w := w) hg (pb_ HB.1)); have j := A; clear HB; rename_i HB; clear hb hbox hg))
 (try simp only [Act.put, s1_, s2_, s3_])
 have H := HS_.1
 clear HS_
 obtain ⟨t, Y, H⟩ := bs_ H
 (try dsimp only at H)
 have HS_ := Q_ H
 clear H
 have U := Ew a.1
 go_upto_if 7 with (first | (refine gk_ 182 6 Tryz.func182 #[.agg #[.int .i64 d, .slice n i.length p]] ?_; (with_reducible refine (Dk.calls k d _ _ i t _ (cb_ v HB) u.1 Y.1).mono ?_); rintro e w5 ⟨rfl, hb⟩; refine ⟨_, rfl, ?_⟩; have _ := Q_ (bb_ a.1 hb); have _ := Q_ (AD (CM HB.1 j.1) hb); clear a HB; rename_i a HB; (try clear hb)))
 (try simp only [Act.put, s1_, s2_, s3_])
 have H := HS_.1
 clear HS_
 by_cases Q : t = true
 rotate_left
 ·replace Q := bf_ Q
  subst Q
  rw [if_neg ff_] at H
  obtain rfl := Option.some.inj H
  go_wp2
  go_ret
  exact ⟨_, er_, nl_, CM HB.1 j.1⟩
 subst Q
 rw [if_pos rfl] at H
 obtain ⟨⟨m, L⟩, Z, H⟩ := bs_ H
 (try dsimp only at H)
 obtain ⟨l, hy606⟩ : ∃ y_ : List Int, y_ = (([d] : List Int)) := ⟨_, rfl⟩
 replace H : (if l.length + m.length < 17592186044416 then (some (l ++ m)) else (none)) = some r := hb_ hy606 H
 have x := Q_ hy606
 clear hy606
 by_cases S : l.length + m.length < 17592186044416
 rotate_left
 ·rw [if_neg S] at H
  exact nn_ H
 rw [if_pos S] at H
 have G := Q_ S
 clear S
 obtain ⟨P, hy609⟩ : ∃ y_ : List Int, y_ = (l ++ m) := ⟨_, rfl⟩
 replace H : (some P) = some r := hb_ hy609 H
 have D := Q_ hy609
 clear hy609
 obtain rfl := Option.some.inj H
 have V := Ew a.1
 go_wp2_with (first | (refine gk_ 180 11 Tryz.func180 #[.slice n i.length p] ?_; (with_reducible refine (BF.calls k _ _ i m L _ (cb_ v HB) u.1 Z.1).mono ?_); rintro e aa ⟨W, rfl, K, hb⟩; refine ⟨_, rfl, ?_⟩; have _ := Q_ (Kd.BV K (AZ (CM HB.1 j.1))); have _ := Q_ (bb_ a.1 hb); have _ := Q_ (AD (CM HB.1 j.1) hb); clear a HB; rename_i c a HB; (try clear hb K); have T := Ew a.1) | (refine Ie .i64 3 16 ([d] : List Int) ?_; intro O ab q hb; rw [← x.1] at q; have _ := Q_ (Kd.B0 (pr_ c.1) (Kd.BJ q) hb); have _ := Q_ (Kd.BV (Kd.B8 q (Kd.Dj (pr_ c.1))) (AZ (CM HB.1 j.1))); have _ := Q_ (bb_ a.1 hb); have _ := Q_ (AD (CM HB.1 j.1) hb); clear c a HB; rename_i c s a HB; clear hb q; obtain ⟨F, I, J⟩ := Kd.Bo c.1; subst J) | ((with_reducible refine FO (b := .append) (xs := #[.tmp 16, .tmp 17]) rfl ?_); at_builtin; refine Kd.Hi (Kd.int .i64) (w0 := w) w.heap.size rfl (.tmp 16) (.tmp 17) 22 3 (.int .i64 0) 8 rfl Tryz.underlying22 HI rfl (by decide) (by omega) O l m _ _ _ (fun k_ => some k_ ≠ (.slice F m.length I : Value).ownBlock) (fun _ => False) rfl rfl ?aO ?aR (fun _ _ h => h) (fun _ h => h.elim) ?aF ?aB ?aS ?aL ?_; (case aR => exact pc_ ((Kd.BH c.1).2.2)); (case aB => exact (CM HB.1 j.1)); (case aF => exact (fun k_ hk => Kd.fresh' (Kd.Dj (pr_ c.1)) k_ hk)); (case aO => exact (pr_ (Kd.Ax s.1 (fun _ hk => hk.2)))); (case aS => exact (AZ (CM HB.1 j.1))); (case aL => have := G.1; omega); intro X ac ho hb hg hat; rw [← D.1] at ho; have _ := Q_ (Eb (g := E) (o := .cells #[.int .i64 d, .slice n i.length p] 113 (0, 0)) (pk_ a.1) hg (Kd.JB s.1 a.1 (by decide))); have _ := Q_ (Kd.Ho (ok := (fun _ => True)) (pr_ c.1) hg hat); have _ := Q_ (hb); have _ := Q_ (ho); clear a c HB s; rename_i a c HB B; clear ho hb hg hat))
 go_ret
 exact ⟨_, er_, pr_ (Kd.Ax B.1 (fun _ hk => trivial)), CM HB.1 j.1⟩
def DU.f (k : Nat) (c : List (S81)) : Option (Bool) := (BO.f k c).bind fun a => ((DJ.f k a).bind fun b => (some b))
theorem DU.mono : ∀ a k, LeO (DU.f k a) (DU.f (k + 1) a) := by
 intro a k
 unfold DU.f
 exact H8 DJ.mono BO.mono
theorem DU.calls (k : Nat) (j : Option Addr) (o : Nat) (d : List (S81)) (r : Bool) (w : World) (hr0 : Kd.C k81 w j d.length d) (g : d.length ≤ o) (h : DU.f k d = some r) :
  Calls Tryz.prog 24 #[.slice j d.length o] w fun e w' => e = .returned (.bool r) ∧ Below w.heap.size w w' := by
 have n := Q_ hr0
 have m := Q_ g
 clear hr0 g
 have HB := Q_ (Below.refl w.heap.size w)
 unfold DU.f at h
 have H := h
 clear h
 obtain ⟨b, t, H⟩ := bs_ H
 replace H : ((DJ.f k b).bind fun c => (some c)) = some r := H
 obtain ⟨c, u, H⟩ := bs_ H
 replace H : (some c) = some r := H
 obtain rfl := Option.some.inj H
 go_enter Tryz.func24, Tryz.ntmps24
 go_wp2_with (first | (refine gk_ 58 4 Tryz.func58 #[.slice j d.length o] ?_; (with_reducible refine (BO.calls k _ _ d b _ (pc_ n.1) m.1 t.1).mono ?_); rintro e v ⟨s, rfl, i, hb⟩; refine ⟨_, rfl, ?_⟩; have _ := Q_ (Kd.BV i (AZ (pb_ HB.1))); have _ := Q_ (AD (pb_ HB.1) hb); clear HB; rename_i a HB; (try clear hb i); obtain ⟨l, p, q⟩ := Kd.Bo a.1; subst q) | (refine gk_ 49 5 Tryz.func49 #[.slice l b.length p] ?_; (with_reducible refine (DJ.calls k _ _ b c _ ?side1 ?side2 u.1).mono ?_); (case side1 => exact pc_ ((Kd.BH a.1).2.2)); (case side2 => exact (Kd.BH a.1).2.1); rintro e x ⟨rfl, hb⟩; refine ⟨_, rfl, ?_⟩; have _ := Q_ (Kd.Bv (pr_ a.1) hb); have _ := Q_ (AD (pb_ HB.1) hb); clear a HB; rename_i a HB; (try clear hb)))
 go_ret
 exact ⟨er_, pb_ HB.1⟩
def B'.f (k : Nat) (c : List Int) (d : List (S81)) (b : Int) (a : List (S81)) : Option (Bool) := (BQ.f k c d).bind fun e => (if e = true then ((Dk.f k b a).bind fun g => (if g = true then ((Ad.f k c b).bind fun h => (if h = true then ((BO.f k a).bind fun i => ((BO.f k d).bind fun j => ((BI.f k i j).bind fun l => (if (l.length : Int) = 0 then ((DU.f k a).bind fun m => (some (!m))) else (some false))))) else (some false))) else (some false))) else (some false))
theorem B'.mono : ∀ a b c d k, LeO (B'.f k a b c d) (B'.f (k + 1) a b c d) := by
 intro a b c d k
 unfold B'.f
 exact ZQ DU.mono Dk.mono BQ.mono BO.mono BI.mono Ad.mono
def B'.T1 : Bool × List (List Nat × List Nat) := (true, [([], []), ([0], [0]), ([1, 1], [1]), ([2], [2]), ([3, 2, 2], [2, 3]), ([2, 4], [2, 4]), ([5, 4], [5]), ([6], [6]), ([7, 6], [6, 7]), ([6], [6]), ([9, 6], [6, 9]), ([8, 10, 6, 6], [6, 8, 10]), ([6, 11], [6, 11]), ([12, 11], [12]), ([13], [13]), ([14, 13], [13, 14]), ([15, 13, 13], [13, 15]), ([13], [13]), ([17, 13], [13, 17]), ([18, 16, 13], [13, 18]), ([16, 19, 19, 13], [13, 16, 19]), ([20, 13], [13, 20]), ([21, 13], [13, 21]), ([13, 22], [13, 22]), ([23, 20], [23]), ([24], [24]), ([25, 24], [24, 25]), ([26, 24, 24], [24, 26]), ([27, 24], [24, 27]), ([24, 28], [24, 28]), ([29, 27, 0, 1, 2, 3, 4, 5, 6, 7, 8, 9, 10, 11, 12, 13, 14, 15, 16, 17, 18, 19, 20, 21, 22, 23, 24, 25, 26, 27, 28, 29], [29])])
def B'.B1 : List Nat := [0, 1, 3, 7, 15, 31, 63, 127, 255, 127, 639, 2047, 4095, 8191, 16383, 32767, 65535, 16383, 147455, 524287, 1048575, 2097151, 4194303, 8388607, 16777215, 33554431, 67108863, 134217727, 268435455, 536870911, 1073741823]
theorem B'.tab1 : rtab .any (opsOf Tryz.f156 1) = B'.T1 := by kernel_rfl
theorem B'.bits1 : Fa B'.T1.2 B'.B1 = true := by kernel_rfl
theorem B'.calls (k : Nat) (p : Option Addr) (q : Nat) (i : List Int) (s : Option Addr) (t : Nat) (j : List (S81)) (o : Int) (v : Option Addr) (x : Nat) (l : List (S81)) (r : Bool) (w : World) (hr0_0 : Kd.C (Kd.int .i64) w p i.length i) (U : i.length ≤ q) (hr0_1 : Kd.C k81 w s j.length j) (V : j.length ≤ t) (hr1_1 : Kd.C k81 w v l.length l) (W : l.length ≤ x) (h : B'.f k i j o l = some r) :
  Calls Tryz.prog 156 #[.agg #[.slice p i.length q, .slice s j.length t], .agg #[.int .i64 o, .slice v l.length x]] w fun e w' => e = .returned (.bool r) ∧ Below w.heap.size w w' := by
 have hu53 := Tryz.underlying53
 have hu113 := Tryz.underlying113
 have A := Q_ hr0_0
 have z := Q_ U
 clear hr0_0 U
 have G := Q_ hr0_1
 have E := Q_ V
 clear hr0_1 V
 have I := Q_ hr1_1
 have F := Q_ W
 clear hr1_1 W
 have HB := Q_ (Below.refl w.heap.size w)
 unfold B'.f at h
 have H := h
 clear h
 have HS_ := Q_ H
 clear H
 go_enter Tryz.func156, Tryz.ntmps156
 go_upto_region 1 with (first | ((with_reducible refine FP (N := 2) rfl ?_); (try (refine GK (by rfl) ?_; dsimp only)); refine bx_ 2 #[.slice p i.length q, .slice s j.length t] 53 ?_; intro y hg w3 hbox hb; have _ := Q_ (AD (pb_ HB.1) hb); have a := Q_ (hbox); have aj := Q_ (gw_ (w := w) hg (pb_ HB.1)); have c := aj; clear HB; rename_i HB; clear hb hbox hg) | ((with_reducible refine FP (N := 3) rfl ?_); (try (refine GK (by rfl) ?_; dsimp only)); refine bx_ 3 #[.int .i64 o, .slice v l.length x] 113 ?_; intro B hg w4 hbox hb; have _ := Q_ (bb_ a.1 hb); have _ := Q_ (AD (CM HB.1 c.1) hb); have b := Q_ (hbox); have ak := Q_ (gw_ (w := w) hg (CM HB.1 c.1)); have d := ak; have R := Q_ (nb_ hg a); have al := Q_ R.1.symm; clear a HB; rename_i a HB; clear hb hbox hg))
 (try simp only [Act.put, s1_, s2_, s3_])
 have H := HS_.1
 clear HS_
 obtain ⟨X, A5, H⟩ := bs_ H
 (try dsimp only at H)
 by_cases c6 : X = true
 rotate_left
 ·replace c6 := bf_ c6
  subst c6
  rw [if_neg ff_] at H
  obtain rfl := Option.some.inj H
  try go_wp2
  have _ := Q_ (Bq a.1)
  have _ := Q_ (Bq b.1)
  have _ := Q_ (Cm HB.1)
  clear a b HB
  rename_i a b HB
  refine sw_ (S := fun w' => w'.cell? ⟨y, 0, none⟩ = some (.slice p i.length q) ∧ w'.cell? ⟨y, 1, none⟩ = some (.slice s j.length t)) 31 B'.tab1 B'.bits1 (sb_ a.1) (fun hHeld HT_ HW_ => ?_)
  generalize w4.drew = w7 at a b HB hHeld ⊢
  refine E1 0 5 31 1 hHeld ?_
  refine on_ 1 (some 6) (tf_ 2 31) HT_ (fun K hK => ?_)
  refine gs_ Tryz.func23 #[.agg #[.slice p i.length q, .slice s j.length t]] ?_
  with_reducible refine (BQ.calls k _ _ i _ _ j false _ (cb_ A HB) z.1 (cb_ G HB) E.1 A5.1).mono ?_
  rintro e w8 ⟨rfl, hb⟩
  refine ⟨_, rfl, ?_⟩
  have _ := Q_ (bb_ a.1 hb)
  have _ := Q_ (bb_ b.1 hb)
  have _ := Q_ (AD (Dw HB.1 c.1 d.1) hb)
  clear a b HB
  rename_i a b HB
  (try clear hb)
  refine hK.out _ _ (sb_ a.1) (fun hHeld => ?_)
  clear hK K
  refine no_ (some 6) ?_
  refine Ba 2 7 31 7 ?_
  refine En 3 8 31 15 ?_
  refine En 4 9 31 31 ?_
  refine Ba 5 10 31 63 ?_
  refine Ba 6 11 31 127 ?_
  refine En 7 12 31 255 ?_
  refine En 8 13 31 511 ?_
  refine En 9 14 31 1023 ?_
  refine En 10 15 31 2047 ?_
  refine En 11 16 31 4095 ?_
  refine Ba 12 17 31 8191 ?_
  refine Ba 13 18 31 16383 ?_
  refine En 14 19 31 32767 ?_
  refine En 15 20 31 65535 ?_
  refine En 16 21 31 131071 ?_
  refine En 17 22 31 262143 ?_
  refine En 18 23 31 524287 ?_
  refine En 19 24 31 1048575 ?_
  refine En 20 25 31 2097151 ?_
  refine En 21 26 31 4194303 ?_
  refine En 22 27 31 8388607 ?_
  refine Ba 23 28 31 16777215 ?_
  refine Ba 24 29 31 33554431 ?_
  refine En 25 30 31 67108863 ?_
  refine En 26 31 31 134217727 ?_
  refine En 27 32 31 268435455 ?_
  refine En 28 33 31 536870911 ?_
  refine Ba 29 34 31 1073741823 ?_
  refine Ba 30 4 31 2147483647 ?_
  refine G8 (E0 HT_.1 (by kernel_rfl)) ?_
  try go_wp2
  go_ret
  exact ⟨er_, Dw HB.1 c.1 d.1⟩
 subst c6
 rw [if_pos rfl] at H
 obtain ⟨Y, A9, H⟩ := bs_ H
 (try dsimp only at H)
 by_cases aa : Y = true
 rotate_left
 ·replace aa := bf_ aa
  subst aa
  rw [if_neg ff_] at H
  obtain rfl := Option.some.inj H
  try go_wp2
  have _ := Q_ (Bq a.1)
  have _ := Q_ (Bq b.1)
  have _ := Q_ (Cm HB.1)
  clear a b HB
  rename_i a b HB
  refine sw_ (S := fun w' => w'.cell? ⟨y, 0, none⟩ = some (.slice p i.length q) ∧ w'.cell? ⟨y, 1, none⟩ = some (.slice s j.length t) ∧ w'.cell? ⟨B, 0, none⟩ = some (.int .i64 o) ∧ w'.cell? ⟨B, 1, none⟩ = some (.slice v l.length x)) 31 B'.tab1 B'.bits1 ⟨(BM a.1 0).trans rfl, (BM a.1 1).trans rfl, (BM b.1 0).trans rfl, (BM b.1 1).trans rfl⟩ (fun hHeld HT_ HW_ => ?_)
  generalize w4.drew = aM at a b HB hHeld ⊢
  refine E1 0 5 31 1 hHeld ?_
  refine on_ 1 (some 6) (tf_ 2 31) HT_ (fun K hK => ?_)
  refine gs_ Tryz.func23 #[.agg #[.slice p i.length q, .slice s j.length t]] ?_
  with_reducible refine (BQ.calls k _ _ i _ _ j true _ (cb_ A HB) z.1 (cb_ G HB) E.1 A5.1).mono ?_
  rintro e aN ⟨rfl, hb⟩
  refine ⟨_, rfl, ?_⟩
  have _ := Q_ (bb_ a.1 hb)
  have _ := Q_ (bb_ b.1 hb)
  have _ := Q_ (AD (Dw HB.1 c.1 d.1) hb)
  clear a b HB
  rename_i a b HB
  (try clear hb)
  refine hK.out _ _ (Ht a.1 b.1) (fun hHeld => ?_)
  clear hK K
  refine no_ (some 6) ?_
  refine Ba 2 7 31 7 ?_
  refine E1 3 8 31 15 hHeld ?_
  refine on_ 4 (some 9) (tf_ 5 31) HT_ (fun K hK => ?_)
  refine gs_ Tryz.func182 #[.agg #[.int .i64 o, .slice v l.length x]] ?_
  with_reducible refine (Dk.calls k o _ _ l false _ (cb_ I HB) F.1 A9.1).mono ?_
  rintro e aO ⟨rfl, hb⟩
  refine ⟨_, rfl, ?_⟩
  have _ := Q_ (bb_ a.1 hb)
  have _ := Q_ (bb_ b.1 hb)
  have _ := Q_ (AD (Dw HB.1 c.1 d.1) hb)
  clear a b HB
  rename_i a b HB
  (try clear hb)
  refine hK.out _ _ (Ht a.1 b.1) (fun hHeld => ?_)
  clear hK K
  refine no_ (some 9) ?_
  refine Ba 5 10 31 63 ?_
  refine Ba 6 11 31 127 ?_
  refine En 7 12 31 255 ?_
  refine En 8 13 31 511 ?_
  refine En 9 14 31 1023 ?_
  refine En 10 15 31 2047 ?_
  refine En 11 16 31 4095 ?_
  refine Ba 12 17 31 8191 ?_
  refine Ba 13 18 31 16383 ?_
  refine En 14 19 31 32767 ?_
  refine En 15 20 31 65535 ?_
  refine En 16 21 31 131071 ?_
  refine En 17 22 31 262143 ?_
  refine En 18 23 31 524287 ?_
  refine En 19 24 31 1048575 ?_
  refine En 20 25 31 2097151 ?_
  refine En 21 26 31 4194303 ?_
  refine En 22 27 31 8388607 ?_
  refine Ba 23 28 31 16777215 ?_
  refine Ba 24 29 31 33554431 ?_
  refine En 25 30 31 67108863 ?_
  refine En 26 31 31 134217727 ?_
  refine En 27 32 31 268435455 ?_
  refine En 28 33 31 536870911 ?_
  refine Ba 29 34 31 1073741823 ?_
  refine Ba 30 4 31 2147483647 ?_
  refine G8 (E0 HT_.1 (by kernel_rfl)) ?_
  try go_wp2
  go_ret
  exact ⟨er_, Dw HB.1 c.1 d.1⟩
 subst aa
 rw [if_pos rfl] at H
 obtain ⟨Z, ai, H⟩ := bs_ H
 (try dsimp only at H)
 by_cases ab : Z = true
 rotate_left
 ·replace ab := bf_ ab
  subst ab
  rw [if_neg ff_] at H
  obtain rfl := Option.some.inj H
  try go_wp2
  have _ := Q_ (Bq a.1)
  have _ := Q_ (Bq b.1)
  have _ := Q_ (Cm HB.1)
  clear a b HB
  rename_i a b HB
  refine sw_ (S := fun w' => w'.cell? ⟨y, 0, none⟩ = some (.slice p i.length q) ∧ w'.cell? ⟨y, 1, none⟩ = some (.slice s j.length t) ∧ w'.cell? ⟨B, 0, none⟩ = some (.int .i64 o) ∧ w'.cell? ⟨B, 1, none⟩ = some (.slice v l.length x)) 31 B'.tab1 B'.bits1 ⟨(BM a.1 0).trans rfl, (BM a.1 1).trans rfl, (BM b.1 0).trans rfl, (BM b.1 1).trans rfl⟩ (fun hHeld HT_ HW_ => ?_)
  generalize w4.drew = aP at a b HB hHeld ⊢
  refine E1 0 5 31 1 hHeld ?_
  refine on_ 1 (some 6) (tf_ 2 31) HT_ (fun K hK => ?_)
  refine gs_ Tryz.func23 #[.agg #[.slice p i.length q, .slice s j.length t]] ?_
  with_reducible refine (BQ.calls k _ _ i _ _ j true _ (cb_ A HB) z.1 (cb_ G HB) E.1 A5.1).mono ?_
  rintro e aQ ⟨rfl, hb⟩
  refine ⟨_, rfl, ?_⟩
  have _ := Q_ (bb_ a.1 hb)
  have _ := Q_ (bb_ b.1 hb)
  have _ := Q_ (AD (Dw HB.1 c.1 d.1) hb)
  clear a b HB
  rename_i a b HB
  (try clear hb)
  refine hK.out _ _ (Ht a.1 b.1) (fun hHeld => ?_)
  clear hK K
  refine no_ (some 6) ?_
  refine Ba 2 7 31 7 ?_
  refine E1 3 8 31 15 hHeld ?_
  refine on_ 4 (some 9) (tf_ 5 31) HT_ (fun K hK => ?_)
  refine gs_ Tryz.func182 #[.agg #[.int .i64 o, .slice v l.length x]] ?_
  with_reducible refine (Dk.calls k o _ _ l true _ (cb_ I HB) F.1 A9.1).mono ?_
  rintro e aR ⟨rfl, hb⟩
  refine ⟨_, rfl, ?_⟩
  have _ := Q_ (bb_ a.1 hb)
  have _ := Q_ (bb_ b.1 hb)
  have _ := Q_ (AD (Dw HB.1 c.1 d.1) hb)
  clear a b HB
  rename_i a b HB
  (try clear hb)
  refine hK.out _ _ (Ht a.1 b.1) (fun hHeld => ?_)
  clear hK K
  refine no_ (some 9) ?_
  refine Ba 5 10 31 63 ?_
  refine Ba 6 11 31 127 ?_
  refine Ba 7 12 31 255 ?_
  refine Ba 9 14 31 767 ?_
  refine E1 8 13 31 1023 hHeld ?_
  refine E1 10 15 31 2047 hHeld ?_
  refine on_ 11 (some 16) (tf_ 12 31) HT_ (fun K hK => ?_)
  refine gs_ Tryz.func83 #[.slice p i.length q, .int .i64 o] ?_
  with_reducible refine (Ad.calls k _ _ i o false _ (cb_ A HB) z.1 ai.1).mono ?_
  rintro e w' ⟨rfl, ⟨nd, rfl⟩⟩
  refine ⟨_, rfl, ?_⟩
  refine hK.out _ _ (Ht a.1 b.1) (fun hHeld => ?_)
  clear hK K
  refine no_ (some 16) ?_
  refine Ba 12 17 31 8191 ?_
  refine Ba 13 18 31 16383 ?_
  refine En 14 19 31 32767 ?_
  refine En 15 20 31 65535 ?_
  refine En 16 21 31 131071 ?_
  refine En 17 22 31 262143 ?_
  refine En 18 23 31 524287 ?_
  refine En 19 24 31 1048575 ?_
  refine En 20 25 31 2097151 ?_
  refine En 21 26 31 4194303 ?_
  refine En 22 27 31 8388607 ?_
  refine Ba 23 28 31 16777215 ?_
  refine Ba 24 29 31 33554431 ?_
  refine En 25 30 31 67108863 ?_
  refine En 26 31 31 134217727 ?_
  refine En 27 32 31 268435455 ?_
  refine En 28 33 31 536870911 ?_
  refine Ba 29 34 31 1073741823 ?_
  refine Ba 30 4 31 2147483647 ?_
  refine G8 (E0 HT_.1 (by kernel_rfl)) ?_
  try go_wp2
  go_ret
  exact ⟨er_, Dw HB.1 c.1 d.1⟩
 subst ab
 rw [if_pos rfl] at H
 obtain ⟨L, am, H⟩ := bs_ H
 (try dsimp only at H)
 obtain ⟨M, an, H⟩ := bs_ H
 (try dsimp only at H)
 obtain ⟨D, ao, H⟩ := bs_ H
 (try dsimp only at H)
 by_cases Q : (D.length : Int) = 0
 rotate_left
 ·rw [if_neg Q] at H
  have O : ((D.length : Int) == 0) = false := beq_eq_false_iff_ne.mpr Q
  have P : ((D.length : Int) != 0) = true := bne_iff_ne.mpr Q
  have aH : ¬ (D = []) := fun h_ => Q (by rw [h_]; rfl)
  (first | rw [O] | (simp only [E4, E']; rw [O]) | rw [P] | (have c_ := P; rw [bne] at c_; rw [c_]; clear c_) | skip)
  obtain rfl := Option.some.inj H
  try go_wp2
  have _ := Q_ (Bq a.1)
  have _ := Q_ (Bq b.1)
  have _ := Q_ (Cm HB.1)
  clear a b HB
  rename_i a b HB
  refine sw_ (S := fun w' => w'.cell? ⟨y, 0, none⟩ = some (.slice p i.length q) ∧ w'.cell? ⟨y, 1, none⟩ = some (.slice s j.length t) ∧ w'.cell? ⟨B, 0, none⟩ = some (.int .i64 o) ∧ w'.cell? ⟨B, 1, none⟩ = some (.slice v l.length x)) 31 B'.tab1 B'.bits1 ⟨(BM a.1 0).trans rfl, (BM a.1 1).trans rfl, (BM b.1 0).trans rfl, (BM b.1 1).trans rfl⟩ (fun hHeld HT_ HW_ => ?_)
  generalize w4.drew = aS at a b HB hHeld ⊢
  refine E1 0 5 31 1 hHeld ?_
  refine on_ 1 (some 6) (tf_ 2 31) HT_ (fun K hK => ?_)
  refine gs_ Tryz.func23 #[.agg #[.slice p i.length q, .slice s j.length t]] ?_
  with_reducible refine (BQ.calls k _ _ i _ _ j true _ (cb_ A HB) z.1 (cb_ G HB) E.1 A5.1).mono ?_
  rintro e aT ⟨rfl, hb⟩
  refine ⟨_, rfl, ?_⟩
  have _ := Q_ (bb_ a.1 hb)
  have _ := Q_ (bb_ b.1 hb)
  have _ := Q_ (AD (Dw HB.1 c.1 d.1) hb)
  clear a b HB
  rename_i a b HB
  (try clear hb)
  refine hK.out _ _ (Ht a.1 b.1) (fun hHeld => ?_)
  clear hK K
  refine no_ (some 6) ?_
  refine Ba 2 7 31 7 ?_
  refine E1 3 8 31 15 hHeld ?_
  refine on_ 4 (some 9) (tf_ 5 31) HT_ (fun K hK => ?_)
  refine gs_ Tryz.func182 #[.agg #[.int .i64 o, .slice v l.length x]] ?_
  with_reducible refine (Dk.calls k o _ _ l true _ (cb_ I HB) F.1 A9.1).mono ?_
  rintro e aU ⟨rfl, hb⟩
  refine ⟨_, rfl, ?_⟩
  have _ := Q_ (bb_ a.1 hb)
  have _ := Q_ (bb_ b.1 hb)
  have _ := Q_ (AD (Dw HB.1 c.1 d.1) hb)
  clear a b HB
  rename_i a b HB
  (try clear hb)
  refine hK.out _ _ (Ht a.1 b.1) (fun hHeld => ?_)
  clear hK K
  refine no_ (some 9) ?_
  refine Ba 5 10 31 63 ?_
  refine Ba 6 11 31 127 ?_
  refine Ba 7 12 31 255 ?_
  refine Ba 9 14 31 767 ?_
  refine E1 8 13 31 1023 hHeld ?_
  refine E1 10 15 31 2047 hHeld ?_
  refine on_ 11 (some 16) (tf_ 12 31) HT_ (fun K hK => ?_)
  refine gs_ Tryz.func83 #[.slice p i.length q, .int .i64 o] ?_
  with_reducible refine (Ad.calls k _ _ i o true _ (cb_ A HB) z.1 ai.1).mono ?_
  rintro e w' ⟨rfl, ⟨nd, rfl⟩⟩
  refine ⟨_, rfl, ?_⟩
  refine hK.out _ _ (Ht a.1 b.1) (fun hHeld => ?_)
  clear hK K
  refine no_ (some 16) ?_
  refine Ba 12 17 31 8191 ?_
  refine Ba 13 18 31 16383 ?_
  refine Ba 14 19 31 32767 ?_
  refine Ba 17 22 31 163839 ?_
  refine E1 15 20 31 196607 hHeld ?_
  refine E1 18 23 31 458751 hHeld ?_
  refine on_ 16 (some 21) (tf_ 19 31) HT_ (fun K hK => ?_)
  refine gs_ Tryz.func58 #[.slice v l.length x] ?_
  with_reducible refine (BO.calls k _ _ l L _ ?side1 F.1 am.1).mono ?_
  (case side1 => exact pc_ (Kd.Ec I.1 (Dw HB.1 c.1 d.1)))
  rintro e aV ⟨aA, rfl, u, hb⟩
  refine ⟨_, rfl, ?_⟩
  have _ := Q_ (Kd.BV u (AZ (Dw HB.1 c.1 d.1)))
  have _ := Q_ (bb_ a.1 hb)
  have _ := Q_ (bb_ b.1 hb)
  have _ := Q_ (AD (Dw HB.1 c.1 d.1) hb)
  clear a b HB
  rename_i g a b HB
  (try clear hb u)
  refine hK.out _ _ (Ht a.1 b.1) (fun hHeld => ?_)
  clear hK K
  refine no_ (some 21) ?_
  refine on_ 19 (some 24) (tf_ 20 31) HT_ (fun K hK => ?_)
  refine gs_ Tryz.func58 #[.slice s j.length t] ?_
  with_reducible refine (BO.calls k _ _ j M _ (cb_ G HB) E.1 an.1).mono ?_
  rintro e aW ⟨aB, rfl, u, hb⟩
  refine ⟨_, rfl, ?_⟩
  have _ := Q_ (Kd.B0 (pr_ g.1) (Kd.BJ u) hb)
  have _ := Q_ (Kd.BV (Kd.B8 u (Kd.Dj (pr_ g.1))) (AZ (Dw HB.1 c.1 d.1)))
  have _ := Q_ (bb_ a.1 hb)
  have _ := Q_ (bb_ b.1 hb)
  have _ := Q_ (AD (Dw HB.1 c.1 d.1) hb)
  clear g a b HB
  rename_i g m a b HB
  (try clear hb u)
  obtain ⟨aq, aw, ac⟩ := Kd.Bo g.1
  (first | subst ac | (injection ac with f1_ f2_ f3_; have f4_ := f1_.symm; have f5_ := f3_.symm; clear f1_ f2_ f3_; subst f4_; subst f5_))
  obtain ⟨ar, ax, ad⟩ := Kd.Bo m.1
  (first | subst ad | (injection ad with f1_ f2_ f3_; have f4_ := f1_.symm; have f5_ := f3_.symm; clear f1_ f2_ f3_; subst f4_; subst f5_))
  refine hK.out _ _ (Ht a.1 b.1) (fun hHeld => ?_)
  clear hK K
  refine no_ (some 24) ?_
  refine on_ 20 (some 25) (tf_ 21 31) HT_ (fun K hK => ?_)
  refine gs_ Tryz.func54 #[.slice aq L.length aw, .slice ar M.length ax] ?_
  with_reducible refine (BI.calls k _ _ L _ _ M D _ ?side1 ?side2 ?side3 ?side4 ao.1).mono ?_
  (case side1 => exact pc_ ((Kd.BH g.1).2.2))
  (case side2 => exact (Kd.BH g.1).2.1)
  (case side3 => exact pc_ ((Kd.BH m.1).2.2))
  (case side4 => exact (Kd.BH m.1).2.1)
  rintro e aX ⟨aC, rfl, u, hb⟩
  refine ⟨_, rfl, ?_⟩
  have _ := Q_ (Kd.B0 (pr_ g.1) (Kd.BJ u) hb)
  have _ := Q_ (Kd.B0 (pr_ m.1) (Kd.BJ u) hb)
  have _ := Q_ (Kd.BV (Kd.B8 (Kd.B8 u (Kd.Dj (pr_ g.1))) (Kd.Dj (pr_ m.1))) (AZ (Dw HB.1 c.1 d.1)))
  have _ := Q_ (bb_ a.1 hb)
  have _ := Q_ (bb_ b.1 hb)
  have _ := Q_ (AD (Dw HB.1 c.1 d.1) hb)
  clear g m a b HB
  rename_i g m J a b HB
  (try clear hb u)
  obtain ⟨aI, aK, ae⟩ := Kd.Bo J.1
  (first | subst ae | (injection ae with f1_ f2_ f3_; have f4_ := f1_.symm; have f5_ := f3_.symm; clear f1_ f2_ f3_; subst f4_; subst f5_))
  refine hK.out _ _ (Ht a.1 b.1) (fun hHeld => ?_)
  clear hK K
  refine no_ (some 25) ?_
  refine Ba 21 26 31 4194303 ?_
  refine Ba 22 27 31 8388607 ?_
  refine Ba 23 28 31 16777215 ?_
  refine Ba 24 29 31 33554431 ?_
  refine En 25 30 31 67108863 ?_
  refine En 26 31 31 134217727 ?_
  refine En 27 32 31 268435455 ?_
  refine En 28 33 31 536870911 ?_
  refine Ba 29 34 31 1073741823 ?_
  refine Ba 30 4 31 2147483647 ?_
  refine G8 (E0 HT_.1 (by kernel_rfl)) ?_
  try go_wp2
  go_ret
  exact ⟨er_, Dw HB.1 c.1 d.1⟩
 rw [if_pos Q] at H
 have O : ((D.length : Int) == 0) = true := beq_iff_eq.mpr Q
 have P : ((D.length : Int) != 0) = false := bne_eq_false_iff_eq.mpr Q
 clear Q
 (first | rw [O] | (simp only [E4, E']; rw [O]) | rw [P] | (have c_ := P; rw [bne] at c_; rw [c_]; clear c_) | skip)
 obtain ⟨T, aG, H⟩ := bs_ H
 replace H : (some (!T)) = some r := H
 obtain rfl := Option.some.inj H
 try go_wp2
 have _ := Q_ (Bq a.1)
 have _ := Q_ (Bq b.1)
 have _ := Q_ (Cm HB.1)
 clear a b HB
 rename_i a b HB
 refine sw_ (S := fun w' => w'.cell? ⟨y, 0, none⟩ = some (.slice p i.length q) ∧ w'.cell? ⟨y, 1, none⟩ = some (.slice s j.length t) ∧ w'.cell? ⟨B, 0, none⟩ = some (.int .i64 o) ∧ w'.cell? ⟨B, 1, none⟩ = some (.slice v l.length x)) 31 B'.tab1 B'.bits1 ⟨(BM a.1 0).trans rfl, (BM a.1 1).trans rfl, (BM b.1 0).trans rfl, (BM b.1 1).trans rfl⟩ (fun hHeld HT_ HW_ => ?_)
 generalize w4.drew = aY at a b HB hHeld ⊢
 refine E1 0 5 31 1 hHeld ?_
 refine on_ 1 (some 6) (tf_ 2 31) HT_ (fun K hK => ?_)
 refine gs_ Tryz.func23 #[.agg #[.slice p i.length q, .slice s j.length t]] ?_
 with_reducible refine (BQ.calls k _ _ i _ _ j true _ (cb_ A HB) z.1 (cb_ G HB) E.1 A5.1).mono ?_
 rintro e aZ ⟨rfl, hb⟩
 refine ⟨_, rfl, ?_⟩
 have _ := Q_ (bb_ a.1 hb)
 have _ := Q_ (bb_ b.1 hb)
 have _ := Q_ (AD (Dw HB.1 c.1 d.1) hb)
 clear a b HB
 rename_i a b HB
 (try clear hb)
 refine hK.out _ _ (Ht a.1 b.1) (fun hHeld => ?_)
 clear hK K
 refine no_ (some 6) ?_
 refine Ba 2 7 31 7 ?_
 refine E1 3 8 31 15 hHeld ?_
 refine on_ 4 (some 9) (tf_ 5 31) HT_ (fun K hK => ?_)
 refine gs_ Tryz.func182 #[.agg #[.int .i64 o, .slice v l.length x]] ?_
 with_reducible refine (Dk.calls k o _ _ l true _ (cb_ I HB) F.1 A9.1).mono ?_
 rintro e a0 ⟨rfl, hb⟩
 refine ⟨_, rfl, ?_⟩
 have _ := Q_ (bb_ a.1 hb)
 have _ := Q_ (bb_ b.1 hb)
 have _ := Q_ (AD (Dw HB.1 c.1 d.1) hb)
 clear a b HB
 rename_i a b HB
 (try clear hb)
 refine hK.out _ _ (Ht a.1 b.1) (fun hHeld => ?_)
 clear hK K
 refine no_ (some 9) ?_
 refine Ba 5 10 31 63 ?_
 refine Ba 6 11 31 127 ?_
 refine Ba 7 12 31 255 ?_
 refine Ba 9 14 31 767 ?_
 refine E1 8 13 31 1023 hHeld ?_
 refine E1 10 15 31 2047 hHeld ?_
 refine on_ 11 (some 16) (tf_ 12 31) HT_ (fun K hK => ?_)
 refine gs_ Tryz.func83 #[.slice p i.length q, .int .i64 o] ?_
 with_reducible refine (Ad.calls k _ _ i o true _ (cb_ A HB) z.1 ai.1).mono ?_
 rintro e w' ⟨rfl, ⟨nd, rfl⟩⟩
 refine ⟨_, rfl, ?_⟩
 refine hK.out _ _ (Ht a.1 b.1) (fun hHeld => ?_)
 clear hK K
 refine no_ (some 16) ?_
 refine Ba 12 17 31 8191 ?_
 refine Ba 13 18 31 16383 ?_
 refine Ba 14 19 31 32767 ?_
 refine Ba 17 22 31 163839 ?_
 refine E1 15 20 31 196607 hHeld ?_
 refine E1 18 23 31 458751 hHeld ?_
 refine on_ 16 (some 21) (tf_ 19 31) HT_ (fun K hK => ?_)
 refine gs_ Tryz.func58 #[.slice v l.length x] ?_
 with_reducible refine (BO.calls k _ _ l L _ ?side1 F.1 am.1).mono ?_
 (case side1 => exact pc_ (Kd.Ec I.1 (Dw HB.1 c.1 d.1)))
 rintro e a1 ⟨aA, rfl, u, hb⟩
 refine ⟨_, rfl, ?_⟩
 have _ := Q_ (Kd.BV u (AZ (Dw HB.1 c.1 d.1)))
 have _ := Q_ (bb_ a.1 hb)
 have _ := Q_ (bb_ b.1 hb)
 have _ := Q_ (AD (Dw HB.1 c.1 d.1) hb)
 clear a b HB
 rename_i g a b HB
 (try clear hb u)
 (try (obtain ⟨Ao_, co_, eo_⟩ := Kd.Bo g.1; subst eo_))
 refine hK.out _ _ (Ht a.1 b.1) (fun hHeld => ?_)
 clear hK K
 refine no_ (some 21) ?_
 refine on_ 19 (some 24) (tf_ 20 31) HT_ (fun K hK => ?_)
 refine gs_ Tryz.func58 #[.slice s j.length t] ?_
 with_reducible refine (BO.calls k _ _ j M _ (cb_ G HB) E.1 an.1).mono ?_
 rintro e a2 ⟨aB, rfl, u, hb⟩
 refine ⟨_, rfl, ?_⟩
 have _ := Q_ (Kd.B0 (pr_ g.1) (Kd.BJ u) hb)
 have _ := Q_ (Kd.BV (Kd.B8 u (Kd.Dj (pr_ g.1))) (AZ (Dw HB.1 c.1 d.1)))
 have _ := Q_ (bb_ a.1 hb)
 have _ := Q_ (bb_ b.1 hb)
 have _ := Q_ (AD (Dw HB.1 c.1 d.1) hb)
 clear g a b HB
 rename_i g m a b HB
 (try clear hb u)
 obtain ⟨au, ay, af⟩ := Kd.Bo g.1
 (first | subst af | (injection af with f1_ f2_ f3_; have f4_ := f1_.symm; have f5_ := f3_.symm; clear f1_ f2_ f3_; subst f4_; subst f5_))
 obtain ⟨av, az, ag⟩ := Kd.Bo m.1
 (first | subst ag | (injection ag with f1_ f2_ f3_; have f4_ := f1_.symm; have f5_ := f3_.symm; clear f1_ f2_ f3_; subst f4_; subst f5_))
 refine hK.out _ _ (Ht a.1 b.1) (fun hHeld => ?_)
 clear hK K
 refine no_ (some 24) ?_
 refine on_ 20 (some 25) (tf_ 21 31) HT_ (fun K hK => ?_)
 refine gs_ Tryz.func54 #[.slice au L.length ay, .slice av M.length az] ?_
 with_reducible refine (BI.calls k _ _ L _ _ M D _ ?side1 ?side2 ?side3 ?side4 ao.1).mono ?_
 (case side1 => exact pc_ ((Kd.BH g.1).2.2))
 (case side2 => exact (Kd.BH g.1).2.1)
 (case side3 => exact pc_ ((Kd.BH m.1).2.2))
 (case side4 => exact (Kd.BH m.1).2.1)
 rintro e a3 ⟨aC, rfl, u, hb⟩
 refine ⟨_, rfl, ?_⟩
 have _ := Q_ (Kd.B0 (pr_ g.1) (Kd.BJ u) hb)
 have _ := Q_ (Kd.B0 (pr_ m.1) (Kd.BJ u) hb)
 have _ := Q_ (Kd.BV (Kd.B8 (Kd.B8 u (Kd.Dj (pr_ g.1))) (Kd.Dj (pr_ m.1))) (AZ (Dw HB.1 c.1 d.1)))
 have _ := Q_ (bb_ a.1 hb)
 have _ := Q_ (bb_ b.1 hb)
 have _ := Q_ (AD (Dw HB.1 c.1 d.1) hb)
 clear g m a b HB
 rename_i g m J a b HB
 (try clear hb u)
 obtain ⟨aJ, aL, ah⟩ := Kd.Bo J.1
 (first | subst ah | (injection ah with f1_ f2_ f3_; have f4_ := f1_.symm; have f5_ := f3_.symm; clear f1_ f2_ f3_; subst f4_; subst f5_))
 refine hK.out _ _ (Ht a.1 b.1) (fun hHeld => ?_)
 clear hK K
 refine no_ (some 25) ?_
 refine Ba 21 26 31 4194303 ?_
 refine Ba 22 27 31 8388607 ?_
 refine Ba 23 28 31 16777215 ?_
 refine Ba 24 29 31 33554431 ?_
 refine Ba 25 30 31 67108863 ?_
 refine E1 26 31 31 134217727 hHeld ?_
 refine on_ 27 (some 32) (tf_ 28 31) HT_ (fun K hK => ?_)
 refine gs_ Tryz.func24 #[.slice v l.length x] ?_
 with_reducible refine (DU.calls k _ _ l T _ (cb_ I HB) F.1 aG.1).mono ?_
 rintro e a4 ⟨rfl, hb⟩
 refine ⟨_, rfl, ?_⟩
 have _ := Q_ (Kd.Bv (pr_ g.1) hb)
 have _ := Q_ (Kd.Bv (pr_ m.1) hb)
 have _ := Q_ (Kd.Bv (pr_ J.1) hb)
 have _ := Q_ (bb_ a.1 hb)
 have _ := Q_ (bb_ b.1 hb)
 have _ := Q_ (AD (Dw HB.1 c.1 d.1) hb)
 clear g m J a b HB
 rename_i g m J a b HB
 (try clear hb)
 refine hK.out _ _ (Ht a.1 b.1) (fun hHeld => ?_)
 clear hK K
 refine no_ (some 32) ?_
 refine Ba 28 33 31 536870911 ?_
 refine Ba 29 34 31 1073741823 ?_
 refine Ba 30 4 31 2147483647 ?_
 refine G8 (E0 HT_.1 (by kernel_rfl)) ?_
 try go_wp2
 go_ret
 exact ⟨er_, Dw HB.1 c.1 d.1⟩
def Dz.f (k : Nat) (c : Int) (e : List (List Int)) (d : Int) (b : Int) : Option (Bool) := if b = 0 then (some false) else ((BR.f k c e d).bind fun a => (some (b == a)))
theorem Dz.mono : ∀ a b c d k, LeO (Dz.f k a b c d) (Dz.f (k + 1) a b c d) := by
 intro a b c d k
 unfold Dz.f
 exact G7 BR.mono
theorem Dz.calls (k : Nat) (l : Int) (p : Option Addr) (q : Nat) (d : List (List Int)) (m : Int) (b : Int) (r : Bool) (w : World) (hr1 : Kd.C (Kd.slice 3 (Kd.int .i64)) w p d.length d) (j : d.length ≤ q) (h : Dz.f k l d m b = some r) :
  Calls Tryz.prog 157 #[.int .i64 l, .slice p d.length q, .int .i64 m, .int .i64 b] w fun e w' => e = .returned (.bool r) ∧ Below w.heap.size w w' := by
 have o := Q_ hr1
 have n := Q_ j
 clear hr1 j
 have HB := Q_ (Below.refl w.heap.size w)
 unfold Dz.f at h
 have H := h
 clear h
 by_cases c : b = 0
 ·rw [if_pos c] at H
  have g : (b == 0) = true := beq_iff_eq.mpr c
  have i : (b != 0) = false := bne_eq_false_iff_eq.mpr c
  clear c
  obtain rfl := Option.some.inj H
  go_enter Tryz.func157, Tryz.ntmps157
  go_wp2
  go_ret
  exact ⟨er_, pb_ HB.1⟩
 rw [if_neg c] at H
 have g : (b == 0) = false := beq_eq_false_iff_ne.mpr c
 have i : (b != 0) = true := bne_iff_ne.mpr c
 obtain ⟨a, s, H⟩ := bs_ H
 replace H : (some (b == a)) = some r := H
 obtain rfl := Option.some.inj H
 go_enter Tryz.func157, Tryz.ntmps157
 go_wp2_with (first | (go_at_call 153; (with_reducible refine (BR.calls k l _ _ d m a _ (pc_ o.1) n.1 s.1).mono ?_); rintro e t ⟨rfl, hb⟩; have _ := Q_ (AD (pb_ HB.1) hb); clear HB; rename_i HB; (try clear hb)))
 go_ret
 exact ⟨er_, pb_ HB.1⟩
end Go.Proofs.YtibmehnippjakaaGreat.Print
