-- Written by a program of this session (printx.py) out of the translation; Lean checks it.
import Derived.Test.YtibmehnippjakaaGreatPrint0
import Derived.Test.YtibmehnippjakaaGreatPrint1
import Derived.Test.YtibmehnippjakaaGreatPrint4
import Derived.Test.YtibmehnippjakaaGreatPrint6
namespace Go.Proofs.YtibmehnippjakaaGreat.Print
open Go.RowKit Go.Proofs.YtibmehnippjakaaGreatW.PrintWords Go.Proofs.YtibmehnippjakaaGreatW.PrintLast Go.Proofs.YtibmehnippjakaaGreatW.PrintMore Go.Proofs.YtibmehnippjakaaGreat.Short
attribute [local go_sem] F8 Fq G5 G6 FA FH F5 Fp
set_option linter.unusedVariables false
set_option maxHeartbeats 8000000
set_option maxRecDepth 100000
set_option linter.unusedSimpArgs false
def D1.f (k : Nat) (a : List Int) (b : List (S81)) (c : List Int) (d : List (S81)) : Option (Bool) := (Ai.f k a c).bind fun e => (if e = true then ((EE.f k b d).bind fun g => (some g)) else (some false))
theorem D1.mono : ∀ a b c d k, LeO (D1.f k a b c d) (D1.f (k + 1) a b c d) := by
 intro a b c d k
 unfold D1.f
 exact H8 EE.mono Ai.mono
theorem D1.calls (k : Nat) (o : Option Addr) (q : Nat) (b : List Int) (u : Option Addr) (B : Nat) (i : List (S81)) (p : Option Addr) (s : Nat) (c : List Int) (v : Option Addr) (D : Nat) (j : List (S81)) (r : Bool) (w : World) (hr0_0 : Kd.C (Kd.int .i64) w o b.length b) (E : b.length ≤ q) (hr0_1 : Kd.C k81 w u i.length i) (F : i.length ≤ B) (hr1_0 : Kd.C (Kd.int .i64) w p c.length c) (G : c.length ≤ s) (hr1_1 : Kd.C k81 w v j.length j) (I : j.length ≤ D) (h : D1.f k b i c j = some r) :
  Calls Tryz.prog 148 #[.agg #[.slice o b.length q, .slice u i.length B], .agg #[.slice p c.length s, .slice v j.length D]] w fun e w' => e = .returned (.bool r) ∧ Below w.heap.size w w' := by
 have hu53 := Tryz.underlying53
 have z := Q_ hr0_0
 have x := Q_ E
 clear hr0_0 E
 have P := Q_ hr0_1
 have M := Q_ F
 clear hr0_1 F
 have A := Q_ hr1_0
 have y := Q_ G
 clear hr1_0 G
 have Q := Q_ hr1_1
 have O := Q_ I
 clear hr1_1 I
 have HB := Q_ (Below.refl w.heap.size w)
 unfold D1.f at h
 have H := h
 clear h
 have HS_ := Q_ H
 clear H
 go_enter Tryz.func148, Tryz.ntmps148
 go_upto_region 1 with (first | (refine bg_ 2 #[.slice o b.length q, .slice u i.length B] 53 ?_; intro T hg w3 hbox hb; have _ := Q_ (AD (pb_ HB.1) hb); have a := Q_ (hbox); have K := Q_ (gw_ (w := w) hg (pb_ HB.1)); have d := K; clear HB; rename_i HB; clear hb hbox hg) | (refine bg_ 3 #[.slice p c.length s, .slice v j.length D] 53 ?_; intro U hg w4 hbox hb; have _ := Q_ (bb_ a.1 hb); have _ := Q_ (AD (CM HB.1 d.1) hb); have l := Q_ (hbox); have L := Q_ (gw_ (w := w) hg (CM HB.1 d.1)); have m := L; have g := Q_ (nb_ hg a); have n := Q_ g.1.symm; clear a HB; rename_i a HB; clear hb hbox hg))
 (try simp only [Act.put, s1_, s2_, s3_])
 have H := HS_.1
 clear HS_
 obtain ⟨J, Z, H⟩ := bs_ H
 (try dsimp only at H)
 by_cases R : J = true
 rotate_left
 ·replace R := bf_ R
  subst R
  rw [if_neg ff_] at H
  obtain rfl := Option.some.inj H
  have ac := g.1
  have ad := n.1
  have aa := Ew a.1
  have ab := Ew l.1
  go_wp2_with (first | (refine gk_ 46 9 Tryz.func46 #[.slice o b.length q, .slice p c.length s] ?_; (with_reducible refine (Ai.calls k _ _ b _ _ c false _ (cb_ z HB) x.1 (cb_ A HB) y.1 Z.1).mono ?_); rintro e w' ⟨rfl, ⟨nd, rfl⟩⟩; refine ⟨_, rfl, ?_⟩))
  go_ret
  exact ⟨er_, Dw HB.1 d.1 m.1⟩
 subst R
 rw [if_pos rfl] at H
 obtain ⟨t, S, H⟩ := bs_ H
 replace H : (some t) = some r := H
 obtain rfl := Option.some.inj H
 have X := g.1
 have Y := n.1
 have V := Ew a.1
 have W := Ew l.1
 go_wp2_with (first | (refine gk_ 46 9 Tryz.func46 #[.slice o b.length q, .slice p c.length s] ?_; (with_reducible refine (Ai.calls k _ _ b _ _ c true _ (cb_ z HB) x.1 (cb_ A HB) y.1 Z.1).mono ?_); rintro e w' ⟨rfl, ⟨nd, rfl⟩⟩; refine ⟨_, rfl, ?_⟩) | (go_at_call 171; (with_reducible refine (EE.calls k _ _ i _ _ j t _ ?side1 M.1 ?side3 O.1 S.1).mono ?_); (case side1 => exact pc_ (Kd.Ec P.1 (Dw HB.1 d.1 m.1))); (case side3 => exact pc_ (Kd.Ec Q.1 (Dw HB.1 d.1 m.1))); rintro e ae ⟨rfl, hb⟩; have _ := Q_ (bb_ a.1 hb); have _ := Q_ (bb_ l.1 hb); have _ := Q_ (AD (Dw HB.1 d.1 m.1) hb); clear a l HB; rename_i a l HB; (try clear hb)))
 go_ret
 exact ⟨er_, Dw HB.1 d.1 m.1⟩
def Cj.f (k : Nat) (b : List Int) (c : List (S81)) (e : List (S75)) : Option (Bool) := (Am.f k e b c).bind fun a => (if a.2.2 = true then ((D1.f k a.1 a.2.1 b c).bind fun d => (some d)) else (some false))
theorem Cj.mono : ∀ a b c k, LeO (Cj.f k a b c) (Cj.f (k + 1) a b c) := by
 intro a b c k
 unfold Cj.f
 exact H8 D1.mono Am.mono
theorem Cj.calls (k : Nat) (t : Option Addr) (v : Nat) (l : List Int) (u : Option Addr) (x : Nat) (m : List (S81)) (A1 : Option Addr) (c1 : Nat) (M : List (S75)) (r : Bool) (w : World) (hr0_0 : Kd.C (Kd.int .i64) w t l.length l) (I : l.length ≤ v) (hr0_1 : Kd.C k81 w u m.length m) (J : m.length ≤ x) (hr1 : Kd.C k75 w A1 M.length M) (X : M.length ≤ c1) (h : Cj.f k l m M = some r) :
  Calls Tryz.prog 110 #[.agg #[.slice t l.length v, .slice u m.length x], .slice A1 M.length c1] w fun e w' => e = .returned (.bool r) ∧ Below w.heap.size w w' := by
 have hu53 := Tryz.underlying53
 have F := Q_ hr0_0
 have D := Q_ I
 clear hr0_0 I
 have G := Q_ hr0_1
 have E := Q_ J
 clear hr0_1 J
 have ad := Q_ hr1
 have ac := Q_ X
 clear hr1 X
 have HB := Q_ (Below.refl w.heap.size w)
 unfold Cj.f at h
 have H := h
 clear h
 have HS_ := Q_ H
 clear H
 go_enter Tryz.func110, Tryz.ntmps110
 go_upto_region 1 with (first | (refine bg_ 2 #[.slice t l.length v, .slice u m.length x] 53 ?_; intro S hg w3 hbox hb; have _ := Q_ (AD (pb_ HB.1) hb); have a := Q_ (hbox); have P := Q_ (gw_ (w := w) hg (pb_ HB.1)); have b := P; clear HB; rename_i HB; clear hb hbox hg))
 (try simp only [Act.put, s1_, s2_, s3_])
 have H := HS_.1
 clear HS_
 obtain ⟨⟨y, A, O⟩, A4, H⟩ := bs_ H
 (try dsimp only at H)
 have HS_ := Q_ H
 clear H
 have al := Ew a.1
 go_upto_region 2 with (first | (refine gk_ 84 10 Tryz.func84 #[.slice A1 M.length c1, .agg #[.slice t l.length v, .slice u m.length x]] ?_; (with_reducible refine (Am.calls k _ _ M _ _ l _ _ m y A O _ (cb_ ad HB) ac.1 (cb_ F HB) D.1 (cb_ G HB) E.1 A4.1).mono ?_); rintro e w6 ⟨ao, ap, rfl, Y, Z, hb⟩; refine ⟨_, rfl, ?_⟩; have _ := Q_ (Kd.BV Y (AZ (CM HB.1 b.1))); have _ := Q_ (Kd.Fh Z (AZ (CM HB.1 b.1))); have _ := Q_ (bb_ a.1 hb); have _ := Q_ (AD (CM HB.1 b.1) hb); clear a HB; rename_i i j a HB; (try clear hb Y Z)) | (refine bg_ 5 #[.slice none 0 0, .slice none 0 0] 53 ?_; intro T hg w7 hbox hb; have _ := Q_ (Kd.Bv (pr_ i.1) hb); have _ := Q_ (Kd.FB (ps_ j.1) hb); have _ := Q_ (bb_ a.1 hb); have _ := Q_ (AD (CM HB.1 b.1) hb); have d := Q_ (hbox); have Q := Q_ (gw_ (w := w) hg (CM HB.1 b.1)); have q := Q; have p := Q_ (nb_ hg a); have s := Q_ p.1.symm; clear i j a HB; rename_i i j a HB; clear hb hbox hg; obtain ⟨V, R, af⟩ := Kd.Bo i.1; subst af; have am := s.1; have an := p.1; have ag := Ew d.1; obtain ⟨U, L, W⟩ := Kd.Gv j.1; subst W))
 (try simp only [Act.put, s1_, s2_, s3_])
 have H := HS_.1
 clear HS_
 by_cases K : O = true
 rotate_left
 ·replace K := bf_ K
  subst K
  rw [if_neg ff_] at H
  obtain rfl := Option.some.inj H
  go_wp2
  go_ret
  exact ⟨er_, Dw HB.1 b.1 q.1⟩
 subst K
 rw [if_pos rfl] at H
 obtain ⟨B, ab, H⟩ := bs_ H
 replace H : (some B) = some r := H
 obtain rfl := Option.some.inj H
 have aj := s.1
 have ak := p.1
 have ah := Ew d.1
 have ai := Ew a.1
 go_wp2_with (first | (go_at_call 148; (with_reducible refine (D1.calls k _ _ y _ _ A _ _ l _ _ m B _ ?side1 ?side2 ?side3 ?side4 ?side5 ?side6 ?side7 ?side8 ab.1).mono ?_); (case side1 => refine (Kd.BH (e := 3) (base := w.heap.size) (ok := fun k_ => True) (n := y.length) (c := R) ?_).2.2; exact (pr_ (H5 i.1 d.1))); (case side2 => exact (Kd.BH i.1).2.1); (case side3 => refine (Kd.GX (e := 81) (base := w.heap.size) (ok := fun k_ => some k_ ≠ (.slice V y.length R : Value).ownBlock) (n := A.length) (c := L) ?_).2.2; exact (ps_ (L' j.1 d.1))); (case side4 => exact (Kd.GX j.1).2.1); (case side5 => exact Kd.Ec F.1 (Dw HB.1 b.1 q.1)); (case side6 => exact D.1); (case side7 => exact Kd.Ec G.1 (Dw HB.1 b.1 q.1)); (case side8 => exact E.1); rintro e ar ⟨rfl, hb⟩; have _ := Q_ (Kd.Bv (pr_ (H5 i.1 d.1)) hb); have _ := Q_ (Kd.FB (ps_ (L' j.1 d.1)) hb); have _ := Q_ (Ej (g := S) (o := .cells #[.slice t l.length v, .slice u m.length x] 53 (0, 0)) (pp_ a.1) hb); have _ := Q_ (Ej (g := T) (o := .cells #[.slice V y.length R, .slice U A.length L] 53 (0, 0)) (pp_ d.1) hb); have _ := Q_ (AD (Dw HB.1 b.1 q.1) hb); clear i j a d HB; rename_i i j a d HB; (try clear hb)))
 go_ret
 exact ⟨er_, Dw HB.1 b.1 q.1⟩
def BI.l0 : Nat → List Int → List Int → List Int → Int → Int → Option (List Int)
 | 0, _, _, _, _, _ => none
 | k + 1, g, e, d, b, a => if a < b then (if 0 ≤ a then (if a < (d.length : Int) then ((Ad.f k g (rd d a)).bind fun c => (if c = true then (BI.l0 k g e d b (wrap64 (a + 1))) else (if e.length < 17592186044416 then (BI.l0 k g (e ++ [rd d a]) d b (wrap64 (a + 1))) else (none)))) else (none)) else (none)) else (some e)
def BI.f (k : Nat) (a : List Int) (b : List Int) : Option (List Int) := BI.l0 k b (([] : List Int)) a (a.length : Int) 0
theorem BI.mono_l : ∀ k, (∀ a b c d e, LeO (BI.l0 k a b c d e) (BI.l0 (k + 1) a b c d e))
 | 0 => fun _ _ _ _ _ r h => by simp [BI.l0] at h
 | k + 1 => by
  have ih0 := BI.mono_l k
  ·intro a b c d e
   unfold BI.l0
   exact H8 ih0 Ad.mono
theorem BI.mono : ∀ a b k, LeO (BI.f k a b) (BI.f (k + 1) a b) := by
 intro a b k
 have ih0 := BI.mono_l k
 unfold BI.f
 exact H8 ih0 Ad.mono
theorem BI.calls (k : Nat) (T : Option Addr) (U : Nat) (d : List Int) (K : Option Addr) (Q : Nat) (m : List Int) (r : List Int) (w : World) (hr0 : Kd.C (Kd.int .i64) w T d.length d) (E : d.length ≤ U) (hr1 : Kd.C (Kd.int .i64) w K m.length m) (F : m.length ≤ Q) (h : BI.f k d m = some r) :
  Calls Tryz.prog 54 #[.slice T d.length U, .slice K m.length Q] w fun e w' => ∃ v0_ : Value, e = .returned (v0_) ∧ Kd.R (Kd.int .i64) 3 w' w.heap.size (fun _ => True) v0_ r ∧ Below w.heap.size w w' := by
 have M := Q_ hr0
 have aa := Q_ E
 clear hr0 E
 have O := Q_ hr1
 have L := Q_ F
 clear hr1 F
 have HB := Q_ (Below.refl w.heap.size w)
 unfold BI.f at h
 have H := h
 clear h
 obtain ⟨t, hy318⟩ : ∃ y_ : List Int, y_ = (([] : List Int)) := ⟨_, rfl⟩
 replace H : (BI.l0 k m t d (d.length : Int) 0) = some r := hb_ hy318 H
 have j := Q_ hy318
 clear hy318
 have H' := Q_ H
 clear H
 go_enter Tryz.func54, Tryz.ntmps54
 go_wp2_with (first | (refine Ie .i64 3 8 ([] : List Int) ?_; intro X w3 l hb; rw [← j.1] at l; have _ := Q_ (Kd.BV l (AZ (pb_ HB.1))); have _ := Q_ (AD (pb_ HB.1) hb); clear HB; rename_i v HB; clear hb l))
 (try simp only [Act.put, s1_, s2_, s3_])
 go_loopg [5, 11] k (fun kq v5 S w' => ∃ (c : List Int) (a : Int), S = .int .i64 a ∧ Aside0 (BI.l0 kq m c d (d.length : Int) a = some r) ∧ Aside0 (kq ≤ k) ∧ Aside0 (Kd.R (Kd.int .i64) 3 w' w.heap.size (fun _ => True) v5 c) ∧ Aside0 (Below w.heap.size w w'))
 case atStart => exact ⟨(t), (0), el_, H', ⟨Nat.le_refl _⟩, ⟨pr_ v.1⟩, ⟨pb_ HB.1⟩⟩
 clear H'
 obtain ⟨c, a, rfl, HA, p, i, HB⟩ := hrel
 rcases gk with _ | k1
 ·exact absurd HA.1 (by simp [BI.l0])
 have H := HA.1
 clear HA
 simp only [BI.l0] at H
 by_cases A : a < (d.length : Int)
 rotate_left
 ·rw [if_neg A] at H
  have B := decide_eq_false A
  clear A
  obtain rfl := Option.some.inj H
  go_wp2
  go_ret
  exact ⟨_, er_, pr_ i.1, pb_ HB.1⟩
 rw [if_pos A] at H
 have B := decide_eq_true A
 clear A
 by_cases G : 0 ≤ a
 rotate_left
 ·rw [if_neg G] at H
  exact nn_ H
 rw [if_pos G] at H
 have V := decide_eq_true G
 clear G
 by_cases I : a < (d.length : Int)
 rotate_left
 ·rw [if_neg I] at H
  exact nn_ H
 rw [if_pos I] at H
 have W := decide_eq_true I
 clear I
 obtain ⟨s, Z, H⟩ := bs_ H
 (try dsimp only at H)
 have HS_ := Q_ H
 clear H
 have n : 0 ≤ (a : Int) := dt_
 have o : a < (d.length : Int) := dt_
 obtain ⟨P, D, g⟩ := Kd.GG M.1 a n o
 cases D
 replace g := bt_ HB g
 replace n := eq_true n
 replace o := eq_true o
 go_upto_if 18 with (first | (refine gk_ 83 17 Tryz.func83 #[.slice K m.length Q, .int .i64 (rd d a)] ?_; (with_reducible refine (Ad.calls k1 _ _ m (rd d a) s _ (cb_ O HB) L.1 Z.1).mono ?_); rintro e w' ⟨rfl, ⟨nd, rfl⟩⟩; refine ⟨_, rfl, ?_⟩))
 (try simp only [Act.put, s1_, s2_, s3_])
 have H := HS_.1
 clear HS_
 by_cases J : s = true
 ·subst J
  rw [if_pos rfl] at H
  have H' := Q_ H
  clear H
  go_wp2
  go_roundg k1
  case measure => have := p.1; omega
  case rel => exact ⟨(c), (wrap64 (a + 1)), el_, H', ⟨by have := p.1; omega⟩, ⟨pr_ i.1⟩, ⟨pb_ HB.1⟩⟩
 replace J := bf_ J
 subst J
 rw [if_neg ff_] at H
 by_cases q : c.length < 17592186044416
 rotate_left
 ·rw [if_neg q] at H
  exact nn_ H
 rw [if_pos q] at H
 have y := Q_ q
 clear q
 obtain ⟨u, hy323⟩ : ∃ y_ : List Int, y_ = (c ++ [rd d a]) := ⟨_, rfl⟩
 replace H : (BI.l0 k1 m u d (d.length : Int) (wrap64 (a + 1))) = some r := hb_ hy323 H
 have z := Q_ hy323
 clear hy323
 have H' := Q_ H
 clear H
 go_wp2_with (first | ((with_reducible refine FO (b := .append) (xs := #[.tmp 19, .tmp 21]) rfl ?_); at_builtin; refine Kd.I4 (Kd.int .i64) (w0 := w) w.heap.size rfl (.tmp 19) (.tmp 21) 22 3 (.int .i64 0) 8 rfl Tryz.underlying22 HI rfl (by decide) (by omega) u5 c (rd d a) [.int .i64 (rd d a)] (fun _ => True) (fun _ => False) rfl rfl ?aP (fun _ hk => hk.elim) ?aF ?aO ?aB ?aS ?aL ?_; (case aP => exact rfl); (case aB => exact (pb_ HB.1)); (case aF => exact (fun _ _ => trivial)); (case aO => exact (pr_ i.1)); (case aS => exact (AZ (pb_ HB.1))); (case aL => have := y.1; omega); intro Y ac ho hb hg hat; rw [← z.1] at ho; have _ := Q_ (hb); have _ := Q_ (ho); clear HB i; rename_i HB x; clear ho hb hg hat))
 go_roundg k1
 case measure => have := p.1; omega
 case rel => exact ⟨(u), (wrap64 (a + 1)), el_, H', ⟨by have := p.1; omega⟩, ⟨pr_ x.1⟩, ⟨pb_ HB.1⟩⟩
def E5.f (b : List Int) : Option (List Int × (List (S81))) := (some (([] : List Int) : List Int)).bind fun a => (if a.length + b.length < 17592186044416 then (some ((a ++ b), ([] : List (S81)))) else (none))
theorem E5.calls (E : Option Addr) (F : Nat) (j : List Int) (u : List Int) (v : List (S81)) (w : World) (hr0 : Kd.C (Kd.int .i64) w E j.length j) (t : j.length ≤ F) (h : E5.f j = some (u, v)) :
  Calls Tryz.prog 85 #[.slice E j.length F] w fun e w' => ∃ v0_ v1_ : Value, e = .returned (.agg #[v0_, v1_]) ∧ Kd.R (Kd.int .i64) 3 w' w.heap.size (fun _ => True) v0_ u ∧ Kd.S k81 81 w' w.heap.size (fun k_ => some k_ ≠ (v0_ : Value).ownBlock) v1_ v ∧ Below w.heap.size w w' := by
 have hu53 := Tryz.underlying53
 have A := Q_ hr0
 have J := Q_ t
 clear hr0 t
 have HB := Q_ (Below.refl w.heap.size w)
 unfold E5.f at h
 have H := h
 clear h
 obtain ⟨c, hy327⟩ : ∃ y_ : List Int, y_ = (([] : List Int)) := ⟨_, rfl⟩
 replace H : (if c.length + j.length < 17592186044416 then (some ((c ++ j), ([] : List (S81)))) else (none)) = some (u, v) := hb_ hy327 H
 have l := Q_ hy327
 clear hy327
 by_cases y : c.length + j.length < 17592186044416
 rotate_left
 ·rw [if_neg y] at H
  exact nn_ H
 rw [if_pos y] at H
 have s := Q_ y
 clear y
 obtain ⟨p, hy330⟩ : ∃ y_ : List Int, y_ = (c ++ j) := ⟨_, rfl⟩
 replace H : (some (p, ([] : List (S81)))) = some (u, v) := hb_ hy330 H
 have r := Q_ hy330
 clear hy330
 simp only [Option.some.injEq, Prod.mk.injEq] at H
 obtain ⟨rfl, rfl⟩ := H
 go_enter Tryz.func85, Tryz.ntmps85
 go_wp2_with (first | (refine bg_ 2 #[.slice none 0 0, .slice none 0 0] 53 ?_; intro m hg K hbox hb; have _ := Q_ (AD (pb_ HB.1) hb); have a := Q_ (hbox); have q := Q_ (gw_ (w := w) hg (pb_ HB.1)); have d := q; clear HB; rename_i HB; clear hb hbox hg) | (refine Ie .i64 3 3 ([] : List Int) ?_; intro x L n hb; rw [← l.1] at n; have _ := Q_ (Kd.BV n (AZ (CM HB.1 d.1))); have _ := Q_ (bb_ a.1 hb); have _ := Q_ (AD (CM HB.1 d.1) hb); clear a HB; rename_i i a HB; clear hb n) | ((with_reducible refine FO (b := .append) (xs := #[.tmp 3, .tmp 4]) rfl ?_); at_builtin; refine Kd.Hi (Kd.int .i64) (w0 := w) w.heap.size rfl (.tmp 3) (.tmp 4) 22 3 (.int .i64 0) 8 rfl Tryz.underlying22 HI rfl (by decide) (by omega) x c j _ _ _ (fun _ => True) (fun _ => False) rfl rfl ?aO ?aR (fun _ _ h => h) (fun _ h => h.elim) ?aF ?aB ?aS ?aL ?_; (case aR => exact cb_ A HB); (case aB => exact (CM HB.1 d.1)); (case aF => exact (fun _ _ => trivial)); (case aO => exact (pr_ i.1)); (case aS => exact (AZ (CM HB.1 d.1))); (case aL => have := s.1; omega); intro I M ho hb hg hat; rw [← r.1] at ho; have _ := Q_ (Eb (g := m) (o := .cells #[.slice none 0 0, .slice none 0 0] 53 (0, 0)) (pk_ a.1) hg (Kd.JB i.1 a.1 (by decide))); have _ := Q_ (hb); have _ := Q_ (ho); clear a HB i; rename_i a HB k; clear ho hb hg hat; obtain ⟨z, B, D⟩ := Kd.Bo k.1; subst D; have G := Ew a.1))
 refine bodyPost_ret (results_cell_row rfl _ _ m 53 #[.slice z p.length B, .slice none 0 0] (0, 0) _ rfl (pp_ a.1) Tryz.underlying53 rfl (by kernel_rfl)) rfl ?_
 exact ⟨_, _, er_, pr_ (Kd.Ax (H5 k.1 a.1) (fun _ hk => trivial)), by first | exact Kd.J' _ _ _ _ _ | exact Kd.J4 _ _ _ _ _ | exact Kd.KO _ _ _ _ _ | exact Kd.KX _ _ _ _ _ | exact Kd.I7 _ _ _ _ _, CM HB.1 d.1⟩
def Az.l0 : Nat → List (S75) → List Int → List Int → Int → Int → Option (List Int)
 | 0, _, _, _, _, _ => none
 | k + 1, h, g, c, e, a => if a < e then (if 0 ≤ a then (if a < (c.length : Int) then ((E5.f (([rd c a] : List Int))).bind fun b => ((Am.f k h b.1 b.2).bind fun d => (if d.2.2 = true then (Az.l0 k h g c e (wrap64 (a + 1))) else (if g.length < 17592186044416 then (Az.l0 k h (g ++ [rd c a]) c e (wrap64 (a + 1))) else (none))))) else (none)) else (none)) else (some g)
def Az.f (k : Nat) (d : List (S75)) (c : List Int) : Option (List Int) := (some (([] : List Int) : List Int)).bind fun a => ((Ah.f k c).bind fun b => (if b = true then (Az.l0 k d a c (c.length : Int) 0) else (some a)))
theorem Az.mono_l : ∀ k, (∀ a b c d e, LeO (Az.l0 k a b c d e) (Az.l0 (k + 1) a b c d e))
 | 0 => fun _ _ _ _ _ r h => by simp [Az.l0] at h
 | k + 1 => by
  have ih0 := Az.mono_l k
  ·intro a b c d e
   unfold Az.l0
   exact Jz ih0 Ah.mono Am.mono
theorem Az.mono : ∀ a b k, LeO (Az.f k a b) (Az.f (k + 1) a b) := by
 intro a b k
 have ih0 := Az.mono_l k
 unfold Az.f
 exact Jz ih0 Ah.mono Am.mono
theorem Az.calls (k : Nat) (A0 : Option Addr) (c0 : Nat) (T : List (S75)) (A1 : Option Addr) (c1 : Nat) (u : List Int) (r : List Int) (w : World) (hr0 : Kd.C k75 w A0 T.length T) (az : T.length ≤ c0) (hr1 : Kd.C (Kd.int .i64) w A1 u.length u) (aA : u.length ≤ c1) (h : Az.f k T u = some r) :
  Calls Tryz.prog 55 #[.slice A0 T.length c0, .slice A1 u.length c1] w fun e w' => ∃ v0_ : Value, e = .returned (v0_) ∧ Kd.R (Kd.int .i64) 3 w' w.heap.size (fun _ => True) v0_ r ∧ Below w.heap.size w w' := by
 have hu53 := Tryz.underlying53
 have aN := Q_ hr0
 have aK := Q_ az
 clear hr0 az
 have aq := Q_ hr1
 have aM := Q_ aA
 clear hr1 aA
 have HB := Q_ (Below.refl w.heap.size w)
 unfold Az.f at h
 have H := h
 clear h
 obtain ⟨O, hy333⟩ : ∃ y_ : List Int, y_ = (([] : List Int)) := ⟨_, rfl⟩
 replace H : ((Ah.f k u).bind fun L => (if L = true then (Az.l0 k T O u (u.length : Int) 0) else (some O))) = some r := hb_ hy333 H
 have X := Q_ hy333
 clear hy333
 have HS_ := Q_ H
 clear H
 go_enter Tryz.func55, Tryz.ntmps55
 go_upto_region 2 with (first | (refine Ie .i64 3 10 ([] : List Int) ?_; intro aY w3 aa hb; rw [← X.1] at aa; have _ := Q_ (Kd.BV aa (AZ (pb_ HB.1))); have _ := Q_ (AD (pb_ HB.1) hb); clear HB; rename_i W HB; clear hb aa))
 (try simp only [Act.put, s1_, s2_, s3_])
 have H := HS_.1
 clear HS_
 obtain ⟨L, A5, H⟩ := bs_ H
 (try dsimp only at H)
 have HS_ := Q_ H
 clear H
 go_upto_if 13 with (first | (refine gk_ 47 12 Tryz.func47 #[.slice A1 u.length c1] ?_; (with_reducible refine (Ah.calls k _ _ u L _ (cb_ aq HB) aM.1 A5.1).mono ?_); rintro e w' ⟨rfl, ⟨nd, rfl⟩⟩; refine ⟨_, rfl, ?_⟩))
 (try simp only [Act.put, s1_, s2_, s3_])
 have H := HS_.1
 clear HS_
 by_cases c6 : L = true
 rotate_left
 ·replace c6 := bf_ c6
  subst c6
  rw [if_neg ff_] at H
  obtain rfl := Option.some.inj H
  go_wp2
  go_ret
  exact ⟨_, er_, pr_ W.1, pb_ HB.1⟩
 subst c6
 rw [if_pos rfl] at H
 have H' := Q_ H
 clear H
 go_wp2
 go_loopg [5, 17] k (fun kq v5 aV w' => ∃ (v : List Int) (a : Int), aV = .int .i64 a ∧ Aside0 (Az.l0 kq T v u (u.length : Int) a = some r) ∧ Aside0 (kq ≤ k) ∧ Aside0 (Kd.R (Kd.int .i64) 3 w' w.heap.size (fun _ => True) v5 v) ∧ Aside0 (Below w.heap.size w w'))
 case atStart => exact ⟨(O), (0), el_, H', ⟨Nat.le_refl _⟩, ⟨pr_ W.1⟩, ⟨pb_ HB.1⟩⟩
 clear H'
 obtain ⟨v, a, rfl, HA, ad, d, HB⟩ := hrel
 rcases gk with _ | k1
 ·exact absurd HA.1 (by simp [Az.l0])
 have H := HA.1
 clear HA
 simp only [Az.l0] at H
 by_cases c7 : a < (u.length : Int)
 rotate_left
 ·rw [if_neg c7] at H
  have Q := decide_eq_false c7
  clear c7
  (first | rw [Q] | (simp only [E4, E']; rw [Q]) | skip)
  obtain rfl := Option.some.inj H
  go_wp2
  go_ret
  exact ⟨_, er_, pr_ d.1, pb_ HB.1⟩
 rw [if_pos c7] at H
 have Q := decide_eq_true c7
 clear c7
 (first | rw [Q] | (simp only [E4, E']; rw [Q]) | skip)
 by_cases c8 : 0 ≤ a
 rotate_left
 ·rw [if_neg c8] at H
  exact nn_ H
 rw [if_pos c8] at H
 have aW := decide_eq_true c8
 clear c8
 by_cases c9 : a < (u.length : Int)
 rotate_left
 ·rw [if_neg c9] at H
  exact nn_ H
 rw [if_pos c9] at H
 have aX := decide_eq_true c9
 clear c9
 obtain ⟨D, hy338⟩ : ∃ y_ : List Int, y_ = (([rd u a] : List Int)) := ⟨_, rfl⟩
 replace H : ((E5.f D).bind fun Z => ((Am.f k1 T Z.1 Z.2).bind fun ao => (if ao.2.2 = true then (Az.l0 k1 T v u (u.length : Int) (wrap64 (a + 1))) else (if v.length < 17592186044416 then (Az.l0 k1 T (v ++ [rd u a]) u (u.length : Int) (wrap64 (a + 1))) else (none))))) = some r := hb_ hy338 H
 have Y := Q_ hy338
 clear hy338
 obtain ⟨⟨B, U⟩, aI, H⟩ := bs_ H
 (try dsimp only at H)
 obtain ⟨⟨n, y, ai⟩, aJ, H⟩ := bs_ H
 (try dsimp only at H)
 have HS_ := Q_ H
 clear H
 have ab : 0 ≤ (a : Int) := dt_
 have ac : a < (u.length : Int) := dt_
 obtain ⟨aQ, ar, S⟩ := Kd.GG aq.1 a ab ac
 cases ar
 replace S := bt_ HB S
 replace ab := eq_true ab
 replace ac := eq_true ac
 go_upto_if 30 with (first | (refine Ie .i64 3 24 ([rd u a] : List Int) ?_; intro aZ a7 K hb; rw [← Y.1] at K; have _ := Q_ (Kd.B0 (pr_ d.1) (Kd.BJ K) hb); have _ := Q_ (Kd.BV (Kd.B8 K (Kd.Dj (pr_ d.1))) (AZ (pb_ HB.1))); have _ := Q_ (AD (pb_ HB.1) hb); clear d HB; rename_i d c HB; clear hb K; obtain ⟨F, I, au⟩ := Kd.Bo c.1; subst au) | (refine gk_ 85 25 Tryz.func85 #[.slice F D.length I] ?_; (with_reducible refine (E5.calls _ _ D B U _ ?side1 ?side2 aI.1).mono ?_); (case side1 => exact pc_ ((Kd.BH c.1).2.2)); (case side2 => exact (Kd.BH c.1).2.1); rintro e a8 ⟨a0, a1, rfl, E, V, hb⟩; refine ⟨_, rfl, ?_⟩; have _ := Q_ (Kd.B0 (pr_ d.1) (Kd.BJ E) hb); have _ := Q_ (Kd.B0 (pr_ c.1) (Kd.BJ E) hb); have _ := Q_ (Kd.BV (Kd.B8 (Kd.B8 E (Kd.Dj (pr_ d.1))) (Kd.Dj (pr_ c.1))) (AZ (pb_ HB.1))); have _ := Q_ (Kd.Fh (Kd.Hz (Kd.Hz V (Kd.Dj (pr_ d.1))) (Kd.Dj (pr_ c.1))) (AZ (pb_ HB.1))); have _ := Q_ (AD (pb_ HB.1) hb); clear d c HB; rename_i d c j l HB; (try clear hb E V); obtain ⟨G, J, av⟩ := Kd.Bo j.1; subst av; obtain ⟨ag, ah, aw⟩ := Kd.Gv l.1; subst aw) | (refine gk_ 84 26 Tryz.func84 #[.slice A0 T.length c0, .agg #[.slice G B.length J, .slice ag U.length ah]] ?_; (with_reducible refine (Am.calls k1 _ _ T _ _ B _ _ U n y ai _ (cb_ aN HB) aK.1 ?side3 ?side4 ?side5 ?side6 aJ.1).mono ?_); (case side3 => exact pc_ ((Kd.BH j.1).2.2)); (case side4 => exact (Kd.BH j.1).2.1); (case side5 => exact pc_ ((Kd.GX l.1).2.2)); (case side6 => exact (Kd.GX l.1).2.1); rintro e a9 ⟨a2, a3, rfl, E, V, hb⟩; refine ⟨_, rfl, ?_⟩; have _ := Q_ (Kd.B0 (pr_ d.1) (Kd.BJ E) hb); have _ := Q_ (Kd.B0 (pr_ c.1) (Kd.BJ E) hb); have _ := Q_ (Kd.B0 (pr_ j.1) (Kd.BJ E) hb); have _ := Q_ (Kd.Ea (Kd.JW (Kd.JW (Kd.RF (ps_ l.1) hb) (Kd.BJ E)) (Kd.L6 V)) (fun _ h_ => h_.1)); have _ := Q_ (Kd.BV (Kd.B8 (Kd.B8 (Kd.B8 E (Kd.Dj (pr_ d.1))) (Kd.Dj (pr_ c.1))) (Kd.Dj (pr_ j.1))) (AZ (pb_ HB.1))); have _ := Q_ (Kd.Fh (Kd.Hz (Kd.Hz (Kd.Hz (Kd.Hz V (Kd.Dj (pr_ d.1))) (Kd.Dj (pr_ c.1))) (Kd.Dj (pr_ j.1))) (Kd.Uf (ps_ l.1))) (AZ (pb_ HB.1))); have _ := Q_ (AD (pb_ HB.1) hb); clear d c j l HB; rename_i d c j l t x HB; (try clear hb E V)) | (refine bg_ 8 #[.slice none 0 0, .slice none 0 0] 53 ?_; intro m hg ba hbox hb; have _ := Q_ (Kd.Bv (pr_ d.1) hb); have _ := Q_ (Kd.Bv (pr_ c.1) hb); have _ := Q_ (Kd.Bv (pr_ j.1) hb); have _ := Q_ (Kd.FB (ps_ l.1) hb); have _ := Q_ (Kd.Bv (pr_ t.1) hb); have _ := Q_ (Kd.FB (ps_ x.1) hb); have _ := Q_ (AD (pb_ HB.1) hb); have i := Q_ (hbox); have ak := Q_ (gw_ (w := w) hg (pb_ HB.1)); have P := ak; clear d c j l t x HB; rename_i d c j l t x HB; clear hb hbox hg; obtain ⟨q, s, ax⟩ := Kd.Bo t.1; subst ax; have aU := Ew i.1; obtain ⟨z, A, ay⟩ := Kd.Gv x.1; subst ay))
 (try simp only [Act.put, s1_, s2_, s3_])
 have H := HS_.1
 clear HS_
 by_cases ae : ai = true
 ·subst ae
  rw [if_pos rfl] at H
  have H' := Q_ H
  clear H
  go_wp2
  go_roundg k1
  case measure => have := ad.1; omega
  case rel => exact ⟨(v), (wrap64 (a + 1)), el_, H', ⟨by have := ad.1; omega⟩, ⟨pr_ (Kd.Ax (H5 d.1 i.1) (fun _ hk => trivial))⟩, ⟨CM HB.1 P.1⟩⟩
 replace ae := bf_ ae
 subst ae
 rw [if_neg ff_] at H
 by_cases af : v.length < 17592186044416
 rotate_left
 ·rw [if_neg af] at H
  exact nn_ H
 rw [if_pos af] at H
 have am := Q_ af
 clear af
 obtain ⟨aj, hy355⟩ : ∃ y_ : List Int, y_ = (v ++ [rd u a]) := ⟨_, rfl⟩
 replace H : (Az.l0 k1 T aj u (u.length : Int) (wrap64 (a + 1))) = some r := hb_ hy355 H
 have an := Q_ hy355
 clear hy355
 have H' := Q_ H
 clear H
 go_wp2_with (first | ((with_reducible refine FO (b := .append) (xs := #[.tmp 31, .tmp 33]) rfl ?_); at_builtin; refine Kd.I4 (Kd.int .i64) (w0 := w) w.heap.size rfl (.tmp 31) (.tmp 33) 22 3 (.int .i64 0) 8 rfl Tryz.underlying22 HI rfl (by decide) (by omega) u5 v (rd u a) [.int .i64 (rd u a)] (fun k_ => some k_ ≠ (.slice F D.length I : Value).ownBlock ∧ some k_ ≠ (.slice G B.length J : Value).ownBlock ∧ some k_ ≠ (.slice q n.length s : Value).ownBlock) (fun _ => False) rfl (by first | (go_simp; done) | (go_simp; rfl)) ?aP (fun _ hk => hk.elim) ?aF ?aO ?aB ?aS ?aL ?_; (case aP => exact rfl); (case aB => exact (CM HB.1 P.1)); (case aF => exact (fun k_ hk => ⟨Kd.fresh' (Kd.Dj (pr_ (H5 c.1 i.1))) k_ hk, Kd.fresh' (Kd.Dj (pr_ (H5 j.1 i.1))) k_ hk, Kd.fresh' (Kd.Dj (pr_ (H5 t.1 i.1))) k_ hk⟩)); (case aO => exact (by (with_reducible repeat (first | apply Kd.Ef | apply Kd.Ed | apply Kd.EU)); exact Kd.Ax (Kd.CC (p := ⟨m, 1, none⟩) (Kd.CC (p := ⟨m, 0, none⟩) (Kd.Bi d.1 i.1 (by decide)) (fun _ hk => hk.2) (.slice q n.length s)) (fun _ hk => hk.2) (.slice z y.length A)) (fun _ hk => ⟨hk.1.1.1.2, ⟨hk.1.1.2, hk.1.2⟩⟩))); (case aS => exact (AZ (CM HB.1 P.1))); (case aL => have := am.1; omega); intro a4 bb ho hb hg hat; rw [← an.1] at ho; have _ := Q_ (Kd.Ho (ok := (fun k_ => some k_ ≠ (.slice G B.length J : Value).ownBlock ∧ some k_ ≠ (.slice q n.length s : Value).ownBlock)) (by (with_reducible repeat (first | apply Kd.Ef | apply Kd.Ed | apply Kd.EU)); exact Kd.Ax (Kd.CC (p := ⟨m, 1, none⟩) (Kd.CC (p := ⟨m, 0, none⟩) (Kd.Bi c.1 i.1 (by decide)) (fun _ hk => hk.2) (.slice q n.length s)) (fun _ hk => hk.2) (.slice z y.length A)) (fun _ hk => ⟨⟨hk.1.1.2, hk.1.2⟩, hk.1.1.1.2⟩)) hg hat); have _ := Q_ (Kd.Ho (ok := (fun k_ => some k_ ≠ (.slice F D.length I : Value).ownBlock ∧ some k_ ≠ (.slice q n.length s : Value).ownBlock)) (by (with_reducible repeat (first | apply Kd.Ef | apply Kd.Ed | apply Kd.EU)); exact Kd.Ax (Kd.CC (p := ⟨m, 1, none⟩) (Kd.CC (p := ⟨m, 0, none⟩) (Kd.Bi j.1 i.1 (by decide)) (fun _ hk => hk.2) (.slice q n.length s)) (fun _ hk => hk.2) (.slice z y.length A)) (fun _ hk => ⟨⟨hk.1.1.2, hk.1.2⟩, hk.1.1.1.2⟩)) hg hat); have _ := Q_ (Kd.JP (ok := (fun k_ => some k_ ≠ (.slice F D.length I : Value).ownBlock ∧ some k_ ≠ (.slice G B.length J : Value).ownBlock ∧ some k_ ≠ (.slice q n.length s : Value).ownBlock ∧ some k_ ≠ (.slice z y.length A : Value).ownBlock)) (by (with_reducible repeat (first | apply Kd.Gq | apply Kd.Fz | apply Kd.Gz)); exact Kd.Ea (Kd.GQ (p := ⟨m, 1, none⟩) (Kd.GQ (p := ⟨m, 0, none⟩) (Kd.IL l.1 i.1 (by decide)) (fun _ hk => hk.2) (.slice q n.length s)) (fun _ hk => hk.2) (.slice z y.length A)) (fun _ hk => ⟨⟨hk.1.1.1.2, ⟨hk.1.1.1.1.1, ⟨hk.1.1.2, hk.1.2⟩⟩⟩, hk.1.1.1.1.2⟩)) hg hat); have _ := Q_ (Kd.Ho (ok := (fun k_ => some k_ ≠ (.slice F D.length I : Value).ownBlock ∧ some k_ ≠ (.slice G B.length J : Value).ownBlock)) (by (with_reducible repeat (first | apply Kd.Ef | apply Kd.Ed | apply Kd.EU)); exact Kd.Ax (Kd.CC (p := ⟨m, 1, none⟩) (Kd.CC (p := ⟨m, 0, none⟩) (Kd.Bi t.1 i.1 (by decide)) (fun _ hk => hk.2) (.slice q n.length s)) (fun _ hk => hk.2) (.slice z y.length A)) (fun _ hk => ⟨⟨hk.1.1.2, hk.1.2⟩, hk.1.1.1.2⟩)) hg hat); have _ := Q_ (Kd.JP (ok := (fun k_ => some k_ ≠ (.slice F D.length I : Value).ownBlock ∧ some k_ ≠ (.slice G B.length J : Value).ownBlock ∧ some k_ ≠ (.slice ag U.length ah : Value).ownBlock ∧ some k_ ≠ (.slice q n.length s : Value).ownBlock)) (by (with_reducible repeat (first | apply Kd.Gq | apply Kd.Fz | apply Kd.Gz)); exact Kd.Ea (Kd.GQ (p := ⟨m, 1, none⟩) (Kd.GQ (p := ⟨m, 0, none⟩) (Kd.IL x.1 i.1 (by decide)) (fun _ hk => hk.2) (.slice q n.length s)) (fun _ hk => hk.2) (.slice z y.length A)) (fun _ hk => ⟨⟨hk.1.1.1.2, ⟨hk.1.1.2, ⟨hk.1.2, hk.1.1.1.1.1⟩⟩⟩, hk.1.1.1.1.2⟩)) hg hat); have _ := Q_ (Eb (g := m) (o := .cells #[.slice q n.length s, .slice z y.length A] 53 (0, 0)) (pp_ i.1) hg (Kd.JB d.1 i.1 (by decide))); have _ := Q_ (hb); have al := Q_ (ho); clear c j l t x i HB d; rename_i c j l t x i HB; clear ho hb hg hat))
 go_roundg k1
 case measure => have := ad.1; omega
 case rel => exact ⟨(aj), (wrap64 (a + 1)), el_, H', ⟨by have := ad.1; omega⟩, ⟨pr_ (Kd.Ax al.1 (fun _ hk => trivial))⟩, ⟨CM HB.1 P.1⟩⟩
def Dx.f (k : Nat) (c : Int) (a : List Int) : Option (Bool) := (Ad.f k a c).bind fun b => (some (!b))
theorem Dx.mono : ∀ a b k, LeO (Dx.f k a b) (Dx.f (k + 1) a b) := by
 intro a b k
 unfold Dx.f
 exact G7 Ad.mono
theorem Dx.calls (k : Nat) (m : Int) (B1 : Nat) (b : Option Addr) (c : Nat) (a : List Int) (r : Bool) (w : World) (hr1_0 : Kd.C (Kd.int .i64) w b a.length a) (g : a.length ≤ c) (hbv1 : w.heap[B1]? = some (.cells #[.slice b a.length c] 22 (0, 0))) (h : Dx.f k m a = some r) :
  Calls Tryz.prog 172 #[.int .i64 m, .pointer (some ⟨B1, 0, none⟩)] w fun e w' => e = .returned (.bool r) ∧ C' w w' := by
 have j := Q_ hr1_0
 have i := Q_ g
 clear hr1_0 g
 have l := Q_ hbv1
 clear hbv1
 unfold Dx.f at h
 have H := h
 clear h
 obtain ⟨d, p, H⟩ := bs_ H
 replace H : (some (!d)) = some r := H
 obtain rfl := Option.some.inj H
 have n : w.cell? ⟨B1, 0, none⟩ = some (.slice b a.length c) := (BM l.1 0).trans rfl
 have o := DI l.1 0
 go_enter Tryz.func172, Tryz.ntmps172
 go_wp2_with (first | (refine gk_ 83 6 Tryz.func83 #[.slice b a.length c, .int .i64 m] ?_; (with_reducible refine (Ad.calls k _ _ a m d _ (pc_ j.1) i.1 p.1).mono ?_); rintro e w' ⟨rfl, ⟨nd, rfl⟩⟩; refine ⟨_, rfl, ?_⟩))
 go_ret
 exact ⟨by first | rfl | (simp; done) | (simp [*]; done), by repeat (first | exact C'.refl _ | apply C'.step)⟩
def AP.l0 : Nat → List (S81) → List (S81) → Int → Int → List Int → Option ((List (S81)))
 | 0, _, _, _, _, _ => none
 | k + 1, h, e, d, a, b => if a < d then (if 0 ≤ a then (if a < (e.length : Int) then ((Dx.f k ((AX e a).f0) b).bind fun g => (if g = true then ((some (([] : List Int) : List Int)).bind fun c => (if c.length + ((AX e a).f1).length < 17592186044416 then (if h.length < 4398046511104 then (AP.l0 k (h ++ [(⟨(AX e a).f0, (c ++ ((AX e a).f1))⟩ : S81)]) e d (wrap64 (a + 1)) b) else (none)) else (none))) else (AP.l0 k h e d (wrap64 (a + 1)) b))) else (none)) else (none)) else (some h)
def AP.f (k : Nat) (b : List (S81)) (a : List Int) : Option ((List (S81))) := AP.l0 k (([] : List (S81))) b (b.length : Int) 0 a
theorem AP.mono_l : ∀ k, (∀ a b c d e, LeO (AP.l0 k a b c d e) (AP.l0 (k + 1) a b c d e))
 | 0 => fun _ _ _ _ _ r h => by simp [AP.l0] at h
 | k + 1 => by
  have ih0 := AP.mono_l k
  ·intro a b c d e
   unfold AP.l0
   exact H8 ih0 Dx.mono
theorem AP.mono : ∀ a b k, LeO (AP.f k a b) (AP.f (k + 1) a b) := by
 intro a b k
 have ih0 := AP.mono_l k
 unfold AP.f
 exact H8 ih0 Dx.mono
def AP.T6 : Bool × List (List Nat × List Nat) := (true, [([], []), ([], []), ([1], [1]), ([], []), ([], []), ([4], [4]), ([3, 5], [3, 5]), ([2, 6], [2, 6]), ([7], [7]), ([0, 8, 6], [0, 8]), ([9, 9, 0, 1, 2, 3, 4, 5, 6, 7, 8, 9], [0, 9])])
def AP.B6 : List Nat := [0, 0, 2, 0, 0, 16, 56, 126, 254, 511, 1023]
theorem AP.tab6 : rtab .any (opsOf Tryz.f122 6) = AP.T6 := by kernel_rfl
theorem AP.bits6 : Fa AP.T6.2 AP.B6 = true := by kernel_rfl
theorem AP.calls (k : Nat) (A0 : Option Addr) (c0 : Nat) (m : List (S81)) (B1 : Nat) (x : Option Addr) (y : Nat) (q : List Int) (r : List (S81)) (w : World) (hr0 : Kd.C k81 w A0 m.length m) (ar : m.length ≤ c0) (hr1_0 : Kd.C (Kd.int .i64) w x q.length q) (P : q.length ≤ y) (hbv1 : w.heap[B1]? = some (.cells #[.slice x q.length y] 22 (0, 0))) (h : AP.f k m q = some r) :
  Calls Tryz.prog 122 #[.slice A0 m.length c0, .func (.func 172) #[] #[.pointer (some ⟨B1, 0, none⟩)]] w fun e w' => ∃ v0_ : Value, e = .returned (v0_) ∧ Kd.S k81 81 w' w.heap.size (fun _ => True) v0_ r ∧ Below w.heap.size w w' := by
 have hu81 := Tryz.underlying81
 have az := Q_ hr0
 have aW := Q_ ar
 clear hr0 ar
 have ai := Q_ hr1_0
 have af := Q_ P
 clear hr1_0 P
 have l := Q_ hbv1
 clear hbv1
 have HB := Q_ (Below.refl w.heap.size w)
 unfold AP.f at h
 have H := h
 clear h
 obtain ⟨ac, hy359⟩ : ∃ y_ : List (S81), y_ = (([] : List (S81))) := ⟨_, rfl⟩
 replace H : (AP.l0 k ac m (m.length : Int) 0 q) = some r := hb_ hy359 H
 have M := Q_ hy359
 clear hy359
 have H' := Q_ H
 clear H
 go_enter Tryz.func122, Tryz.ntmps122
 go_wp2_with (first | ((with_reducible refine FP (N := 8) rfl ?_); refine Kd.Nn k81 _ 81 ?hg (N := 8) ?hd (xs := ([] : List (S81))) (inner := []) (ok := fun _ => True) (okp := fun _ => True) ?hr ?hp (fun _ hk => hk) trivial (Below.refl _ _) (Nat.le_refl _) (by simp) ?_; (case hd => rfl); (case hg => rfl); (case hr => first | (go_simp; done) | (go_simp; rfl)); (case hp => exact (Reps.none _ _)); intro aT w3 Q hb hg_ hnew_; clear hg_ hnew_; rw [← M.1] at Q; have _ := Q_ (Kd.Fh Q (AZ (pb_ HB.1))); have _ := Q_ (bb_ l.1 hb); have _ := Q_ (AD (pb_ HB.1) hb); clear l HB; rename_i ag l HB; clear hb Q))
 (try simp only [Act.put, s1_, s2_, s3_])
 go_loopg [5, 11] k (fun kq v5 aH w' => ∃ (t : List (S81)) (a : Int), aH = .int .i64 a ∧ Aside0 (AP.l0 kq t m (m.length : Int) a q = some r) ∧ Aside0 (kq ≤ k) ∧ Aside0 (Kd.S k81 81 w' w.heap.size (fun _ => True) v5 t) ∧ Aside0 (w'.heap[B1]? = some (.cells #[(.slice x q.length y)] 22 (0, 0))) ∧ Aside0 (Below w.heap.size w w'))
 case atStart => exact ⟨(ac), (0), el_, H', ⟨Nat.le_refl _⟩, ⟨ps_ ag.1⟩, ⟨pk_ l.1⟩, ⟨pb_ HB.1⟩⟩
 clear H'
 obtain ⟨t, a, rfl, HA, U, d, l, HB⟩ := hrel
 rcases gk with _ | k1
 ·exact absurd HA.1 (by simp [AP.l0])
 have H := HA.1
 clear HA
 simp only [AP.l0] at H
 by_cases c5 : a < (m.length : Int)
 rotate_left
 ·rw [if_neg c5] at H
  have ap := decide_eq_false c5
  clear c5
  obtain rfl := Option.some.inj H
  go_wp2
  go_ret
  exact ⟨_, er_, ps_ d.1, pb_ HB.1⟩
 rw [if_pos c5] at H
 have ap := decide_eq_true c5
 clear c5
 by_cases c6 : 0 ≤ a
 rotate_left
 ·rw [if_neg c6] at H
  exact nn_ H
 rw [if_pos c6] at H
 have aK := decide_eq_true c6
 clear c6
 by_cases c7 : a < (m.length : Int)
 rotate_left
 ·rw [if_neg c7] at H
  exact nn_ H
 rw [if_pos c7] at H
 have aM := decide_eq_true c7
 clear c7
 have HS_ := Q_ H
 clear H
 have R : 0 ≤ (a : Int) := dt_
 have T : a < (m.length : Int) := dt_
 obtain ⟨aA, i, j, aq, G, I, ao, L⟩ := Ip az.1 a R T
 cases aq
 replace G := bt_ HB G
 replace I := bt_ HB I
 replace R := eq_true R
 replace T := eq_true T
 go_upto_region 5 with (first | (refine bg_ 7 #[.int .i64 0, .slice none 0 0] 81 ?_; intro c hg w8 hbox hb; have _ := Q_ (Kd.FB (Kd.J5 (ps_ d.1) c (Nat.le_of_eq hg.symm)) hb); have _ := Q_ (bb_ l.1 hb); have _ := Q_ (AD (pb_ HB.1) hb); have b := Q_ (hbox); have ae := Q_ (gw_ (w := w) hg (pb_ HB.1)); have s := ae; have u := Q_ ((by rw [hg]; exact Nat.ne_of_lt (Hl (pk_ l.1)) : B1 ≠ c)); have F := Q_ u.1.symm; clear d l HB; rename_i d l HB; clear hb hbox hg; have aN := F.1; have aQ := u.1; have aC := Ew b.1))
 (try simp only [Act.put, s1_, s2_, s3_])
 have H := HS_.1
 clear HS_
 obtain ⟨ab, ay, H⟩ := bs_ H
 (try dsimp only at H)
 have HS_ := Q_ H
 clear H
 have aE := F.1
 have aG := u.1
 have aD := Ew b.1
 go_upto_if 18 with (first | (go_at_call 172; (with_reducible refine (Dx.calls k1 ((AX m a).f0) _ x y q ab _ ?side1 ?side2 ?side3 ay.1).mono ?_); (case side1 => exact Kd.Ec ai.1 (CM HB.1 s.1)); (case side2 => exact af.1); (case side3 => (with_reducible repeat (first | refine E2 ?_ _ | refine Bq ?_ | refine G3 ?_ _)); refine JU ?_ u.1 _; (with_reducible repeat (first | refine E2 ?_ _ | refine Bq ?_ | refine G3 ?_ _)); refine JU ?_ u.1 _; exact pk_ l.1); rintro e w' ⟨rfl, ⟨nd, rfl⟩⟩))
 (try simp only [Act.put, s1_, s2_, s3_])
 have H := HS_.1
 clear HS_
 by_cases V : ab = true
 rotate_left
 ·replace V := bf_ V
  subst V
  rw [if_neg ff_] at H
  have H' := Q_ H
  clear H
  go_wp2
  go_roundg k1
  case measure => have := U.1; omega
  case rel => exact ⟨(t), (wrap64 (a + 1)), el_, H', ⟨by have := U.1; omega⟩, ⟨by (with_reducible repeat (first | apply Kd.Gq | apply Kd.Fz | apply Kd.Gz)); exact Kd.Ea (Kd.GQ (p := ⟨c, 1, none⟩) (Kd.GQ (p := ⟨c, 0, none⟩) (Kd.Ea d.1 (fun k_ hk => (⟨hk, hk.2⟩ : _ ∧ k_ ≠ c))) (fun _ hk => hk.2) (.int .i64 ((AX m a).f0))) (fun _ hk => hk.2) (.slice i ((AX m a).f1).length j)) (fun _ hk => trivial)⟩, ⟨pp_ l.1⟩, ⟨CM HB.1 s.1⟩⟩
 subst V
 rw [if_pos rfl] at H
 obtain ⟨J, hy365⟩ : ∃ y_ : List Int, y_ = (([] : List Int)) := ⟨_, rfl⟩
 replace H : (if J.length + ((AX m a).f1).length < 17592186044416 then (if t.length < 4398046511104 then (AP.l0 k1 (t ++ [(⟨(AX m a).f0, (J ++ ((AX m a).f1))⟩ : S81)]) m (m.length : Int) (wrap64 (a + 1)) q) else (none)) else (none)) = some r := hb_ hy365 H
 have O := Q_ hy365
 clear hy365
 by_cases W : J.length + ((AX m a).f1).length < 17592186044416
 rotate_left
 ·rw [if_neg W] at H
  exact nn_ H
 rw [if_pos W] at H
 have aj := Q_ W
 clear W
 obtain ⟨B, hy368⟩ : ∃ y_ : List Int, y_ = (J ++ ((AX m a).f1)) := ⟨_, rfl⟩
 replace H : (if t.length < 4398046511104 then (AP.l0 k1 (t ++ [(⟨(AX m a).f0, B⟩ : S81)]) m (m.length : Int) (wrap64 (a + 1)) q) else (none)) = some r := hb_ hy368 H
 have al := Q_ hy368
 clear hy368
 by_cases X : t.length < 4398046511104
 rotate_left
 ·rw [if_neg X] at H
  exact nn_ H
 rw [if_pos X] at H
 have ak := Q_ X
 clear X
 obtain ⟨ad, hy371⟩ : ∃ y_ : List (S81), y_ = (t ++ [(⟨(AX m a).f0, B⟩ : S81)]) := ⟨_, rfl⟩
 replace H : (AP.l0 k1 ad m (m.length : Int) (wrap64 (a + 1)) q) = some r := hb_ hy371 H
 have am := Q_ hy371
 clear hy371
 have H' := Q_ H
 clear H
 try go_wp2
 have n0_ : Aside0 (Kd.S k81 81 ((w8.setCell ⟨c, 0, none⟩ (.int .i64 ((AX m a).f0))).setCell ⟨c, 1, none⟩ (.slice i ((AX m a).f1).length j)) w.heap.size (fun k_ => k_ ≠ c) u5 t) := ⟨by (with_reducible repeat (first | apply Kd.Gq | apply Kd.Fz | apply Kd.Gz)); exact Kd.Ea (Kd.GQ (p := ⟨c, 1, none⟩) (Kd.GQ (p := ⟨c, 0, none⟩) (Kd.Ea d.1 (fun k_ hk => (⟨hk, hk.2⟩ : _ ∧ k_ ≠ c))) (fun _ hk => hk.2) (.int .i64 ((AX m a).f0))) (fun _ hk => hk.2) (.slice i ((AX m a).f1).length j)) (fun _ hk => hk.1.2)⟩
 have n1_ : Aside0 (((w8.setCell ⟨c, 0, none⟩ (.int .i64 ((AX m a).f0))).setCell ⟨c, 1, none⟩ (.slice i ((AX m a).f1).length j)).heap[B1]? = some (.cells #[.slice x q.length y] 22 (0, 0))) := ⟨pp_ l.1⟩
 have n2_ : Aside0 (((w8.setCell ⟨c, 0, none⟩ (.int .i64 ((AX m a).f0))).setCell ⟨c, 1, none⟩ (.slice i ((AX m a).f1).length j)).heap[c]? = some (.cells #[.int .i64 ((AX m a).f0), .slice i ((AX m a).f1).length j] 81 (0, 0))) := ⟨pp_ b.1⟩
 have n3_ : Aside0 (Below w.heap.size w ((w8.setCell ⟨c, 0, none⟩ (.int .i64 ((AX m a).f0))).setCell ⟨c, 1, none⟩ (.slice i ((AX m a).f1).length j))) := ⟨CM HB.1 s.1⟩
 (try clear d)
 (try clear l)
 (try clear b)
 (try clear HB)
 generalize ((w8.setCell ⟨c, 0, none⟩ (.int .i64 ((AX m a).f0))).setCell ⟨c, 1, none⟩ (.slice i ((AX m a).f1).length j)) = z at n0_ n1_ n2_ n3_ ⊢
 (try (rw [show z.drewN nd = z.drewN nd from rfl]; replace n0_ := Q_ (Kd.Fz n0_.1 nd); replace n1_ := Q_ (E2 n1_.1 nd); replace n2_ := Q_ (E2 n2_.1 nd); replace n3_ := Q_ (D5 n3_.1 nd); generalize z.drewN nd = z at n0_ n1_ n2_ n3_ ⊢))
 have d := n0_
 have l := n1_
 have b := n2_
 have HB := n3_
 clear n0_ n1_ n2_ n3_
 (try (rw [JK z]; generalize hq_ : World.drewN z _ = z; have n0_ : Aside0 (Kd.S k81 81 z w.heap.size (fun k_ => k_ ≠ c) u5 t) := ⟨by rw [← hq_]; exact (ps_ d.1)⟩; have n1_ : Aside0 (z.heap[B1]? = some (.cells #[.slice x q.length y] 22 (0, 0))) := ⟨by rw [← hq_]; exact (pk_ l.1)⟩; have n2_ : Aside0 (z.heap[c]? = some (.cells #[.int .i64 ((AX m a).f0), .slice i ((AX m a).f1).length j] 81 (0, 0))) := ⟨by rw [← hq_]; exact (pk_ b.1)⟩; have n3_ : Aside0 (Below w.heap.size w z) := ⟨by rw [← hq_]; exact (CM HB.1 s.1)⟩; clear d l b HB hq_; have d := n0_; have l := n1_; have b := n2_; have HB := n3_; clear n0_ n1_ n2_ n3_))
 have _ := Q_ (Kd.Gz d.1)
 have _ := Q_ (Bq l.1)
 have _ := Q_ (Bq b.1)
 have _ := Q_ (Cm HB.1)
 clear d l b HB
 rename_i d l b HB
 refine sw_ (S := fun w' => w'.cell? ⟨c, 0, none⟩ = some (.int .i64 ((AX m a).f0)) ∧ w'.cell? ⟨c, 1, none⟩ = some (.slice i ((AX m a).f1).length j)) 11 AP.tab6 AP.bits6 (sb_ b.1) (fun hHeld HT_ HW_ => ?_)
 generalize z.drew = aY at d l b HB hHeld ⊢
 refine Ba 0 19 11 1 ?_
 refine Ba 1 20 11 3 ?_
 refine Ba 4 23 11 19 ?_
 refine E1 2 21 11 23 hHeld ?_
 refine E1 5 24 11 55 hHeld ?_
 refine on_ 3 (some 22) (tf_ 6 11) HT_ (fun K hK => ?_)
 refine JY .i64 3 22 ([] : List Int) ?_
 intro au aZ A hb
 rw [← O.1] at A
 have _ := Q_ (Kd.H2 (ps_ d.1) (Kd.BJ A) hb)
 have _ := Q_ (Kd.BV A (AZ (CM HB.1 s.1)))
 have _ := Q_ (bb_ l.1 hb)
 have _ := Q_ (bb_ b.1 hb)
 have _ := Q_ (AD (CM HB.1 s.1) hb)
 clear d l b HB
 rename_i d D l b HB
 clear hb A
 refine hK.out _ _ (sb_ b.1) (fun hHeld => ?_)
 clear hK K
 refine no_ (some 22) ?_
 refine on_ 6 (some 25) (tf_ 7 11) HT_ (fun K hK => ?_)
 refine Kd.D2 (Kd.int .i64) (w0 := w) w.heap.size (by rfl) (.tmp 22) (.tmp 24) 22 3 (.int .i64 0) 8 rfl Tryz.underlying22 HI rfl (by decide) (by omega) au J ((AX m a).f1) _ _ _ (fun _ => True) (fun _ => False) rfl rfl ?aO ?aR (fun _ _ h => h) (fun _ h => h.elim) ?aF ?aB ?aS ?aL ?_
 (case aR => exact cb_ L HB)
 (case aB => exact (CM HB.1 s.1))
 (case aF => exact (fun _ _ => trivial))
 (case aO => exact (pr_ D.1))
 (case aS => exact (AZ (CM HB.1 s.1)))
 (case aL => have := aj.1; omega)
 intro aU a0 ho hb hg hat
 rw [← al.1] at ho
 have _ := Q_ (Kd.JP (ok := (fun k_ => k_ ≠ c)) (ps_ d.1) hg hat)
 have _ := Q_ (Eb (g := B1) (o := .cells #[.slice x q.length y] 22 (0, 0)) (pk_ l.1) hg (Kd.JB D.1 l.1 (by decide)))
 have _ := Q_ (Eb (g := c) (o := .cells #[.int .i64 ((AX m a).f0), .slice i ((AX m a).f1).length j] 81 (0, 0)) (pk_ b.1) hg (Kd.JB D.1 b.1 (by decide)))
 have _ := Q_ (hb)
 have _ := Q_ (ho)
 clear d l b HB D
 rename_i d l b HB E
 clear ho hb hg hat
 obtain ⟨Y, Z, aa⟩ := Kd.Bo E.1
 (first | subst aa | (injection aa with f1_ f2_ f3_; have f4_ := f1_.symm; have f5_ := f3_.symm; clear f1_ f2_ f3_; subst f4_; subst f5_))
 refine hK.out _ _ (sb_ b.1) (fun hHeld => ?_)
 clear hK K
 refine no_ (some 25) ?_
 refine Ba 7 26 11 255 ?_
 refine on_ 8 (some 27) (tf_ 9 11) HT_ (fun K hK => ?_)
 refine Nz (w1 := ?_) (v := ?_) (by rfl) rfl ?_ ?_
 rotate_left 2
 ·go_simp
  constructor
  ·rfl
  ·rfl
 refine hK.out _ _ (sb_ (G3 b.1 _)) (fun hHeld => ?_)
 clear hK K
 refine no_ (some 27) ?_
 refine on_ 9 (some 28) (tf_ 10 11) HT_ (fun K hK => ?_)
 refine Kd.IR k81 (w0 := w) w.heap.size (by rfl) (.tmp 19) (.tmp 27) 51 81 (.agg #[(.int .i64 0), (.slice none 0 0)]) 32 rfl Tryz.underlying51 Jv rfl (by decide) (by omega) u5 t (⟨(AX m a).f0, B⟩ : S81) [.int .i64 ((AX m a).f0), .slice Y B.length Z] (fun k_ => k_ ≠ c) (fun k_ => some k_ = (.slice Y B.length Z : Value).ownBlock) rfl rfl ?aP (fun k_ hk_ => ((Kd.Ax (ok' := fun k_ => ((fun k_ => k_ ≠ c)) k_ ∧ some k_ ≠ (u5 : Value).ownBlock) (Kd.Bi (Kd.Eh (E.1) (Kd.IG d.1) (by decide)) b.1 (by decide)) (fun k_ hk => ⟨hk.2, hk.1.2⟩))).1 k_ hk_.symm) ?aF ?aO ?aB ?aS ?aL ?_
 (case aP => exact Jq _ _ _ (⟨(AX m a).f0, B⟩ : S81) (Kd.Ax (Kd.I' rfl (Kd.Ax (ok' := fun k_ => ((fun k_ => k_ ≠ c)) k_ ∧ some k_ ≠ (u5 : Value).ownBlock) (Kd.Bi (Kd.Eh (E.1) (Kd.IG d.1) (by decide)) b.1 (by decide)) (fun k_ hk => ⟨hk.2, hk.1.2⟩))) (fun _ h_ => h_)))
 (case aB => exact (CM HB.1 s.1))
 (case aF => exact (fun k_ hk => Kd.Gy (g := c) (o := .cells #[.int .i64 ((AX m a).f0), .slice i ((AX m a).f1).length j] 81 (0, 0)) (pk_ b.1) k_ hk))
 (case aO => exact (by (with_reducible repeat (first | apply Kd.Gq | apply Kd.Fz | apply Kd.Gz)); exact Kd.Ea d.1 (fun k_ hk => ⟨hk.1, fun e_ => hk.2 e_⟩)))
 (case aS => exact (AZ (CM HB.1 s.1)))
 (case aL => have := ak.1; omega)
 intro aV a1 ho hb hg hat
 rw [← am.1] at ho
 have _ := Q_ (Eb (g := B1) (o := .cells #[.slice x q.length y] 22 (0, 0)) (pk_ l.1) hg (Kd.UH d.1 l.1 (by decide)))
 have _ := Q_ (Eb (g := c) (o := .cells #[.int .i64 ((AX m a).f0), .slice i ((AX m a).f1).length j] 81 (0, 0)) (pk_ b.1) hg (Kd.Nv d.1 (fun _ hk => hk.1)))
 have _ := Q_ (hb)
 have _ := Q_ (ho)
 clear l b HB d E
 rename_i l b HB ah
 clear ho hb hg hat
 refine hK.out _ _ (sb_ b.1) (fun hHeld => ?_)
 clear hK K
 refine no_ (some 28) ?_
 refine Ba 10 5 11 2047 ?_
 refine G8 (E0 HT_.1 (by kernel_rfl)) ?_
 try go_wp2
 go_roundg k1
 case measure => have := U.1; omega
 case rel => exact ⟨(ad), (wrap64 (a + 1)), el_, H', ⟨by have := U.1; omega⟩, ⟨ps_ (Kd.Ea ah.1 (fun _ hk => trivial))⟩, ⟨pk_ l.1⟩, ⟨CM HB.1 s.1⟩⟩
def EG.f (k : Nat) (a : List Int) (b : List (S81)) (g : List Int) (h : List Int) : Option (List Int × (List (S81)) × Bool) := (BI.f k a g).bind fun c => ((BQ.f k a b).bind fun d => (if d = true then (if (c.length : Int) = 0 then (some (([] : List Int), ([] : List (S81)), false)) else ((AP.f k b h).bind fun e => (some (c, e, true)))) else (some (([] : List Int), ([] : List (S81)), false))))
theorem EG.mono : ∀ a b c d k, LeO (EG.f k a b c d) (EG.f (k + 1) a b c d) := by
 intro a b c d k
 unfold EG.f
 exact Jz BQ.mono AP.mono BI.mono
theorem EG.calls (k : Nat) (z : Option Addr) (A : Nat) (n : List Int) (D : Option Addr) (E : Nat) (o : List (S81)) (A1 : Option Addr) (c1 : Nat) (Y : List Int) (A2 : Option Addr) (c2 : Nat) (Z : List Int) (r1 : List Int) (r2 : List (S81)) (r3 : Bool) (w : World) (hr0_0 : Kd.C (Kd.int .i64) w z n.length n) (M : n.length ≤ A) (hr0_1 : Kd.C k81 w D o.length o) (O : o.length ≤ E) (hr1 : Kd.C (Kd.int .i64) w A1 Y.length Y) (ag : Y.length ≤ c1) (hr2 : Kd.C (Kd.int .i64) w A2 Z.length Z) (ah : Z.length ≤ c2) (h : EG.f k n o Y Z = some (r1, r2, r3)) :
  Calls Tryz.prog 149 #[.agg #[.slice z n.length A, .slice D o.length E], .slice A1 Y.length c1, .slice A2 Z.length c2] w fun e w' => ∃ v0_ v1_ : Value, e = .returned (.tuple #[.agg #[v0_, v1_], .bool r3]) ∧ Kd.R (Kd.int .i64) 3 w' w.heap.size (fun _ => True) v0_ r1 ∧ Kd.S k81 81 w' w.heap.size (fun k_ => some k_ ≠ (v0_ : Value).ownBlock) v1_ r2 ∧ Below w.heap.size w w' := by
 have hu53 := Tryz.underlying53
 have J := Q_ hr0_0
 have G := Q_ M
 clear hr0_0 M
 have K := Q_ hr0_1
 have I := Q_ O
 clear hr0_1 O
 have ar := Q_ hr1
 have ap := Q_ ag
 clear hr1 ag
 have au := Q_ hr2
 have aq := Q_ ah
 clear hr2 ah
 have HB := Q_ (Below.refl w.heap.size w)
 unfold EG.f at h
 have H := h
 clear h
 have HS_ := Q_ H
 clear H
 go_enter Tryz.func149, Tryz.ntmps149
 go_upto_region 1 with (first | ((with_reducible refine FP (N := 3) rfl ?_); (try (refine GK (by rfl) ?_; dsimp only)); refine bx_ 3 #[.slice z n.length A, .slice D o.length E] 53 ?_; intro ax hg w4 hbox hb; have _ := Q_ (AD (pb_ HB.1) hb); have a := Q_ (hbox); have aa := Q_ (gw_ (w := w) hg (pb_ HB.1)); have d := aa; clear HB; rename_i HB; clear hb hbox hg) | ((with_reducible refine FP (N := 5) rfl ?_); (try (refine GK (by rfl) ?_; dsimp only)); refine bx_ 5 #[.slice A2 Z.length c2] 22 ?_; intro ay hg w5 hbox hb; have _ := Q_ (bb_ a.1 hb); have _ := Q_ (AD (CM HB.1 d.1) hb); have c := Q_ (hbox); have ab := Q_ (gw_ (w := w) hg (CM HB.1 d.1)); have j := ab; have l := Q_ (nb_ hg a); have s := Q_ l.1.symm; clear a HB; rename_i a HB; clear hb hbox hg) | ((with_reducible refine FP (N := 6) rfl ?_); (try (refine GK (by rfl) ?_; dsimp only)); refine bx_ 6 #[.slice none 0 0, .slice none 0 0] 53 ?_; intro y hg w6 hbox hb; have _ := Q_ (bb_ a.1 hb); have _ := Q_ (bb_ c.1 hb); have _ := Q_ (AD (Dw HB.1 d.1 j.1) hb); have b := Q_ (hbox); have ac := Q_ (gw_ (w := w) hg (Dw HB.1 d.1 j.1)); have r := ac; have g := Q_ (nb_ hg a); have m := Q_ g.1.symm; have t := Q_ (nb_ hg c); have u := Q_ t.1.symm; clear a c HB; rename_i a c HB; clear hb hbox hg))
 (try simp only [Act.put, s1_, s2_, s3_])
 have H := HS_.1
 clear HS_
 obtain ⟨q, A7, H⟩ := bs_ H
 (try dsimp only at H)
 have HS_ := Q_ H
 clear H
 have a0 := l.1
 have a2 := s.1
 have a1 := g.1
 have a3 := m.1
 have az := Ew a.1
 go_upto_region 2 with (first | (refine gk_ 54 12 Tryz.func54 #[.slice z n.length A, .slice A1 Y.length c1] ?_; (with_reducible refine (BI.calls k _ _ n _ _ Y q _ (cb_ J HB) G.1 (cb_ ar HB) ap.1 A7.1).mono ?_); rintro e a7 ⟨a4, rfl, P, hb⟩; refine ⟨_, rfl, ?_⟩; have _ := Q_ (Kd.BV P (AZ (Gg HB.1 d.1 j.1 r.1))); have _ := Q_ (bb_ a.1 hb); have _ := Q_ (bb_ c.1 hb); have _ := Q_ (bb_ b.1 hb); have _ := Q_ (AD (Gg HB.1 d.1 j.1 r.1) hb); clear a c b HB; rename_i i a c b HB; (try clear hb P)))
 (try simp only [Act.put, s1_, s2_, s3_])
 have H := HS_.1
 clear HS_
 obtain ⟨Q, ad, H⟩ := bs_ H
 (try dsimp only at H)
 by_cases T : Q = true
 rotate_left
 ·replace T := bf_ T
  subst T
  rw [if_neg ff_] at H
  simp only [Option.some.injEq, Prod.mk.injEq] at H
  obtain ⟨rfl, rfl, rfl⟩ := H
  have aG := l.1
  have aQ := s.1
  have aH := g.1
  have aR := m.1
  have aA := Ew a.1
  go_wp2_with (first | (refine gk_ 23 14 Tryz.func23 #[.agg #[.slice z n.length A, .slice D o.length E]] ?_; (with_reducible refine (BQ.calls k _ _ n _ _ o false _ (cb_ J HB) G.1 (cb_ K HB) I.1 ad.1).mono ?_); rintro e a8 ⟨rfl, hb⟩; refine ⟨_, rfl, ?_⟩; have _ := Q_ (Kd.Bv (pr_ i.1) hb); have _ := Q_ (bb_ a.1 hb); have _ := Q_ (bb_ c.1 hb); have _ := Q_ (bb_ b.1 hb); have _ := Q_ (AD (Gg HB.1 d.1 j.1 r.1) hb); clear i a c b HB; rename_i i a c b HB; (try clear hb); have aI := u.1; have aS := t.1; have aB := Ew b.1))
  refine bodyPost_ret (HY rfl _ _ y 53 #[.slice none 0 0, .slice none 0 0] (0, 0) _ rfl (pp_ b.1) Tryz.underlying53 rfl (by kernel_rfl)) rfl ?_
  exact ⟨_, _, er_, nl_, by first | exact Kd.J' _ _ _ _ _ | exact Kd.J4 _ _ _ _ _ | exact Kd.KO _ _ _ _ _ | exact Kd.KX _ _ _ _ _ | exact Kd.I7 _ _ _ _ _, Gg HB.1 d.1 j.1 r.1⟩
 subst T
 rw [if_pos rfl] at H
 have HS_ := Q_ H
 clear H
 have aJ := l.1
 have aT := s.1
 have aK := g.1
 have aU := m.1
 have aC := Ew a.1
 go_upto_if 20 with (first | (refine gk_ 23 14 Tryz.func23 #[.agg #[.slice z n.length A, .slice D o.length E]] ?_; (with_reducible refine (BQ.calls k _ _ n _ _ o true _ (cb_ J HB) G.1 (cb_ K HB) I.1 ad.1).mono ?_); rintro e a9 ⟨rfl, hb⟩; refine ⟨_, rfl, ?_⟩; have _ := Q_ (Kd.Bv (pr_ i.1) hb); have _ := Q_ (bb_ a.1 hb); have _ := Q_ (bb_ c.1 hb); have _ := Q_ (bb_ b.1 hb); have _ := Q_ (AD (Gg HB.1 d.1 j.1 r.1) hb); clear i a c b HB; rename_i i a c b HB; (try clear hb); obtain ⟨U, W, ae⟩ := Kd.Bo i.1; subst ae))
 (try simp only [Act.put, s1_, s2_, s3_])
 have H := HS_.1
 clear HS_
 by_cases F : (q.length : Int) = 0
 ·rw [if_pos F] at H
  have v : ((q.length : Int) == 0) = true := beq_iff_eq.mpr F
  have x : ((q.length : Int) != 0) = false := bne_eq_false_iff_eq.mpr F
  clear F
  (first | rw [v] | (simp only [E4, E']; rw [v]) | rw [x] | (have c_ := x; rw [bne] at c_; rw [c_]; clear c_) | skip)
  simp only [Option.some.injEq, Prod.mk.injEq] at H
  obtain ⟨rfl, rfl, rfl⟩ := H
  have aL := m.1
  have aV := g.1
  have aM := u.1
  have aW := t.1
  have aD := Ew b.1
  go_wp2
  refine bodyPost_ret (HY rfl _ _ y 53 #[.slice none 0 0, .slice none 0 0] (0, 0) _ rfl (pp_ b.1) Tryz.underlying53 rfl (by kernel_rfl)) rfl ?_
  exact ⟨_, _, er_, nl_, by first | exact Kd.J' _ _ _ _ _ | exact Kd.J4 _ _ _ _ _ | exact Kd.KO _ _ _ _ _ | exact Kd.KX _ _ _ _ _ | exact Kd.I7 _ _ _ _ _, Gg HB.1 d.1 j.1 r.1⟩
 rw [if_neg F] at H
 have v : ((q.length : Int) == 0) = false := beq_eq_false_iff_ne.mpr F
 have x : ((q.length : Int) != 0) = true := bne_iff_ne.mpr F
 have aw : ¬ (q = []) := fun h_ => F (by rw [h_]; rfl)
 (first | rw [v] | (simp only [E4, E']; rw [v]) | rw [x] | (have c_ := x; rw [bne] at c_; rw [c_]; clear c_) | skip)
 obtain ⟨B, ao, H⟩ := bs_ H
 replace H : (some (q, B, true)) = some (r1, r2, r3) := H
 simp only [Option.some.injEq, Prod.mk.injEq] at H
 obtain ⟨rfl, rfl, rfl⟩ := H
 have aN := l.1
 have aX := s.1
 have aO := g.1
 have aY := m.1
 have aE := Ew a.1
 go_wp2_with (first | (go_at_call 122; (with_reducible refine (AP.calls k _ _ o _ A2 c2 Z B _ (cb_ K HB) I.1 (cb_ au HB) aq.1 ?side5 ao.1).mono ?_); (case side5 => exact pk_ c.1); rintro e ba ⟨a5, rfl, P, hb⟩; have _ := Q_ (Kd.Bv (pr_ i.1) hb); have _ := Q_ (Kd.Fh (Kd.Hz P (Kd.Dj (pr_ i.1))) (AZ (Gg HB.1 d.1 j.1 r.1))); have _ := Q_ (bb_ a.1 hb); have _ := Q_ (bb_ c.1 hb); have _ := Q_ (bb_ b.1 hb); have _ := Q_ (AD (Gg HB.1 d.1 j.1 r.1) hb); clear i a c b HB; rename_i i L a c b HB; (try clear hb P); obtain ⟨V, X, af⟩ := Kd.Gv L.1; subst af; have aP := u.1; have aZ := t.1; have aF := Ew b.1))
 refine bodyPost_ret (HY rfl _ _ y 53 #[.slice U q.length W, .slice V B.length X] (0, 0) _ rfl (pp_ b.1) Tryz.underlying53 rfl (by kernel_rfl)) rfl ?_
 exact ⟨_, _, er_, pr_ (Kd.Ax (H5 i.1 b.1) (fun _ hk => trivial)), ps_ (Kd.Ea (Kd.GQ (p := ⟨y, 1, none⟩) (Kd.GQ (p := ⟨y, 0, none⟩) (Kd.IL L.1 b.1 (by decide)) (fun _ hk => hk.2) (.slice U q.length W)) (fun _ hk => hk.2) (.slice V B.length X)) (fun _ hk => hk.1.2)), Gg HB.1 d.1 j.1 r.1⟩
def DZ.f (k : Nat) (e : List (S75)) (d : List Int) : Option (Bool) := (Ah.f k d).bind fun c => (if c = true then (if 1 ≤ (d.length : Int) then ((E5.f (d.take 1)).bind fun a => ((Am.f k e a.1 a.2).bind fun b => (some b.2.2))) else (none)) else (some false))
theorem DZ.mono : ∀ a b k, LeO (DZ.f k a b) (DZ.f (k + 1) a b) := by
 intro a b k
 unfold DZ.f
 exact H8 Ah.mono Am.mono
theorem DZ.calls (k : Nat) (W : Option Addr) (Z : Nat) (q : List (S75)) (A : Option Addr) (G : Nat) (g : List Int) (r : Bool) (w : World) (hr0 : Kd.C k75 w W q.length q) (R : q.length ≤ Z) (hr1 : Kd.C (Kd.int .i64) w A g.length g) (S : g.length ≤ G) (h : DZ.f k q g = some r) :
  Calls Tryz.prog 173 #[.slice W q.length Z, .slice A g.length G] w fun e w' => e = .returned (.bool r) ∧ Below w.heap.size w w' := by
 have hu53 := Tryz.underlying53
 have Y := Q_ hr0
 have X := Q_ R
 clear hr0 R
 have F := Q_ hr1
 have E := Q_ S
 clear hr1 S
 have HB := Q_ (Below.refl w.heap.size w)
 unfold DZ.f at h
 have H := h
 clear h
 obtain ⟨j, A3, H⟩ := bs_ H
 (try dsimp only at H)
 have HS_ := Q_ H
 clear H
 go_enter Tryz.func173, Tryz.ntmps173
 go_upto_if 9 with (first | (refine gk_ 47 8 Tryz.func47 #[.slice A g.length G] ?_; (with_reducible refine (Ah.calls k _ _ g j _ (pc_ F.1) E.1 A3.1).mono ?_); rintro e w' ⟨rfl, ⟨nd, rfl⟩⟩; refine ⟨_, rfl, ?_⟩))
 (try simp only [Act.put, s1_, s2_, s3_])
 have H := HS_.1
 clear HS_
 by_cases V : j = true
 rotate_left
 ·replace V := bf_ V
  subst V
  rw [if_neg ff_] at H
  obtain rfl := Option.some.inj H
  go_wp2
  go_ret
  exact ⟨er_, pb_ HB.1⟩
 subst V
 rw [if_pos rfl] at H
 by_cases I : 1 ≤ (g.length : Int)
 rotate_left
 ·rw [if_neg I] at H
  exact nn_ H
 rw [if_pos I] at H
 have ae := eq_true I
 have af : decide (1 ≤ (g.length : Int)) = true := decide_eq_true I
 clear I
 obtain ⟨⟨n, o⟩, A6, H⟩ := bs_ H
 (try dsimp only at H)
 obtain ⟨⟨T, U, s⟩, A7, H⟩ := bs_ H
 replace H : (some s) = some r := H
 obtain rfl := Option.some.inj H
 obtain ⟨i08, p, _, hsz8, _⟩ := info_parts HI
 obtain ⟨hcut8, hA8, hC8⟩ := Iz (P := Tryz.prog) (Value.int .i64) 0 22 3 .i64 Tryz.underlying22 p hsz8 A G g 1 (by omega) dt_ E.1
 have y := Q_ (Kd.IZ (h1 := fun _ => rfl) (hA8 _ (Kd.IY F.1)))
 have x := Q_ hC8
 clear hA8 hC8 p hsz8
 go_wp2_with (first | ((with_reducible refine I6 (f := 85) rfl ?_); refine WC (some 14) rfl rfl Tryz.func85 (by kernel_rfl) rfl #[.slice A (g.take 1).length G] rfl (by (try simp only [List.map_toArray, List.map_cons, List.map_nil]); first | done | (rw [show (g.take 1).length = 1 from (by rw [List.length_take]; have h_ : (1 : Int) ≤ (g.length : Int) := dt_; omega)] <;> rfl) | rfl | (simp only [List.length_drop, List.length_take]; rfl)) ?_; (with_reducible refine (E5.calls _ _ (g.take 1) n o _ ?side1 x.1 A6.1).mono ?_); (case side1 => exact pc_ (Kd.Ec y.1 (pb_ HB.1))); rintro e w9 ⟨ai, aj, rfl, i, l, hb⟩; refine ⟨_, rfl, ?_⟩; have _ := Q_ (Kd.BV i (AZ (pb_ HB.1))); have _ := Q_ (Kd.Fh l (AZ (pb_ HB.1))); have _ := Q_ (AD (pb_ HB.1) hb); clear HB; rename_i a b HB; (try clear hb i l); obtain ⟨B, J, L⟩ := Kd.Bo a.1; subst L; obtain ⟨D, K, M⟩ := Kd.Gv b.1; subst M) | (refine gk_ 84 15 Tryz.func84 #[.slice W q.length Z, .agg #[.slice B n.length J, .slice D o.length K]] ?_; (with_reducible refine (Am.calls k _ _ q _ _ n _ _ o T U s _ (cb_ Y HB) X.1 ?side3 ?side4 ?side5 ?side6 A7.1).mono ?_); (case side3 => exact pc_ ((Kd.BH a.1).2.2)); (case side4 => exact (Kd.BH a.1).2.1); (case side5 => exact pc_ ((Kd.GX b.1).2.2)); (case side6 => exact (Kd.GX b.1).2.1); rintro e ap ⟨ak, al, rfl, i, l, hb⟩; refine ⟨_, rfl, ?_⟩; have _ := Q_ (Kd.B0 (pr_ a.1) (Kd.BJ i) hb); have _ := Q_ (Kd.Ea (Kd.JW (Kd.JW (Kd.RF (ps_ b.1) hb) (Kd.BJ i)) (Kd.L6 l)) (fun _ h_ => h_.1)); have _ := Q_ (Kd.BV (Kd.B8 i (Kd.Dj (pr_ a.1))) (AZ (pb_ HB.1))); have _ := Q_ (Kd.Fh (Kd.Hz (Kd.Hz l (Kd.Dj (pr_ a.1))) (Kd.Uf (ps_ b.1))) (AZ (pb_ HB.1))); have _ := Q_ (AD (pb_ HB.1) hb); clear a b HB; rename_i a b c d HB; (try clear hb i l)) | (refine bg_ 5 #[.slice none 0 0, .slice none 0 0] 53 ?_; intro aa hg aq hbox hb; have _ := Q_ (Kd.Bv (pr_ a.1) hb); have _ := Q_ (Kd.FB (ps_ b.1) hb); have _ := Q_ (Kd.Bv (pr_ c.1) hb); have _ := Q_ (Kd.FB (ps_ d.1) hb); have _ := Q_ (AD (pb_ HB.1) hb); have t := Q_ (hbox); have v := Q_ (gw_ (w := w) hg (pb_ HB.1)); have u := v; clear a b c d HB; rename_i a b c d HB; clear hb hbox hg; obtain ⟨ac, ag, O⟩ := Kd.Bo c.1; subst O; have ab := Ew t.1; obtain ⟨ad, ah, Q⟩ := Kd.Gv d.1; subst Q))
 go_ret
 exact ⟨er_, CM HB.1 u.1⟩
mutual
def Au.j0 : Nat → List (S75) → List Int → List (S81) → List Int → Bool → Option (List Int)
 | 0, _, _, _, _, _ => none
 | k + 1, d, e, b, c, a => if a = true then (some c) else (Au.l0 k d e c b (b.length : Int) 0)
def Au.l0 : Nat → List (S75) → List Int → List Int → List (S81) → Int → Int → Option (List Int)
 | 0, _, _, _, _, _, _ => none
 | k + 1, h, e, g, b, c, a => if a < c then (if 0 ≤ a then (if a < (b.length : Int) then (if 1 ≤ (e.length : Int) then ((Cj.f k (e.take 1) (([(⟨(AX b a).f0, (AX b a).f1⟩ : S81)] : List (S81))) h).bind fun d => (if d = true then (Au.l0 k h e g b c (wrap64 (a + 1))) else (if g.length < 17592186044416 then (Au.l0 k h e (g ++ [(AX b a).f0]) b c (wrap64 (a + 1))) else (none)))) else (none)) else (none)) else (none)) else (some g)
end
def Au.f (k : Nat) (d : List (S75)) (e : List Int) (g : List (S81)) : Option (List Int) := (some (([] : List Int) : List Int)).bind fun a => ((DZ.f k d e).bind fun b => (if b = true then ((BE.f k g).bind fun c => (Au.j0 k d e g a (!c))) else (Au.j0 k d e g a true)))
theorem Au.mono_l : ∀ k, (∀ a b c d e, LeO (Au.j0 k a b c d e) (Au.j0 (k + 1) a b c d e)) ∧ (∀ a b c d e f, LeO (Au.l0 k a b c d e f) (Au.l0 (k + 1) a b c d e f))
 | 0 => ⟨fun _ _ _ _ _ r h => by simp [Au.j0] at h, fun _ _ _ _ _ _ r h => by simp [Au.l0] at h⟩
 | k + 1 => by
  obtain ⟨ih0, ih1⟩ := Au.mono_l k
  refine ⟨?_, ?_⟩
  ·intro a b c d e
   unfold Au.j0
   exact OJ ih0 ih1 BE.mono DZ.mono Cj.mono
  ·intro a b c d e f
   unfold Au.l0
   exact OJ ih0 ih1 BE.mono DZ.mono Cj.mono
theorem Au.mono : ∀ a b c k, LeO (Au.f k a b c) (Au.f (k + 1) a b c) := by
 intro a b c k
 obtain ⟨ih0, ih1⟩ := Au.mono_l k
 unfold Au.f
 exact OJ ih0 ih1 BE.mono DZ.mono Cj.mono
def Au.T7 : Bool × List (List Nat × List Nat) := (true, [([], []), ([0], [0]), ([], []), ([2], [2]), ([1, 3], [1, 3]), ([], []), ([4, 5], [4, 5]), ([6], [6])])
def Au.B7 : List Nat := [0, 1, 0, 4, 15, 0, 63, 127]
theorem Au.tab7 : rtab .any (opsOf Tryz.f150 7) = Au.T7 := by kernel_rfl
theorem Au.bits7 : Fa Au.T7.2 Au.B7 = true := by kernel_rfl
theorem Au.calls (k : Nat) (A0 : Option Addr) (c0 : Nat) (B : List (S75)) (A1 : Option Addr) (c1 : Nat) (z : List Int) (P2_ : Nat → Prop) (A2 : Option Addr) (c2 : Nat) (q : List (S81)) (r : List Int) (w : World) (hr0 : Kd.C k75 w A0 B.length B) (aR : B.length ≤ c0) (hr1 : Kd.C (Kd.int .i64) w A1 z.length z) (aT : z.length ≤ c1) (a4 : Kd.V k81 81 w w.heap.size (fun k_ => P2_ k_) (.slice A2 q.length c2) q) (h : Au.f k B z q = some r) :
  Calls Tryz.prog 150 #[.slice A0 B.length c0, .slice A1 z.length c1, .slice A2 q.length c2] w fun e w' => ∃ v0_ : Value, e = .returned (v0_) ∧ Kd.R (Kd.int .i64) 3 w' w.heap.size (fun k_ => (w.heap.size ≤ k_)) v0_ r ∧ Below w.heap.size w w' := by
 have hu81 := Tryz.underlying81
 have hu53 := Tryz.underlying53
 have ax := Q_ hr0
 have aq := Q_ aR
 clear hr0 aR
 have ay := Q_ hr1
 have ar := Q_ aT
 clear hr1 aT
 have x := Q_ (show Kd.V k81 81 w w.heap.size (fun k_ => (P2_ k_ ∨ w.heap.size ≤ k_)) (.slice A2 q.length c2) q from Kd.IJ a4 (fun k_ hk => .inl hk))
 have HB := Q_ (Below.refl w.heap.size w)
 unfold Au.f at h
 have H := h
 clear h
 obtain ⟨A, hy400⟩ : ∃ y_ : List Int, y_ = (([] : List Int)) := ⟨_, rfl⟩
 replace H : ((DZ.f k B z).bind fun G => (if G = true then ((BE.f k q).bind fun E => (Au.j0 k B z q A (!E))) else (Au.j0 k B z q A true))) = some r := hb_ hy400 H
 have Z := Q_ hy400
 clear hy400
 have au := Q_ H
 clear H
 go_enter Tryz.func150, Tryz.ntmps150
 go_upto_region 2 with (first | (refine Ie .i64 3 10 ([] : List Int) ?_; intro an w5 U hb; rw [← Z.1] at U; have _ := Q_ (Kd.II (by (with_reducible repeat (first | apply Kd.F6 | apply Kd.F7 | apply Kd.G1)); exact x.1) (Kd.BJ U) hb); have s := Q_ (Kd.BV (Kd.HN (M := fun k_ => (w.heap.size ≤ k_)) U (AZ (pb_ HB.1)) (fun k_ h_ => h_)) (AZ (pb_ HB.1))); have _ := Q_ (AD (pb_ HB.1) hb); clear x HB; rename_i x HB; clear hb U))
 (try simp only [Act.put, s1_, s2_, s3_])
 go_cut [19] (fun a5 wc => ∃ (kq : Nat) (F : Bool), a5 = .bool F ∧ Aside0 (Au.j0 kq B z q A F = some r) ∧ Aside0 (kq ≤ k) ∧ Aside0 (Kd.V k81 81 wc w.heap.size (fun k_ => (P2_ k_ ∨ w.heap.size ≤ k_) ∧ some k_ ≠ (an : Value).ownBlock) (.slice A2 q.length c2) q) ∧ Aside0 (Kd.R (Kd.int .i64) 3 wc w.heap.size (fun k_ => (w.heap.size ≤ k_)) an A) ∧ Aside0 (Below w.heap.size w wc))
 case first =>
  have H := au.1
  clear au
  obtain ⟨G, A7, H⟩ := bs_ H
  (try dsimp only at H)
  by_cases c8 : G = true
  rotate_left
  ·replace c8 := bf_ c8
   subst c8
   rw [if_neg ff_] at H
   have H' := Q_ H
   clear H
   go_wp2_with (first | (refine gk_ 173 13 Tryz.func173 #[.slice A0 B.length c0, .slice A1 z.length c1] ?_; (with_reducible refine (DZ.calls k _ _ B _ _ z false _ (cb_ ax HB) aq.1 (cb_ ay HB) ar.1 A7.1).mono ?_); rintro e w9 ⟨rfl, hb⟩; refine ⟨_, rfl, ?_⟩; have _ := Q_ (Kd.JC (by (with_reducible repeat (first | apply Kd.F6 | apply Kd.F7 | apply Kd.G1)); exact x.1) hb); have _ := Q_ (Kd.Bv (pr_ s.1) hb); have _ := Q_ (AD (pb_ HB.1) hb); clear x s HB; rename_i x s HB; (try clear hb)))
   go_meet
   case rel => exact ⟨_, (true), el_, H', ⟨by first | omega | exact Nat.le_refl _⟩, ⟨by (with_reducible repeat (first | apply Kd.F6 | apply Kd.F7 | apply Kd.G1)); exact x.1⟩, ⟨pr_ (Kd.Ax s.1 (fun _ hk => hk.1))⟩, ⟨pb_ HB.1⟩⟩
  subst c8
  rw [if_pos rfl] at H
  obtain ⟨E, aW, H⟩ := bs_ H
  replace H : (Au.j0 k B z q A (!E)) = some r := H
  have H' := Q_ H
  clear H
  go_wp2_with (first | (refine gk_ 173 13 Tryz.func173 #[.slice A0 B.length c0, .slice A1 z.length c1] ?_; (with_reducible refine (DZ.calls k _ _ B _ _ z true _ (cb_ ax HB) aq.1 (cb_ ay HB) ar.1 A7.1).mono ?_); rintro e bd ⟨rfl, hb⟩; refine ⟨_, rfl, ?_⟩; have _ := Q_ (Kd.JC (by (with_reducible repeat (first | apply Kd.F6 | apply Kd.F7 | apply Kd.G1)); exact x.1) hb); have _ := Q_ (Kd.Bv (pr_ s.1) hb); have _ := Q_ (AD (pb_ HB.1) hb); clear x s HB; rename_i x s HB; (try clear hb)) | (go_at_call 57; (with_reducible refine (BE.calls k _ _ q E _ ?side1 ?side2 aW.1).mono ?_); (case side1 => exact pc_ ((Kd.Ii x.1).2.2)); (case side2 => exact (Kd.Ii x.1).2.1); rintro e be ⟨rfl, hb⟩; have _ := Q_ (Kd.JC (by (with_reducible repeat (first | apply Kd.F6 | apply Kd.F7 | apply Kd.G1)); exact x.1) hb); have _ := Q_ (Kd.Bv (pr_ s.1) hb); have _ := Q_ (AD (pb_ HB.1) hb); clear x s HB; rename_i x s HB; (try clear hb)))
  go_meet
  case rel => exact ⟨_, (!E), el_, H', ⟨by first | omega | exact Nat.le_refl _⟩, ⟨by (with_reducible repeat (first | apply Kd.F6 | apply Kd.F7 | apply Kd.G1)); exact x.1⟩, ⟨pr_ (Kd.Ax s.1 (fun _ hk => hk.1))⟩, ⟨pb_ HB.1⟩⟩
 clear au
 obtain ⟨kq, F, rfl, HA, af, aM, m, HB⟩ := hcut
 rcases kq with _ | kj3
 ·exact absurd HA.1 (by simp [Au.j0])
 have H := HA.1
 clear HA
 simp only [Au.j0] at H
 by_cases ah : F = true
 ·subst ah
  rw [if_pos rfl] at H
  obtain rfl := Option.some.inj H
  go_wp2
  go_ret
  exact ⟨_, er_, pr_ m.1, pb_ HB.1⟩
 replace ah := bf_ ah
 subst ah
 rw [if_neg ff_] at H
 have H' := Q_ H
 clear H
 go_wp2
 go_loopg [7, 23] kj3 (fun kq v7 a6 w' => ∃ (v : List Int) (a : Int), a6 = .int .i64 a ∧ Aside0 (Au.l0 kq B z v q (q.length : Int) a = some r) ∧ Aside0 (kq ≤ kj3) ∧ Aside0 (Kd.R (Kd.int .i64) 3 w' w.heap.size (fun k_ => (w.heap.size ≤ k_)) v7 v) ∧ Aside0 (Kd.V k81 81 w' w.heap.size (fun k_ => (P2_ k_ ∨ w.heap.size ≤ k_) ∧ some k_ ≠ (v7 : Value).ownBlock) (.slice A2 q.length c2) q) ∧ Aside0 (Below w.heap.size w w'))
 case atStart => exact ⟨(A), (0), el_, H', ⟨Nat.le_refl _⟩, ⟨pr_ m.1⟩, ⟨by (with_reducible repeat (first | apply Kd.F6 | apply Kd.F7 | apply Kd.G1)); exact aM.1⟩, ⟨pb_ HB.1⟩⟩
 clear H'
 obtain ⟨v, a, rfl, HA, ag, m, i, HB⟩ := hrel
 rcases gk with _ | k2
 ·exact absurd HA.1 (by simp [Au.l0])
 have H := HA.1
 clear HA
 simp only [Au.l0] at H
 by_cases T : a < (q.length : Int)
 rotate_left
 ·rw [if_neg T] at H
  have aD := decide_eq_false T
  clear T
  obtain rfl := Option.some.inj H
  go_wp2
  go_ret
  exact ⟨_, er_, pr_ m.1, pb_ HB.1⟩
 rw [if_pos T] at H
 have aD := decide_eq_true T
 clear T
 by_cases ai : 0 ≤ a
 rotate_left
 ·rw [if_neg ai] at H
  exact nn_ H
 rw [if_pos ai] at H
 have aY := decide_eq_true ai
 clear ai
 by_cases aj : a < (q.length : Int)
 rotate_left
 ·rw [if_neg aj] at H
  exact nn_ H
 rw [if_pos aj] at H
 have aZ := decide_eq_true aj
 clear aj
 have HS_ := Q_ H
 clear H
 have L : 0 ≤ (a : Int) := dt_
 have O : a < (q.length : Int) := dt_
 obtain ⟨aC, j, l, aQ, aU, ae, aK, y⟩ := Ip (Kd.Ii i.1).2.2 a L O
 cases aQ
 obtain ⟨ce405, hce405, hMe405, J⟩ := Kd.ZD i.1 z81 a L (by first | exact O | exact dt_ | (have e_ := (Kd.Ii i.1).1; omega))
 obtain ⟨ua405_1, uc405_1, rfl, ul405_1, ge405_1⟩ := UI hMe405
 have hv405_1 := J 1 _ rfl
 rw [Jf _ _ 1 (by omega)] at hv405_1
 replace hv405_1 := Option.some.inj (hv405_1.symm.trans ae)
 injection hv405_1 with hva_ hvn_ hvc_
 rw [hva_] at ge405_1
 rw [hvc_] at ul405_1
 have HL405_1 := Q_ (show Kd.V (Kd.int .i64) 3 _ w.heap.size _ _ ((AX q a).f1) from Kd.Wq ul405_1 ge405_1)
 clear hva_ hvn_ hvc_ ge405_1 ul405_1
 clear J hce405
 replace L := eq_true L
 replace O := eq_true O
 go_upto_region 7 with (first | (refine bg_ 9 #[.int .i64 0, .slice none 0 0] 81 ?_; intro c hg W hbox hb; have _ := Q_ (Kd.Bv (pr_ m.1) hb); have _ := Q_ (Kd.JC (Kd.OC (by (with_reducible repeat (first | apply Kd.F6 | apply Kd.F7 | apply Kd.G1)); exact i.1) c (Nat.le_of_eq hg.symm)) hb); have _ := Q_ (Kd.JC (Kd.OC (by (with_reducible repeat (first | apply Kd.F6 | apply Kd.F7 | apply Kd.G1)); exact HL405_1.1) c (Nat.le_of_eq hg.symm)) hb); have _ := Q_ (Kd.Ec (by repeat (first | (with_reducible exact y.1) | (with_reducible refine Kd.PG ?_ _) | (with_reducible refine Kd.PV ?_ _) | (with_reducible refine Kd.TJ ?_) | exact y.1)) hb); have _ := Q_ (AD (pb_ HB.1) hb); have d := Q_ (hbox); have ap := Q_ (gw_ (w := w) hg (pb_ HB.1)); have t := ap; clear m i HL405_1 y HB; rename_i m i HL405_1 y HB; clear hb hbox hg; have a2 := Ew d.1))
 (try simp only [Act.put, s1_, s2_, s3_])
 have H := HS_.1
 clear HS_
 by_cases ab : 1 ≤ (z.length : Int)
 rotate_left
 ·rw [if_neg ab] at H
  exact nn_ H
 rw [if_pos ab] at H
 have a0 := eq_true ab
 have a1 : decide (1 ≤ (z.length : Int)) = true := decide_eq_true ab
 clear ab
 obtain ⟨I, hy408⟩ : ∃ y_ : List (S81), y_ = (([(⟨(AX q a).f0, (AX q a).f1⟩ : S81)] : List (S81))) := ⟨_, rfl⟩
 replace H : ((Cj.f k2 (z.take 1) I B).bind fun Q => (if Q = true then (Au.l0 k2 B z v q (q.length : Int) (wrap64 (a + 1))) else (if v.length < 17592186044416 then (Au.l0 k2 B z (v ++ [(AX q a).f0]) q (q.length : Int) (wrap64 (a + 1))) else (none)))) = some r := hb_ hy408 H
 have aa := Q_ hy408
 clear hy408
 obtain ⟨Q, aX, H⟩ := bs_ H
 (try dsimp only at H)
 have HS_ := Q_ H
 clear H
 try go_wp2
 have n0_ : Aside0 (Kd.R (Kd.int .i64) 3 ((W.setCell ⟨c, 0, none⟩ (.int .i64 ((AX q a).f0))).setCell ⟨c, 1, none⟩ (.slice j ((AX q a).f1).length l)) w.heap.size (fun k_ => (w.heap.size ≤ k_)) u7 v) := ⟨pr_ (H5 m.1 d.1)⟩
 have n1_ : Aside0 (Kd.V k81 81 ((W.setCell ⟨c, 0, none⟩ (.int .i64 ((AX q a).f0))).setCell ⟨c, 1, none⟩ (.slice j ((AX q a).f1).length l)) w.heap.size (fun k_ => (P2_ k_ ∨ w.heap.size ≤ k_) ∧ some k_ ≠ (u7 : Value).ownBlock ∧ k_ ≠ c) (.slice (some aC) q.length c2) q) := ⟨by (with_reducible repeat (first | apply Kd.F6 | apply Kd.F7 | apply Kd.G1)); exact Kd.IJ (Kd.UC (p := ⟨c, 1, none⟩) (Kd.UC (p := ⟨c, 0, none⟩) (Kd.IJ i.1 (fun k_ hk => (⟨hk, hk.2⟩ : _ ∧ k_ ≠ c))) (fun _ hk => hk.2) (.int .i64 ((AX q a).f0))) (fun _ hk => hk.2) (.slice j ((AX q a).f1).length l)) (fun _ hk => ⟨hk.1.1.1, ⟨hk.1.1.2, hk.1.2⟩⟩)⟩
 have n2_ : Aside0 (Kd.V (Kd.int .i64) 3 ((W.setCell ⟨c, 0, none⟩ (.int .i64 ((AX q a).f0))).setCell ⟨c, 1, none⟩ (.slice j ((AX q a).f1).length l)) w.heap.size (fun k_ => (P2_ k_ ∨ w.heap.size ≤ k_) ∧ some k_ ≠ (u7 : Value).ownBlock ∧ k_ ≠ c) (.slice j ((AX q a).f1).length l) ((AX q a).f1)) := ⟨by (with_reducible repeat (first | apply Kd.F6 | apply Kd.F7 | apply Kd.G1)); exact Kd.IJ (Kd.UC (p := ⟨c, 1, none⟩) (Kd.UC (p := ⟨c, 0, none⟩) (Kd.IJ HL405_1.1 (fun k_ hk => (⟨hk, hk.2⟩ : _ ∧ k_ ≠ c))) (fun _ hk => hk.2) (.int .i64 ((AX q a).f0))) (fun _ hk => hk.2) (.slice j ((AX q a).f1).length l)) (fun _ hk => ⟨hk.1.1.1, ⟨hk.1.1.2, hk.1.2⟩⟩)⟩
 have n3_ : Aside0 (((W.setCell ⟨c, 0, none⟩ (.int .i64 ((AX q a).f0))).setCell ⟨c, 1, none⟩ (.slice j ((AX q a).f1).length l)).heap[c]? = some (.cells #[.int .i64 ((AX q a).f0), .slice j ((AX q a).f1).length l] 81 (0, 0))) := ⟨pp_ d.1⟩
 have n4_ : Aside0 (Below w.heap.size w ((W.setCell ⟨c, 0, none⟩ (.int .i64 ((AX q a).f0))).setCell ⟨c, 1, none⟩ (.slice j ((AX q a).f1).length l))) := ⟨CM HB.1 t.1⟩
 (try clear m)
 (try clear i)
 (try clear HL405_1)
 (try clear d)
 (try clear HB)
 generalize ((W.setCell ⟨c, 0, none⟩ (.int .i64 ((AX q a).f0))).setCell ⟨c, 1, none⟩ (.slice j ((AX q a).f1).length l)) = a7 at n0_ n1_ n2_ n3_ n4_ ⊢
 have m := n0_
 have i := n1_
 have HL405_1 := n2_
 have d := n3_
 have HB := n4_
 clear n0_ n1_ n2_ n3_ n4_
 have _ := Q_ (Kd.EU m.1)
 have _ := Q_ (Kd.G1 i.1)
 have _ := Q_ (Kd.G1 HL405_1.1)
 have _ := Q_ (Bq d.1)
 have _ := Q_ (Cm HB.1)
 clear m i HL405_1 d HB
 rename_i m i HL405_1 d HB
 obtain ⟨i023, ad, _, hsz23, _⟩ := info_parts HI
 obtain ⟨hcut23, hA23, hC23⟩ := Iz (P := Tryz.prog) (Value.int .i64) 0 22 3 .i64 Tryz.underlying22 ad hsz23 A1 c1 z 1 (by omega) dt_ ar.1
 have Y : Aside0 ((Kd.int .i64).C w A1 (z.take 1).length (z.take 1)) := Q_ (Kd.IZ (h1 := fun _ => rfl) (hA23 _ (Kd.IY ay.1)))
 have av := Q_ hC23
 clear hA23 hC23 ad hsz23
 refine sw_ (S := fun w' => w'.cell? ⟨c, 0, none⟩ = some (.int .i64 ((AX q a).f0)) ∧ w'.cell? ⟨c, 1, none⟩ = some (.slice j ((AX q a).f1).length l)) 8 Au.tab7 Au.bits7 (sb_ d.1) (fun hHeld HT_ HW_ => ?_)
 generalize a7.drew = a8 at m i HL405_1 d HB Y hHeld ⊢
 refine Ba 0 27 8 1 ?_
 refine Ba 1 28 8 3 ?_
 refine Ba 5 32 8 35 ?_
 refine E1 2 29 8 39 hHeld ?_
 refine on_ 3 (some 30) (tm_ 8 47) HT_ (fun K hK => ?_)
 refine Kd.Jk k81 _ 81 ?hg (N' := 30) ?hd (xs := ([(⟨(AX q a).f0, (AX q a).f1⟩ : S81)] : List (S81))) (inner := [.int .i64 ((AX q a).f0), .slice j ((AX q a).f1).length l]) (ok := (fun k_ => (P2_ k_ ∨ w.heap.size ≤ k_) ∧ some k_ ≠ (u7 : Value).ownBlock ∧ k_ ≠ c)) (okp := (fun k_ => (P2_ k_ ∨ w.heap.size ≤ k_) ∧ some k_ ≠ (u7 : Value).ownBlock ∧ k_ ≠ c)) ?hr ?hp (fun _ hk => hk) ((show ∀ k_, a8.heap.size ≤ k_ → (fun k_ => (P2_ k_ ∨ w.heap.size ≤ k_) ∧ some k_ ≠ (u7 : Value).ownBlock ∧ k_ ≠ c) k_ from fun k_ hk => ⟨(.inr (Nat.le_trans (AZ (CM HB.1 t.1)) hk)), Kd.fresh' (Kd.Dj (pr_ m.1)) k_ hk, Kd.Gy (g := c) (o := .cells #[.int .i64 ((AX q a).f0), .slice j ((AX q a).f1).length l] 81 (0, 0)) (pk_ d.1) k_ hk⟩) _ (Nat.le_refl _)) (Below.refl _ _) (Nat.le_refl _) (by simp) ?_; (case hd => rfl); (case hg => rfl); (case hr => first | (go_simp; done) | (go_simp; rfl)); (case hp => exact (Reps.c2 (show Kd.FK k81 _ _ (⟨(AX q a).f0, (AX q a).f1⟩ : S81) [.int .i64 ((AX q a).f0), .slice j ((AX q a).f1).length l] from (XC _ _ (⟨(AX q a).f0, (AX q a).f1⟩ : S81) (Kd.Ii (Kd.IJ (ok' := (fun k_ => (P2_ k_ ∨ w.heap.size ≤ k_) ∧ some k_ ≠ (u7 : Value).ownBlock ∧ k_ ≠ c)) (HL405_1.1) (fun k_ hk => ⟨hk.1, ⟨hk.2.1, hk.2.2⟩⟩))).2.1 (Kd.V_F (Kd.IJ (ok' := (fun k_ => (P2_ k_ ∨ w.heap.size ≤ k_) ∧ some k_ ≠ (u7 : Value).ownBlock ∧ k_ ≠ c)) (HL405_1.1) (fun k_ hk => ⟨hk.1, ⟨hk.2.1, hk.2.2⟩⟩))))) (Reps.none _ _)))
 intro ba bf D hb hg_ hnew_
 clear hg_ hnew_
 rw [← aa.1] at D
 have _ := Q_ (Kd.Bv (pr_ m.1) hb)
 have _ := Q_ (Kd.II (by (with_reducible repeat (first | apply Kd.F6 | apply Kd.F7 | apply Kd.G1)); exact i.1) (Kd.JV D) hb)
 have _ := Q_ (Kd.II (by (with_reducible repeat (first | apply Kd.F6 | apply Kd.F7 | apply Kd.G1)); exact HL405_1.1) (Kd.JV D) hb)
 have _ := Q_ (Kd.IW D (AZ (CM HB.1 t.1)))
 have _ := Q_ (bb_ d.1 hb)
 have _ := Q_ (AD (CM HB.1 t.1) hb)
 clear m i HL405_1 d HB
 rename_i m i HL405_1 u d HB
 clear hb D
 obtain ⟨X, ac, am⟩ := Kd.IM u.1
 (first | subst am | (injection am with f1_ f2_ f3_; have f4_ := f1_.symm; have f5_ := f3_.symm; clear f1_ f2_ f3_; subst f4_; subst f5_))
 refine hK.out _ _ (sb_ d.1) (fun hHeld => ?_)
 clear hK K
 refine no_ (some 30) ?_
 refine Ba 4 31 8 63 ?_
 refine on_ 6 (some 33) (tf_ 7 8) HT_ (fun K hK => ?_)
 refine XX Tryz.func110 (by kernel_rfl) rfl #[.agg #[.slice A1 (z.take 1).length c1, .slice X I.length ac], .slice A0 B.length c0] (by rfl) rfl rfl (by (try simp only [List.map_toArray, List.map_cons, List.map_nil]); first | done | (rw [show (z.take 1).length = 1 from (by rw [List.length_take]; have h_ : (1 : Int) ≤ (z.length : Int) := dt_; omega)] <;> rfl) | rfl | (simp only [List.length_drop, List.length_take]; rfl)) ?_
 with_reducible refine (Cj.calls k2 _ _ (z.take 1) _ _ I _ _ B Q _ (cb_ Y HB) av.1 ?side3 ?side4 (cb_ ax HB) aq.1 aX.1).mono ?_
 (case side3 => exact pc_ ((Kd.Em u.1).2.2))
 (case side4 => exact (Kd.Em u.1).2.1)
 rintro e bg ⟨rfl, hb⟩
 refine ⟨_, rfl, ?_⟩
 have _ := Q_ (Kd.Bv (pr_ m.1) hb)
 have _ := Q_ (Kd.JC (by (with_reducible repeat (first | apply Kd.F6 | apply Kd.F7 | apply Kd.G1)); exact i.1) hb)
 have _ := Q_ (Kd.JC (by (with_reducible repeat (first | apply Kd.F6 | apply Kd.F7 | apply Kd.G1)); exact HL405_1.1) hb)
 have _ := Q_ (Kd.FG (px_ u.1) hb)
 have _ := Q_ (bb_ d.1 hb)
 have _ := Q_ (AD (CM HB.1 t.1) hb)
 clear m i HL405_1 u d HB
 rename_i m i HL405_1 u d HB
 (try clear hb)
 refine hK.out _ _ (sb_ d.1) (fun hHeld => ?_)
 clear hK K
 refine no_ (some 33) ?_
 refine Ba 7 34 8 255 ?_
 refine G8 (E0 HT_.1 (by kernel_rfl)) ?_
 go_upto_if 34 with (fail)
 have H := HS_.1
 clear HS_
 by_cases ak : Q = true
 ·subst ak
  rw [if_pos rfl] at H
  have H' := Q_ H
  clear H
  go_wp2
  go_roundg k2
  case measure => have := af.1; have := ag.1; omega
  case rel => exact ⟨(v), (wrap64 (a + 1)), el_, H', ⟨by have := af.1; have := ag.1; omega⟩, ⟨pr_ m.1⟩, ⟨by (with_reducible repeat (first | apply Kd.F6 | apply Kd.F7 | apply Kd.G1)); exact Kd.IJ i.1 (fun _ hk => ⟨hk.1.1, hk.1.2.1⟩)⟩, ⟨CM HB.1 t.1⟩⟩
 replace ak := bf_ ak
 subst ak
 rw [if_neg ff_] at H
 by_cases al : v.length < 17592186044416
 rotate_left
 ·rw [if_neg al] at H
  exact nn_ H
 rw [if_pos al] at H
 have az := Q_ al
 clear al
 obtain ⟨ao, hy412⟩ : ∃ y_ : List Int, y_ = (v ++ [(AX q a).f0]) := ⟨_, rfl⟩
 replace H : (Au.l0 k2 B z ao q (q.length : Int) (wrap64 (a + 1))) = some r := hb_ hy412 H
 have aA := Q_ hy412
 clear hy412
 have H' := Q_ H
 clear H
 have a3 := Ew d.1
 go_wp2_with (first | ((with_reducible refine FO (b := .append) (xs := #[.tmp 35, .tmp 38]) rfl ?_); at_builtin; refine Kd.I4 (Kd.int .i64) (w0 := w) w.heap.size rfl (.tmp 35) (.tmp 38) 22 3 (.int .i64 0) 8 rfl Tryz.underlying22 HI rfl (by decide) (by omega) u7 v ((AX q a).f0) [.int .i64 ((AX q a).f0)] (fun k_ => (w.heap.size ≤ k_)) (fun _ => False) rfl rfl ?aP (fun _ hk => hk.elim) ?aF ?aO ?aB ?aS ?aL ?_; (case aP => exact rfl); (case aB => exact (CM HB.1 t.1)); (case aF => exact (fun k_ hk => (Nat.le_trans (AZ (CM HB.1 t.1)) hk))); (case aO => exact (pr_ m.1)); (case aS => exact (AZ (CM HB.1 t.1))); (case aL => have := az.1; omega); intro bb bh ho hb hg hat; rw [← aA.1] at ho; have _ := Q_ (Kd.QZ (ok := (fun k_ => (P2_ k_ ∨ w.heap.size ≤ k_) ∧ some k_ ≠ (.slice X I.length ac : Value).ownBlock ∧ k_ ≠ c)) (by (with_reducible repeat (first | apply Kd.F6 | apply Kd.F7 | apply Kd.G1)); exact Kd.IJ i.1 (fun _ hk => ⟨⟨hk.1.1, ⟨hk.2, hk.1.2.2⟩⟩, hk.1.2.1⟩)) hg hat); have _ := Q_ (Kd.QZ (ok := (fun k_ => (P2_ k_ ∨ w.heap.size ≤ k_) ∧ some k_ ≠ (.slice X I.length ac : Value).ownBlock ∧ k_ ≠ c)) (by (with_reducible repeat (first | apply Kd.F6 | apply Kd.F7 | apply Kd.G1)); exact Kd.IJ HL405_1.1 (fun _ hk => ⟨⟨hk.1.1, ⟨hk.2, hk.1.2.2⟩⟩, hk.1.2.1⟩)) hg hat); have _ := Q_ (Eb (g := c) (o := .cells #[.int .i64 ((AX q a).f0), .slice j ((AX q a).f1).length l] 81 (0, 0)) (pk_ d.1) hg (Kd.JB m.1 d.1 (by decide))); have _ := Q_ (Kd.Qc (ok := (fun k_ => (P2_ k_ ∨ w.heap.size ≤ k_) ∧ k_ ≠ c)) (by (with_reducible repeat (first | apply Kd.F4 | apply Kd.F3 | apply Kd.E6)); exact Kd.DW u.1 (fun _ hk => ⟨⟨hk.1, hk.2.2⟩, hk.2.1⟩)) hg hat); have _ := Q_ (hb); have aw := Q_ (ho); clear i HL405_1 d u HB m; rename_i i HL405_1 d u HB; clear ho hb hg hat))
 go_roundg k2
 case measure => have := af.1; have := ag.1; omega
 case rel => exact ⟨(ao), (wrap64 (a + 1)), el_, H', ⟨by have := af.1; have := ag.1; omega⟩, ⟨pr_ aw.1⟩, ⟨by (with_reducible repeat (first | apply Kd.F6 | apply Kd.F7 | apply Kd.G1)); exact Kd.IJ i.1 (fun _ hk => ⟨hk.1.1, hk.2⟩)⟩, ⟨CM HB.1 t.1⟩⟩
def CB.f (k : Nat) (b : List Int) (c : List (S81)) (h : List (S75)) : Option (List Int × (List (S81)) × Bool) := (Az.f k h b).bind fun d => ((BI.f k b d).bind fun e => ((Au.f k h e c).bind fun g => ((EG.f k b c d g).bind fun a => (some (a.1, a.2.1, a.2.2)))))
theorem CB.mono : ∀ a b c k, LeO (CB.f k a b c) (CB.f (k + 1) a b c) := by
 intro a b c k
 unfold CB.f
 exact M5 Au.mono Az.mono EG.mono BI.mono
def CB.T2 : Bool × List (List Nat × List Nat) := (true, [([], []), ([], []), ([], []), ([], []), ([3], [3]), ([], []), ([4, 5], [4, 5]), ([], []), ([7], [7]), ([2, 6, 8, 6], [2, 6, 8]), ([0, 1, 9, 9], [0, 1, 9]), ([10], [10]), ([10], [10]), ([11, 10, 0, 1, 2, 3, 4, 5, 6, 7, 8, 9, 10, 11, 12], [11]), ([12, 13, 0, 1, 2, 3, 4, 5, 6, 7, 8, 9, 10, 11, 12, 13], [12])])
def CB.B2 : List Nat := [0, 0, 0, 0, 8, 0, 56, 0, 128, 508, 1023, 2047, 2047, 8191, 16383]
theorem CB.tab2 : rtab .any (opsOf Tryz.f112 2) = CB.T2 := by kernel_rfl
theorem CB.bits2 : Fa CB.T2.2 CB.B2 = true := by kernel_rfl
theorem CB.calls (k : Nat) (u : Option Addr) (v : Nat) (j : List Int) (x : Option Addr) (y : Nat) (m : List (S81)) (A1 : Option Addr) (c1 : Nat) (T : List (S75)) (r1 : List Int) (r2 : List (S81)) (r3 : Bool) (w : World) (hr0_0 : Kd.C (Kd.int .i64) w u j.length j) (P : j.length ≤ v) (hr0_1 : Kd.C k81 w x m.length m) (Q : m.length ≤ y) (hr1 : Kd.C k75 w A1 T.length T) (ao : T.length ≤ c1) (h : CB.f k j m T = some (r1, r2, r3)) :
  Calls Tryz.prog 112 #[.agg #[.slice u j.length v, .slice x m.length y], .slice A1 T.length c1] w fun e w' => ∃ v0_ v1_ : Value, e = .returned (.tuple #[.agg #[v0_, v1_], .bool r3]) ∧ Kd.R (Kd.int .i64) 3 w' w.heap.size (fun _ => True) v0_ r1 ∧ Kd.S k81 81 w' w.heap.size (fun k_ => some k_ ≠ (v0_ : Value).ownBlock) v1_ r2 ∧ Below w.heap.size w w' := by
 have hu53 := Tryz.underlying53
 have D := Q_ hr0_0
 have B := Q_ P
 clear hr0_0 P
 have M := Q_ hr0_1
 have I := Q_ Q
 clear hr0_1 Q
 have al := Q_ hr1
 have ak := Q_ ao
 clear hr1 ao
 have HB := Q_ (Below.refl w.heap.size w)
 unfold CB.f at h
 have H := h
 clear h
 obtain ⟨t, A3, H⟩ := bs_ H
 (try dsimp only at H)
 obtain ⟨z, A4, H⟩ := bs_ H
 (try dsimp only at H)
 obtain ⟨A, A5, H⟩ := bs_ H
 (try dsimp only at H)
 obtain ⟨⟨F, G, af⟩, A6, H⟩ := bs_ H
 replace H : (some (F, G, af)) = some (r1, r2, r3) := H
 simp only [Option.some.injEq, Prod.mk.injEq] at H
 obtain ⟨rfl, rfl, rfl⟩ := H
 go_enter Tryz.func112, Tryz.ntmps112
 try go_wp2_with (first | (refine bg_ 2 #[.slice u j.length v, .slice x m.length y] 53 ?_; intro O hg w7 hbox hb; have _ := Q_ (AD (pb_ HB.1) hb); have a := Q_ (hbox); have ag := Q_ (gw_ (w := w) hg (pb_ HB.1)); have g := ag; clear HB; rename_i HB; clear hb hbox hg) | (refine bg_ 4 #[.slice none 0 0, .slice none 0 0] 53 ?_; intro o hg w8 hbox hb; have _ := Q_ (bb_ a.1 hb); have _ := Q_ (AD (CM HB.1 g.1) hb); have b := Q_ (hbox); have ah := Q_ (gw_ (w := w) hg (CM HB.1 g.1)); have l := ah; have d := Q_ (nb_ hg a); have s := Q_ d.1.symm; clear a HB; rename_i a HB; clear hb hbox hg; have aG := d.1; have aH := s.1; have aC := Ew a.1) | (refine gk_ 55 10 Tryz.func55 #[.slice A1 T.length c1, .slice u j.length v] ?_; (with_reducible refine (Az.calls k _ _ T _ _ j t _ (cb_ al HB) ak.1 (cb_ D HB) B.1 A3.1).mono ?_); rintro e aF ⟨aK, rfl, r, hb⟩; refine ⟨_, rfl, ?_⟩; have _ := Q_ (Kd.BV r (AZ (Dw HB.1 g.1 l.1))); have _ := Q_ (bb_ a.1 hb); have _ := Q_ (bb_ b.1 hb); have _ := Q_ (AD (Dw HB.1 g.1 l.1) hb); clear a b HB; rename_i c a b HB; (try clear hb r)))
 have _ := Q_ (Kd.EU c.1)
 have _ := Q_ (Bq a.1)
 have _ := Q_ (Bq b.1)
 have _ := Q_ (Cm HB.1)
 clear c a b HB
 rename_i c a b HB
 obtain ⟨U, X, aa⟩ := Kd.Bo c.1
 (first | subst aa | (injection aa with f1_ f2_ f3_; have f4_ := f1_.symm; have f5_ := f3_.symm; clear f1_ f2_ f3_; subst f4_; subst f5_))
 refine sw_ (S := fun w' => w'.cell? ⟨O, 0, none⟩ = some (.slice u j.length v) ∧ w'.cell? ⟨O, 1, none⟩ = some (.slice x m.length y)) 15 CB.tab2 CB.bits2 (sb_ a.1) (fun hHeld HT_ HW_ => ?_)
 generalize aF.drew = aT at c a b HB hHeld ⊢
 refine Ba 1 12 15 2 ?_
 refine Ba 2 13 15 6 ?_
 refine Ba 3 14 15 14 ?_
 refine Ba 5 16 15 46 ?_
 refine Ba 7 18 15 174 ?_
 refine E1 0 11 15 175 hHeld ?_
 refine E1 4 15 15 191 hHeld ?_
 refine E1 8 19 15 447 hHeld ?_
 refine on_ 6 (some 17) (tf_ 9 15) HT_ (fun K hK => ?_)
 refine gs_ Tryz.func54 #[.slice u j.length v, .slice U t.length X] ?_
 with_reducible refine (BI.calls k _ _ j _ _ t z _ (cb_ D HB) B.1 ?side3 ?side4 A4.1).mono ?_
 (case side3 => exact pc_ ((Kd.BH c.1).2.2))
 (case side4 => exact (Kd.BH c.1).2.1)
 rintro e aU ⟨aL, rfl, r, hb⟩
 refine ⟨_, rfl, ?_⟩
 have _ := Q_ (Kd.B0 (pr_ c.1) (Kd.BJ r) hb)
 have _ := Q_ (Kd.BV (Kd.B8 r (Kd.Dj (pr_ c.1))) (AZ (Dw HB.1 g.1 l.1)))
 have _ := Q_ (bb_ a.1 hb)
 have _ := Q_ (bb_ b.1 hb)
 have _ := Q_ (AD (Dw HB.1 g.1 l.1) hb)
 clear c a b HB
 rename_i c i a b HB
 (try clear hb r)
 obtain ⟨ai, am, ab⟩ := Kd.Bo i.1
 (first | subst ab | (injection ab with f1_ f2_ f3_; have f4_ := f1_.symm; have f5_ := f3_.symm; clear f1_ f2_ f3_; subst f4_; subst f5_))
 refine hK.out _ _ (sb_ a.1) (fun hHeld => ?_)
 clear hK K
 refine no_ (some 17) ?_
 refine on_ 9 (some 20) (tf_ 10 15) HT_ (fun K hK => ?_)
 refine gs_ Tryz.func150 #[.slice A1 T.length c1, .slice ai z.length am, .slice x m.length y] ?_
 with_reducible refine (Au.calls k _ _ T _ _ z (fun k_ => k_ < w.heap.size) _ _ m A _ (cb_ al HB) ak.1 ?side3 ?side4 ?side5 A5.1).mono ?_
 (case side3 => exact pc_ ((Kd.BH i.1).2.2))
 (case side4 => exact (Kd.BH i.1).2.1)
 (case side5 => exact Kd.Wq I.1 (Kd.Jw (Kd.C_F Va M.1) (Dw HB.1 g.1 l.1)))
 rintro e aV ⟨aM, rfl, r, hb⟩
 refine ⟨_, rfl, ?_⟩
 have _ := Q_ (Kd.B0 (pr_ c.1) (Kd.BJ r) hb)
 have _ := Q_ (Kd.B0 (pr_ i.1) (Kd.BJ r) hb)
 have _ := Q_ (Kd.BV (Kd.B8 (Kd.B8 (Kd.Ax (ok' := fun k_ => True) r (fun _ hk_ => trivial)) (Kd.Dj (pr_ c.1))) (Kd.Dj (pr_ i.1))) (AZ (Dw HB.1 g.1 l.1)))
 have _ := Q_ (bb_ a.1 hb)
 have _ := Q_ (bb_ b.1 hb)
 have _ := Q_ (AD (Dw HB.1 g.1 l.1) hb)
 clear c i a b HB
 rename_i c i q a b HB
 (try clear hb r)
 obtain ⟨aj, an, ac⟩ := Kd.Bo q.1
 (first | subst ac | (injection ac with f1_ f2_ f3_; have f4_ := f1_.symm; have f5_ := f3_.symm; clear f1_ f2_ f3_; subst f4_; subst f5_))
 refine hK.out _ _ (sb_ a.1) (fun hHeld => ?_)
 clear hK K
 refine no_ (some 20) ?_
 refine on_ 10 (some 21) (tf_ 11 15) HT_ (fun K hK => ?_)
 refine gs_ Tryz.func149 #[.agg #[.slice u j.length v, .slice x m.length y], .slice U t.length X, .slice aj A.length an] ?_
 with_reducible refine (EG.calls k _ _ j _ _ m _ _ t _ _ A F G af _ (cb_ D HB) B.1 (cb_ M HB) I.1 ?side5 ?side6 ?side7 ?side8 A6.1).mono ?_
 (case side5 => exact pc_ ((Kd.BH c.1).2.2))
 (case side6 => exact (Kd.BH c.1).2.1)
 (case side7 => exact pc_ ((Kd.BH q.1).2.2))
 (case side8 => exact (Kd.BH q.1).2.1)
 rintro e aw ⟨aN, aO, rfl, r, av, hb⟩
 refine ⟨_, rfl, ?_⟩
 have _ := Q_ (Kd.B0 (pr_ c.1) (Kd.BJ r) hb)
 have _ := Q_ (Kd.B0 (pr_ i.1) (Kd.BJ r) hb)
 have _ := Q_ (Kd.B0 (pr_ q.1) (Kd.BJ r) hb)
 have _ := Q_ (Kd.BV (Kd.B8 (Kd.B8 (Kd.B8 r (Kd.Dj (pr_ c.1))) (Kd.Dj (pr_ i.1))) (Kd.Dj (pr_ q.1))) (AZ (Dw HB.1 g.1 l.1)))
 have _ := Q_ (Kd.Fh (Kd.Hz (Kd.Hz (Kd.Hz av (Kd.Dj (pr_ c.1))) (Kd.Dj (pr_ i.1))) (Kd.Dj (pr_ q.1))) (AZ (Dw HB.1 g.1 l.1)))
 have _ := Q_ (bb_ a.1 hb)
 have _ := Q_ (bb_ b.1 hb)
 have _ := Q_ (AD (Dw HB.1 g.1 l.1) hb)
 clear c i q a b HB
 rename_i c i q J L a b HB
 (try clear hb r av)
 obtain ⟨V, Y, ad⟩ := Kd.Bo J.1
 (first | subst ad | (injection ad with f1_ f2_ f3_; have f4_ := f1_.symm; have f5_ := f3_.symm; clear f1_ f2_ f3_; subst f4_; subst f5_))
 obtain ⟨W, Z, ae⟩ := Kd.Gv L.1
 (first | subst ae | (injection ae with f1_ f2_ f3_; have f4_ := f1_.symm; have f5_ := f3_.symm; clear f1_ f2_ f3_; subst f4_; subst f5_))
 refine hK.out _ _ (sb_ a.1) (fun hHeld => ?_)
 clear hK K
 refine no_ (some 21) ?_
 refine Ba 11 22 15 4095 ?_
 refine Ba 12 23 15 8191 ?_
 refine on_ 13 (none) (tf_ 14 15) HT_ (fun K hK => ?_)
 have aI : aw.cell? ⟨o, 0, none⟩ = some (.slice none 0 0) := (BM b.1 0).trans rfl
 have aD := DI b.1 0
 have ar := d.1
 have ap := s.1
 have aJ : aw.cell? ⟨o, 1, none⟩ = some (.slice none 0 0) := (BM b.1 1).trans rfl
 have aE := DI b.1 1
 have au := d.1
 have aq := s.1
 refine J2 (w1 := ?_) (by rfl) rfl ?_ ?_
 rotate_left
 ·go_simp
  rfl
 refine hK.out _ _ ⟨((cell_far (p := ⟨o, _, none⟩) d.1 _).trans (((cell_far (p := ⟨o, _, none⟩) d.1 _).trans (hHeld.1)))), ((cell_far (p := ⟨o, _, none⟩) d.1 _).trans (((cell_far (p := ⟨o, _, none⟩) d.1 _).trans (hHeld.2))))⟩ (fun hHeld => ?_)
 clear hK K
 refine Ba 14 5 15 32767 ?_
 refine G8 (E0 HT_.1 (by kernel_rfl)) ?_
 try go_wp2
 refine bodyPost_ret (HY rfl _ _ o 53 #[.slice V F.length Y, .slice W G.length Z] (0, 0) _ rfl (pp_ b.1) Tryz.underlying53 rfl (by kernel_rfl)) rfl ?_
 exact ⟨_, _, er_, pr_ (Kd.Ax (H5 J.1 b.1) (fun _ hk => trivial)), ps_ (Kd.Ea (Kd.GQ (p := ⟨o, 1, none⟩) (Kd.GQ (p := ⟨o, 0, none⟩) (Kd.IL L.1 b.1 (by decide)) (fun _ hk => hk.2) (.slice V F.length Y)) (fun _ hk => hk.2) (.slice W G.length Z)) (fun _ hk => hk.1.1.1.1)), Dw HB.1 g.1 l.1⟩
end Go.Proofs.YtibmehnippjakaaGreat.Print
