-- Written by a program of this session (printx.py) out of the translation; Lean checks it.
import Derived.Test.YtibmehnippjakaaGreatPrint0
import Derived.Test.YtibmehnippjakaaGreatPrint1
import Derived.Test.YtibmehnippjakaaGreatPrint4
namespace Go.Proofs.YtibmehnippjakaaGreat.Print
open Go.RowKit Go.Proofs.YtibmehnippjakaaGreatW.PrintWords Go.Proofs.YtibmehnippjakaaGreatW.PrintLast Go.Proofs.YtibmehnippjakaaGreatW.PrintMore Go.Proofs.YtibmehnippjakaaGreat.Short
attribute [local go_sem] F8 Fq G5 G6 FA FH F5 Fp
set_option linter.unusedVariables false
set_option maxHeartbeats 8000000
set_option maxRecDepth 100000
set_option linter.unusedSimpArgs false
def AU.l0 : Nat → List (S81) → List (S81) → Int → Int → Int → List Int → List Int → Bool → Option ((List (S81)))
 | 0, _, _, _, _, _, _, _, _ => none
 | k + 1, l, i, h, a, b, c, d, e => if a < h then (if 0 ≤ a then (if a < (i.length : Int) then ((EF.f k ((AX i a).f0) b c d e).bind fun j => (if j = true then ((some (([] : List Int) : List Int)).bind fun g => (if g.length + ((AX i a).f1).length < 17592186044416 then (if l.length < 4398046511104 then (AU.l0 k (l ++ [(⟨(AX i a).f0, (g ++ ((AX i a).f1))⟩ : S81)]) i h (wrap64 (a + 1)) b c d e) else (none)) else (none))) else (AU.l0 k l i h (wrap64 (a + 1)) b c d e))) else (none)) else (none)) else (some l)
def AU.f (k : Nat) (e : List (S81)) (a : Int) (c : List Int) (d : List Int) (b : Bool) : Option ((List (S81))) := AU.l0 k (([] : List (S81))) e (e.length : Int) 0 a c d b
theorem AU.mono_l : ∀ k, (∀ a b c d e f g i, LeO (AU.l0 k a b c d e f g i) (AU.l0 (k + 1) a b c d e f g i))
 | 0 => fun _ _ _ _ _ _ _ _ r h => by simp [AU.l0] at h
 | k + 1 => by
  have ih0 := AU.mono_l k
  ·intro a b c d e f g i
   unfold AU.l0
   exact H8 ih0 EF.mono
theorem AU.mono : ∀ a b c d e k, LeO (AU.f k a b c d e) (AU.f (k + 1) a b c d e) := by
 intro a b c d e k
 have ih0 := AU.mono_l k
 unfold AU.f
 exact H8 ih0 EF.mono
def AU.T6 : Bool × List (List Nat × List Nat) := (true, [([], []), ([], []), ([1], [1]), ([], []), ([], []), ([4], [4]), ([3, 5], [3, 5]), ([2, 6], [2, 6]), ([7], [7]), ([0, 8, 6], [0, 8]), ([9, 9, 0, 1, 2, 3, 4, 5, 6, 7, 8, 9], [0, 9])])
def AU.B6 : List Nat := [0, 0, 2, 0, 0, 16, 56, 126, 254, 511, 1023]
theorem AU.tab6 : rtab .any (opsOf Tryz.f122 6) = AU.T6 := by kernel_rfl
theorem AU.bits6 : Fa AU.T6.2 AU.B6 = true := by kernel_rfl
theorem AU.calls (k : Nat) (A0 : Option Addr) (c0 : Nat) (m : List (S81)) (B1 : Nat) (u : Int) (A : Option Addr) (D : Nat) (q : List Int) (B : Option Addr) (E : Nat) (s : List Int) (x : Bool) (r : List (S81)) (w : World) (hr0 : Kd.C k81 w A0 m.length m) (aC : m.length ≤ c0) (hr1_1 : Kd.C (Kd.int .i64) w A q.length q) (V : q.length ≤ D) (hr1_2 : Kd.C (Kd.int .i64) w B s.length s) (W : s.length ≤ E) (hbv1 : w.heap[B1]? = some (.cells #[.int .i64 u, .slice A q.length D, .slice B s.length E, .bool x] 75 (0, 0))) (h : AU.f k m u q s x = some r) :
  Calls Tryz.prog 122 #[.slice A0 m.length c0, .func (.func 162) #[] #[.pointer (some ⟨B1, 0, none⟩)]] w fun e w' => ∃ v0_ : Value, e = .returned (v0_) ∧ Kd.S k81 81 w' w.heap.size (fun _ => True) v0_ r ∧ Below w.heap.size w w' := by
 have hu81 := Tryz.underlying81
 have aJ := Q_ hr0
 have a4 := Q_ aC
 clear hr0 aC
 have ap := Q_ hr1_1
 have al := Q_ V
 clear hr1_1 V
 have aq := Q_ hr1_2
 have am := Q_ W
 clear hr1_2 W
 have l := Q_ hbv1
 clear hbv1
 have HB := Q_ (Below.refl w.heap.size w)
 unfold AU.f at h
 have H := h
 clear h
 obtain ⟨ai, hy248⟩ : ∃ y_ : List (S81), y_ = (([] : List (S81))) := ⟨_, rfl⟩
 replace H : (AU.l0 k ai m (m.length : Int) 0 u q s x) = some r := hb_ hy248 H
 have T := Q_ hy248
 clear hy248
 have H' := Q_ H
 clear H
 go_enter Tryz.func122, Tryz.ntmps122
 go_wp2_with (first | ((with_reducible refine FP (N := 8) rfl ?_); refine Kd.Nn k81 _ 81 ?hg (N := 8) ?hd (xs := ([] : List (S81))) (inner := []) (ok := fun _ => True) (okp := fun _ => True) ?hr ?hp (fun _ hk => hk) trivial (Below.refl _ _) (Nat.le_refl _) (by simp) ?_; (case hd => rfl); (case hg => rfl); (case hr => first | (go_simp; done) | (go_simp; rfl)); (case hp => exact (Reps.none _ _)); intro a1 w3 X hb hg_ hnew_; clear hg_ hnew_; rw [← T.1] at X; have _ := Q_ (Kd.Fh X (AZ (pb_ HB.1))); have _ := Q_ (bb_ l.1 hb); have _ := Q_ (AD (pb_ HB.1) hb); clear l HB; rename_i an l HB; clear hb X))
 (try simp only [Act.put, s1_, s2_, s3_])
 go_loopg [5, 11] k (fun kq v5 aU w' => ∃ (y : List (S81)) (a : Int), aU = .int .i64 a ∧ Aside0 (AU.l0 kq y m (m.length : Int) a u q s x = some r) ∧ Aside0 (kq ≤ k) ∧ Aside0 (Kd.S k81 81 w' w.heap.size (fun _ => True) v5 y) ∧ Aside0 (w'.heap[B1]? = some (.cells #[.int .i64 u, (.slice A q.length D), (.slice B s.length E), .bool x] 75 (0, 0))) ∧ Aside0 (Below w.heap.size w w'))
 case atStart => exact ⟨(ai), (0), el_, H', ⟨Nat.le_refl _⟩, ⟨ps_ an.1⟩, ⟨pk_ l.1⟩, ⟨pb_ HB.1⟩⟩
 clear H'
 obtain ⟨y, a, rfl, HA, aa, d, l, HB⟩ := hrel
 rcases gk with _ | k1
 ·exact absurd HA.1 (by simp [AU.l0])
 have H := HA.1
 clear HA
 simp only [AU.l0] at H
 by_cases c5 : a < (m.length : Int)
 rotate_left
 ·rw [if_neg c5] at H
  have az := decide_eq_false c5
  clear c5
  obtain rfl := Option.some.inj H
  go_wp2
  go_ret
  exact ⟨_, er_, ps_ d.1, pb_ HB.1⟩
 rw [if_pos c5] at H
 have az := decide_eq_true c5
 clear c5
 by_cases c6 : 0 ≤ a
 rotate_left
 ·rw [if_neg c6] at H
  exact nn_ H
 rw [if_pos c6] at H
 have aX := decide_eq_true c6
 clear c6
 by_cases c7 : a < (m.length : Int)
 rotate_left
 ·rw [if_neg c7] at H
  exact nn_ H
 rw [if_pos c7] at H
 have aY := decide_eq_true c7
 clear c7
 have HS_ := Q_ H
 clear H
 have Y : 0 ≤ (a : Int) := dt_
 have Z : a < (m.length : Int) := dt_
 obtain ⟨aK, i, j, aA, O, P, ay, R⟩ := Ip aJ.1 a Y Z
 cases aA
 replace O := bt_ HB O
 replace P := bt_ HB P
 replace Y := eq_true Y
 replace Z := eq_true Z
 go_upto_region 5 with (first | (refine bg_ 7 #[.int .i64 0, .slice none 0 0] 81 ?_; intro c hg w8 hbox hb; have _ := Q_ (Kd.FB (Kd.J5 (ps_ d.1) c (Nat.le_of_eq hg.symm)) hb); have _ := Q_ (bb_ l.1 hb); have _ := Q_ (AD (pb_ HB.1) hb); have b := Q_ (hbox); have ak := Q_ (gw_ (w := w) hg (pb_ HB.1)); have t := ak; have z := Q_ ((by rw [hg]; exact Nat.ne_of_lt (Hl (pk_ l.1)) : B1 ≠ c)); have M := Q_ z.1.symm; clear d l HB; rename_i d l HB; clear hb hbox hg; have aZ := M.1; have a0 := z.1; have aM := Ew b.1))
 (try simp only [Act.put, s1_, s2_, s3_])
 have H := HS_.1
 clear HS_
 obtain ⟨ah, aI, H⟩ := bs_ H
 (try dsimp only at H)
 have HS_ := Q_ H
 clear H
 have aQ := M.1
 have aT := z.1
 have aN := Ew b.1
 go_upto_if 18 with (first | (go_at_call 162; (with_reducible refine (EF.calls k1 ((AX m a).f0) _ u A D q B E s x ah _ ?side1 ?side2 ?side3 ?side4 ?side5 aI.1).mono ?_); (case side1 => exact Kd.Ec ap.1 (CM HB.1 t.1)); (case side2 => exact al.1); (case side3 => exact Kd.Ec aq.1 (CM HB.1 t.1)); (case side4 => exact am.1); (case side5 => (with_reducible repeat (first | refine E2 ?_ _ | refine Bq ?_ | refine G3 ?_ _)); refine JU ?_ z.1 _; (with_reducible repeat (first | refine E2 ?_ _ | refine Bq ?_ | refine G3 ?_ _)); refine JU ?_ z.1 _; exact pk_ l.1); rintro e w' ⟨rfl, ⟨nd, rfl⟩⟩))
 (try simp only [Act.put, s1_, s2_, s3_])
 have H := HS_.1
 clear HS_
 by_cases ab : ah = true
 rotate_left
 ·replace ab := bf_ ab
  subst ab
  rw [if_neg ff_] at H
  have H' := Q_ H
  clear H
  go_wp2
  go_roundg k1
  case measure => have := aa.1; omega
  case rel => exact ⟨(y), (wrap64 (a + 1)), el_, H', ⟨by have := aa.1; omega⟩, ⟨by (with_reducible repeat (first | apply Kd.Gq | apply Kd.Fz | apply Kd.Gz)); exact Kd.Ea (Kd.GQ (p := ⟨c, 1, none⟩) (Kd.GQ (p := ⟨c, 0, none⟩) (Kd.Ea d.1 (fun k_ hk => (⟨hk, hk.2⟩ : _ ∧ k_ ≠ c))) (fun _ hk => hk.2) (.int .i64 ((AX m a).f0))) (fun _ hk => hk.2) (.slice i ((AX m a).f1).length j)) (fun _ hk => trivial)⟩, ⟨pp_ l.1⟩, ⟨CM HB.1 t.1⟩⟩
 subst ab
 rw [if_pos rfl] at H
 obtain ⟨Q, hy254⟩ : ∃ y_ : List Int, y_ = (([] : List Int)) := ⟨_, rfl⟩
 replace H : (if Q.length + ((AX m a).f1).length < 17592186044416 then (if y.length < 4398046511104 then (AU.l0 k1 (y ++ [(⟨(AX m a).f0, (Q ++ ((AX m a).f1))⟩ : S81)]) m (m.length : Int) (wrap64 (a + 1)) u q s x) else (none)) else (none)) = some r := hb_ hy254 H
 have U := Q_ hy254
 clear hy254
 by_cases ac : Q.length + ((AX m a).f1).length < 17592186044416
 rotate_left
 ·rw [if_neg ac] at H
  exact nn_ H
 rw [if_pos ac] at H
 have ar := Q_ ac
 clear ac
 obtain ⟨I, hy257⟩ : ∃ y_ : List Int, y_ = (Q ++ ((AX m a).f1)) := ⟨_, rfl⟩
 replace H : (if y.length < 4398046511104 then (AU.l0 k1 (y ++ [(⟨(AX m a).f0, I⟩ : S81)]) m (m.length : Int) (wrap64 (a + 1)) u q s x) else (none)) = some r := hb_ hy257 H
 have av := Q_ hy257
 clear hy257
 by_cases ad : y.length < 4398046511104
 rotate_left
 ·rw [if_neg ad] at H
  exact nn_ H
 rw [if_pos ad] at H
 have au := Q_ ad
 clear ad
 obtain ⟨aj, hy260⟩ : ∃ y_ : List (S81), y_ = (y ++ [(⟨(AX m a).f0, I⟩ : S81)]) := ⟨_, rfl⟩
 replace H : (AU.l0 k1 aj m (m.length : Int) (wrap64 (a + 1)) u q s x) = some r := hb_ hy260 H
 have aw := Q_ hy260
 clear hy260
 have H' := Q_ H
 clear H
 try go_wp2
 have n0_ : Aside0 (Kd.S k81 81 ((w8.setCell ⟨c, 0, none⟩ (.int .i64 ((AX m a).f0))).setCell ⟨c, 1, none⟩ (.slice i ((AX m a).f1).length j)) w.heap.size (fun k_ => k_ ≠ c) u5 y) := ⟨by (with_reducible repeat (first | apply Kd.Gq | apply Kd.Fz | apply Kd.Gz)); exact Kd.Ea (Kd.GQ (p := ⟨c, 1, none⟩) (Kd.GQ (p := ⟨c, 0, none⟩) (Kd.Ea d.1 (fun k_ hk => (⟨hk, hk.2⟩ : _ ∧ k_ ≠ c))) (fun _ hk => hk.2) (.int .i64 ((AX m a).f0))) (fun _ hk => hk.2) (.slice i ((AX m a).f1).length j)) (fun _ hk => hk.1.2)⟩
 have n1_ : Aside0 (((w8.setCell ⟨c, 0, none⟩ (.int .i64 ((AX m a).f0))).setCell ⟨c, 1, none⟩ (.slice i ((AX m a).f1).length j)).heap[B1]? = some (.cells #[.int .i64 u, .slice A q.length D, .slice B s.length E, .bool x] 75 (0, 0))) := ⟨pp_ l.1⟩
 have n2_ : Aside0 (((w8.setCell ⟨c, 0, none⟩ (.int .i64 ((AX m a).f0))).setCell ⟨c, 1, none⟩ (.slice i ((AX m a).f1).length j)).heap[c]? = some (.cells #[.int .i64 ((AX m a).f0), .slice i ((AX m a).f1).length j] 81 (0, 0))) := ⟨pp_ b.1⟩
 have n3_ : Aside0 (Below w.heap.size w ((w8.setCell ⟨c, 0, none⟩ (.int .i64 ((AX m a).f0))).setCell ⟨c, 1, none⟩ (.slice i ((AX m a).f1).length j))) := ⟨CM HB.1 t.1⟩
 (try clear d)
 (try clear l)
 (try clear b)
 (try clear HB)
 generalize ((w8.setCell ⟨c, 0, none⟩ (.int .i64 ((AX m a).f0))).setCell ⟨c, 1, none⟩ (.slice i ((AX m a).f1).length j)) = F at n0_ n1_ n2_ n3_ ⊢
 (try (rw [show F.drewN nd = F.drewN nd from rfl]; replace n0_ := Q_ (Kd.Fz n0_.1 nd); replace n1_ := Q_ (E2 n1_.1 nd); replace n2_ := Q_ (E2 n2_.1 nd); replace n3_ := Q_ (D5 n3_.1 nd); generalize F.drewN nd = F at n0_ n1_ n2_ n3_ ⊢))
 have d := n0_
 have l := n1_
 have b := n2_
 have HB := n3_
 clear n0_ n1_ n2_ n3_
 (try (rw [JK F]; generalize hq_ : World.drewN F _ = F; have n0_ : Aside0 (Kd.S k81 81 F w.heap.size (fun k_ => k_ ≠ c) u5 y) := ⟨by rw [← hq_]; exact (ps_ d.1)⟩; have n1_ : Aside0 (F.heap[B1]? = some (.cells #[.int .i64 u, .slice A q.length D, .slice B s.length E, .bool x] 75 (0, 0))) := ⟨by rw [← hq_]; exact (pk_ l.1)⟩; have n2_ : Aside0 (F.heap[c]? = some (.cells #[.int .i64 ((AX m a).f0), .slice i ((AX m a).f1).length j] 81 (0, 0))) := ⟨by rw [← hq_]; exact (pk_ b.1)⟩; have n3_ : Aside0 (Below w.heap.size w F) := ⟨by rw [← hq_]; exact (CM HB.1 t.1)⟩; clear d l b HB hq_; have d := n0_; have l := n1_; have b := n2_; have HB := n3_; clear n0_ n1_ n2_ n3_))
 have _ := Q_ (Kd.Gz d.1)
 have _ := Q_ (Bq l.1)
 have _ := Q_ (Bq b.1)
 have _ := Q_ (Cm HB.1)
 clear d l b HB
 rename_i d l b HB
 refine sw_ (S := fun w' => w'.cell? ⟨c, 0, none⟩ = some (.int .i64 ((AX m a).f0)) ∧ w'.cell? ⟨c, 1, none⟩ = some (.slice i ((AX m a).f1).length j)) 11 AU.tab6 AU.bits6 (sb_ b.1) (fun hHeld HT_ HW_ => ?_)
 generalize F.drew = a6 at d l b HB hHeld ⊢
 refine Ba 0 19 11 1 ?_
 refine Ba 1 20 11 3 ?_
 refine Ba 4 23 11 19 ?_
 refine E1 2 21 11 23 hHeld ?_
 refine E1 5 24 11 55 hHeld ?_
 refine on_ 3 (some 22) (tf_ 6 11) HT_ (fun K hK => ?_)
 refine JY .i64 3 22 ([] : List Int) ?_
 intro aD a7 G hb
 rw [← U.1] at G
 have _ := Q_ (Kd.H2 (ps_ d.1) (Kd.BJ G) hb)
 have _ := Q_ (Kd.BV G (AZ (CM HB.1 t.1)))
 have _ := Q_ (bb_ l.1 hb)
 have _ := Q_ (bb_ b.1 hb)
 have _ := Q_ (AD (CM HB.1 t.1) hb)
 clear d l b HB
 rename_i d J l b HB
 clear hb G
 refine hK.out _ _ (sb_ b.1) (fun hHeld => ?_)
 clear hK K
 refine no_ (some 22) ?_
 refine on_ 6 (some 25) (tf_ 7 11) HT_ (fun K hK => ?_)
 refine Kd.D2 (Kd.int .i64) (w0 := w) w.heap.size (by rfl) (.tmp 22) (.tmp 24) 22 3 (.int .i64 0) 8 rfl Tryz.underlying22 HI rfl (by decide) (by omega) aD Q ((AX m a).f1) _ _ _ (fun _ => True) (fun _ => False) rfl rfl ?aO ?aR (fun _ _ h => h) (fun _ h => h.elim) ?aF ?aB ?aS ?aL ?_
 (case aR => exact cb_ R HB)
 (case aB => exact (CM HB.1 t.1))
 (case aF => exact (fun _ _ => trivial))
 (case aO => exact (pr_ J.1))
 (case aS => exact (AZ (CM HB.1 t.1)))
 (case aL => have := ar.1; omega)
 intro a2 a8 ho hb hg hat
 rw [← av.1] at ho
 have _ := Q_ (Kd.JP (ok := (fun k_ => k_ ≠ c)) (ps_ d.1) hg hat)
 have _ := Q_ (Eb (g := B1) (o := .cells #[.int .i64 u, .slice A q.length D, .slice B s.length E, .bool x] 75 (0, 0)) (pk_ l.1) hg (Kd.JB J.1 l.1 (by decide)))
 have _ := Q_ (Eb (g := c) (o := .cells #[.int .i64 ((AX m a).f0), .slice i ((AX m a).f1).length j] 81 (0, 0)) (pk_ b.1) hg (Kd.JB J.1 b.1 (by decide)))
 have _ := Q_ (hb)
 have _ := Q_ (ho)
 clear d l b HB J
 rename_i d l b HB L
 clear ho hb hg hat
 obtain ⟨ae, af, ag⟩ := Kd.Bo L.1
 (first | subst ag | (injection ag with f1_ f2_ f3_; have f4_ := f1_.symm; have f5_ := f3_.symm; clear f1_ f2_ f3_; subst f4_; subst f5_))
 refine hK.out _ _ (sb_ b.1) (fun hHeld => ?_)
 clear hK K
 refine no_ (some 25) ?_
 refine Ba 7 26 11 255 ?_
 refine on_ 8 (some 27) (tf_ 9 11) HT_ (fun K hK => ?_)
 refine Nz (w1 := ?_) (v := ?_) (by rfl) rfl ?_ ?_
 rotate_left 2
 ·go_simp
  constructor
  ·rfl
  ·rfl
 refine hK.out _ _ (sb_ (G3 b.1 _)) (fun hHeld => ?_)
 clear hK K
 refine no_ (some 27) ?_
 refine on_ 9 (some 28) (tf_ 10 11) HT_ (fun K hK => ?_)
 refine Kd.IR k81 (w0 := w) w.heap.size (by rfl) (.tmp 19) (.tmp 27) 51 81 (.agg #[(.int .i64 0), (.slice none 0 0)]) 32 rfl Tryz.underlying51 Jv rfl (by decide) (by omega) u5 y (⟨(AX m a).f0, I⟩ : S81) [.int .i64 ((AX m a).f0), .slice ae I.length af] (fun k_ => k_ ≠ c) (fun k_ => some k_ = (.slice ae I.length af : Value).ownBlock) rfl rfl ?aP (fun k_ hk_ => ((Kd.Ax (ok' := fun k_ => ((fun k_ => k_ ≠ c)) k_ ∧ some k_ ≠ (u5 : Value).ownBlock) (Kd.Bi (Kd.Eh (L.1) (Kd.IG d.1) (by decide)) b.1 (by decide)) (fun k_ hk => ⟨hk.2, hk.1.2⟩))).1 k_ hk_.symm) ?aF ?aO ?aB ?aS ?aL ?_
 (case aP => exact Jq _ _ _ (⟨(AX m a).f0, I⟩ : S81) (Kd.Ax (Kd.I' rfl (Kd.Ax (ok' := fun k_ => ((fun k_ => k_ ≠ c)) k_ ∧ some k_ ≠ (u5 : Value).ownBlock) (Kd.Bi (Kd.Eh (L.1) (Kd.IG d.1) (by decide)) b.1 (by decide)) (fun k_ hk => ⟨hk.2, hk.1.2⟩))) (fun _ h_ => h_)))
 (case aB => exact (CM HB.1 t.1))
 (case aF => exact (fun k_ hk => Kd.Gy (g := c) (o := .cells #[.int .i64 ((AX m a).f0), .slice i ((AX m a).f1).length j] 81 (0, 0)) (pk_ b.1) k_ hk))
 (case aO => exact (by (with_reducible repeat (first | apply Kd.Gq | apply Kd.Fz | apply Kd.Gz)); exact Kd.Ea d.1 (fun k_ hk => ⟨hk.1, fun e_ => hk.2 e_⟩)))
 (case aS => exact (AZ (CM HB.1 t.1)))
 (case aL => have := au.1; omega)
 intro a3 a9 ho hb hg hat
 rw [← aw.1] at ho
 have _ := Q_ (Eb (g := B1) (o := .cells #[.int .i64 u, .slice A q.length D, .slice B s.length E, .bool x] 75 (0, 0)) (pk_ l.1) hg (Kd.UH d.1 l.1 (by decide)))
 have _ := Q_ (Eb (g := c) (o := .cells #[.int .i64 ((AX m a).f0), .slice i ((AX m a).f1).length j] 81 (0, 0)) (pk_ b.1) hg (Kd.Nv d.1 (fun _ hk => hk.1)))
 have _ := Q_ (hb)
 have _ := Q_ (ho)
 clear l b HB d L
 rename_i l b HB ao
 clear ho hb hg hat
 refine hK.out _ _ (sb_ b.1) (fun hHeld => ?_)
 clear hK K
 refine no_ (some 28) ?_
 refine Ba 10 5 11 2047 ?_
 refine G8 (E0 HT_.1 (by kernel_rfl)) ?_
 try go_wp2
 go_roundg k1
 case measure => have := aa.1; omega
 case rel => exact ⟨(aj), (wrap64 (a + 1)), el_, H', ⟨by have := aa.1; omega⟩, ⟨ps_ (Kd.Ea ao.1 (fun _ hk => trivial))⟩, ⟨pk_ l.1⟩, ⟨CM HB.1 t.1⟩⟩
def Bh.j0 : Nat → Bool → Int → List Int → List Int → Bool → List Int → List (S81) → Option (List Int × (List (S81)) × Bool)
 | 0, _, _, _, _, _, _, _ => none
 | k + 1, j, a, b, c, d, e, g => if j = true then (some (([] : List Int), ([] : List (S81)), false)) else ((Ep.f e).bind fun h => ((AU.f k g a b c d).bind fun i => (some (h, i, true))))
def Bh.f (k : Nat) (a : Int) (c : List Int) (d : List Int) (b : Bool) (e : List Int) (g : List (S81)) : Option (List Int × (List (S81)) × Bool) := (EW.f k a c d b).bind fun h => (if h = true then ((BQ.f k e g).bind fun i => (if i = true then ((ED.f k a c d b e g).bind fun j => (Bh.j0 k j a c d b e g)) else (Bh.j0 k true a c d b e g))) else (Bh.j0 k true a c d b e g))
theorem Bh.mono_l : ∀ k, (∀ a b c d e f g, LeO (Bh.j0 k a b c d e f g) (Bh.j0 (k + 1) a b c d e f g))
 | 0 => fun _ _ _ _ _ _ _ r h => by simp [Bh.j0] at h
 | k + 1 => by
  have ih0 := Bh.mono_l k
  ·intro a b c d e f g
   unfold Bh.j0
   exact OJ ih0 EW.mono BQ.mono AU.mono ED.mono
theorem Bh.mono : ∀ a b c d e g k, LeO (Bh.f k a b c d e g) (Bh.f (k + 1) a b c d e g) := by
 intro a b c d e g k
 have ih0 := Bh.mono_l k
 unfold Bh.f
 exact OJ ih0 EW.mono BQ.mono AU.mono ED.mono
def Bh.T3 : Bool × List (List Nat × List Nat) := (true, [([], []), ([0], [0]), ([1], [1]), ([], []), ([3], [3]), ([], []), ([4, 5, 2], [4, 5]), ([2, 6], [2, 6]), ([7, 6, 0, 1, 2, 3, 4, 5, 6, 7], [7]), ([8, 0, 1, 2, 3, 4, 5, 6, 7, 8], [])])
def Bh.B3 : List Nat := [0, 1, 3, 0, 8, 0, 63, 127, 255, 511]
theorem Bh.tab3 : rtab .any (opsOf Tryz.f121 3) = Bh.T3 := by kernel_rfl
theorem Bh.bits3 : Fa Bh.T3.2 Bh.B3 = true := by kernel_rfl
theorem Bh.calls (k : Nat) (s : Int) (B : Option Addr) (E : Nat) (j : List Int) (D : Option Addr) (F : Nat) (l : List Int) (t : Bool) (M : Option Addr) (P : Nat) (q : List Int) (O : Option Addr) (Q : Nat) (r : List (S81)) (r1 : List Int) (r2 : List (S81)) (r3 : Bool) (w : World) (hr0_1 : Kd.C (Kd.int .i64) w B j.length j) (ae : j.length ≤ E) (hr0_2 : Kd.C (Kd.int .i64) w D l.length l) (af : l.length ≤ F) (hr1_0 : Kd.C (Kd.int .i64) w M q.length q) (ag : q.length ≤ P) (hr1_1 : Kd.C k81 w O r.length r) (ah : r.length ≤ Q) (h : Bh.f k s j l t q r = some (r1, r2, r3)) :
  Calls Tryz.prog 121 #[.agg #[.int .i64 s, .slice B j.length E, .slice D l.length F, .bool t], .agg #[.slice M q.length P, .slice O r.length Q]] w fun e w' => ∃ v0_ v1_ : Value, e = .returned (.tuple #[.agg #[v0_, v1_], .bool r3]) ∧ Kd.R (Kd.int .i64) 3 w' w.heap.size (fun _ => True) v0_ r1 ∧ Kd.S k81 81 w' w.heap.size (fun k_ => some k_ ≠ (v0_ : Value).ownBlock) v1_ r2 ∧ Below w.heap.size w w' := by
 have hu75 := Tryz.underlying75
 have hu53 := Tryz.underlying53
 have J := Q_ hr0_1
 have G := Q_ ae
 clear hr0_1 ae
 have L := Q_ hr0_2
 have I := Q_ af
 clear hr0_2 af
 have V := Q_ hr1_0
 have T := Q_ ag
 clear hr1_0 ag
 have W := Q_ hr1_1
 have U := Q_ ah
 clear hr1_1 ah
 have HB := Q_ (Below.refl w.heap.size w)
 unfold Bh.f at h
 have H := h
 clear h
 have ay := Q_ H
 clear H
 go_enter Tryz.func121, Tryz.ntmps121
 go_upto_region 1 with (first | (refine bg_ 2 #[.int .i64 s, .slice B j.length E, .slice D l.length F, .bool t] 75 ?_; intro ad hg w4 hbox hb; have _ := Q_ (AD (pb_ HB.1) hb); have a := Q_ (hbox); have av := Q_ (gw_ (w := w) hg (pb_ HB.1)); have g := av; clear HB; rename_i HB; clear hb hbox hg) | (refine bg_ 3 #[.slice M q.length P, .slice O r.length Q] 53 ?_; intro Y hg w5 hbox hb; have _ := Q_ (bb_ a.1 hb); have _ := Q_ (AD (CM HB.1 g.1) hb); have b := Q_ (hbox); have aw := Q_ (gw_ (w := w) hg (CM HB.1 g.1)); have i := aw; have y := Q_ (nb_ hg a); have A := Q_ y.1.symm; clear a HB; rename_i a HB; clear hb hbox hg) | (refine bg_ 4 #[.slice none 0 0, .slice none 0 0] 53 ?_; intro x hg w6 hbox hb; have _ := Q_ (bb_ a.1 hb); have _ := Q_ (bb_ b.1 hb); have _ := Q_ (AD (Dw HB.1 g.1 i.1) hb); have c := Q_ (hbox); have ax := Q_ (gw_ (w := w) hg (Dw HB.1 g.1 i.1)); have m := ax; have o := Q_ (nb_ hg a); have u := Q_ o.1.symm; have d := Q_ (nb_ hg b); have v := Q_ d.1.symm; clear a b HB; rename_i a b HB; clear hb hbox hg))
 (try simp only [Act.put, s1_, s2_, s3_])
 go_cut [18] (fun bj wc => ∃ (kq : Nat) (X : Bool), bj = .bool X ∧ Aside0 (Bh.j0 kq X s j l t q r = some (r1, r2, r3)) ∧ Aside0 (kq ≤ k) ∧ Aside0 (wc.heap[ad]? = some (.cells #[.int .i64 s, (.slice B j.length E), (.slice D l.length F), .bool t] 75 (0, 0))) ∧ Aside0 (wc.heap[Y]? = some (.cells #[(.slice M q.length P), (.slice O r.length Q)] 53 (0, 0))) ∧ Aside0 (wc.heap[x]? = some (.cells #[(.slice none 0 0), (.slice none 0 0)] 53 (0, 0))) ∧ Aside0 (Below w.heap.size w wc))
 case first =>
  have H := ay.1
  clear ay
  obtain ⟨aj, A7, H⟩ := bs_ H
  (try dsimp only at H)
  by_cases c8 : aj = true
  rotate_left
  ·replace c8 := bf_ c8
   subst c8
   rw [if_neg ff_] at H
   have H' := Q_ H
   clear H
   have bk := y.1
   have bl := A.1
   have a1 := o.1
   have ba := u.1
   have aR := E8 a.1
   go_wp2_with (first | (refine gk_ 52 7 Tryz.func52 #[.agg #[.int .i64 s, .slice B j.length E, .slice D l.length F, .bool t]] ?_; (with_reducible refine (EW.calls k s _ _ j _ _ l t false _ (cb_ J HB) G.1 (cb_ L HB) I.1 A7.1).mono ?_); rintro e br ⟨rfl, hb⟩; refine ⟨_, rfl, ?_⟩; have _ := Q_ (bb_ a.1 hb); have _ := Q_ (bb_ b.1 hb); have _ := Q_ (bb_ c.1 hb); have _ := Q_ (AD (Gg HB.1 g.1 i.1 m.1) hb); clear a b c HB; rename_i a b c HB; (try clear hb)))
   go_meet
   case rel => exact ⟨_, (true), el_, H', ⟨by first | omega | exact Nat.le_refl _⟩, ⟨pk_ a.1⟩, ⟨pk_ b.1⟩, ⟨pk_ c.1⟩, ⟨Gg HB.1 g.1 i.1 m.1⟩⟩
  subst c8
  rw [if_pos rfl] at H
  obtain ⟨ak, az, H⟩ := bs_ H
  (try dsimp only at H)
  by_cases al : ak = true
  rotate_left
  ·replace al := bf_ al
   subst al
   rw [if_neg ff_] at H
   have H' := Q_ H
   clear H
   have a2 := y.1
   have bb := A.1
   have a3 := o.1
   have bc := u.1
   have aS := E8 a.1
   go_wp2_with (first | (refine gk_ 52 7 Tryz.func52 #[.agg #[.int .i64 s, .slice B j.length E, .slice D l.length F, .bool t]] ?_; (with_reducible refine (EW.calls k s _ _ j _ _ l t true _ (cb_ J HB) G.1 (cb_ L HB) I.1 A7.1).mono ?_); rintro e bs ⟨rfl, hb⟩; refine ⟨_, rfl, ?_⟩; have _ := Q_ (bb_ a.1 hb); have _ := Q_ (bb_ b.1 hb); have _ := Q_ (bb_ c.1 hb); have _ := Q_ (AD (Gg HB.1 g.1 i.1 m.1) hb); clear a b c HB; rename_i a b c HB; (try clear hb); have a4 := d.1; have bd := v.1; have aT := Ew b.1) | (go_at_call 23; (with_reducible refine (BQ.calls k _ _ q _ _ r false _ (cb_ V HB) T.1 (cb_ W HB) U.1 az.1).mono ?_); rintro e bt ⟨rfl, hb⟩; have _ := Q_ (bb_ a.1 hb); have _ := Q_ (bb_ b.1 hb); have _ := Q_ (bb_ c.1 hb); have _ := Q_ (AD (Gg HB.1 g.1 i.1 m.1) hb); clear a b c HB; rename_i a b c HB; (try clear hb)))
   go_meet
   case rel => exact ⟨_, (true), el_, H', ⟨by first | omega | exact Nat.le_refl _⟩, ⟨pk_ a.1⟩, ⟨pk_ b.1⟩, ⟨pk_ c.1⟩, ⟨Gg HB.1 g.1 i.1 m.1⟩⟩
  subst al
  rw [if_pos rfl] at H
  obtain ⟨Z, aN, H⟩ := bs_ H
  (try dsimp only at H)
  have H' := Q_ H
  clear H
  have a5 := y.1
  have be := A.1
  have a6 := o.1
  have bf := u.1
  have aU := E8 a.1
  go_wp2_with (first | (refine gk_ 52 7 Tryz.func52 #[.agg #[.int .i64 s, .slice B j.length E, .slice D l.length F, .bool t]] ?_; (with_reducible refine (EW.calls k s _ _ j _ _ l t true _ (cb_ J HB) G.1 (cb_ L HB) I.1 A7.1).mono ?_); rintro e bu ⟨rfl, hb⟩; refine ⟨_, rfl, ?_⟩; have _ := Q_ (bb_ a.1 hb); have _ := Q_ (bb_ b.1 hb); have _ := Q_ (bb_ c.1 hb); have _ := Q_ (AD (Gg HB.1 g.1 i.1 m.1) hb); clear a b c HB; rename_i a b c HB; (try clear hb); have a7 := d.1; have bg := v.1; have aV := Ew b.1) | (go_at_call 23; (with_reducible refine (BQ.calls k _ _ q _ _ r true _ (cb_ V HB) T.1 (cb_ W HB) U.1 az.1).mono ?_); rintro e bv ⟨rfl, hb⟩; have _ := Q_ (bb_ a.1 hb); have _ := Q_ (bb_ b.1 hb); have _ := Q_ (bb_ c.1 hb); have _ := Q_ (AD (Gg HB.1 g.1 i.1 m.1) hb); clear a b c HB; rename_i a b c HB; (try clear hb); have aW := E8 a.1; have aX := Ew b.1) | (go_at_call 160; (with_reducible refine (ED.calls k s _ _ j _ _ l t _ _ q _ _ r Z _ (cb_ J HB) G.1 (cb_ L HB) I.1 (cb_ V HB) T.1 (cb_ W HB) U.1 aN.1).mono ?_); rintro e bw ⟨rfl, hb⟩; have _ := Q_ (bb_ a.1 hb); have _ := Q_ (bb_ b.1 hb); have _ := Q_ (bb_ c.1 hb); have _ := Q_ (AD (Gg HB.1 g.1 i.1 m.1) hb); clear a b c HB; rename_i a b c HB; (try clear hb)))
  go_meet
  case rel => exact ⟨_, (Z), el_, H', ⟨by first | omega | exact Nat.le_refl _⟩, ⟨pk_ a.1⟩, ⟨pk_ b.1⟩, ⟨pk_ c.1⟩, ⟨Gg HB.1 g.1 i.1 m.1⟩⟩
 clear ay
 obtain ⟨kq, X, rfl, HA, bq, a, b, c, HB⟩ := hcut
 rcases kq with _ | kj2
 ·exact absurd HA.1 (by simp [Bh.j0])
 have H := HA.1
 clear HA
 simp only [Bh.j0] at H
 by_cases am : X = true
 ·subst am
  rw [if_pos rfl] at H
  simp only [Option.some.injEq, Prod.mk.injEq] at H
  obtain ⟨rfl, rfl, rfl⟩ := H
  have a8 := u.1
  have bh := o.1
  have a9 := v.1
  have bi := d.1
  have aY := Ew c.1
  go_wp2
  refine bodyPost_ret (HY rfl _ _ x 53 #[.slice none 0 0, .slice none 0 0] (0, 0) _ rfl (pp_ c.1) Tryz.underlying53 rfl (by kernel_rfl)) rfl ?_
  exact ⟨_, _, er_, nl_, by first | exact Kd.J' _ _ _ _ _ | exact Kd.J4 _ _ _ _ _ | exact Kd.KO _ _ _ _ _ | exact Kd.KX _ _ _ _ _ | exact Kd.I7 _ _ _ _ _, Gg HB.1 g.1 i.1 m.1⟩
 replace am := bf_ am
 subst am
 rw [if_neg ff_] at H
 obtain ⟨aa, aO, H⟩ := bs_ H
 (try dsimp only at H)
 obtain ⟨ab, aP, H⟩ := bs_ H
 replace H : (some (aa, ab, true)) = some (r1, r2, r3) := H
 simp only [Option.some.injEq, Prod.mk.injEq] at H
 obtain ⟨rfl, rfl, rfl⟩ := H
 try go_wp2
 have _ := Q_ (Bq a.1)
 have _ := Q_ (Bq b.1)
 have _ := Q_ (Bq c.1)
 have _ := Q_ (Cm HB.1)
 clear a b c HB
 rename_i a b c HB
 refine sw_ (S := fun w' => w'.cell? ⟨Y, 0, none⟩ = some (.slice M q.length P) ∧ w'.cell? ⟨Y, 1, none⟩ = some (.slice O r.length Q)) 10 Bh.tab3 Bh.bits3 (sb_ b.1) (fun hHeld HT_ HW_ => ?_)
 generalize wc.drew = bx at a b c HB hHeld ⊢
 refine Ba 0 20 10 1 ?_
 refine Ba 3 23 10 9 ?_
 refine Ba 5 25 10 41 ?_
 refine E1 1 21 10 43 hHeld ?_
 refine E1 4 24 10 59 hHeld ?_
 refine on_ 2 (some 22) (tf_ 6 10) HT_ (fun K hK => ?_)
 refine gs_ Tryz.func161 #[.slice M q.length P] ?_
 with_reducible refine (Ep.calls _ _ q aa _ (cb_ V HB) T.1 aO.1).mono ?_
 rintro e bz ⟨bo, rfl, ai, hb⟩
 refine ⟨_, rfl, ?_⟩
 have _ := Q_ (Kd.BV ai (AZ (Gg HB.1 g.1 i.1 m.1)))
 have _ := Q_ (bb_ a.1 hb)
 have _ := Q_ (bb_ b.1 hb)
 have _ := Q_ (bb_ c.1 hb)
 have _ := Q_ (AD (Gg HB.1 g.1 i.1 m.1) hb)
 clear a b c HB
 rename_i z a b c HB
 (try clear hb ai)
 (try (obtain ⟨Ao_, co_, eo_⟩ := Kd.Bo z.1; subst eo_))
 refine hK.out _ _ (sb_ b.1) (fun hHeld => ?_)
 clear hK K
 refine no_ (some 22) ?_
 refine on_ 6 (some 26) (tf_ 7 10) HT_ (fun K hK => ?_)
 refine gs_ Tryz.func122 #[.slice O r.length Q, .func (.func 162) #[] #[.pointer (some ⟨ad, 0, none⟩)]] ?_
 with_reducible refine (AU.calls kj2 _ _ r _ s B E j D F l t ab _ (cb_ W HB) U.1 (cb_ J HB) G.1 (cb_ L HB) I.1 ?side7 aP.1).mono ?_
 (case side7 => exact pk_ a.1)
 rintro e aL ⟨bp, rfl, ai, hb⟩
 refine ⟨_, rfl, ?_⟩
 have _ := Q_ (Kd.Bv (pr_ z.1) hb)
 have _ := Q_ (Kd.Fh (Kd.Hz ai (Kd.Dj (pr_ z.1))) (AZ (Gg HB.1 g.1 i.1 m.1)))
 have _ := Q_ (bb_ a.1 hb)
 have _ := Q_ (bb_ b.1 hb)
 have _ := Q_ (bb_ c.1 hb)
 have _ := Q_ (AD (Gg HB.1 g.1 i.1 m.1) hb)
 clear z a b c HB
 rename_i z ac a b c HB
 (try clear hb ai)
 obtain ⟨an, ap, ar⟩ := Kd.Gv ac.1
 (first | subst ar | (injection ar with f1_ f2_ f3_; have f4_ := f1_.symm; have f5_ := f3_.symm; clear f1_ f2_ f3_; subst f4_; subst f5_))
 obtain ⟨ao, aq, au⟩ := Kd.Bo z.1
 (first | subst au | (injection au with f1_ f2_ f3_; have f4_ := f1_.symm; have f5_ := f3_.symm; clear f1_ f2_ f3_; subst f4_; subst f5_))
 refine hK.out _ _ (sb_ b.1) (fun hHeld => ?_)
 clear hK K
 refine no_ (some 26) ?_
 refine Ba 7 27 10 255 ?_
 refine on_ 8 (none) (tf_ 9 10) HT_ (fun K hK => ?_)
 have bm : aL.cell? ⟨x, 0, none⟩ = some (.slice none 0 0) := (BM c.1 0).trans rfl
 have aZ := DI c.1 0
 have aE := o.1
 have aF := d.1
 have aA := u.1
 have aB := v.1
 have bn : aL.cell? ⟨x, 1, none⟩ = some (.slice none 0 0) := (BM c.1 1).trans rfl
 have a0 := DI c.1 1
 have aG := o.1
 have aH := d.1
 have aC := u.1
 have aD := v.1
 refine J2 (w1 := ?_) (by rfl) rfl ?_ ?_
 rotate_left
 ·go_simp
  rfl
 refine hK.out _ _ ⟨((cell_far (p := ⟨x, _, none⟩) d.1 _).trans (((cell_far (p := ⟨x, _, none⟩) d.1 _).trans (hHeld.1)))), ((cell_far (p := ⟨x, _, none⟩) d.1 _).trans (((cell_far (p := ⟨x, _, none⟩) d.1 _).trans (hHeld.2))))⟩ (fun hHeld => ?_)
 clear hK K
 refine Ba 9 5 10 1023 ?_
 refine G8 (E0 HT_.1 (by kernel_rfl)) ?_
 try go_wp2
 refine bodyPost_ret (HY rfl _ _ x 53 #[.slice ao aa.length aq, .slice an ab.length ap] (0, 0) _ rfl (pp_ c.1) Tryz.underlying53 rfl (by kernel_rfl)) rfl ?_
 exact ⟨_, _, er_, pr_ (Kd.Ax (H5 z.1 c.1) (fun _ hk => trivial)), ps_ (Kd.Ea (Kd.GQ (p := ⟨x, 1, none⟩) (Kd.GQ (p := ⟨x, 0, none⟩) (Kd.IL ac.1 c.1 (by decide)) (fun _ hk => hk.2) (.slice ao aa.length aq)) (fun _ hk => hk.2) (.slice an ab.length ap)) (fun _ hk => hk.1.2)), Gg HB.1 g.1 i.1 m.1⟩
mutual
def Am.j0 : Nat → List (S75) → Bool → List Int → List (S81) → Option (List Int × (List (S81)) × Bool)
 | 0, _, _, _, _ => none
 | k + 1, e, d, b, c => if d = true then (some (([] : List Int), ([] : List (S81)), false)) else ((DC.f k b c).bind fun a => (Am.l0 k e true 0 a.1 a.2))
def Am.l0 : Nat → List (S75) → Bool → Int → List Int → List (S81) → Option (List Int × (List (S81)) × Bool)
 | 0, _, _, _, _, _ => none
 | k + 1, e, g, d, a, b => if d < (e.length : Int) then (if g = true then (if 0 ≤ d then ((Bh.f k ((EM e d).f0) ((EM e d).f1) ((EM e d).f2) ((EM e d).f3) a b).bind fun c => (Am.l0 k e c.2.2 (wrap64 (d + 1)) c.1 c.2.1)) else (none)) else (some (a, b, g))) else (some (a, b, g))
end
def Am.f (k : Nat) (d : List (S75)) (a : List Int) (b : List (S81)) : Option (List Int × (List (S81)) × Bool) := (BQ.f k a b).bind fun c => (if c = true then (Am.j0 k d (decide ((d.length : Int) > 4)) a b) else (Am.j0 k d true a b))
theorem Am.mono_l : ∀ k, (∀ a b c d, LeO (Am.j0 k a b c d) (Am.j0 (k + 1) a b c d)) ∧ (∀ a b c d e, LeO (Am.l0 k a b c d e) (Am.l0 (k + 1) a b c d e))
 | 0 => ⟨fun _ _ _ _ r h => by simp [Am.j0] at h, fun _ _ _ _ _ r h => by simp [Am.l0] at h⟩
 | k + 1 => by
  obtain ⟨ih0, ih1⟩ := Am.mono_l k
  refine ⟨?_, ?_⟩
  ·intro a b c d
   unfold Am.j0
   exact OJ ih0 ih1 BQ.mono Bh.mono DC.mono
  ·intro a b c d e
   unfold Am.l0
   exact OJ ih0 ih1 BQ.mono Bh.mono DC.mono
theorem Am.mono : ∀ a b c k, LeO (Am.f k a b c) (Am.f (k + 1) a b c) := by
 intro a b c k
 obtain ⟨ih0, ih1⟩ := Am.mono_l k
 unfold Am.f
 exact OJ ih0 ih1 BQ.mono Bh.mono DC.mono
def Am.T7 : Bool × List (List Nat × List Nat) := (true, [([], []), ([], []), ([0, 1], [0, 1]), ([2], [2]), ([], []), ([3, 4], [3, 4]), ([5], [5]), ([6], [6]), ([6], [6]), ([7, 5, 0, 1, 2, 3, 4, 5, 6, 7], [7]), ([8, 9, 0, 1, 2, 3, 4, 5, 6, 7, 8, 9], [8])])
def Am.B7 : List Nat := [0, 0, 3, 7, 0, 31, 63, 127, 127, 255, 1023]
theorem Am.tab7 : rtab .any (opsOf Tryz.f84 7) = Am.T7 := by kernel_rfl
theorem Am.bits7 : Fa Am.T7.2 Am.B7 = true := by kernel_rfl
theorem Am.calls (k : Nat) (A0 : Option Addr) (c0 : Nat) (Q : List (S75)) (L : Option Addr) (O : Nat) (s : List Int) (M : Option Addr) (P : Nat) (t : List (S81)) (r1 : List Int) (r2 : List (S81)) (r3 : Bool) (w : World) (hr0 : Kd.C k75 w A0 Q.length Q) (bp : Q.length ≤ c0) (hr1_0 : Kd.C (Kd.int .i64) w L s.length s) (aF : s.length ≤ O) (hr1_1 : Kd.C k81 w M t.length t) (aG : t.length ≤ P) (h : Am.f k Q s t = some (r1, r2, r3)) :
  Calls Tryz.prog 84 #[.slice A0 Q.length c0, .agg #[.slice L s.length O, .slice M t.length P]] w fun e w' => ∃ v0_ v1_ : Value, e = .returned (.tuple #[.agg #[v0_, v1_], .bool r3]) ∧ Kd.R (Kd.int .i64) 3 w' w.heap.size (fun _ => True) v0_ r1 ∧ Kd.S k81 81 w' w.heap.size (fun k_ => some k_ ≠ (v0_ : Value).ownBlock) v1_ r2 ∧ Below w.heap.size w w' := by
 have hu53 := Tryz.underlying53
 have hu75 := Tryz.underlying75
 have bD := Q_ hr0
 have co := Q_ bp
 clear hr0 bp
 have ag := Q_ hr1_0
 have ae := Q_ aF
 clear hr1_0 aF
 have ah := Q_ hr1_1
 have af := Q_ aG
 clear hr1_1 aG
 have HB := Q_ (Below.refl w.heap.size w)
 unfold Am.f at h
 have H := h
 clear h
 have aZ := Q_ H
 clear H
 go_enter Tryz.func84, Tryz.ntmps84
 go_upto_region 1 with (first | ((with_reducible refine FP (N := 3) rfl ?_); (try (refine GK (by rfl) ?_; dsimp only)); refine bx_ 3 #[.slice L s.length O, .slice M t.length P] 53 ?_; intro aE hg w4 hbox hb; have _ := Q_ (AD (pb_ HB.1) hb); have b := Q_ (hbox); have aW := Q_ (gw_ (w := w) hg (pb_ HB.1)); have l := aW; clear HB; rename_i HB; clear hb hbox hg) | ((with_reducible refine FP (N := 4) rfl ?_); (try (refine GK (by rfl) ?_; dsimp only)); refine bx_ 4 #[.slice none 0 0, .slice none 0 0] 53 ?_; intro V hg w5 hbox hb; have _ := Q_ (bb_ b.1 hb); have _ := Q_ (AD (CM HB.1 l.1) hb); have a := Q_ (hbox); have aX := Q_ (gw_ (w := w) hg (CM HB.1 l.1)); have q := aX; have r := Q_ (nb_ hg b); have v := Q_ r.1.symm; clear b HB; rename_i b HB; clear hb hbox hg))
 (try simp only [Act.put, s1_, s2_, s3_])
 go_cut [16] (fun cb wc => ∃ (kq : Nat) (X : Bool), cb = .bool X ∧ Aside0 (Am.j0 kq Q X s t = some (r1, r2, r3)) ∧ Aside0 (kq ≤ k) ∧ Aside0 (wc.heap[aE]? = some (.cells #[(.slice L s.length O), (.slice M t.length P)] 53 (0, 0))) ∧ Aside0 (wc.heap[V]? = some (.cells #[(.slice none 0 0), (.slice none 0 0)] 53 (0, 0))) ∧ Aside0 (Below w.heap.size w wc))
 case first =>
  have H := aZ.1
  clear aZ
  obtain ⟨aJ, A6, H⟩ := bs_ H
  (try dsimp only at H)
  by_cases c7 : aJ = true
  rotate_left
  ·replace c7 := bf_ c7
   subst c7
   rw [if_neg ff_] at H
   have H' := Q_ H
   clear H
   have cg := r.1
   have ch := v.1
   have cf := Ew b.1
   go_wp2_with (first | (refine gk_ 23 10 Tryz.func23 #[.agg #[.slice L s.length O, .slice M t.length P]] ?_; (with_reducible refine (BQ.calls k _ _ s _ _ t false _ (cb_ ag HB) ae.1 (cb_ ah HB) af.1 A6.1).mono ?_); rintro e cr ⟨rfl, hb⟩; refine ⟨_, rfl, ?_⟩; have _ := Q_ (bb_ b.1 hb); have _ := Q_ (bb_ a.1 hb); have _ := Q_ (AD (Dw HB.1 l.1 q.1) hb); clear b a HB; rename_i b a HB; (try clear hb)))
   go_meet
   case rel => exact ⟨_, (true), el_, H', ⟨by first | omega | exact Nat.le_refl _⟩, ⟨pk_ b.1⟩, ⟨pk_ a.1⟩, ⟨Dw HB.1 l.1 q.1⟩⟩
  subst c7
  rw [if_pos rfl] at H
  have H' := Q_ H
  clear H
  have bP := r.1
  have b0 := v.1
  have bF := Ew b.1
  go_wp2_with (first | (refine gk_ 23 10 Tryz.func23 #[.agg #[.slice L s.length O, .slice M t.length P]] ?_; (with_reducible refine (BQ.calls k _ _ s _ _ t true _ (cb_ ag HB) ae.1 (cb_ ah HB) af.1 A6.1).mono ?_); rintro e cs ⟨rfl, hb⟩; refine ⟨_, rfl, ?_⟩; have _ := Q_ (bb_ b.1 hb); have _ := Q_ (bb_ a.1 hb); have _ := Q_ (AD (Dw HB.1 l.1 q.1) hb); clear b a HB; rename_i b a HB; (try clear hb)))
  go_meet
  case rel => exact ⟨_, (decide ((Q.length : Int) > 4)), el_, H', ⟨by first | omega | exact Nat.le_refl _⟩, ⟨pk_ b.1⟩, ⟨pk_ a.1⟩, ⟨Dw HB.1 l.1 q.1⟩⟩
 clear aZ
 obtain ⟨kq, X, rfl, HA, ba, b, a, HB⟩ := hcut
 rcases kq with _ | kj2
 ·exact absurd HA.1 (by simp [Am.j0])
 have H := HA.1
 clear HA
 simp only [Am.j0] at H
 by_cases aK : X = true
 ·subst aK
  rw [if_pos rfl] at H
  simp only [Option.some.injEq, Prod.mk.injEq] at H
  obtain ⟨rfl, rfl, rfl⟩ := H
  have bQ := v.1
  have b1 := r.1
  have bG := Ew a.1
  go_wp2
  refine bodyPost_ret (HY rfl _ _ V 53 #[.slice none 0 0, .slice none 0 0] (0, 0) _ rfl (pp_ a.1) Tryz.underlying53 rfl (by kernel_rfl)) rfl ?_
  exact ⟨_, _, er_, nl_, by first | exact Kd.J' _ _ _ _ _ | exact Kd.J4 _ _ _ _ _ | exact Kd.KO _ _ _ _ _ | exact Kd.KX _ _ _ _ _ | exact Kd.I7 _ _ _ _ _, Dw HB.1 l.1 q.1⟩
 replace aK := bf_ aK
 subst aK
 rw [if_neg ff_] at H
 obtain ⟨⟨an, ao⟩, bB, H⟩ := bs_ H
 replace H : (Am.l0 kj2 Q true 0 an ao) = some (r1, r2, r3) := H
 have H' := Q_ H
 clear H
 have bR := r.1
 have b2 := v.1
 have bH := Ew b.1
 go_wp2_with (first | (refine gk_ 111 19 Tryz.func111 #[.agg #[.slice L s.length O, .slice M t.length P]] ?_; (with_reducible refine (DC.calls kj2 _ _ s _ _ t an ao _ (cb_ ag HB) ae.1 (cb_ ah HB) af.1 bB.1).mono ?_); rintro e ct ⟨ck, cl, rfl, ai, av, hb⟩; refine ⟨_, rfl, ?_⟩; have _ := Q_ (Kd.BV ai (AZ (Dw HB.1 l.1 q.1))); have _ := Q_ (Kd.Fh av (AZ (Dw HB.1 l.1 q.1))); have _ := Q_ (bb_ b.1 hb); have _ := Q_ (bb_ a.1 hb); have _ := Q_ (AD (Dw HB.1 l.1 q.1) hb); clear b a HB; rename_i T U b a HB; (try clear hb ai av)) | ((with_reducible refine FP (N := 6) rfl ?_); (try (refine GK (by rfl) ?_; dsimp only)); refine bx_ 6 #[.slice none 0 0, .slice none 0 0] 53 ?_; intro D hg cu hbox hb; have _ := Q_ (Kd.Bv (pr_ T.1) hb); have _ := Q_ (Kd.FB (ps_ U.1) hb); have _ := Q_ (bb_ b.1 hb); have _ := Q_ (bb_ a.1 hb); have _ := Q_ (AD (Dw HB.1 l.1 q.1) hb); have g := Q_ (hbox); have aY := Q_ (gw_ (w := w) hg (Dw HB.1 l.1 q.1)); have A := aY; have u := Q_ (nb_ hg b); have y := Q_ u.1.symm; have x := Q_ (nb_ hg a); have z := Q_ x.1.symm; clear T U b a HB; rename_i T U b a HB; clear hb hbox hg; obtain ⟨a4, bc, bj⟩ := Kd.Bo T.1; subst bj; have bS := y.1; have b3 := u.1; have bT := z.1; have b4 := x.1; have bI := Ew g.1; obtain ⟨a5, bd, bk⟩ := Kd.Gv U.1; subst bk))
 (try simp only [Act.put, s1_, s2_, s3_])
 go_loopg [7, 8] kj2 (fun kq v7 v8 w' => ∃ (ar : Bool) (j : Int) (m : List Int) (o : List (S81)) (J : Value) (W : Value), v7 = .bool ar ∧ v8 = .int .i64 j ∧ Aside0 (Am.l0 kq Q ar j m o = some (r1, r2, r3)) ∧ Aside0 (kq ≤ kj2) ∧ Aside0 (Kd.R (Kd.int .i64) 3 w' w.heap.size (fun _ => True) J m) ∧ Aside0 (Kd.S k81 81 w' w.heap.size (fun k_ => some k_ ≠ (J : Value).ownBlock) W o) ∧ Aside0 (w'.heap[aE]? = some (.cells #[(.slice L s.length O), (.slice M t.length P)] 53 (0, 0))) ∧ Aside0 (w'.heap[V]? = some (.cells #[(.slice none 0 0), (.slice none 0 0)] 53 (0, 0))) ∧ Aside0 (w'.heap[D]? = some (.cells #[J, W] 53 (0, 0))) ∧ Aside0 (Below w.heap.size w w'))
 case atStart => exact ⟨(true), (0), (an), (ao), (.slice a4 an.length bc), (.slice a5 ao.length bd), el_, el_, H', ⟨Nat.le_refl _⟩, ⟨pr_ (Kd.Ax (H5 T.1 g.1) (fun _ hk => trivial))⟩, ⟨ps_ (L' U.1 g.1)⟩, ⟨pp_ b.1⟩, ⟨pp_ a.1⟩, ⟨pp_ g.1⟩, ⟨Gg HB.1 l.1 q.1 A.1⟩⟩
 clear H'
 obtain ⟨ar, j, m, o, J, W, rfl, rfl, HA, bb, c, d, b, a, g, HB⟩ := hrel
 rcases gk with _ | k2
 ·exact absurd HA.1 (by simp [Am.l0])
 have H := HA.1
 clear HA
 simp only [Am.l0] at H
 by_cases au : j < (Q.length : Int)
 rotate_left
 ·rw [if_neg au] at H
  have a0 := decide_eq_false au
  clear au
  simp only [Option.some.injEq, Prod.mk.injEq] at H
  obtain ⟨rfl, rfl, rfl⟩ := H
  have bU := y.1
  have b5 := u.1
  have bV := z.1
  have b6 := x.1
  have bJ := Ew g.1
  obtain ⟨a6, be, bl⟩ := Kd.Bo c.1
  subst bl
  have bW := v.1
  have b7 := r.1
  have bK := Ew a.1
  obtain ⟨a7, bf, bm⟩ := Kd.Gv d.1
  subst bm
  go_wp2
  refine bodyPost_ret (HY rfl _ _ V 53 #[.slice a6 m.length be, .slice a7 o.length bf] (0, 0) _ rfl (pp_ a.1) Tryz.underlying53 rfl (by kernel_rfl)) rfl ?_
  exact ⟨_, _, er_, pr_ (Kd.Ax (H5 c.1 a.1) (fun _ hk => trivial)), ps_ (L' d.1 a.1), Gg HB.1 l.1 q.1 A.1⟩
 rw [if_pos au] at H
 have a0 := decide_eq_true au
 clear au
 by_cases aL : ar = true
 rotate_left
 ·replace aL := bf_ aL
  subst aL
  rw [if_neg ff_] at H
  simp only [Option.some.injEq, Prod.mk.injEq] at H
  obtain ⟨rfl, rfl, rfl⟩ := H
  have bX := y.1
  have b8 := u.1
  have bY := z.1
  have b9 := x.1
  have bL := Ew g.1
  obtain ⟨a8, bg, bn⟩ := Kd.Bo c.1
  subst bn
  have bZ := v.1
  have ca := r.1
  have bM := Ew a.1
  obtain ⟨a9, bh, bo⟩ := Kd.Gv d.1
  subst bo
  go_wp2
  refine bodyPost_ret (HY rfl _ _ V 53 #[.slice a8 m.length bg, .slice a9 o.length bh] (0, 0) _ rfl (pp_ a.1) Tryz.underlying53 rfl (by kernel_rfl)) rfl ?_
  exact ⟨_, _, er_, pr_ (Kd.Ax (H5 c.1 a.1) (fun _ hk => trivial)), ps_ (L' d.1 a.1), Gg HB.1 l.1 q.1 A.1⟩
 subst aL
 rw [if_pos rfl] at H
 by_cases aM : 0 ≤ j
 rotate_left
 ·rw [if_neg aM] at H
  exact nn_ H
 rw [if_pos aM] at H
 have bE := decide_eq_true aM
 clear aM
 obtain ⟨⟨ap, aq, aV⟩, bC, H⟩ := bs_ H
 (try dsimp only at H)
 have H' := Q_ H
 clear H
 try go_wp2
 have _ := Q_ (Kd.EU c.1)
 have _ := Q_ (Kd.Gz d.1)
 have _ := Q_ (Bq b.1)
 have _ := Q_ (Bq a.1)
 have _ := Q_ (Bq g.1)
 have _ := Q_ (Cm HB.1)
 clear c d b a g HB
 rename_i c d b a g HB
 have aH : 0 ≤ (j : Int) := dt_
 have aI : j < (Q.length : Int) := dt_
 obtain ⟨B, aj, al, ak, am, bi, E, F, G, I, ay, Y, az, Z⟩ := S4 bD.1 j aH aI
 have ad := I
 have ac := G
 have ab := F
 have aa := E
 cases bi
 replace E := bt_ HB E
 replace F := bt_ HB F
 replace G := bt_ HB G
 replace I := bt_ HB I
 replace aH := eq_true aH
 replace aI := eq_true aI
 obtain ⟨aw, aC, aR⟩ := Kd.Bo c.1
 (first | subst aR | (injection aR with f1_ f2_ f3_; have f4_ := f1_.symm; have f5_ := f3_.symm; clear f1_ f2_ f3_; subst f4_; subst f5_))
 obtain ⟨ax, aD, aS⟩ := Kd.Gv d.1
 (first | subst aS | (injection aS with f1_ f2_ f3_; have f4_ := f1_.symm; have f5_ := f3_.symm; clear f1_ f2_ f3_; subst f4_; subst f5_))
 refine Lx (n := 11) (S := fun w' => w'.cell? ⟨D, 0, none⟩ = some (.slice aw m.length aC) ∧ w'.cell? ⟨D, 1, none⟩ = some (.slice ax o.length aD) ∧ w'.cell? (B.add ((j).toNat * 4)) = some (.int .i64 ((EM Q j).f0)) ∧ w'.cell? ⟨(B.add ((j).toNat * 4)).block, (B.add ((j).toNat * 4)).off + 1, none⟩ = some (.slice aj ((EM Q j).f1).length al) ∧ w'.cell? ⟨(B.add ((j).toNat * 4)).block, (B.add ((j).toNat * 4)).off + 2, none⟩ = some (.slice ak ((EM Q j).f2).length am) ∧ w'.cell? ⟨(B.add ((j).toNat * 4)).block, (B.add ((j).toNat * 4)).off + 3, none⟩ = some (.bool ((EM Q j).f3))) (ds := [9]) #[false, false, false, false, false, false, false, false, false, false, false] (by kernel_rfl) rfl rfl ⟨(BM g.1 0).trans rfl, (BM g.1 1).trans rfl, (bt_ HB aa), (bt_ HB ab), (bt_ HB ac), (bt_ HB ad)⟩ (fun hHeld => ?_); refine Lu Am.tab7 Am.bits7 (fun HT_ HW_ => ?_)
 generalize wr.drew = cv at c d b a g HB Y Z E F G I hHeld ⊢
 refine Ba 0 30 11 1 ?_
 refine Ba 1 31 11 3 ?_
 refine Ba 2 32 11 7 ?_
 refine E1 3 33 11 15 hHeld ?_
 refine E1 4 34 11 31 hHeld ?_
 refine on_ 5 (some 35) (tf_ 6 11) HT_ (fun K hK => ?_)
 refine gs_ Tryz.func121 #[.agg #[.int .i64 ((EM Q j).f0), .slice aj ((EM Q j).f1).length al, .slice ak ((EM Q j).f2).length am, .bool ((EM Q j).f3)], .agg #[.slice aw m.length aC, .slice ax o.length aD]] ?_
 with_reducible refine (Bh.calls k2 ((EM Q j).f0) _ _ ((EM Q j).f1) _ _ ((EM Q j).f2) ((EM Q j).f3) _ _ m _ _ o ap aq aV _ (cb_ Y HB) ay.1 (cb_ Z HB) az.1 ?side5 ?side6 ?side7 ?side8 bC.1).mono ?_
 (case side5 => exact pc_ ((Kd.BH c.1).2.2))
 (case side6 => exact (Kd.BH c.1).2.1)
 (case side7 => exact pc_ ((Kd.GX d.1).2.2))
 (case side8 => exact (Kd.GX d.1).2.1)
 rintro e bz ⟨cm, cn, rfl, ai, av, hb⟩
 refine ⟨_, rfl, ?_⟩
 have _ := Q_ (Kd.B0 (pr_ c.1) (Kd.BJ ai) hb)
 have _ := Q_ (Kd.Ea (Kd.JW (Kd.JW (Kd.RF (ps_ d.1) hb) (Kd.BJ ai)) (Kd.L6 av)) (fun _ h_ => h_.1))
 have _ := Q_ (Kd.BV (Kd.B8 ai (Kd.Dj (pr_ c.1))) (AZ (Gg HB.1 l.1 q.1 A.1)))
 have _ := Q_ (Kd.Fh (Kd.Hz (Kd.Hz av (Kd.Dj (pr_ c.1))) (Kd.Uf (ps_ d.1))) (AZ (Gg HB.1 l.1 q.1 A.1)))
 have _ := Q_ (bb_ b.1 hb)
 have _ := Q_ (bb_ a.1 hb)
 have _ := Q_ (bb_ g.1 hb)
 have _ := Q_ (AD (Gg HB.1 l.1 q.1 A.1) hb)
 clear c d b a g HB
 rename_i c d aA aB b a g HB
 (try clear hb ai av)
 obtain ⟨aN, aP, aT⟩ := Kd.Bo aA.1
 (first | subst aT | (injection aT with f1_ f2_ f3_; have f4_ := f1_.symm; have f5_ := f3_.symm; clear f1_ f2_ f3_; subst f4_; subst f5_))
 obtain ⟨aO, aQ, aU⟩ := Kd.Gv aB.1
 (first | subst aU | (injection aU with f1_ f2_ f3_; have f4_ := f1_.symm; have f5_ := f3_.symm; clear f1_ f2_ f3_; subst f4_; subst f5_))
 refine hK.out _ _ ⟨(BM g.1 0).trans rfl, (BM g.1 1).trans rfl, (bt_ HB aa), (bt_ HB ab), (bt_ HB ac), (bt_ HB ad)⟩ (fun hHeld => ?_)
 clear hK K
 refine no_ (some 35) ?_
 refine Ba 6 29 11 127 ?_
 refine Ba 7 36 11 255 ?_
 refine Ba 8 37 11 511 ?_
 refine VF (i := 9) (N := none) #[true, true, true, true, true, true, true, true, true, true, false] rfl rfl (PE HT_.1 (by kernel_rfl)) (by decide) (fun K hK => ?_)
 have ci : bz.cell? ⟨D, 0, none⟩ = some (.slice aw m.length aC) := (BM g.1 0).trans rfl
 have bN := DI g.1 0
 have bu := u.1
 have bv := x.1
 have bq := y.1
 have br := z.1
 have cj : bz.cell? ⟨D, 1, none⟩ = some (.slice ax o.length aD) := (BM g.1 1).trans rfl
 have bO := DI g.1 1
 have bw := u.1
 have bx := x.1
 have bs := y.1
 have bt := z.1
 refine J2 (w1 := ?_) (by rfl) rfl ?_ ?_
 rotate_left
 ·go_simp
  rfl
 refine hK.out _ _ ?_
 clear hK K
 refine Ba 10 7 11 2047 ?_
 refine G8 (E0 HT_.1 (by kernel_rfl)) ?_
 try go_wp2
 go_roundg k2
 case measure => have := ba.1; have := bb.1; omega
 case rel => exact ⟨(aV), (wrap64 (j + 1)), (ap), (aq), (.slice aN ap.length aP), (.slice aO aq.length aQ), el_, el_, H', ⟨by have := ba.1; have := bb.1; omega⟩, ⟨pr_ (Kd.Ax (H5 aA.1 g.1) (fun _ hk => trivial))⟩, ⟨ps_ (Kd.Ea (Kd.GQ (p := ⟨D, 1, none⟩) (Kd.GQ (p := ⟨D, 0, none⟩) (Kd.IL aB.1 g.1 (by decide)) (fun _ hk => hk.2) (.slice aN ap.length aP)) (fun _ hk => hk.2) (.slice aO aq.length aQ)) (fun _ hk => hk.1.1.1))⟩, ⟨pp_ b.1⟩, ⟨pp_ a.1⟩, ⟨pp_ g.1⟩, ⟨Gg HB.1 l.1 q.1 A.1⟩⟩
def Ai.l0 : Nat → List Int → List Int → Int → Int → Option (Bool)
 | 0, _, _, _, _ => none
 | k + 1, c, d, b, a => if a < b then (if 0 ≤ a then (if a < (c.length : Int) then (if a < (d.length : Int) then (if (rd c a) = (rd d a) then (Ai.l0 k c d b (wrap64 (a + 1))) else (some false)) else (none)) else (none)) else (none)) else (some true)
def Ai.f (k : Nat) (a : List Int) (b : List Int) : Option (Bool) := if (a.length : Int) = (b.length : Int) then (Ai.l0 k a b (a.length : Int) 0) else (some false)
theorem Ai.mono_l : ∀ k, (∀ a b c d, LeO (Ai.l0 k a b c d) (Ai.l0 (k + 1) a b c d))
 | 0 => fun _ _ _ _ r h => by simp [Ai.l0] at h
 | k + 1 => by
  have ih0 := Ai.mono_l k
  ·intro a b c d
   unfold Ai.l0
   exact G7 ih0
theorem Ai.mono : ∀ a b k, LeO (Ai.f k a b) (Ai.f (k + 1) a b) := by
 intro a b k
 have ih0 := Ai.mono_l k
 unfold Ai.f
 exact G7 ih0
theorem Ai.calls (k : Nat) (N : Option Addr) (P : Nat) (b : List Int) (O : Option Addr) (Q : Nat) (c : List Int) (r : Bool) (w : World) (hr0 : Kd.C (Kd.int .i64) w N b.length b) (G : b.length ≤ P) (hr1 : Kd.C (Kd.int .i64) w O c.length c) (I : c.length ≤ Q) (h : Ai.f k b c = some r) :
  Calls Tryz.prog 46 #[.slice N b.length P, .slice O c.length Q] w fun e w' => e = .returned (.bool r) ∧ C' w w' := by
 have x := Q_ hr0
 have U := Q_ G
 clear hr0 G
 have y := Q_ hr1
 have V := Q_ I
 clear hr1 I
 unfold Ai.f at h
 have H := h
 clear h
 by_cases l : (b.length : Int) = (c.length : Int)
 rotate_left
 ·rw [if_neg l] at H
  have z : ((b.length : Int) == (c.length : Int)) = false := beq_eq_false_iff_ne.mpr l
  have A : ((b.length : Int) != (c.length : Int)) = true := bne_iff_ne.mpr l
  have B : (b.length == c.length) = false := by first | simpa using l | (simp at l ⊢; omega)
  obtain rfl := Option.some.inj H
  go_enter Tryz.func46, Tryz.ntmps46
  go_wp2
  repeat (go_quiet (fail); try go_wp2)
  go_ret
  exact ⟨by first | rfl | (simp; done) | (simp [*]; done), by repeat (first | exact C'.refl _ | apply C'.step)⟩
 rw [if_pos l] at H
 have z : ((b.length : Int) == (c.length : Int)) = true := beq_iff_eq.mpr l
 have A : ((b.length : Int) != (c.length : Int)) = false := bne_eq_false_iff_eq.mpr l
 have B : (b.length == c.length) = true := by first | simpa using l | (simp at l ⊢; omega)
 clear l
 have H' := Q_ H
 clear H
 go_enter Tryz.func46, Tryz.ntmps46
 go_wp2
 repeat (go_quiet (fail); try go_wp2)
 go_loopg [13] k (fun kq M w' => ∃ (a : Int), M = .int .i64 a ∧ Aside0 (Ai.l0 kq b c (b.length : Int) a = some r) ∧ Aside0 (kq ≤ k) ∧ C' w w')
 case atStart => exact ⟨(0), el_, H', ⟨Nat.le_refl _⟩, by repeat (first | exact C'.refl _ | apply C'.step)⟩
 clear H'
 obtain ⟨a, rfl, HA, v, ⟨m1, rfl⟩⟩ := hrel
 rcases gk with _ | k1
 ·exact absurd HA.1 (by simp [Ai.l0])
 have H := HA.1
 clear HA
 simp only [Ai.l0] at H
 by_cases u : a < (b.length : Int)
 rotate_left
 ·rw [if_neg u] at H
  have D := decide_eq_false u
  clear u
  obtain rfl := Option.some.inj H
  go_wp2
  repeat (go_quiet (fail); try go_wp2)
  go_ret
  exact ⟨by first | rfl | (simp; done) | (simp [*]; done), by repeat (first | exact C'.refl _ | apply C'.step)⟩
 rw [if_pos u] at H
 have D := decide_eq_true u
 clear u
 by_cases J : 0 ≤ a
 rotate_left
 ·rw [if_neg J] at H
  exact nn_ H
 rw [if_pos J] at H
 have R := decide_eq_true J
 clear J
 by_cases K : a < (b.length : Int)
 rotate_left
 ·rw [if_neg K] at H
  exact nn_ H
 rw [if_pos K] at H
 have S := decide_eq_true K
 clear K
 by_cases L : a < (c.length : Int)
 rotate_left
 ·rw [if_neg L] at H
  exact nn_ H
 rw [if_pos L] at H
 have T := decide_eq_true L
 clear L
 by_cases t : (rd b a) = (rd c a)
 rotate_left
 ·rw [if_neg t] at H
  have E : ((rd b a) == (rd c a)) = false := beq_eq_false_iff_ne.mpr t
  have F : ((rd b a) != (rd c a)) = true := bne_iff_ne.mpr t
  obtain rfl := Option.some.inj H
  have d : 0 ≤ (a : Int) := dt_
  have i : a < (b.length : Int) := dt_
  obtain ⟨q, m, o⟩ := Kd.GG x.1 a d i
  cases m
  replace d := eq_true d
  replace i := eq_true i
  have g : 0 ≤ (a : Int) := dt_
  have j : a < (c.length : Int) := dt_
  obtain ⟨s, n, p⟩ := Kd.GG y.1 a g j
  cases n
  replace g := eq_true g
  replace j := eq_true j
  go_wp2
  repeat (go_quiet (fail); try go_wp2)
  go_ret
  exact ⟨by first | rfl | (simp; done) | (simp [*]; done), by repeat (first | exact C'.refl _ | apply C'.step)⟩
 rw [if_pos t] at H
 have E : ((rd b a) == (rd c a)) = true := beq_iff_eq.mpr t
 have F : ((rd b a) != (rd c a)) = false := bne_eq_false_iff_eq.mpr t
 clear t
 have H' := Q_ H
 clear H
 have d : 0 ≤ (a : Int) := dt_
 have i : a < (b.length : Int) := dt_
 obtain ⟨q, m, o⟩ := Kd.GG x.1 a d i
 cases m
 replace d := eq_true d
 replace i := eq_true i
 have g : 0 ≤ (a : Int) := dt_
 have j : a < (c.length : Int) := dt_
 obtain ⟨s, n, p⟩ := Kd.GG y.1 a g j
 cases n
 replace g := eq_true g
 replace j := eq_true j
 go_wp2
 repeat (go_quiet (fail); try go_wp2)
 go_roundg k1
 case measure => have := v.1; omega
 case rel => exact ⟨(wrap64 (a + 1)), el_, H', ⟨by have := v.1; omega⟩, by repeat (first | exact C'.refl _ | apply C'.step)⟩
def EK.f (k : Nat) (a : Int) (c : List Int) (b : Int) (d : List Int) : Option (Bool) := if a = b then ((Ai.f k c d).bind fun e => (some e)) else (some false)
theorem EK.mono : ∀ a b c d k, LeO (EK.f k a b c d) (EK.f (k + 1) a b c d) := by
 intro a b c d k
 unfold EK.f
 exact G7 Ai.mono
theorem EK.calls (k : Nat) (b : Int) (p : Option Addr) (u : Nat) (g : List Int) (c : Int) (q : Option Addr) (v : Nat) (i : List Int) (r : Bool) (w : World) (hr0_1 : Kd.C (Kd.int .i64) w p g.length g) (x : g.length ≤ u) (hr1_1 : Kd.C (Kd.int .i64) w q i.length i) (y : i.length ≤ v) (h : EK.f k b g c i = some r) :
  Calls Tryz.prog 188 #[.agg #[.int .i64 b, .slice p g.length u], .agg #[.int .i64 c, .slice q i.length v]] w fun e w' => e = .returned (.bool r) ∧ Below w.heap.size w w' := by
 have hu81 := Tryz.underlying81
 have E := Q_ hr0_1
 have B := Q_ x
 clear hr0_1 x
 have F := Q_ hr1_1
 have D := Q_ y
 clear hr1_1 y
 have HB := Q_ (Below.refl w.heap.size w)
 unfold EK.f at h
 have H := h
 clear h
 have HS_ := Q_ H
 clear H
 go_enter Tryz.func188, Tryz.ntmps188
 go_upto_region 1 with (first | (refine bg_ 2 #[.int .i64 b, .slice p g.length u] 81 ?_; intro I hg U hbox hb; have _ := Q_ (AD (pb_ HB.1) hb); have d := Q_ (hbox); have z := Q_ (gw_ (w := w) hg (pb_ HB.1)); have l := z; clear HB; rename_i HB; clear hb hbox hg) | (refine bg_ 3 #[.int .i64 c, .slice q i.length v] 81 ?_; intro J hg V hbox hb; have _ := Q_ (bb_ d.1 hb); have _ := Q_ (AD (CM HB.1 l.1) hb); have s := Q_ (hbox); have A := Q_ (gw_ (w := w) hg (CM HB.1 l.1)); have t := A; have a := Q_ (nb_ hg d); have j := Q_ a.1.symm; clear d HB; rename_i d HB; clear hb hbox hg))
 (try simp only [Act.put, s1_, s2_, s3_])
 have H := HS_.1
 clear HS_
 by_cases G : b = c
 rotate_left
 ·rw [if_neg G] at H
  have m : (b == c) = false := beq_eq_false_iff_ne.mpr G
  have n : (b != c) = true := bne_iff_ne.mpr G
  (first | rw [m] | (simp only [E4, E']; rw [m]) | rw [n] | (have c_ := n; rw [bne] at c_; rw [c_]; clear c_) | skip)
  obtain rfl := Option.some.inj H
  have R := a.1
  have S := j.1
  have P := Ew d.1
  have Q := Ew s.1
  go_wp2
  go_ret
  exact ⟨er_, Dw HB.1 l.1 t.1⟩
 rw [if_pos G] at H
 have m : (b == c) = true := beq_iff_eq.mpr G
 have n : (b != c) = false := bne_eq_false_iff_eq.mpr G
 clear G
 (first | rw [m] | (simp only [E4, E']; rw [m]) | rw [n] | (have c_ := n; rw [bne] at c_; rw [c_]; clear c_) | skip)
 obtain ⟨o, T, H⟩ := bs_ H
 replace H : (some o) = some r := H
 obtain rfl := Option.some.inj H
 have M := a.1
 have O := j.1
 have K := Ew d.1
 have L := Ew s.1
 go_wp2_with (first | (go_at_call 46; (with_reducible refine (Ai.calls k _ _ g _ _ i o _ (cb_ E HB) B.1 (cb_ F HB) D.1 T.1).mono ?_); rintro e w' ⟨rfl, ⟨nd, rfl⟩⟩))
 go_ret
 exact ⟨er_, Dw HB.1 l.1 t.1⟩
def AA.l0 : Nat → List (S81) → List (S81) → Int → Int → Option (Bool)
 | 0, _, _, _, _ => none
 | k + 1, e, b, d, a => if a < d then (if 0 ≤ a then (if a < (b.length : Int) then (if a < (e.length : Int) then ((EK.f k ((AX b a).f0) ((AX b a).f1) ((AX e a).f0) ((AX e a).f1)).bind fun c => (if c = true then (AA.l0 k e b d (wrap64 (a + 1))) else (some false))) else (none)) else (none)) else (none)) else (some true)
def AA.f (k : Nat) (a : List (S81)) (b : List (S81)) : Option (Bool) := if (a.length : Int) = (b.length : Int) then (AA.l0 k b a (a.length : Int) 0) else (some false)
theorem AA.mono_l : ∀ k, (∀ a b c d, LeO (AA.l0 k a b c d) (AA.l0 (k + 1) a b c d))
 | 0 => fun _ _ _ _ r h => by simp [AA.l0] at h
 | k + 1 => by
  have ih0 := AA.mono_l k
  ·intro a b c d
   unfold AA.l0
   exact H8 ih0 EK.mono
theorem AA.mono : ∀ a b k, LeO (AA.f k a b) (AA.f (k + 1) a b) := by
 intro a b k
 have ih0 := AA.mono_l k
 unfold AA.f
 exact H8 ih0 EK.mono
theorem AA.calls (k : Nat) (A0 : Option Addr) (c0 : Nat) (m : List (S81)) (A1 : Option Addr) (c1 : Nat) (y : List (S81)) (r : Bool) (w : World) (hr0 : Kd.C k81 w A0 m.length m) (ae : m.length ≤ c0) (hr1 : Kd.C k81 w A1 y.length y) (af : y.length ≤ c1) (h : AA.f k m y = some r) :
  Calls Tryz.prog 187 #[.slice A0 m.length c0, .slice A1 y.length c1, .func (.func 188) #[] #[]] w fun e w' => e = .returned (.bool r) ∧ Below w.heap.size w w' := by
 have hu81 := Tryz.underlying81
 have ak := Q_ hr0
 have aE := Q_ ae
 clear hr0 ae
 have al := Q_ hr1
 have aF := Q_ af
 clear hr1 af
 have HB := Q_ (Below.refl w.heap.size w)
 unfold AA.f at h
 have H := h
 clear h
 by_cases J : (m.length : Int) = (y.length : Int)
 rotate_left
 ·rw [if_neg J] at H
  have Y : ((m.length : Int) == (y.length : Int)) = false := beq_eq_false_iff_ne.mpr J
  have Z : ((m.length : Int) != (y.length : Int)) = true := bne_iff_ne.mpr J
  have aa : (m.length == y.length) = false := by first | simpa using J | (simp at J ⊢; omega)
  obtain rfl := Option.some.inj H
  go_enter Tryz.func187, Tryz.ntmps187
  (try simp only [Bool.not_false, Bool.not_true])
  go_wp2
  go_ret
  exact ⟨er_, pb_ HB.1⟩
 rw [if_pos J] at H
 have Y : ((m.length : Int) == (y.length : Int)) = true := beq_iff_eq.mpr J
 have Z : ((m.length : Int) != (y.length : Int)) = false := bne_eq_false_iff_eq.mpr J
 have aa : (m.length == y.length) = true := by first | simpa using J | (simp at J ⊢; omega)
 clear J
 have H' := Q_ H
 clear H
 go_enter Tryz.func187, Tryz.ntmps187
 (try simp only [Bool.not_false, Bool.not_true])
 go_wp2
 go_loopg [17] k (fun kq aw w' => ∃ (a : Int), aw = .int .i64 a ∧ Aside0 (AA.l0 kq y m (m.length : Int) a = some r) ∧ Aside0 (kq ≤ k) ∧ Aside0 (Below w.heap.size w w'))
 case atStart => exact ⟨(0), el_, H', ⟨Nat.le_refl _⟩, ⟨pb_ HB.1⟩⟩
 clear H'
 obtain ⟨a, rfl, HA, X, HB⟩ := hrel
 rcases gk with _ | k1
 ·exact absurd HA.1 (by simp [AA.l0])
 have H := HA.1
 clear HA
 simp only [AA.l0] at H
 by_cases W : a < (m.length : Int)
 rotate_left
 ·rw [if_neg W] at H
  have ab := decide_eq_false W
  clear W
  obtain rfl := Option.some.inj H
  (try simp only [Bool.not_false, Bool.not_true])
  go_wp2
  go_ret
  exact ⟨er_, pb_ HB.1⟩
 rw [if_pos W] at H
 have ab := decide_eq_true W
 clear W
 by_cases c5 : 0 ≤ a
 rotate_left
 ·rw [if_neg c5] at H
  exact nn_ H
 rw [if_pos c5] at H
 have aB := decide_eq_true c5
 clear c5
 by_cases c6 : a < (m.length : Int)
 rotate_left
 ·rw [if_neg c6] at H
  exact nn_ H
 rw [if_pos c6] at H
 have aC := decide_eq_true c6
 clear c6
 have HS_ := Q_ H
 clear H
 have L : 0 ≤ (a : Int) := dt_
 have O : a < (m.length : Int) := dt_
 obtain ⟨am, s, t, ac, z, A, D, F⟩ := Ip ak.1 a L O
 cases ac
 replace z := bt_ HB z
 replace A := bt_ HB A
 replace L := eq_true L
 replace O := eq_true O
 go_upto_region 6 with (first | (refine bg_ 8 #[.int .i64 0, .slice none 0 0] 81 ?_; intro i hg w7 hbox hb; have _ := Q_ (AD (pb_ HB.1) hb); have l := Q_ (hbox); have B := Q_ (gw_ (w := w) hg (pb_ HB.1)); have n := B; clear HB; rename_i HB; clear hb hbox hg; have aD := Ew l.1))
 (try simp only [Act.put, s1_, s2_, s3_])
 have H := HS_.1
 clear HS_
 by_cases c9 : a < (y.length : Int)
 rotate_left
 ·rw [if_neg c9] at H
  exact nn_ H
 rw [if_pos c9] at H
 have T := decide_eq_true c9
 clear c9
 (first | rw [T] | (simp only [E4, E']; rw [T]) | skip)
 have HS_ := Q_ H
 clear H
 have M : 0 ≤ (a : Int) := dt_
 have P : a < (y.length : Int) := dt_
 obtain ⟨I, Q, S, ad, b, j, E, G⟩ := Ip al.1 a M P
 cases ad
 have c : I.block ≠ i := Nat.ne_of_lt (Nat.lt_of_lt_of_le (by have := World.block_lt_of_cell? _ _ b; first | rwa [add_block] at this | exact this) B.1)
 have d : I.block ≠ i := Nat.ne_of_lt (Nat.lt_of_lt_of_le (by have := World.block_lt_of_cell? _ _ b; first | rwa [add_block] at this | exact this) B.1)
 replace b := bt_ HB b
 replace j := bt_ HB j
 replace b := (cell_far (p := ⟨i, 0, none⟩) (by first | (rw [add_block]; exact c) | (show (Addr.add _ _).block ≠ _; rw [add_block]; exact c) | exact c) (.int .i64 ((AX m a).f0))).trans b
 replace j := (cell_far (p := ⟨i, 0, none⟩) (by first | (rw [add_block]; exact c) | (show (Addr.add _ _).block ≠ _; rw [add_block]; exact c) | exact c) (.int .i64 ((AX m a).f0))).trans j
 replace b := (cell_far (p := ⟨i, 1, none⟩) (by first | (rw [add_block]; exact d) | (show (Addr.add _ _).block ≠ _; rw [add_block]; exact d) | exact d) (.slice s ((AX m a).f1).length t)).trans b
 replace j := (cell_far (p := ⟨i, 1, none⟩) (by first | (rw [add_block]; exact d) | (show (Addr.add _ _).block ≠ _; rw [add_block]; exact d) | exact d) (.slice s ((AX m a).f1).length t)).trans j
 clear c
 clear d
 replace M := eq_true M
 replace P := eq_true P
 go_upto_region 7 with (first | (refine bg_ 9 #[.int .i64 0, .slice none 0 0] 81 ?_; intro K hg aG hbox hb; have _ := Q_ (Ej (g := i) (o := .cells #[.int .i64 ((AX m a).f0), .slice s ((AX m a).f1).length t] 81 (0, 0)) (pp_ l.1) hb); have _ := Q_ (AD (CM HB.1 n.1) hb); have u := Q_ (hbox); have V := Q_ (gw_ (w := w) hg (CM HB.1 n.1)); have v := V; have q := Q_ ((by rw [hg]; exact Nat.ne_of_lt (Hl (g := i) (o := .cells #[.int .i64 ((AX m a).f0), .slice s ((AX m a).f1).length t] 81 (0, 0)) (pp_ l.1)) : i ≠ K)); have x := Q_ q.1.symm; clear l HB; rename_i l HB; clear hb hbox hg; have aq := x.1; have au := q.1; have an := Ew u.1))
 (try simp only [Act.put, s1_, s2_, s3_])
 have H := HS_.1
 clear HS_
 obtain ⟨U, aj, H⟩ := bs_ H
 (try dsimp only at H)
 have HS_ := Q_ H
 clear H
 have ar := q.1
 have av := x.1
 have ao := Ew l.1
 have ap := Ew u.1
 go_upto_if 30 with (first | (go_at_call 188; (with_reducible refine (EK.calls k1 ((AX m a).f0) _ _ ((AX m a).f1) ((AX y a).f0) _ _ ((AX y a).f1) U _ ?side1 D.1 ?side3 E.1 aj.1).mono ?_); (case side1 => exact Kd.Ec F.1 (Dw HB.1 n.1 v.1)); (case side3 => exact Kd.Ec G.1 (Dw HB.1 n.1 v.1)); rintro e aH ⟨rfl, hb⟩; have _ := Q_ (Ej (g := i) (o := .cells #[.int .i64 ((AX m a).f0), .slice s ((AX m a).f1).length t] 81 (0, 0)) (pp_ l.1) hb); have _ := Q_ (Ej (g := K) (o := .cells #[.int .i64 ((AX y a).f0), .slice Q ((AX y a).f1).length S] 81 (0, 0)) (pp_ u.1) hb); have _ := Q_ (AD (Dw HB.1 n.1 v.1) hb); clear l u HB; rename_i l u HB; (try clear hb)))
 (try simp only [Act.put, s1_, s2_, s3_])
 have H := HS_.1
 clear HS_
 by_cases R : U = true
 rotate_left
 ·replace R := bf_ R
  subst R
  rw [if_neg ff_] at H
  obtain rfl := Option.some.inj H
  (try simp only [Bool.not_false, Bool.not_true])
  go_wp2
  go_ret
  exact ⟨er_, Dw HB.1 n.1 v.1⟩
 subst R
 rw [if_pos rfl] at H
 have H' := Q_ H
 clear H
 (try simp only [Bool.not_false, Bool.not_true])
 go_wp2
 go_roundg k1
 case measure => have := X.1; omega
 case rel => exact ⟨(wrap64 (a + 1)), el_, H', ⟨by have := X.1; omega⟩, ⟨Dw HB.1 n.1 v.1⟩⟩
def EE.f (k : Nat) (b : List (S81)) (c : List (S81)) : Option (Bool) := (AA.f k b c).bind fun a => (some a)
theorem EE.mono : ∀ a b k, LeO (EE.f k a b) (EE.f (k + 1) a b) := by
 intro a b k
 unfold EE.f
 exact G7 AA.mono
theorem EE.calls (k : Nat) (n : Option Addr) (p : Nat) (b : List (S81)) (o : Option Addr) (q : Nat) (c : List (S81)) (r : Bool) (w : World) (hr0 : Kd.C k81 w n b.length b) (d : b.length ≤ p) (hr1 : Kd.C k81 w o c.length c) (g : c.length ≤ q) (h : EE.f k b c = some r) :
  Calls Tryz.prog 171 #[.slice n b.length p, .slice o c.length q] w fun e w' => e = .returned (.bool r) ∧ Below w.heap.size w w' := by
 have l := Q_ hr0
 have i := Q_ d
 clear hr0 d
 have m := Q_ hr1
 have j := Q_ g
 clear hr1 g
 have HB := Q_ (Below.refl w.heap.size w)
 unfold EE.f at h
 have H := h
 clear h
 obtain ⟨a, s, H⟩ := bs_ H
 replace H : (some a) = some r := H
 obtain rfl := Option.some.inj H
 go_enter Tryz.func171, Tryz.ntmps171
 go_wp2_with (first | (go_at_call 187; (with_reducible refine (AA.calls k _ _ b _ _ c a _ (pc_ l.1) i.1 (pc_ m.1) j.1 s.1).mono ?_); rintro e t ⟨rfl, hb⟩; have _ := Q_ (AD (pb_ HB.1) hb); clear HB; rename_i HB; (try clear hb)))
 go_ret
 exact ⟨er_, pb_ HB.1⟩
end Go.Proofs.YtibmehnippjakaaGreat.Print
