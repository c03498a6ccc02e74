-- Written by a program of this session (printx.py) out of the translation; Lean checks it.
import Derived.Test.YtibmehnippjakaaPrint0
import Derived.Test.YtibmehnippjakaaPrint9
namespace Go.Proofs.Ytibmehnippjakaa.Print
open Go.RowKit Go.Proofs.YtibmehnippjakaaW.PrintWords Go.Proofs.YtibmehnippjakaaW.PrintLast Go.Proofs.YtibmehnippjakaaW.PrintMore Go.Proofs.Ytibmehnippjakaa.Short
attribute [local go_sem] max2_int min2_int max_two min_two max_three min_three max_four min_four   -- for this text's walks alone
set_option linter.unusedVariables false
set_option maxHeartbeats 8000000
set_option maxRecDepth 100000
set_option linter.unusedSimpArgs false

/-! ### laws_eqBoxS: function 23 -/
def laws_eqBoxS.l0 : Nat → List (S59) → List (S59) → Int → Option (Bool)
  | 0, _, _, _ => none
  | k + 1, b, c, a => if a < (b.length : Int) then (if 0 ≤ a then (if a < (c.length : Int) then ((laws_eqBox.f k ((rd_T59 b a).f0) ((rd_T59 b a).f1) ((rd_T59 b a).f2) ((rd_T59 b a).f3) ((rd_T59 c a).f0) ((rd_T59 c a).f1) ((rd_T59 c a).f2) ((rd_T59 c a).f3)).bind fun d => (if d = true then (laws_eqBoxS.l0 k b c (wrap64 (a + 1))) else (some false))) else (none)) else (none)) else (some true)
def laws_eqBoxS.f (k : Nat) (a : List (S59)) (b : List (S59)) : Option (Bool) := if (a.length : Int) = (b.length : Int) then (laws_eqBoxS.l0 k a b 0) else (some false)
theorem laws_eqBoxS.mono_l : ∀ k, (∀ a b c, LeO (laws_eqBoxS.l0 k a b c) (laws_eqBoxS.l0 (k + 1) a b c))
  | 0 => fun _ _ _ r h => by simp [laws_eqBoxS.l0] at h
  | k + 1 => by
    have ih0 := laws_eqBoxS.mono_l k
    · intro a b c
      unfold laws_eqBoxS.l0
      exact mo2_ ih0 laws_eqBox.mono
theorem laws_eqBoxS.mono : ∀ a b k, LeO (laws_eqBoxS.f k a b) (laws_eqBoxS.f (k + 1) a b) := by
  intro a b k
  have ih0 := laws_eqBoxS.mono_l k
  unfold laws_eqBoxS.f
  exact mo2_ ih0 laws_eqBox.mono
def laws_eqBoxS.T6 : Bool × List (List Nat × List Nat) := (true, [([], []), ([], []), ([0, 1], [0, 1]), ([2], [2]), ([], []), ([], []), ([4, 5], [4, 5]), ([6], [6]), ([3, 7], [3, 7]), ([8], [8])])
def laws_eqBoxS.B6 : List Nat := [0, 0, 3, 7, 0, 0, 48, 112, 255, 511]
theorem laws_eqBoxS.tab6 : rtab .any (opsOf Try.f23 6) = laws_eqBoxS.T6 := by kernel_rfl
theorem laws_eqBoxS.bits6 : waitsOk laws_eqBoxS.T6.2 laws_eqBoxS.B6 = true := by kernel_rfl
theorem laws_eqBoxS.calls (k : Nat) (A0 : Option Addr) (c0 : Nat) (q : List (S59)) (A1 : Option Addr) (c1 : Nat) (s : List (S59)) (r : Bool) (w : World) (hr0 : Kd.C k59 w A0 q.length q) (al : q.length ≤ c0) (hr1 : Kd.C k59 w A1 s.length s) (am : s.length ≤ c1) (h : laws_eqBoxS.f k q s = some r) :
    Calls Try.prog 23 #[.slice A0 q.length c0, .slice A1 s.length c1] w fun e w' => e = .returned (.bool r) ∧ Below w.heap.size w w' := by
  have hu59 := Try.underlying59
  have ap := Q_ hr0
  have aA := Q_ al
  clear hr0 al
  have aq := Q_ hr1
  have aB := Q_ am
  clear hr1 am
  have HB := Q_ (Below.refl w.heap.size w)
  have H : (if (q.length : Int) = (s.length : Int) then (laws_eqBoxS.l0 k q s 0) else (some false)) = some r := h
  clear h
  by_cases W : (q.length : Int) = (s.length : Int)
  rotate_left
  · rw [if_neg W] at H
    have af : ((q.length : Int) == (s.length : Int)) = false := beq_eq_false_iff_ne.mpr W
    have ag : ((q.length : Int) != (s.length : Int)) = true := bne_iff_ne.mpr W
    have ah : (q.length == s.length) = false := by first | simpa using W | (simp at W ⊢; omega)
    obtain rfl := Option.some.inj H
    go_enter Try.func23, Try.ntmps23
    go_wp2
    go_ret
    exact ⟨er_, pb_ HB.1⟩
  rw [if_pos W] at H
  have af : ((q.length : Int) == (s.length : Int)) = true := beq_iff_eq.mpr W
  have ag : ((q.length : Int) != (s.length : Int)) = false := bne_eq_false_iff_eq.mpr W
  have ah : (q.length == s.length) = true := by first | simpa using W | (simp at W ⊢; omega)
  clear W
  have H' := Q_ H
  clear H
  go_enter Try.func23, Try.ntmps23
  go_wp2
  go_loopg [5] k (fun kq v5 w' => ∃ (a : Int), v5 = .int .i64 a ∧ Aside0 (laws_eqBoxS.l0 kq q s a = some r) ∧ Aside0 (kq ≤ k) ∧ Aside0 (Below w.heap.size w w'))
  case atStart => exact ⟨(0), el_, H', ⟨Nat.le_refl _⟩, ⟨pb_ HB.1⟩⟩
  clear H'
  obtain ⟨a, rfl, HA, ae, HB⟩ := hrel
  rcases gk with _ | k1
  · exact absurd HA.1 (by simp [laws_eqBoxS.l0])
  have H := HA.1
  clear HA
  simp only [laws_eqBoxS.l0] at H
  by_cases c4 : a < (q.length : Int)
  rotate_left
  · rw [if_neg c4] at H
    have ai := decide_eq_false c4
    clear c4
    obtain rfl := Option.some.inj H
    go_wp2
    go_ret
    exact ⟨er_, pb_ HB.1⟩
  rw [if_pos c4] at H
  have ai := decide_eq_true c4
  clear c4
  by_cases c5 : 0 ≤ a
  rotate_left
  · rw [if_neg c5] at H
    exact nn_ H
  rw [if_pos c5] at H
  have ax := decide_eq_true c5
  clear c5
  by_cases c6 : a < (s.length : Int)
  rotate_left
  · rw [if_neg c6] at H
    exact nn_ H
  rw [if_pos c6] at H
  have ay := decide_eq_true c6
  clear c6
  obtain ⟨ac, A7, H⟩ := bs_ H
  (try dsimp only at H)
  have HS_ := Q_ H
  clear H
  try go_wp2
  have _ := Q_ (below_drew1 HB.1)
  clear HB
  rename_i HB
  have X : 0 ≤ (a : Int) := dt_
  have Z : a < (q.length : Int) := dt_
  obtain ⟨b, I, N, J, O, aj, d, g, i, j, R, t, T, u⟩ := at_U59 ap.1 a X Z
  have B := j
  have A := i
  have z := g
  have y := d
  cases aj
  replace d := bt_ HB d
  replace g := bt_ HB g
  replace i := bt_ HB i
  replace j := bt_ HB j
  replace X := eq_true X
  replace Z := eq_true Z
  have Y : 0 ≤ (a : Int) := dt_
  have aa : a < (s.length : Int) := dt_
  obtain ⟨c, L, P, M, Q, ak, l, m, o, p, U, v, V, x⟩ := at_U59 aq.1 a Y aa
  have G := p
  have F := o
  have E := m
  have D := l
  cases ak
  replace l := bt_ HB l
  replace m := bt_ HB m
  replace o := bt_ HB o
  replace p := bt_ HB p
  replace Y := eq_true Y
  replace aa := eq_true aa
  refine start_ (n := 10) (S := fun w' => w'.cell? (b.add ((a).toNat * 4)) = some (.int .i64 ((rd_T59 q a).f0)) ∧ w'.cell? ⟨(b.add ((a).toNat * 4)).block, (b.add ((a).toNat * 4)).off + 1, none⟩ = some (.slice I ((rd_T59 q a).f1).length N) ∧ w'.cell? ⟨(b.add ((a).toNat * 4)).block, (b.add ((a).toNat * 4)).off + 2, none⟩ = some (.slice J ((rd_T59 q a).f2).length O) ∧ w'.cell? ⟨(b.add ((a).toNat * 4)).block, (b.add ((a).toNat * 4)).off + 3, none⟩ = some (.bool ((rd_T59 q a).f3)) ∧ w'.cell? (c.add ((a).toNat * 4)) = some (.int .i64 ((rd_T59 s a).f0)) ∧ w'.cell? ⟨(c.add ((a).toNat * 4)).block, (c.add ((a).toNat * 4)).off + 1, none⟩ = some (.slice L ((rd_T59 s a).f1).length P) ∧ w'.cell? ⟨(c.add ((a).toNat * 4)).block, (c.add ((a).toNat * 4)).off + 2, none⟩ = some (.slice M ((rd_T59 s a).f2).length Q) ∧ w'.cell? ⟨(c.add ((a).toNat * 4)).block, (c.add ((a).toNat * 4)).off + 3, none⟩ = some (.bool ((rd_T59 s a).f3))) (ds := []) (tf_ 0 10) (by kernel_rfl) rfl rfl ⟨(bt_ HB y), (bt_ HB z), (bt_ HB A), (bt_ HB B), (bt_ HB D), (bt_ HB E), (bt_ HB F), (bt_ HB G)⟩ (fun hHeld => ?_); refine with_tabW laws_eqBoxS.tab6 laws_eqBoxS.bits6 (fun HT_ HW_ => ?_)
  generalize wr.drew = w8 at HB t u v x d g i j l m o p hHeld ⊢
  refine pu1_ 0 17 10 1 ?_
  refine pu1_ 1 18 10 3 ?_
  refine pu1_ 2 19 10 7 ?_
  refine pu1_ 4 21 10 23 ?_
  refine pu1_ 5 22 10 55 ?_
  refine pu1_ 6 23 10 119 ?_
  refine ta1_ 3 20 10 127 hHeld ?_
  refine ta1_ 7 24 10 255 hHeld ?_
  refine on_ 8 (some 25) (tf_ 9 10) HT_ (fun K hK => ?_)
  refine goes_ Try.func55 (by kernel_rfl) rfl #[.agg #[.int .i64 ((rd_T59 q a).f0), .slice I ((rd_T59 q a).f1).length N, .slice J ((rd_T59 q a).f2).length O, .bool ((rd_T59 q a).f3)], .agg #[.int .i64 ((rd_T59 s a).f0), .slice L ((rd_T59 s a).f1).length P, .slice M ((rd_T59 s a).f2).length Q, .bool ((rd_T59 s a).f3)]] (by rfl) rfl rfl mp_ ?_
  with_reducible refine (laws_eqBox.calls k1 ((rd_T59 q a).f0) _ _ ((rd_T59 q a).f1) _ _ ((rd_T59 q a).f2) ((rd_T59 q a).f3) ((rd_T59 s a).f0) _ _ ((rd_T59 s a).f1) _ _ ((rd_T59 s a).f2) ((rd_T59 s a).f3) ac _ (cb_ t HB) R.1 (cb_ u HB) T.1 (cb_ v HB) U.1 (cb_ x HB) V.1 A7.1).mono ?_
  rintro e w9 ⟨rfl, hb⟩
  refine ⟨_, rfl, ?_⟩
  have _ := Q_ (below_step (pb_ HB.1) hb)
  clear HB
  rename_i HB
  (try clear hb)
  refine hK.out _ _ ⟨(bt_ HB y), (bt_ HB z), (bt_ HB A), (bt_ HB B), (bt_ HB D), (bt_ HB E), (bt_ HB F), (bt_ HB G)⟩ (fun hHeld => ?_)
  clear hK K
  refine no_ (some 25) ?_
  refine pu1_ 9 26 10 1023 ?_
  refine done_ (done_of HT_.1 (by kernel_rfl)) ?_
  go_upto_if 26 with (fail)
  have H := HS_.1
  clear HS_
  by_cases ab : ac = true
  rotate_left
  · replace ab := bf_ ab
    subst ab
    rw [if_neg ff_] at H
    obtain rfl := Option.some.inj H
    go_wp2
    go_ret
    exact ⟨er_, pb_ HB.1⟩
  subst ab
  rw [if_pos rfl] at H
  have H' := Q_ H
  clear H
  go_wp2
  go_roundg k1
  case measure => have := ae.1; omega
  case rel => exact ⟨(wrap64 (a + 1)), el_, H', ⟨by have := ae.1; omega⟩, ⟨pb_ HB.1⟩⟩

/-! ### laws_eqEndpoint: function 9 -/
def laws_eqEndpoint.f (k : Nat) (c : List Int) (d : List Int) (e : List (S59)) (a : Int) (g : List Int) (h : List Int) (i : List (S59)) (b : Int) : Option (Bool) := (laws_eqIntS.f k c g).bind fun j => (if j = true then ((laws_eqIntS.f k d h).bind fun l => (if l = true then ((laws_eqBoxS.f k e i).bind fun m => (if m = true then (if a = b then (some true) else (some false)) else (some false))) else (some false))) else (some false))
theorem laws_eqEndpoint.mono : ∀ a b c d e g h i k, LeO (laws_eqEndpoint.f k a b c d e g h i) (laws_eqEndpoint.f (k + 1) a b c d e g h i) := by
  intro a b c d e g h i k
  unfold laws_eqEndpoint.f
  exact mo2_ laws_eqBoxS.mono laws_eqIntS.mono
theorem laws_eqEndpoint.calls (k : Nat) (x : Option Addr) (E : Nat) (m : List Int) (y : Option Addr) (F : Nat) (n : List Int) (z : Option Addr) (G : Nat) (o : List (S59)) (j : Int) (A : Option Addr) (I : Nat) (p : List Int) (B : Option Addr) (J : Nat) (q : List Int) (D : Option Addr) (K : Nat) (s : List (S59)) (l : Int) (r : Bool) (w : World) (hr0_0 : Kd.C (Kd.int .i64) w x m.length m) (P : m.length ≤ E) (hr0_1 : Kd.C (Kd.int .i64) w y n.length n) (Q : n.length ≤ F) (hr0_2 : Kd.C k59 w z o.length o) (R : o.length ≤ G) (hr1_0 : Kd.C (Kd.int .i64) w A p.length p) (S : p.length ≤ I) (hr1_1 : Kd.C (Kd.int .i64) w B q.length q) (T : q.length ≤ J) (hr1_2 : Kd.C k59 w D s.length s) (U : s.length ≤ K) (h : laws_eqEndpoint.f k m n o j p q s l = some r) :
    Calls Try.prog 9 #[.agg #[.slice x m.length E, .slice y n.length F, .slice z o.length G, .int .i64 j], .agg #[.slice A p.length I, .slice B q.length J, .slice D s.length K, .int .i64 l]] w fun e w' => e = .returned (.bool r) ∧ Below w.heap.size w w' := by
  have hu33 := Try.underlying33
  have af := Q_ hr0_0
  have Z := Q_ P
  clear hr0_0 P
  have ag := Q_ hr0_1
  have aa := Q_ Q
  clear hr0_1 Q
  have ah := Q_ hr0_2
  have ab := Q_ R
  clear hr0_2 R
  have ai := Q_ hr1_0
  have ac := Q_ S
  clear hr1_0 S
  have aj := Q_ hr1_1
  have ad := Q_ T
  clear hr1_1 T
  have ak := Q_ hr1_2
  have ae := Q_ U
  clear hr1_2 U
  have HB := Q_ (Below.refl w.heap.size w)
  have H : ((laws_eqIntS.f k m p).bind fun L => (if L = true then ((laws_eqIntS.f k n q).bind fun M => (if M = true then ((laws_eqBoxS.f k o s).bind fun O => (if O = true then (if j = l then (some true) else (some false)) else (some false))) else (some false))) else (some false))) = some r := h
  clear h
  have HS_ := Q_ H
  clear H
  go_enter Try.func9, Try.ntmps9
  go_upto_region 1 with (first | ((with_reducible refine gate_dst (N := 2) rfl ?_); refine bx_ 2 #[.slice x m.length E, .slice y n.length F, .slice z o.length G, .int .i64 j] 33 ?_; intro ao hg w3 hbox hb; have _ := Q_ (below_step (pb_ HB.1) hb); have b := Q_ (hbox); have X := Q_ (gw_ (w := w) hg (pb_ HB.1)); have c := X; clear HB; rename_i HB; clear hb hbox hg) | ((with_reducible refine gate_dst (N := 3) rfl ?_); refine bx_ 3 #[.slice A p.length I, .slice B q.length J, .slice D s.length K, .int .i64 l] 33 ?_; intro ap hg w4 hbox hb; have _ := Q_ (bb_ b.1 hb); have _ := Q_ (below_step (pb1_ HB.1 c.1) hb); have i := Q_ (hbox); have Y := Q_ (gw_ (w := w) hg (pb1_ HB.1 c.1)); have g := Y; have a := Q_ (nb_ hg b); have d := Q_ a.1.symm; clear b HB; rename_i b HB; clear hb hbox hg))
  (try simp only [Act.put, s1_, s2_, s3_])
  have H := HS_.1
  clear HS_
  obtain ⟨L, A5, H⟩ := bs_ H
  (try dsimp only at H)
  have HS_ := Q_ H
  clear H
  have aK := a.1
  have aL := d.1
  have aI := bc4_ b.1
  have aJ := bc4_ i.1
  go_upto_if 10 with (first | ((with_reducible refine gate_callee (f := 21) rfl ?_); refine gl_ (some 9) Try.func21 #[.slice x m.length E, .slice A p.length I] ?_; (with_reducible refine (laws_eqIntS.calls k _ _ m _ _ p L _ (cb_ af HB) Z.1 (cb_ ai HB) ac.1 A5.1).mono ?_); rintro e w' ⟨rfl, ⟨nd, rfl⟩⟩; refine ⟨_, rfl, ?_⟩))
  (try simp only [Act.put, s1_, s2_, s3_])
  have H := HS_.1
  clear HS_
  by_cases c9 : L = true
  rotate_left
  · replace c9 := bf_ c9
    subst c9
    rw [if_neg ff_] at H
    obtain rfl := Option.some.inj H
    go_wp2
    go_ret
    exact ⟨er_, pb2_ HB.1 c.1 g.1⟩
  subst c9
  rw [if_pos rfl] at H
  obtain ⟨M, am, H⟩ := bs_ H
  (try dsimp only at H)
  have HS_ := Q_ H
  clear H
  have aA := a.1
  have aE := d.1
  have aq := bc4_ b.1
  have ar := bc4_ i.1
  go_upto_if 16 with (first | ((with_reducible refine gate_callee (f := 21) rfl ?_); refine gl_ (some 15) Try.func21 #[.slice y n.length F, .slice B q.length J] ?_; (with_reducible refine (laws_eqIntS.calls k _ _ n _ _ q M _ ?side1 aa.1 ?side3 ad.1 am.1).mono ?_); (case side1 => exact pc_ (Kd.C_below ag.1 (pb2_ HB.1 c.1 g.1))); (case side3 => exact pc_ (Kd.C_below aj.1 (pb2_ HB.1 c.1 g.1))); rintro e w' ⟨rfl, ⟨nd, rfl⟩⟩; refine ⟨_, rfl, ?_⟩))
  (try simp only [Act.put, s1_, s2_, s3_])
  have H := HS_.1
  clear HS_
  by_cases V : M = true
  rotate_left
  · replace V := bf_ V
    subst V
    rw [if_neg ff_] at H
    obtain rfl := Option.some.inj H
    go_wp2
    go_ret
    exact ⟨er_, pb2_ HB.1 c.1 g.1⟩
  subst V
  rw [if_pos rfl] at H
  obtain ⟨O, an, H⟩ := bs_ H
  (try dsimp only at H)
  have HS_ := Q_ H
  clear H
  have aB := a.1
  have aF := d.1
  have au := bc4_ b.1
  have av := bc4_ i.1
  go_upto_if 22 with (first | ((with_reducible refine gate_callee (f := 23) rfl ?_); refine gl_ (some 21) Try.func23 #[.slice z o.length G, .slice D s.length K] ?_; (with_reducible refine (laws_eqBoxS.calls k _ _ o _ _ s O _ ?side1 ab.1 ?side3 ae.1 an.1).mono ?_); (case side1 => exact pc_ (Kd.C_below ah.1 (pb2_ HB.1 c.1 g.1))); (case side3 => exact pc_ (Kd.C_below ak.1 (pb2_ HB.1 c.1 g.1))); rintro e aN ⟨rfl, hb⟩; refine ⟨_, rfl, ?_⟩; have _ := Q_ (bb_ b.1 hb); have _ := Q_ (bb_ i.1 hb); have _ := Q_ (below_step (pb2_ HB.1 c.1 g.1) hb); clear b i HB; rename_i b i HB; (try clear hb)))
  (try simp only [Act.put, s1_, s2_, s3_])
  have H := HS_.1
  clear HS_
  by_cases W : O = true
  rotate_left
  · replace W := bf_ W
    subst W
    rw [if_neg ff_] at H
    obtain rfl := Option.some.inj H
    go_wp2
    go_ret
    exact ⟨er_, pb2_ HB.1 c.1 g.1⟩
  subst W
  rw [if_pos rfl] at H
  by_cases v : j = l
  rotate_left
  · rw [if_neg v] at H
    have t : (j == l) = false := beq_eq_false_iff_ne.mpr v
    have u : (j != l) = true := bne_iff_ne.mpr v
    (first | rw [t] | (simp only [i64_w, i32_w]; rw [t]) | rw [u] | (have c_ := u; rw [bne] at c_; rw [c_]; clear c_) | skip)
    obtain rfl := Option.some.inj H
    have aC := a.1
    have aG := d.1
    have aw := bc4_ b.1
    have ax := bc4_ i.1
    go_wp2
    go_ret
    exact ⟨er_, pb2_ HB.1 c.1 g.1⟩
  rw [if_pos v] at H
  have t : (j == l) = true := beq_iff_eq.mpr v
  have u : (j != l) = false := bne_eq_false_iff_eq.mpr v
  clear v
  (first | rw [t] | (simp only [i64_w, i32_w]; rw [t]) | rw [u] | (have c_ := u; rw [bne] at c_; rw [c_]; clear c_) | skip)
  obtain rfl := Option.some.inj H
  have aD := a.1
  have aH := d.1
  have ay := bc4_ b.1
  have az := bc4_ i.1
  go_wp2
  go_ret
  exact ⟨er_, pb2_ HB.1 c.1 g.1⟩

/-! ### laws_markIntS: function 24 -/
def laws_markIntS.l0 : Nat → List Int → Int → Int → Option (Int × List Int)
  | 0, _, _, _ => none
  | k + 1, b, c, a => if a < (b.length : Int) then (if 0 ≤ a then (laws_markIntS.l0 k (b.set (a : Int).toNat c) (wrap64 (c + 1)) (wrap64 (a + 1))) else (none)) else (some (c, b))
def laws_markIntS.f (k : Nat) (b : List Int) (a : Int) : Option (Int × List Int) := laws_markIntS.l0 k b a 0
theorem laws_markIntS.mono_l : ∀ k, (∀ a b c, LeO (laws_markIntS.l0 k a b c) (laws_markIntS.l0 (k + 1) a b c))
  | 0 => fun _ _ _ r h => by simp [laws_markIntS.l0] at h
  | k + 1 => by
    have ih0 := laws_markIntS.mono_l k
    · intro a b c
      unfold laws_markIntS.l0
      exact mo1_ ih0
theorem laws_markIntS.mono : ∀ a b k, LeO (laws_markIntS.f k a b) (laws_markIntS.f (k + 1) a b) := by
  intro a b k
  have ih0 := laws_markIntS.mono_l k
  unfold laws_markIntS.f
  exact mo1_ ih0
theorem laws_markIntS.calls (k : Nat) (P0_ : Nat → Prop) (u9000_ : Value) (r : List Int) (x : Int) (s : Int) (u : List Int) (w0 w : World) (hB : Below w0.heap.size w0 w) (F : Kd.R (Kd.int .i64) 3 w w0.heap.size P0_ u9000_ r) (h : laws_markIntS.f k r x = some (s, u)) :
    Calls Try.prog 24 #[u9000_, .int .i64 x] w fun e w' => e = .returned (.int .i64 s) ∧ Kd.R (Kd.int .i64) 3 w' w0.heap.size (fun k_ => (P0_ k_ ∨ w.heap.size ≤ k_)) u9000_ u ∧ Below w0.heap.size w0 w' ∧ Kept w w' (fun k_ => P0_ k_) := by
  have A := Q_ (show Kd.R (Kd.int .i64) 3 w w0.heap.size (fun k_ => (P0_ k_ ∨ w.heap.size ≤ k_)) u9000_ r from Kd.R_mono F (fun k_ hk => (.inl hk)))
  have HK := Q_ (Kept.refl w (fun k_ => P0_ k_))
  have HW0 := Q_ hB.size
  have HB := Q_ hB
  clear hB
  have H : (laws_markIntS.l0 k r x 0) = some (s, u) := h
  clear h
  have H' := Q_ H
  clear H
  go_enter Try.func24, Try.ntmps24
  go_wp2
  go_loopg [1, 5] k (fun kq U V w' => ∃ (d : List Int) (c : Int) (a : Int), U = .int .i64 c ∧ V = .int .i64 a ∧ Aside0 (laws_markIntS.l0 kq d c a = some (s, u)) ∧ Aside0 (kq ≤ k) ∧ Aside0 (Kd.R (Kd.int .i64) 3 w' w0.heap.size (fun k_ => (P0_ k_ ∨ w.heap.size ≤ k_)) u9000_ d) ∧ Aside0 (Kept w w' (fun k_ => P0_ k_)) ∧ Aside0 (Below w0.heap.size w0 w'))
  case atStart => exact ⟨(r), (x), (0), el_, el_, H', ⟨Nat.le_refl _⟩, ⟨pr_ A.1⟩, ⟨qt0_ HK.1⟩, ⟨pb_ HB.1⟩⟩
  clear H'
  obtain ⟨d, c, a, rfl, rfl, HA, m, b, HK, HB⟩ := hrel
  rcases gk with _ | k1
  · exact absurd HA.1 (by simp [laws_markIntS.l0])
  have H := HA.1
  clear HA
  simp only [laws_markIntS.l0] at H
  by_cases l : a < (d.length : Int)
  rotate_left
  · rw [if_neg l] at H
    have n := decide_eq_false l
    clear l
    simp only [Option.some.injEq, Prod.mk.injEq] at H
    obtain ⟨rfl, rfl⟩ := H
    obtain ⟨M, Q, C⟩ := Kd.R_slice b.1
    subst C
    go_wp2
    go_ret
    exact ⟨er_, pr_ b.1, pb_ HB.1, qt0_ HK.1⟩
  rw [if_pos l] at H
  have n := decide_eq_true l
  clear l
  by_cases y : 0 ≤ a
  rotate_left
  · rw [if_neg y] at H
    exact nn_ H
  rw [if_pos y] at H
  have L := decide_eq_true y
  clear y
  obtain ⟨i, hy412⟩ : ∃ y_ : List Int, y_ = (d.set (a : Int).toNat c) := ⟨_, rfl⟩
  replace H : (laws_markIntS.l0 k1 i (wrap64 (c + 1)) (wrap64 (a + 1))) = some (s, u) := hb_ hy412 H
  have j := Q_ hy412
  clear hy412
  have H' := Q_ H
  clear H
  obtain ⟨N, B, D⟩ := Kd.R_slice b.1
  subst D
  have I : 0 ≤ (a : Int) := dt_
  have J : (a : Int) < ((d.length : Int) : Int) := dt_
  obtain ⟨g, T, o, q, gl6, P, HG6⟩ := Kd.R_form b.1 (by omega)
  (first | cases o | (injection o with ea_ en_ ec_; (first | subst ea_ | (injection ea_ with ea_; subst ea_)); subst ec_; clear en_))
  have z := Q_ q
  have O := Q_ HG6
  clear q gl6 HG6
  have HMgo6 := Q_ (show (P0_ g ∨ w.heap.size ≤ g) from (b.1.1 _ rfl))
  obtain ⟨G, E⟩ := Kd.R_celln 0 b.1 (a : Int) I J
  replace I := eq_true I
  replace J := eq_true J
  have HP8 := Kd.R_putg b.1 (a : Int) c
  go_wp2_with (first | ((with_reducible refine gate_store (t := 3) (p := 15) rfl ?_); refine store_event (t := 3) (p := 15) (v := ?vo_w9) (w1 := (wr.setCell ⟨g, (a : Int).toNat, none⟩ (.int .i64 c))) ?hg ?ho ?hn ?hr ?_; (case ho => rfl); (case hg => rfl); (case hn => rfl); (case hr => first | (go_simp; done) | (go_simp; rfl)); intro K hw; have hg : wr.grownBy K (some g) := (by rw [hw]; exact HP8.2); have hp_ : Kd.R (Kd.int .i64) 3 K w0.heap.size (fun k_ => (P0_ k_ ∨ w.heap.size ≤ k_)) (.slice (some ⟨g, 0, none⟩) d.length B) i := (by rw [hw, j.1]; exact HP8.1); clear HP8; have _ := Q_ (hp_); have _ := Q_ ((by rw [hw]; exact below_set (HB.1) z.1 : Below w0.heap.size w0 K)); have _ := Q_ (Kept.of_grown (S := (fun k_ => P0_ k_)) hg (qt0_ HK.1) (fun k_ e_ => (b.1.1 k_ e_))); clear b HB HK; rename_i b HB HK; clear hg hw hp_))
  go_roundg k1
  case measure => have := m.1; omega
  case rel => exact ⟨(i), (wrap64 (c + 1)), (wrap64 (a + 1)), el_, el_, H', ⟨by have := m.1; omega⟩, ⟨pr_ b.1⟩, ⟨qt0_ HK.1⟩, ⟨pb_ HB.1⟩⟩

/-! ### laws_markIntS: function 24, by shapes -/
theorem laws_markIntS.callsM (P0_ : Nat → Prop) (u9000_ : Value) (d : List Int) (k : Int) (w0 w : World) (hB : Below w0.heap.size w0 w) (o : Kd.R (Kd.int .i64) 3 w w0.heap.size P0_ u9000_ d) :
    Calls Try.prog 24 #[u9000_, .int .i64 k] w fun e w' => e = .returned (.int .i64 (cnt d.length k)) ∧ Below w0.heap.size w0 w' ∧ Kept w w' (fun k_ => P0_ k_) ∧ Marked w w' := by
  have j := Q_ o
  have HK := Q_ (Kept.refl w (fun k_ => P0_ k_))
  have HM := Q_ (Marked.refl w)
  have HB := Q_ hB
  clear hB o
  go_enter Try.func24, Try.ntmps24
  go_wp2
  go_loopg [1, 5] (d.length + 1) (fun kq G H w' => ∃ (c : List Int) (b a : Int) (i_1 : Nat), G = .int .i64 b ∧ H = .int .i64 a ∧ Aside0 (a = (i_1 : Int)) ∧ Aside0 (i_1 + kq = d.length + 1 ∧ i_1 ≤ d.length) ∧ Aside0 (c.length = d.length) ∧ Aside0 (cnt (d.length - i_1) b = cnt d.length k) ∧ Aside0 (Kd.R (Kd.int .i64) 3 w' w0.heap.size P0_ u9000_ c) ∧ Aside0 (Kept w w' (fun k_ => P0_ k_)) ∧ Aside0 (Marked w w') ∧ Aside0 (Below w0.heap.size w0 w'))
  case atStart => exact ⟨d, k, 0, 0, el_, el_, ⟨rfl⟩, ⟨by omega, by omega⟩, ⟨rfl⟩, ⟨rfl⟩, ⟨pr_ j.1⟩, ⟨qm_ HK.1⟩, ⟨qn_ HM.1⟩, ⟨pb_ HB.1⟩⟩
  clear j
  obtain ⟨c, b, a, i_1, rfl, rfl, HI, HN, HS, HV, HO, HK, HM, HB⟩ := hrel
  rcases gk with _ | k1
  · exact absurd HN.1 (by omega)
  have HL := Q_ (show c.length = d.length from HS.1)
  have HLG := Q_ (R_long HO.1)
  by_cases q : a < (c.length : Int)
  rotate_left
  · have l := decide_eq_false q
    have e_ : b = cnt d.length k := by
      have h_ := HV.1
      have h1_ := HI.1
      have hlen := HL.1
      rw [show i_1 = d.length by have := HN.1.2; omega] at h_
      simpa [cnt] using h_
    subst e_
    obtain ⟨C, E, y⟩ := Kd.R_slice HO.1
    subst y
    go_wp2
    go_ret
    exact ⟨el_, pb_ HB.1, qm_ HK.1, qn_ HM.1⟩
  have l := decide_eq_true q
  have r : 0 ≤ (a : Int) := by have := HI.1; omega
  have A : (a : Int) < ((c.length : Int) : Int) := q
  have B : decide (0 ≤ a) = true := decide_eq_true r
  have HII := Q_ (show i_1 < d.length from by have := HI.1; have := HL.1; omega)
  have HTI := Q_ (show a.toNat = i_1 from by have := HI.1; omega)
  have HW5 := Q_ (wi_ HI.1 HII.1 (HL.1 ▸ HLG.1))
  obtain ⟨D, x, z⟩ := Kd.R_slice HO.1
  subst z
  obtain ⟨g, F, m, n, gl6, HG6⟩ := Kd.R_form HO.1 (by omega)
  (first | cases m | (injection m with ea_ en_ ec_; (first | subst ea_ | (injection ea_ with ea_; subst ea_)); subst ec_; clear en_))
  have u := Q_ n
  have PG6 := Q_ (HO.1.1 g rfl)
  clear n gl6 HG6 q
  obtain ⟨f, h⟩ := Kd.R_celln 0 HO.1 (a : Int) r A
  replace r := eq_true r
  replace A := eq_true A
  have HP8 := (Kd.R_putg HO.1 (a : Int) b).1
  have i := Marked.set f (v := .int .i64 b) (.inr (.inl ⟨_, _, _, rfl, rfl⟩))
  go_wp2_with (first | ((with_reducible refine gate_store (t := 3) (p := 15) rfl ?_); refine store_event (t := 3) (p := 15) (v := ?vo_w9) (w1 := (wr.setCell ⟨g, (a : Int).toNat, none⟩ (.int .i64 b))) ?hg ?ho ?hn ?hr ?_; (case ho => rfl); (case hg => rfl); (case hn => rfl); (case hr => first | (go_simp; done) | (go_simp; rfl)); intro s hw; have n0_ := Q_ (show Kd.R (Kd.int .i64) 3 s w0.heap.size P0_ (.slice (some ⟨g, 0, none⟩) c.length x) (c.set (a : Int).toNat b) from by rw [hw]; exact HP8); have n1_ := Q_ (show Below w0.heap.size w0 s from by rw [hw]; exact below_set HB.1 u.1); have n2_ := Q_ (show Kept w s (fun k_ => P0_ k_) from by rw [hw]; exact Kept.setCell HK.1 (.inl PG6.1) _); have n3_ := Q_ (show Marked w s from by rw [hw]; exact HM.1.trans i); clear HO HB HK HM HP8 i f h hw; have HO := n0_; have HB := n1_; have HK := n2_; have HM := n3_; clear n0_ n1_ n2_ n3_))
  go_roundg k1
  case measure => omega
  case rel => exact ⟨_, (wrap64 (b + 1)), (wrap64 (a + 1)), i_1 + 1, el_, el_, HW5, ⟨by have := HN.1.1; omega, by have := HII.1; omega⟩, ⟨(List.length_set ..).trans HL.1⟩, ⟨by have h_ := HV.1; rw [show d.length - i_1 = (d.length - (i_1 + 1)) + 1 by have := HII.1; omega] at h_; exact h_⟩, ⟨pr_ HO.1⟩, ⟨qm_ HK.1⟩, ⟨qn_ HM.1⟩, ⟨pb_ HB.1⟩⟩


/-! ### laws_markBoxS: function 25, by shapes -/
def sh59 (x y : S59) : Prop := y.f1.length = x.f1.length ∧ y.f2.length = x.f2.length
theorem sh59_refl (x : S59) : sh59 x x := ⟨rfl, rfl⟩
theorem sh59_trans (x y z : S59) (a : sh59 x y) (b : sh59 y z) : sh59 x z := by
  obtain ⟨c, d⟩ := a
  obtain ⟨b0, b1⟩ := b
  exact ⟨b0.trans c, b1.trans d⟩
theorem sh_k59 : Sh k59 sh59 := Sh.imp (Sh.iso (Sh.pair (Sh.int .i64) (Sh.pair (Sh.slice (Sh.int .i64) 3) (Sh.pair (Sh.slice (Sh.int .i64) 3) Sh.bool))) (fun x : S59 => (x.f0, x.f1, x.f2, x.f3)) (fun p => ⟨p.1, p.2.1, p.2.2.1, p.2.2.2⟩) (fun _ => rfl)) (fun x y h => ⟨h.2.1.1, h.2.2.1.1⟩)
def markE59 (x : S59) (k : Int) : Int := (wrap64 ((cnt x.f2.length (cnt x.f1.length (wrap64 (k + 1)))) + 1))
def markC59 : List S59 → Int → Int
  | [], k => k
  | x :: l, k => markC59 l (markE59 x k)
theorem markE59_like {x y : S59} (h : sh59 x y) (k : Int) : markE59 y k = markE59 x k := by
  obtain ⟨h0, h1⟩ := h
  unfold markE59
  rw [h0, h1]
theorem markC59_like {xs ys : List S59} (h : RowsS sh59 xs ys) (k : Int) : markC59 ys k = markC59 xs k := by
  induction xs generalizing ys k with
  | nil =>
    have := h.1
    rw [List.length_eq_zero_iff.1 this]
  | cons x xs ih =>
    cases ys with
    | nil => have := h.1; simp at this
    | cons y ys =>
      obtain ⟨y', hy, hs⟩ := h.2 0 x rfl
      obtain rfl : y = y' := by simpa using hy
      have ht : RowsS sh59 xs ys := h.drop 1
      simp only [markC59]
      rw [markE59_like hs, ih ht]
theorem laws_markBoxS.callsM (P0_ : Nat → Prop) (u9000_ : Value) (g : List S59) (l : Int) (w0 w : World) (hB : Below w0.heap.size w0 w) (q : Kd.R k59 59 w w0.heap.size P0_ u9000_ g) :
    Calls Try.prog 25 #[u9000_, .int .i64 l] w fun e w' => e = .returned (.int .i64 (markC59 g l)) ∧ Below w0.heap.size w0 w' ∧ Kept w w' (fun k_ => P0_ k_) ∧ Marked w w' := by
  have hu59 := Try.underlying59
  have k := Q_ q
  have HK := Q_ (Kept.refl w (fun k_ => P0_ k_))
  have HM := Q_ (Marked.refl w)
  have HB := Q_ hB
  clear hB q
  go_enter Try.func25, Try.ntmps25
  go_wp2
  go_loopg [1, 5] (g.length + 1) (fun kq F G w' => ∃ (c : List S59) (b a : Int) (i_1 : Nat), F = .int .i64 b ∧ G = .int .i64 a ∧ Aside0 (a = (i_1 : Int)) ∧ Aside0 (i_1 + kq = g.length + 1 ∧ i_1 ≤ g.length) ∧ Aside0 (RowsS sh59 g c) ∧ Aside0 (markC59 (g.drop i_1) b = markC59 g l) ∧ Aside0 (Kd.R k59 59 w' w0.heap.size P0_ u9000_ c) ∧ Aside0 (Kept w w' (fun k_ => P0_ k_)) ∧ Aside0 (Marked w w') ∧ Aside0 (Below w0.heap.size w0 w'))
  case atStart => exact ⟨g, l, 0, 0, el_, el_, ⟨rfl⟩, ⟨by omega, by omega⟩, ⟨RowsS.refl (fun _ => sh59_refl _) g⟩, ⟨rfl⟩, ⟨pr_ k.1⟩, ⟨qm_ HK.1⟩, ⟨qn_ HM.1⟩, ⟨pb_ HB.1⟩⟩
  clear k
  obtain ⟨c, b, a, i_1, rfl, rfl, HI, HN, HS, HV, HO, HK, HM, HB⟩ := hrel
  rcases gk with _ | k1
  · exact absurd HN.1 (by omega)
  have HL := Q_ (show c.length = g.length from HS.1.1)
  have HLG := Q_ (R_long HO.1)
  by_cases r : a < (c.length : Int)
  rotate_left
  · have m := decide_eq_false r
    have e_ : b = markC59 g l := by
      have h_ := HV.1
      have h1_ := HI.1
      have hlen := HL.1
      rw [show i_1 = g.length by have := HN.1.2; omega] at h_
      simpa [markC59] using h_
    subst e_
    obtain ⟨A, C, u⟩ := Kd.R_slice HO.1
    subst u
    go_wp2
    go_ret
    exact ⟨el_, pb_ HB.1, qm_ HK.1, qn_ HM.1⟩
  have m := decide_eq_true r
  have s : 0 ≤ (a : Int) := by have := HI.1; omega
  have y : (a : Int) < ((c.length : Int) : Int) := r
  have z : decide (0 ≤ a) = true := decide_eq_true s
  have HII := Q_ (show i_1 < g.length from by have := HI.1; have := HL.1; omega)
  have HTI := Q_ (show a.toNat = i_1 from by have := HI.1; omega)
  have HW5 := Q_ (wi_ HI.1 HII.1 (HL.1 ▸ HLG.1))
  obtain ⟨B, E, x⟩ := Kd.R_slice HO.1
  subst x
  obtain ⟨d, D, n, o, gl6, HG6⟩ := Kd.R_form HO.1 (by omega)
  (first | cases n | (injection n with ea_ en_ ec_; (first | subst ea_ | (injection ea_ with ea_; subst ea_)); subst ec_; clear en_))
  have j := Q_ o
  have PG6 := Q_ (HO.1.1 d rfl)
  clear o gl6 HG6 r
  have HP6 := Q_ s
  have i := Q_ y
  have HE := Q_ (HS.1.at z59 HII.1)
  obtain ⟨E0, hE0⟩ : ∃ e_ : S59, e_ = g.getD i_1 z59 := ⟨_, rfl⟩
  rw [← hE0, ← HTI.1] at HE
  have h := Q_ hE0
  clear hE0
  obtain ⟨ca, hcla, hMa, hcca, hfra⟩ := Kd.R_elem HO.1 z59 a HP6.1 i.1
  obtain ⟨Ea, hEa⟩ : ∃ e_ : S59, e_ = c.getD (a : Int).toNat z59 := ⟨_, rfl⟩
  rw [← hEa] at hMa HE
  clear hEa
  obtain ⟨va_1, va_2, rfl, ga_1, ga_2⟩ := k59_openM hMa
  have hxa : wr.cell? ⟨d, (a : Int).toNat * 4, none⟩ = some (.int .i64 Ea.f0) := hcca 0 _ rfl
  have hfa : wr.frozen? ⟨d, (a : Int).toNat * 4, none⟩ = false := hfra 0
  clear hcla hcca hfra
  clear ga_1 ga_2
  try clear hMa
  replace s := eq_true s
  replace y := eq_true y
  go_wp2_with (first
    | ((with_reducible refine gate_store (t := 3) (p := 16) rfl ?_); refine store_event (t := 3) (p := 16) (v := ?vo_a) (w1 := ?w1_a) ?hg ?ho ?hn ?hr ?_; (case ho => rfl); (case hg => rfl); (case hn => rfl); (case hr => first | (go_simp; done) | (go_simp; rfl)); intro wa_ hw; have hms_ : Marked _ wa_ := (by rw [hw]; exact Marked.set hxa (.inr (.inl ⟨_, _, _, rfl, rfl⟩))); have n1_ := Q_ (show Below w0.heap.size w0 wa_ from by rw [hw]; exact below_set HB.1 j.1); have n2_ := Q_ (show Kept w wa_ (fun k_ => P0_ k_) from by rw [hw]; exact Kept.setCell HK.1 (.inl PG6.1) _); have n3_ := Q_ (HM.1.trans hms_); obtain ⟨Xa, HOa, hra⟩ := R_like sh_k59 hms_ HO.1; have HSa := Q_ (RowsS.trans sh59_trans HS.1 hra); clear HO HS hra HE; have HO := Q_ HOa; have HS := HSa; clear HOa HSa; have HE := Q_ (HS.1.at z59 HII.1); rw [← h.1, ← HTI.1] at HE; clear HB HK HM hms_ hxa hfa hw; have HB := n1_; have HK := n2_; have HM := n3_; clear n1_ n2_ n3_; obtain ⟨cb, hclb, hMb, hccb, hfrb⟩ := Kd.R_elem HO.1 z59 a HP6.1 i.1; obtain ⟨Eb, hEb⟩ : ∃ e_ : S59, e_ = Xa.getD (a : Int).toNat z59 := ⟨_, rfl⟩; rw [← hEb] at hMb HE; clear hEb; obtain ⟨vb_1, vb_2, rfl, gb_1, gb_2⟩ := k59_openM hMb; obtain ⟨Ab, bb, eb⟩ := Kd.R_slice gb_1; subst eb; have hxb : wa_.cell? ⟨d, (a : Int).toNat * 4 + 1, none⟩ = some (.slice Ab Eb.f1.length bb) := hccb 1 _ rfl; have HGb := Q_ (Kd.R_mono gb_1 (fun k_ h_ => h_.1)); clear hclb hccb hfrb; clear gb_1 gb_2; try clear hMb)
    | ((with_reducible refine gate_callee (f := 24) rfl ?_); refine goesL_ (some 25) rfl rfl Try.func24 (by kernel_rfl) rfl #[(.slice Ab Eb.f1.length bb), .int .i64 (wrap64 (b + 1))] rfl mp_ ?_; (with_reducible refine (laws_markIntS.callsM P0_ (.slice Ab Eb.f1.length bb) Eb.f1 (wrap64 (b + 1)) w0 _ ?side1 ?side2).mono ?_); (case side1 => exact pb_ HB.1); (case side2 => exact pr_ HGb.1); rintro e wb_ ⟨he_, hb, hkp, hms0_⟩; rw [HE.1.1] at he_; subst he_; refine ⟨_, rfl, ?_⟩; have hms_ := Marked.trans (qn_ (Marked.refl _)) hms0_; have n1_ := Q_ hb; have n2_ := Q_ (Kept.then_ (S := (fun k_ => P0_ k_)) (qm_ HK.1) hkp (fun k_ hs_ => .inl hs_)); have n3_ := Q_ (Marked.trans (qn_ HM.1) hms0_); obtain ⟨Xb, HOb, hrb⟩ := R_like sh_k59 hms_ HO.1; have HSb := Q_ (RowsS.trans sh59_trans HS.1 hrb); clear HO HS hrb HE; have HO := Q_ HOb; have HS := HSb; clear HOb HSb; have HE := Q_ (HS.1.at z59 HII.1); rw [← h.1, ← HTI.1] at HE; clear HB HK HM hms_ hms0_ hb hkp hxb HGb; have HB := n1_; have HK := n2_; have HM := n3_; clear n1_ n2_ n3_; obtain ⟨cc, hclc, hMc, hccc, hfrc⟩ := Kd.R_elem HO.1 z59 a HP6.1 i.1; obtain ⟨Ec, hEc⟩ : ∃ e_ : S59, e_ = Xb.getD (a : Int).toNat z59 := ⟨_, rfl⟩; rw [← hEc] at hMc HE; clear hEc; obtain ⟨vc_1, vc_2, rfl, gc_1, gc_2⟩ := k59_openM hMc; obtain ⟨Ac, bc, ec⟩ := Kd.R_slice gc_2; subst ec; have hxc : wb_.cell? ⟨d, (a : Int).toNat * 4 + 2, none⟩ = some (.slice Ac Ec.f2.length bc) := hccc 2 _ rfl; have HGc := Q_ (Kd.R_mono gc_2 (fun k_ h_ => h_.1)); clear hclc hccc hfrc; clear gc_1 gc_2; try clear hMc)
    | ((with_reducible refine gate_callee (f := 24) rfl ?_); refine goesL_ (some 32) rfl rfl Try.func24 (by kernel_rfl) rfl #[(.slice Ac Ec.f2.length bc), .int .i64 (cnt E0.f1.length (wrap64 (b + 1)))] rfl mp_ ?_; (with_reducible refine (laws_markIntS.callsM P0_ (.slice Ac Ec.f2.length bc) Ec.f2 (cnt E0.f1.length (wrap64 (b + 1))) w0 _ ?side1 ?side2).mono ?_); (case side1 => exact pb_ HB.1); (case side2 => exact pr_ HGc.1); rintro e wc_ ⟨he_, hb, hkp, hms0_⟩; rw [HE.1.2] at he_; subst he_; refine ⟨_, rfl, ?_⟩; have hms_ := Marked.trans (qn_ (Marked.refl _)) hms0_; have n1_ := Q_ hb; have n2_ := Q_ (Kept.then_ (S := (fun k_ => P0_ k_)) (qm_ HK.1) hkp (fun k_ hs_ => .inl hs_)); have n3_ := Q_ (Marked.trans (qn_ HM.1) hms0_); obtain ⟨Xc, HOc, hrc⟩ := R_like sh_k59 hms_ HO.1; have HSc := Q_ (RowsS.trans sh59_trans HS.1 hrc); clear HO HS hrc HE; have HO := Q_ HOc; have HS := HSc; clear HOc HSc; have HE := Q_ (HS.1.at z59 HII.1); rw [← h.1, ← HTI.1] at HE; clear HB HK HM hms_ hms0_ hb hkp hxc HGc; have HB := n1_; have HK := n2_; have HM := n3_; clear n1_ n2_ n3_; obtain ⟨cd, hcld, hMd, hccd, hfrd⟩ := Kd.R_elem HO.1 z59 a HP6.1 i.1; obtain ⟨Ed, hEd⟩ : ∃ e_ : S59, e_ = Xc.getD (a : Int).toNat z59 := ⟨_, rfl⟩; rw [← hEd] at hMd HE; clear hEd; obtain ⟨vd_1, vd_2, rfl, gd_1, gd_2⟩ := k59_openM hMd; have hxd : wc_.cell? ⟨d, (a : Int).toNat * 4 + 3, none⟩ = some (.bool Ed.f3) := hccd 3 _ rfl; have hfd : wc_.frozen? ⟨d, (a : Int).toNat * 4 + 3, none⟩ = false := hfrd 3; clear hcld hccd hfrd; clear gd_1 gd_2; try clear hMd)
    | ((with_reducible refine gate_store (t := 4) (p := 39) rfl ?_); refine store_event (t := 4) (p := 39) (v := ?vo_d) (w1 := ?w1_d) ?hg ?ho ?hn ?hr ?_; (case ho => rfl); (case hg => rfl); (case hn => rfl); (case hr => first | (go_simp; done) | (go_simp; rfl)); intro wd_ hw; have hms_ : Marked _ wd_ := (by rw [hw]; exact Marked.set hxd (.inr (.inr ⟨_, _, rfl, rfl⟩))); have n1_ := Q_ (show Below w0.heap.size w0 wd_ from by rw [hw]; exact below_set HB.1 j.1); have n2_ := Q_ (show Kept w wd_ (fun k_ => P0_ k_) from by rw [hw]; exact Kept.setCell HK.1 (.inl PG6.1) _); have n3_ := Q_ (HM.1.trans hms_); obtain ⟨Xd, HOd, hrd⟩ := R_like sh_k59 hms_ HO.1; have HSd := Q_ (RowsS.trans sh59_trans HS.1 hrd); clear HO HS hrd HE; have HO := Q_ HOd; have HS := HSd; clear HOd HSd; have HE := Q_ (HS.1.at z59 HII.1); rw [← h.1, ← HTI.1] at HE; clear HB HK HM hms_ hxd hfd hw; have HB := n1_; have HK := n2_; have HM := n3_; clear n1_ n2_ n3_))
  go_roundg k1
  case measure => omega
  case rel => exact ⟨_, (wrap64 ((cnt E0.f2.length (cnt E0.f1.length (wrap64 (b + 1)))) + 1)), (wrap64 (a + 1)), i_1 + 1, el_, el_, HW5, ⟨by have := HN.1.1; omega, by have := HII.1; omega⟩, HS, ⟨by have h_ := HV.1; rw [getD_cons_drop z59 HII.1, ← h.1] at h_; exact h_⟩, ⟨pr_ HO.1⟩, ⟨qm_ HK.1⟩, ⟨qn_ HM.1⟩, ⟨pb_ HB.1⟩⟩


/-! ### laws_markEndpoint: function 10, by shapes -/
theorem laws_markEndpoint.callsM (P0_0_ : Nat → Prop) (u9000_ : Value) (a : List Int) (P0_1_ : Nat → Prop) (u9001_ : Value) (g : List Int) (P0_2_ : Nat → Prop) (u9002_ : Value) (h : List S59) (l : Int) (m : Int) (w0 w : World) (hB : Below w0.heap.size w0 w) (i : Kd.R (Kd.int .i64) 3 w w0.heap.size P0_0_ u9000_ a) (j : Kd.R (Kd.int .i64) 3 w w0.heap.size P0_1_ u9001_ g) (k : Kd.R k59 59 w w0.heap.size P0_2_ u9002_ h) :
    Calls Try.prog 10 #[.agg #[u9000_, u9001_, u9002_, .int .i64 l], .int .i64 m] w fun e w' => e = .returned (.int .i64 (markC59 h (cnt g.length (cnt a.length m)))) ∧ Below w0.heap.size w0 w' ∧ Kept w w' (fun k_ => (P0_0_ k_ ∨ P0_1_ k_ ∨ P0_2_ k_)) ∧ Marked w w' := by
  have hu33 := Try.underlying33
  have b := Q_ (show Kd.R (Kd.int .i64) 3 w w0.heap.size (fun k_ => P0_0_ k_ ∧ k_ < w.heap.size) u9000_ a from Kd.R_mono (Kd.R_bound i) (fun k_ hk => ⟨hk.1, hk.2.2.1⟩))
  have HS0 := Q_ (show a.length = a.length from rfl)
  have c := Q_ (show Kd.R (Kd.int .i64) 3 w w0.heap.size (fun k_ => P0_1_ k_ ∧ k_ < w.heap.size) u9001_ g from Kd.R_mono (Kd.R_bound j) (fun k_ hk => ⟨hk.1, hk.2.2.1⟩))
  have HS1 := Q_ (show g.length = g.length from rfl)
  have d := Q_ (show Kd.R k59 59 w w0.heap.size (fun k_ => P0_2_ k_ ∧ k_ < w.heap.size) u9002_ h from Kd.R_mono (Kd.R_bound k) (fun k_ hk => ⟨hk.1, hk.2.2.1⟩))
  have HS2 := Q_ (show RowsS sh59 h h from RowsS.refl (fun _ => sh59_refl _) _)
  have HK := Q_ (Kept.refl w (fun k_ => (P0_0_ k_ ∨ P0_1_ k_ ∨ P0_2_ k_)))
  have HM := Q_ (Marked.refl w)
  have HB := Q_ hB
  clear hB i j k
  go_enter Try.func10, Try.ntmps10
  go_wp2_with (first
    | ((with_reducible refine gate_dst (N := 2) rfl ?_); refine bx_ 2 #[u9000_, u9001_, u9002_, .int .i64 l] 33 ?_; intro gb hg wx hbox hb; have m0_ := Q_ (Kd.R_below (pr_ b.1) hb); have m1_ := Q_ (Kd.R_below (pr_ c.1) hb); have m2_ := Q_ (Kd.R_below (pr_ d.1) hb); have hk_ := Q_ (Kept.below (qm_ HK.1) hb); have hm_ := Q_ (Marked.below (qn_ HM.1) hb); have hb_ := Q_ (below_step (pb_ HB.1) hb); have BK := Q_ hbox; have GW := Q_ (show w.heap.size ≤ gb from by rw [hg]; exact (qn_ HM.1 : Marked w _).size); clear b c d HK HM HB hb hbox hg; have b := m0_; have c := m1_; have d := m2_; have HK := hk_; have HM := hm_; have HB := hb_; clear m0_ m1_ m2_ hk_ hm_ hb_; have hcz := bc4_ BK.1)
    | ((with_reducible refine gate_callee (f := 24) rfl ?_); refine goesL_ (some 8) rfl rfl Try.func24 (by kernel_rfl) rfl #[u9000_, .int .i64 m] rfl mp_ ?_; (with_reducible refine (laws_markIntS.callsM (fun k_ => P0_0_ k_ ∧ k_ < w.heap.size) u9000_ a m w0 _ ?side1 ?side2).mono ?_); (case side1 => exact pb_ HB.1); (case side2 => exact pr_ b.1); rintro e wa_ ⟨he_, hb, hkp, hms0_⟩; rw [HS0.1] at he_; subst he_; refine ⟨_, rfl, ?_⟩; have hms_ := Marked.trans (qn_ (Marked.refl _)) hms0_; obtain ⟨Xa0, h0_, r0_⟩ := R_like (Sh.int .i64) hms_ b.1; have n0_ := Q_ (r0_.1.trans HS0.1); clear b HS0 r0_; have b := Q_ h0_; have HS0 := n0_; clear h0_ n0_; obtain ⟨Xa1, h1_, r1_⟩ := R_like (Sh.int .i64) hms_ c.1; have n1_ := Q_ (r1_.1.trans HS1.1); clear c HS1 r1_; have c := Q_ h1_; have HS1 := n1_; clear h1_ n1_; obtain ⟨Xa2, h2_, r2_⟩ := R_like sh_k59 hms_ d.1; have n2_ := Q_ (RowsS.trans sh59_trans HS2.1 r2_); clear d HS2 r2_; have d := Q_ h2_; have HS2 := n2_; clear h2_ n2_; have hb2_ := Q_ (blk_kept BK.1 hkp (fun h_ => by have := h_.2; have := GW.1; omega)); have hk_ := Q_ (Kept.then_ (S := (fun k_ => (P0_0_ k_ ∨ P0_1_ k_ ∨ P0_2_ k_))) (qm_ HK.1) hkp (fun k_ hs_ => .inl (.inl hs_.1))); have hm_ := Q_ (Marked.trans (qn_ HM.1) hms0_); have hb_ := Q_ hb; clear HK HM HB BK hb hkp hms_ hms0_; have HK := hk_; have HM := hm_; have HB := hb_; clear hk_ hm_ hb_; have BK := hb2_; clear hb2_; have hcza := bc4_ BK.1)
    | ((with_reducible refine gate_callee (f := 24) rfl ?_); refine goesL_ (some 12) rfl rfl Try.func24 (by kernel_rfl) rfl #[u9001_, .int .i64 (cnt a.length m)] rfl mp_ ?_; (with_reducible refine (laws_markIntS.callsM (fun k_ => P0_1_ k_ ∧ k_ < w.heap.size) u9001_ Xa1 (cnt a.length m) w0 _ ?side1 ?side2).mono ?_); (case side1 => exact pb_ HB.1); (case side2 => exact pr_ c.1); rintro e wb_ ⟨he_, hb, hkp, hms0_⟩; rw [HS1.1] at he_; subst he_; refine ⟨_, rfl, ?_⟩; have hms_ := Marked.trans (qn_ (Marked.refl _)) hms0_; obtain ⟨Xb0, h0_, r0_⟩ := R_like (Sh.int .i64) hms_ b.1; have n0_ := Q_ (r0_.1.trans HS0.1); clear b HS0 r0_; have b := Q_ h0_; have HS0 := n0_; clear h0_ n0_; obtain ⟨Xb1, h1_, r1_⟩ := R_like (Sh.int .i64) hms_ c.1; have n1_ := Q_ (r1_.1.trans HS1.1); clear c HS1 r1_; have c := Q_ h1_; have HS1 := n1_; clear h1_ n1_; obtain ⟨Xb2, h2_, r2_⟩ := R_like sh_k59 hms_ d.1; have n2_ := Q_ (RowsS.trans sh59_trans HS2.1 r2_); clear d HS2 r2_; have d := Q_ h2_; have HS2 := n2_; clear h2_ n2_; have hb2_ := Q_ (blk_kept BK.1 hkp (fun h_ => by have := h_.2; have := GW.1; omega)); have hk_ := Q_ (Kept.then_ (S := (fun k_ => (P0_0_ k_ ∨ P0_1_ k_ ∨ P0_2_ k_))) (qm_ HK.1) hkp (fun k_ hs_ => .inl (.inr (.inl hs_.1)))); have hm_ := Q_ (Marked.trans (qn_ HM.1) hms0_); have hb_ := Q_ hb; clear HK HM HB BK hb hkp hms_ hms0_; have HK := hk_; have HM := hm_; have HB := hb_; clear hk_ hm_ hb_; have BK := hb2_; clear hb2_; have hczb := bc4_ BK.1)
    | ((with_reducible refine gate_callee (f := 25) rfl ?_); refine goesL_ (some 16) rfl rfl Try.func25 (by kernel_rfl) rfl #[u9002_, .int .i64 (cnt g.length (cnt a.length m))] rfl mp_ ?_; (with_reducible refine (laws_markBoxS.callsM (fun k_ => P0_2_ k_ ∧ k_ < w.heap.size) u9002_ Xb2 (cnt g.length (cnt a.length m)) w0 _ ?side1 ?side2).mono ?_); (case side1 => exact pb_ HB.1); (case side2 => exact pr_ d.1); rintro e wc_ ⟨he_, hb, hkp, hms0_⟩; rw [markC59_like HS2.1] at he_; subst he_; refine ⟨_, rfl, ?_⟩; have hms_ := Marked.trans (qn_ (Marked.refl _)) hms0_; obtain ⟨Xc0, h0_, r0_⟩ := R_like (Sh.int .i64) hms_ b.1; have n0_ := Q_ (r0_.1.trans HS0.1); clear b HS0 r0_; have b := Q_ h0_; have HS0 := n0_; clear h0_ n0_; obtain ⟨Xc1, h1_, r1_⟩ := R_like (Sh.int .i64) hms_ c.1; have n1_ := Q_ (r1_.1.trans HS1.1); clear c HS1 r1_; have c := Q_ h1_; have HS1 := n1_; clear h1_ n1_; obtain ⟨Xc2, h2_, r2_⟩ := R_like sh_k59 hms_ d.1; have n2_ := Q_ (RowsS.trans sh59_trans HS2.1 r2_); clear d HS2 r2_; have d := Q_ h2_; have HS2 := n2_; clear h2_ n2_; skip; have hk_ := Q_ (Kept.then_ (S := (fun k_ => (P0_0_ k_ ∨ P0_1_ k_ ∨ P0_2_ k_))) (qm_ HK.1) hkp (fun k_ hs_ => .inl (.inr (.inr hs_.1)))); have hm_ := Q_ (Marked.trans (qn_ HM.1) hms0_); have hb_ := Q_ hb; clear HK HM HB BK hb hkp hms_ hms0_; have HK := hk_; have HM := hm_; have HB := hb_; clear hk_ hm_ hb_))
  go_ret
  exact ⟨el_, pb_ HB.1, qm_ HK.1, qn_ HM.1⟩
def laws_markEndpoint.f (a : List Int) (b : List Int) (c : List S59) (d : Int) (e : Int) : Option (Int) := some (markC59 c (cnt b.length (cnt a.length e)))
theorem laws_markEndpoint.calls (P0_0_ : Nat → Prop) (u9000_ : Value) (b : List Int) (P0_1_ : Nat → Prop) (u9001_ : Value) (c : List Int) (P0_2_ : Nat → Prop) (u9002_ : Value) (d : List S59) (a : Int) (k : Int) (l : Int) (w0 w : World) (hB : Below w0.heap.size w0 w) (g : Kd.R (Kd.int .i64) 3 w w0.heap.size P0_0_ u9000_ b) (hp0_0_1 : ∀ k_, P0_0_ k_ → ¬ P0_1_ k_) (i : Kd.R (Kd.int .i64) 3 w w0.heap.size P0_1_ u9001_ c) (hp0_1_0 : ∀ k_, P0_1_ k_ → ¬ P0_0_ k_) (j : Kd.S k59 59 w w0.heap.size P0_2_ u9002_ d) (h : laws_markEndpoint.f b c d a k = some l) :
    Calls Try.prog 10 #[.agg #[u9000_, u9001_, u9002_, .int .i64 a], .int .i64 k] w fun e w' => e = .returned (.int .i64 l) ∧ Below w0.heap.size w0 w' ∧ Kept w w' (fun k_ => (P0_0_ k_ ∨ P0_1_ k_ ∨ P0_2_ k_)) := by
  obtain rfl := Option.some.inj h
  refine (laws_markEndpoint.callsM P0_0_ u9000_ b P0_1_ u9001_ c P0_2_ u9002_ d a k w0 w hB g i (Kd.S_R j)).mono ?_
  rintro e w' ⟨rfl, hb, hk, _⟩
  exact ⟨rfl, hb, hk⟩


/-! ### laws_markExtS: function 26, by hand -/
def laws_markExtS.l0 : Nat → List (S44) → Int → Int → Option (Int × List (S44))
  | 0, _, _, _ => none
  | k + 1, c, d, b => if b < (c.length : Int) then (if 0 ≤ b then ((laws_markIntS.f k (rd_T44 c b).f1 (wrap64 (d + 1))).bind fun a => (laws_markExtS.l0 k (c.set (b : Int).toNat (⟨d, a.2⟩ : S44)) a.1 (wrap64 (b + 1)))) else (none)) else (some (d, c))
def laws_markExtS.f (k : Nat) (b : List (S44)) (a : Int) : Option (Int × List (S44)) := laws_markExtS.l0 k b a 0
theorem S_call0_ {α : Type} {d : Kd α} {e g n cap : Nat} {W : World} {base : Nat} {ok : Nat → Prop} {xs : List α} (h : Kd.S d e W base ok (.slice (some ⟨g, 0, none⟩) n cap) xs) (z : α) (i : Int) (h0 : 0 ≤ i) (h1 : i < n) :
    ∃ (oki : Nat → Prop) (c : List Value), c.length = d.sz ∧ d.M W base oki (xs.getD i.toNat z) c ∧ (∀ j u, c[j]? = some u → W.cell? ⟨g, i.toNat * d.sz + j, none⟩ = some u) ∧ (∀ k, oki k → ok k) ∧
      ∀ {w1 : World} {x' : α}, Kept W w1 oki → d.M w1 base oki x' c → Kd.S d e w1 base ok (.slice (some ⟨g, 0, none⟩) n cap) (xs.set i.toNat x') := by
  obtain ⟨oki, c, hcl, hM, hcc, hoki, hH⟩ := Kd.S_lend h z i h0 h1
  exact ⟨oki, c, hcl, hM, hcc, fun k hk => (hoki k hk).1, fun hk a => Kd.H_back (Kd.H_step hH (fun k _ hn hlt => hk.2 k hlt hn)) a (fun _ h_ => h_)⟩
theorem bN_ {W w1 : World} (_ : Below W.heap.size W w1) : ∃ N, N = W.heap.size := ⟨_, rfl⟩
theorem S_oldN_ {α : Type} {d : Kd α} {e N : Nat} {W w1 : World} {base : Nat} {ok : Nat → Prop} {u : Value} {xs : List α} (hN : N = W.heap.size) (h : Kd.S d e W base ok u xs) (hb : Below W.heap.size W w1) : Kd.S d e w1 base (fun k => ok k ∧ k < N) u xs := hN ▸ Kd.S_old h hb
theorem R_oldN_ {α : Type} {d : Kd α} {e N : Nat} {W w1 : World} {base : Nat} {ok : Nat → Prop} {u : Value} {xs : List α} (hN : N = W.heap.size) (h : Kd.R d e W base ok u xs) (hb : Below W.heap.size W w1) : Kd.R d e w1 base (fun k => ok k ∧ k < N) u xs := hN ▸ Kd.R_old h hb
theorem V_oldN_ {α : Type} {d : Kd α} {e N : Nat} {W w1 : World} {base : Nat} {ok : Nat → Prop} {u : Value} {xs : List α} (hN : N = W.heap.size) (h : Kd.V d e W base ok u xs) (hb : Below W.heap.size W w1) : Kd.V d e w1 base (fun k => ok k ∧ k < N) u xs := hN ▸ Kd.V_old h hb
theorem V_toldN_ {α : Type} {d : Kd α} {e N M : Nat} {w1 : World} {base : Nat} {ok : Nat → Prop} {u v : Value} {xs : List α} (hN : N = M) (h : Kd.V d e w1 base (fun k => ok k ∧ k < N) u xs) (hb : ∀ k, v.ownBlock = some k → M ≤ k) : Kd.V d e w1 base (fun k => (ok k ∧ some k ≠ v.ownBlock) ∧ k < N) u xs := Kd.V_told h (hN ▸ hb)
theorem S_toldN_ {α : Type} {d : Kd α} {e N M : Nat} {w1 : World} {base : Nat} {ok : Nat → Prop} {u v : Value} {xs : List α} (hN : N = M) (h : Kd.S d e w1 base (fun k => ok k ∧ k < N) u xs) (hb : ∀ k, v.ownBlock = some k → M ≤ k) : Kd.S d e w1 base (fun k => (ok k ∧ some k ≠ v.ownBlock) ∧ k < N) u xs := Kd.S_told h (hN ▸ hb)
theorem R_toldN_ {α : Type} {d : Kd α} {e N M : Nat} {w1 : World} {base : Nat} {ok : Nat → Prop} {u v : Value} {xs : List α} (hN : N = M) (h : Kd.R d e w1 base (fun k => ok k ∧ k < N) u xs) (hb : ∀ k, v.ownBlock = some k → M ≤ k) : Kd.R d e w1 base (fun k => (ok k ∧ some k ≠ v.ownBlock) ∧ k < N) u xs := Kd.R_told h (hN ▸ hb)
theorem S_geN_ {α : Type} {d : Kd α} {e N M : Nat} {w1 : World} {ok : Nat → Prop} {v : Value} {xs : List α} (hN : N = M) (h : Kd.S d e w1 M ok v xs) : Kd.S d e w1 M (fun k => ok k ∧ N ≤ k) v xs := Kd.S_mono (Kd.S_bound h) (fun _ hk => ⟨hk.1, hN ▸ hk.2.1⟩)
theorem R_geN_ {α : Type} {d : Kd α} {e N M : Nat} {w1 : World} {ok : Nat → Prop} {v : Value} {xs : List α} (hN : N = M) (h : Kd.R d e w1 M ok v xs) : Kd.R d e w1 M (fun k => ok k ∧ N ≤ k) v xs := Kd.R_mono (Kd.R_bound h) (fun _ hk => ⟨hk.1, hN ▸ hk.2.1⟩)
theorem laws_markExtS.mono_l : ∀ k, (∀ a b c, LeO (laws_markExtS.l0 k a b c) (laws_markExtS.l0 (k + 1) a b c))
  | 0 => fun _ _ _ r h => by simp [laws_markExtS.l0] at h
  | k + 1 => by
    have ih0 := laws_markExtS.mono_l k
    · intro a b c
      unfold laws_markExtS.l0
      exact mo2_ ih0 laws_markIntS.mono
theorem laws_markExtS.mono : ∀ a b k, LeO (laws_markExtS.f k a b) (laws_markExtS.f (k + 1) a b) := by
  intro a b k
  have ih0 := laws_markExtS.mono_l k
  unfold laws_markExtS.f
  exact mo2_ ih0 laws_markIntS.mono
theorem laws_markExtS.calls (k : Nat) (P0_ : Nat → Prop) (u9000_ : Value) (s : List (S44)) (z : Int) (A : Int) (B : List (S44)) (w0 w : World) (hB : Below w0.heap.size w0 w) (J : Kd.S k44 44 w w0.heap.size P0_ u9000_ s) (h : laws_markExtS.f k s z = some (A, B)) :
    Calls Try.prog 26 #[u9000_, .int .i64 z] w fun e w' => e = .returned (.int .i64 A) ∧ Kd.S k44 44 w' w0.heap.size (fun k_ => P0_ k_) u9000_ B ∧ Below w0.heap.size w0 w' ∧ Kept w w' (fun k_ => P0_ k_) := by
  have hu44 := Try.underlying44
  have F := Q_ (show Kd.S k44 44 w w0.heap.size (fun k_ => P0_ k_) u9000_ s from J)
  have HK := Q_ (Kept.refl w (fun k_ => P0_ k_))
  have HW0 := Q_ hB.size
  have HB := Q_ hB
  clear hB
  have H : (laws_markExtS.l0 k s z 0) = some (A, B) := h
  clear h
  have H' := Q_ H
  clear H
  go_enter Try.func26, Try.ntmps26
  go_wp2
  go_loopg [1, 5] k (fun kq Q R w' => ∃ (b : List (S44)) (c : Int) (a : Int), Q = .int .i64 c ∧ R = .int .i64 a ∧ Aside0 (laws_markExtS.l0 kq b c a = some (A, B)) ∧ Aside0 (kq ≤ k) ∧ Aside0 (Kd.S k44 44 w' w0.heap.size (fun k_ => P0_ k_) u9000_ b) ∧ Aside0 (Kept w w' (fun k_ => P0_ k_)) ∧ Aside0 (Below w0.heap.size w0 w'))
  case atStart => exact ⟨(s), (z), (0), el_, el_, H', ⟨Nat.le_refl _⟩, ⟨by (with_reducible repeat (first | apply Kd.S_alloc | apply Kd.S_drewN | apply Kd.S_drew)); exact F.1⟩, ⟨qt0_ HK.1⟩, ⟨qb0_ HB.1⟩⟩
  clear H'
  obtain ⟨b, c, a, rfl, rfl, HA, m, d, HK, HB⟩ := hrel
  rcases gk with _ | k1
  · exact absurd HA.1 (by simp [laws_markExtS.l0])
  have H := HA.1
  clear HA
  simp only [laws_markExtS.l0] at H
  by_cases i : a < (b.length : Int)
  rotate_left
  · rw [if_neg i] at H
    have n := decide_eq_false i
    clear i
    simp only [Option.some.injEq, Prod.mk.injEq] at H
    obtain ⟨rfl, rfl⟩ := H
    obtain ⟨O, P, G⟩ := Kd.S_slice d.1
    subst G
    go_wp2
    go_ret
    exact ⟨el_, by (with_reducible repeat (first | apply Kd.S_alloc | apply Kd.S_drewN | apply Kd.S_drew)); exact d.1, qb0_ HB.1, qt0_ HK.1⟩
  rw [if_pos i] at H
  have n := decide_eq_true i
  have x : a < (b.length : Int) := i
  clear i
  by_cases o : 0 ≤ a
  rotate_left
  · rw [if_neg o] at H
    exact nn_ H
  rw [if_pos o] at H
  have M := decide_eq_true o
  have u : 0 ≤ a := o
  clear o
  obtain ⟨⟨N, C⟩, L, H⟩ := bs_ H
  (try dsimp only at H)
  have H' := Q_ H
  clear H
  have PP := Q_ u
  have QQ := Q_ x
  obtain ⟨g, q, I, r, gl6, HG6⟩ := Kd.S_form d.1 (by omega)
  subst I
  have E := Q_ r
  clear r gl6 HG6
  obtain ⟨Xa, hXa⟩ : ∃ X : S44, X = rd_T44 b a := ⟨_, rfl⟩
  rw [← hXa] at L
  obtain ⟨oka, ca, hcla, hMa, hcca, hfra, hoka, hHa⟩ := Kd.S_elem d.1 z44 a u x
  rw [show b.getD a.toNat z44 = Xa from hXa.symm] at hMa
  obtain ⟨va1, rfl, ga1⟩ := k44_openM hMa
  have hxa_0 : wr.cell? ⟨g, (a : Int).toNat * 2, none⟩ = some (.int .i64 Xa.f0) := hcca 0 _ rfl
  have hfa_0 : wr.frozen? ⟨g, (a : Int).toNat * 2, none⟩ = false := hfra 0
  have HPa := Kd.S_seg0 hHa u x (seg := [.int .i64 c]) (j := 0) (show 0 + 1 ≤ 2 from by decide) (x' := (⟨c, Xa.f1⟩ : S44)) (k44_mkM _ _ _ (⟨c, Xa.f1⟩ : S44) ga1) (fun _ h_ => h_)
  have hgda : (b.set a.toNat (⟨c, Xa.f1⟩ : S44)).getD a.toNat z44 = (⟨c, Xa.f1⟩ : S44) := by
    have hi : a.toNat < b.length := by omega
    simp [hi]
  have hlna : (b.set a.toNat (⟨c, Xa.f1⟩ : S44)).length = b.length := by simp
  have hsta : ∀ y : S44, (b.set a.toNat (⟨c, Xa.f1⟩ : S44)).set a.toNat y = b.set a.toNat y := fun y => List.set_set ..
  obtain ⟨ya, hya⟩ : ∃ y, y = b.set a.toNat (⟨c, Xa.f1⟩ : S44) := ⟨_, rfl⟩
  rw [← hya] at HPa hgda
  have hstb : ∀ y : S44, ya.set a.toNat y = b.set a.toNat y := fun y => by rw [hya]; exact hsta y
  have GDa := Q_ hgda
  have STa := Q_ hstb
  clear hcca hfra hoka hHa ga1 hcla hgda hlna hXa hya hsta hstb
  replace u := eq_true u
  replace x := eq_true x
  go_wp2_with (first
    | ((with_reducible refine gate_store (t := 3) (p := 16) rfl ?_); refine store_event (t := 3) (p := 16) (v := ?vo_w9) (w1 := (wr.setCell ⟨g, (a : Int).toNat * 2, none⟩ (.int .i64 c))) ?hg ?ho ?hn ?hr ?_; (case ho => rfl); (case hg => rfl); (case hn => rfl); (case hr => first | (go_simp; done) | (go_simp; rfl)); intro D hw; have hg : wr.grownBy D (some g) := (by rw [hw]; exact HPa.2); have n0_ := Q_ (show Kd.S k44 44 D w0.heap.size (fun k_ => P0_ k_) (.slice (some ⟨g, 0, none⟩) b.length q) ya from by rw [hw]; exact HPa.1); have n1_ := Q_ ((by rw [hw]; exact below_set (HB.1) E.1 : Below w0.heap.size w0 D)); have n2_ := Q_ (Kept.of_grown (S := (fun k_ => P0_ k_)) hg (qt0_ HK.1) (fun k_ e_ => .inl ((Kd.S_R d.1).1 _ e_))); clear HPa; clear d; clear HB; clear HK; have d := n0_; have HB := n1_; have HK := n2_; clear n0_ n1_ n2_ hg hw hxa_0 hfa_0;
       obtain ⟨okb, cb, _, hMb, hccb, hokb, hbkb⟩ := S_call0_ d.1 z44 a PP.1 QQ.1; rw [GDa.1] at hMb; obtain ⟨vb1, rfl, l⟩ := k44_openM hMb; obtain ⟨Ab1, cb1, eb1⟩ := Kd.R_slice l; subst eb1; have hxb_1 : D.cell? ⟨g, (a : Int).toNat * 2 + 1, none⟩ = some (.slice Ab1 Xa.f1.length cb1) := hccb 1 _ rfl; have HRb1 := Q_ l; have HIb := Q_ hokb; have HJb := Q_ @hbkb; clear hccb hokb hbkb l hMb)
    | ((with_reducible refine gate_callee (f := 24) rfl ?_); refine goesL_ (some 25) rfl rfl Try.func24 (by kernel_rfl) rfl #[.slice Ab1 Xa.f1.length cb1, .int .i64 (wrap64 (c + 1))] rfl mp_ ?_; (with_reducible refine (laws_markIntS.calls k1 okb (.slice Ab1 Xa.f1.length cb1) Xa.f1 (wrap64 (c + 1)) N C w0 _ ?side1 ?side2 L.1).mono ?_); (case side1 => exact (qb0_ HB.1)); (case side2 => (with_reducible repeat (first | apply Kd.R_alloc | apply Kd.R_drewN | apply Kd.R_drew)); exact HRb1.1); rintro e K ⟨rfl, hy0, hb, hkp⟩; refine ⟨_, rfl, ?_⟩;
       have n0_ := Q_ (HJb.1 (x' := (⟨c, C⟩ : S44)) (Kept.then_ (S := okb) (by repeat (first | exact Kept.refl _ _ | apply Kept.alloc | apply Kept.drewN | apply Kept.drew)) hkp (fun _ h_ => .inl h_)) (k44_mkM _ _ _ (⟨c, C⟩ : S44) (Kd.R_reok rfl hy0 (fun k_ e_ => HRb1.1.1 k_ e_)))); have n1_ := Q_ hb; have n2_ := Q_ (Kept.then_ (S := (fun k_ => P0_ k_)) (qt0_ HK.1) hkp (fun k_ hs_ => .inl (HIb.1 k_ hs_)));
       have n3_ := Q_ (show Kd.S k44 44 K w0.heap.size (fun k_ => P0_ k_) (.slice (some ⟨g, 0, none⟩) b.length q) (b.set a.toNat (⟨c, C⟩ : S44)) from (STa.1 _) ▸ n0_.1); clear d; clear HB; clear HK; have d := n3_; have HB := n1_; have HK := n2_; clear n0_ n1_ n2_ n3_ hy0 hb hkp hxb_1 HRb1 HIb HJb))
  go_roundg k1
  case measure => have := m.1; omega
  case rel => exact ⟨_, N, (wrap64 (a + 1)), el_, el_, H', ⟨by have := m.1; omega⟩, ⟨by (with_reducible repeat (first | apply Kd.S_alloc | apply Kd.S_drewN | apply Kd.S_drew)); exact d.1⟩, ⟨qt0_ HK.1⟩, ⟨qb0_ HB.1⟩⟩


/-! ### laws_markHello: function 11, by hand -/
def laws_markHello.f (k : Nat) (a : List Int) (d : List (S44)) (e : Int) : Option (Int × List Int × List (S44)) := (laws_markIntS.f k a e).bind fun b => ((laws_markExtS.f k d b.1).bind fun c => (some (c.1, b.2, c.2)))
theorem laws_markHello.mono : ∀ a b c k, LeO (laws_markHello.f k a b c) (laws_markHello.f (k + 1) a b c) := by
  intro a b c k
  unfold laws_markHello.f
  exact LeO.bind (laws_markIntS.mono _ _ _) (fun _ => LeO.bind (laws_markExtS.mono _ _ _) (fun _ => LeO.refl _))
theorem laws_markHello.calls (k : Nat) (P0_0_ : Nat → Prop) (u9000_ : Value) (a : List Int) (P0_1_ : Nat → Prop) (u9001_ : Value) (b : List (S44)) (g : Int) (i : Int) (l : List Int) (m : List (S44)) (w0 w : World) (hB : Below w0.heap.size w0 w) (c : Kd.R (Kd.int .i64) 3 w w0.heap.size P0_0_ u9000_ a) (d : Kd.S k44 44 w w0.heap.size P0_1_ u9001_ b) (hp0_1_0 : ∀ k_, P0_1_ k_ → ¬ P0_0_ k_) (h : laws_markHello.f k a b g = some (i, l, m)) :
    Calls Try.prog 11 #[.agg #[u9000_, u9001_], .int .i64 g] w fun e w' => e = .returned (.int .i64 i) ∧ Kd.R (Kd.int .i64) 3 w' w0.heap.size (fun k_ => (P0_0_ k_ ∨ w.heap.size ≤ k_)) u9000_ l ∧ Kd.S k44 44 w' w0.heap.size (fun k_ => P0_1_ k_) u9001_ m ∧ Below w0.heap.size w0 w' ∧ Kept w w' (fun k_ => (P0_0_ k_ ∨ P0_1_ k_)) := by
  unfold laws_markHello.f at h
  obtain ⟨⟨n, x⟩, o, h⟩ := Option.bind_eq_some_iff.1 h
  obtain ⟨⟨u, v⟩, p, h⟩ := Option.bind_eq_some_iff.1 h
  simp only [Option.some.injEq, Prod.mk.injEq] at h
  obtain ⟨rfl, rfl, rfl⟩ := h
  have hu29 := Try.underlying29
  have hlt := Kd.R_lt c
  have hS0 := Kd.S_mono (ok' := fun k => P0_1_ k ∧ k < w.heap.size) (Kd.S_bound d) (fun k hk => ⟨hk.1, hk.2.2.1⟩)
  obtain ⟨Av, cv, rfl⟩ := Kd.R_slice c
  obtain ⟨Ae, ce, rfl⟩ := Kd.S_slice d
  have hR0 := Kd.R_tight2 rfl c
  obtain ⟨W, hW⟩ : ∃ W, W = w.alloc (.cells #[.slice Av a.length cv, .slice Ae b.length ce] 29) := ⟨_, rfl⟩
  have hsz : W.heap.size = w.heap.size + 1 := by rw [hW]; exact Array.size_push _
  have hold : ∀ j, j < w.heap.size → W.heap[j]? = w.heap[j]? := fun j hj => by rw [hW]; exact Below.heap_alloc w _ j hj
  have hbw : W.heap[w.heap.size]? = some (.cells #[.slice Av a.length cv, .slice Ae b.length ce] 29 (0, 0)) := by rw [hW]; exact Array.getElem?_push_size
  have hBW : Below w0.heap.size w0 W := by rw [hW]; exact hB.alloc hB.size _
  have hRW := Kd.R_alloc hR0 (.cells #[.slice Av a.length cv, .slice Ae b.length ce] 29)
  have hSW := Kd.S_alloc hS0 (.cells #[.slice Av a.length cv, .slice Ae b.length ce] 29)
  rw [← hW] at hRW hSW
  have q : W.cell? ⟨w.heap.size, 0, none⟩ = some (.slice Av a.length cv) := cell_of_row W _ _ _ _ _ hbw
  go_enter Try.func11, Try.ntmps11
  go_wp2_with (fail)
  rw [← hW]
  refine (laws_markIntS.calls k _ _ a g n x w0 W hBW hRW o).mono ?_
  rintro e w1 ⟨rfl, hy0, hb, hkp⟩
  have hb1 : w1.heap[w.heap.size]? = some (.cells #[.slice Av a.length cv, .slice Ae b.length ce] 29 (0, 0)) := (hkp.2 _ (by omega) (fun hs => absurd (hlt _ hs.1.symm) (by omega))).trans hbw
  have r : w1.cell? ⟨w.heap.size, 1, none⟩ = some (.slice Ae b.length ce) := cell_of_row w1 _ _ _ _ _ hb1
  have hS1 := Kd.S_kept hSW hkp (fun k ho hs => hp0_1_0 k ho.1 hs.2)
  go_wp2_with (fail)
  refine (laws_markExtS.calls k _ _ b n u v w0 w1 hb hS1 p).mono ?_
  rintro e y ⟨rfl, hyS, hb2, hkp2⟩
  have hRf := Kd.R_kept hy0 hkp2 (fun k ho hs => ho.elim (fun h1 => hp0_1_0 k hs.1 h1.2) (fun h1 => absurd hs.2 (by omega)))
  have s := hkp.1
  have t := hkp2.1
  go_wp2
  go_ret
  exact ⟨rfl, Kd.R_mono hRf (fun k hk => hk.elim (fun h1 => .inl h1.2) (fun h1 => .inr (by omega))), Kd.S_mono hyS (fun k hk => hk.1), hb2, by omega, fun j hj hn => (hkp2.2 j (by omega) (fun h1 => hn (.inr h1.1))).trans ((hkp.2 j (by omega) (fun h1 => hn (.inl h1.2))).trans (hold j hj))⟩


end Go.Proofs.Ytibmehnippjakaa.Print
