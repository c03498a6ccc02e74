-- Written by a program of this session (printx.py) out of the translation; Lean checks it.
import Derived.Test.YtibmehnippjakaaPrint0
import Derived.Test.YtibmehnippjakaaPrint1
namespace Go.Proofs.Ytibmehnippjakaa.Print
open Go.RowKit Go.Proofs.YtibmehnippjakaaW.PrintWords Go.Proofs.YtibmehnippjakaaW.PrintLast Go.Proofs.YtibmehnippjakaaW.PrintMore Go.Proofs.Ytibmehnippjakaa.Short
attribute [local go_sem] max2_int min2_int max_two min_two max_three min_three max_four min_four   -- for this text's walks alone
set_option linter.unusedVariables false
set_option maxHeartbeats 8000000
set_option maxRecDepth 100000
set_option linter.unusedSimpArgs false

/-! ### spec_l9Has: function 74 -/
def spec_l9Has.l0 : Nat → List Int → Int → Int → Option (Bool)
 | 0, _, _, _ => none
 | k + 1, b, c, a => if a < (b.length : Int) then (if 0 ≤ a then (if (rd b a) = c then (some true) else (spec_l9Has.l0 k b c (wrap64 (a + 1)))) else (none)) else (some false)
def spec_l9Has.f (k : Nat) (b : List Int) (a : Int) : Option (Bool) := spec_l9Has.l0 k b a 0
theorem spec_l9Has.mono_l : ∀ k, (∀ a b c, LeO (spec_l9Has.l0 k a b c) (spec_l9Has.l0 (k + 1) a b c))
 | 0 => fun _ _ _ r h => by simp [spec_l9Has.l0] at h
 | k + 1 => by
  have ih0 := spec_l9Has.mono_l k
  ·intro a b c
   unfold spec_l9Has.l0
   exact mo1_ ih0
theorem spec_l9Has.mono : ∀ a b k, LeO (spec_l9Has.f k a b) (spec_l9Has.f (k + 1) a b) := by
 intro a b k
 have ih0 := spec_l9Has.mono_l k
 unfold spec_l9Has.f
 exact mo1_ ih0
theorem spec_l9Has.calls (k : Nat) (x : Option Addr) (y : Nat) (d : List Int) (j : Int) (r : Bool) (w : World) (hr0 : Kd.C (Kd.int .i64) w x d.length d) (u : d.length ≤ y) (h : spec_l9Has.f k d j = some r) :
  Calls Try.prog 74 #[.slice x d.length y, .int .i64 j] w fun e w' => e = .returned (.bool r) ∧ Drawn0 w w' := by
 have p := Q_ hr0
 have A := Q_ u
 clear hr0 u
 have H : (spec_l9Has.l0 k d j 0) = some r := h
 clear h
 have H' := Q_ H
 clear H
 go_enter Try.func74, Try.ntmps74
 go_wp2
 go_loopg [5] k (fun kq B w' => ∃ (a : Int), B = .int .i64 a ∧ Aside0 (spec_l9Has.l0 kq d j a = some r) ∧ Aside0 (kq ≤ k) ∧ Drawn0 w w')
 case atStart => exact ⟨(0), el_, H', ⟨Nat.le_refl _⟩, by repeat (first | exact Drawn0.refl _ | apply Drawn0.step)⟩
 clear H'
 obtain ⟨a, rfl, HA, o, ⟨m1, rfl⟩⟩ := hrel
 rcases gk with _ | k1
 ·exact absurd HA.1 (by simp [spec_l9Has.l0])
 have H := HA.1
 clear HA
 simp only [spec_l9Has.l0] at H
 by_cases n : a < (d.length : Int)
 rotate_left
 ·rw [if_neg n] at H
  have q := decide_eq_false n
  clear n
  obtain rfl := Option.some.inj H
  go_wp2
  go_ret
  exact ⟨by first | rfl | (simp; done) | (simp [*]; done), by repeat (first | exact Drawn0.refl _ | apply Drawn0.step)⟩
 rw [if_pos n] at H
 have q := decide_eq_true n
 clear n
 by_cases v : 0 ≤ a
 rotate_left
 ·rw [if_neg v] at H
  exact nn_ H
 rw [if_pos v] at H
 have z := decide_eq_true v
 clear v
 by_cases m : (rd d a) = j
 rotate_left
 ·rw [if_neg m] at H
  have s : ((rd d a) == j) = false := beq_eq_false_iff_ne.mpr m
  have t : ((rd d a) != j) = true := bne_iff_ne.mpr m
  have H' := Q_ H
  clear H
  have b : 0 ≤ (a : Int) := dt_
  have c : a < (d.length : Int) := dt_
  obtain ⟨l, g, i⟩ := Kd.at_int p.1 a b c
  cases g
  replace b := eq_true b
  replace c := eq_true c
  go_wp2
  go_roundg k1
  case measure => have := o.1; omega
  case rel => exact ⟨(wrap64 (a + 1)), el_, H', ⟨by have := o.1; omega⟩, by repeat (first | exact Drawn0.refl _ | apply Drawn0.step)⟩
 rw [if_pos m] at H
 have s : ((rd d a) == j) = true := beq_iff_eq.mpr m
 have t : ((rd d a) != j) = false := bne_eq_false_iff_eq.mpr m
 clear m
 obtain rfl := Option.some.inj H
 have b : 0 ≤ (a : Int) := dt_
 have c : a < (d.length : Int) := dt_
 obtain ⟨l, g, i⟩ := Kd.at_int p.1 a b c
 cases g
 replace b := eq_true b
 replace c := eq_true c
 go_wp2
 go_ret
 exact ⟨by first | rfl | (simp; done) | (simp [*]; done), by repeat (first | exact Drawn0.refl _ | apply Drawn0.step)⟩

/-! ### spec_KnownOf: function 57 -/
def spec_KnownOf.l0 : Nat → List (S44) → List Int → List (S44) → Int → Option ((List (S44)))
 | 0, _, _, _, _ => none
 | k + 1, c, g, e, a => if a < (c.length : Int) then (if 0 ≤ a then ((spec_l9Has.f k g ((rd_T44 c a).f0)).bind fun d => (if d = true then ((some (([] : List Int) : List Int)).bind fun b => (if b.length + ((rd_T44 c a).f1).length < 17592186044416 then (if e.length < 4398046511104 then (spec_KnownOf.l0 k c g (e ++ [(⟨(rd_T44 c a).f0, (b ++ ((rd_T44 c a).f1))⟩ : S44)]) (wrap64 (a + 1))) else (none)) else (none))) else (spec_KnownOf.l0 k c g e (wrap64 (a + 1))))) else (none)) else (some e)
def spec_KnownOf.f (k : Nat) (a : List (S44)) (b : List Int) : Option ((List (S44))) := spec_KnownOf.l0 k a b (([] : List (S44))) 0
theorem spec_KnownOf.mono_l : ∀ k, (∀ a b c d, LeO (spec_KnownOf.l0 k a b c d) (spec_KnownOf.l0 (k + 1) a b c d))
 | 0 => fun _ _ _ _ r h => by simp [spec_KnownOf.l0] at h
 | k + 1 => by
  have ih0 := spec_KnownOf.mono_l k
  ·intro a b c d
   unfold spec_KnownOf.l0
   exact mo2_ ih0 spec_l9Has.mono
theorem spec_KnownOf.mono : ∀ a b k, LeO (spec_KnownOf.f k a b) (spec_KnownOf.f (k + 1) a b) := by
 intro a b k
 have ih0 := spec_KnownOf.mono_l k
 unfold spec_KnownOf.f
 exact mo2_ ih0 spec_l9Has.mono
def spec_KnownOf.T6 : Bool × List (List Nat × List Nat) := (true, [([], []), ([], []), ([], []), ([1, 2], [1, 2]), ([3], [3]), ([4], [4]), ([], []), ([], []), ([], []), ([7, 8], [7, 8]), ([9], [9]), ([10], [10]), ([6, 11], [6, 11]), ([5, 12], [5, 12]), ([13], [13]), ([0, 14, 12], [0, 14]), ([15, 15, 0, 1, 2, 3, 4, 5, 6, 7, 8, 9, 10, 11, 12, 13, 14, 15], [0, 15])])
def spec_KnownOf.B6 : List Nat := [0, 0, 0, 6, 14, 30, 0, 0, 0, 384, 896, 1920, 4032, 8190, 16382, 32767, 65535]
theorem spec_KnownOf.tab6 : rtab .any (opsOf Try.f57 6) = spec_KnownOf.T6 := by kernel_rfl
theorem spec_KnownOf.bits6 : waitsOk spec_KnownOf.T6.2 spec_KnownOf.B6 = true := by kernel_rfl
theorem spec_KnownOf.calls (k : Nat) (A0 : Option Addr) (c0 : Nat) (p : List (S44)) (A1 : Option Addr) (c1 : Nat) (F : List Int) (r : List (S44)) (w : World) (hr0 : Kd.C k44 w A0 p.length p) (ax : p.length ≤ c0) (hr1 : Kd.C (Kd.int .i64) w A1 F.length F) (ay : F.length ≤ c1) (h : spec_KnownOf.f k p F = some r) :
  Calls Try.prog 57 #[.slice A0 p.length c0, .slice A1 F.length c1] w fun e w' => ∃ v0_ : Value, e = .returned (v0_) ∧ Kd.S k44 44 w' w.heap.size (fun _ => True) v0_ r ∧ Below w.heap.size w w' := by
 have hu44 := Try.underlying44
 have af := Q_ hr0
 have aZ := Q_ ax
 clear hr0 ax
 have aM := Q_ hr1
 have aK := Q_ ay
 clear hr1 ay
 have HB := Q_ (Below.refl w.heap.size w)
 have H : (spec_KnownOf.l0 k p F (([] : List (S44))) 0) = some r := h
 clear h
 obtain ⟨ab, hy142⟩ : ∃ y_ : List (S44), y_ = (([] : List (S44))) := ⟨_, rfl⟩
 replace H : (spec_KnownOf.l0 k p F ab 0) = some r := hb_ hy142 H
 have J := Q_ hy142
 clear hy142
 have H' := Q_ H
 clear H
 go_enter Try.func57, Try.ntmps57
 go_wp2_with (first | ((with_reducible refine gate_dst (N := 7) rfl ?_); refine Kd.S_lit k44 _ 44 ?hg (N := 7) ?hd (xs := ([] : List (S44))) (inner := []) (ok := fun _ => True) (okp := fun _ => True) ?hr ?hp (fun _ hk => hk) trivial (Below.refl _ _) (Nat.le_refl _) (by simp) ?_; (case hd => rfl); (case hg => rfl); (case hr => first | (go_simp; done) | (go_simp; rfl)); (case hp => exact (Reps.none _ _)); intro aV w3 M hb hg_ hnew_; clear hg_ hnew_; (first | rw [← J.1] at M | (simp only [Int.reduceToNat] at M; rw [← J.1] at M)); have _ := Q_ (Kd.S_lower M (below_size (pb_ HB.1))); have _ := Q_ (below_step (pb_ HB.1) hb); clear HB; rename_i ad HB; clear hb M))
 (try simp only [Act.put, s1_, s2_, s3_])
 go_loopg [5, 6] k (fun kq v5 v6 w' => ∃ (j : List (S44)) (a : Int), v6 = .int .i64 a ∧ Aside0 (spec_KnownOf.l0 kq p F j a = some r) ∧ Aside0 (kq ≤ k) ∧ Aside0 (Kd.S k44 44 w' w.heap.size (fun _ => True) v5 j) ∧ Aside0 (Below w.heap.size w w'))
 case atStart => exact ⟨(ab), (0), el_, H', ⟨Nat.le_refl _⟩, ⟨ps_ ad.1⟩, ⟨pb_ HB.1⟩⟩
 clear H'
 obtain ⟨j, a, rfl, HA, V, b, HB⟩ := hrel
 rcases gk with _ | k1
 ·exact absurd HA.1 (by simp [spec_KnownOf.l0])
 have H := HA.1
 clear HA
 simp only [spec_KnownOf.l0] at H
 by_cases c5 : a < (p.length : Int)
 rotate_left
 ·rw [if_neg c5] at H
  have ar := decide_eq_false c5
  clear c5
  obtain rfl := Option.some.inj H
  go_wp2
  go_ret
  exact ⟨_, er_, ps_ b.1, pb_ HB.1⟩
 rw [if_pos c5] at H
 have ar := decide_eq_true c5
 clear c5
 by_cases c6 : 0 ≤ a
 rotate_left
 ·rw [if_neg c6] at H
  exact nn_ H
 rw [if_pos c6] at H
 have aU := decide_eq_true c6
 clear c6
 obtain ⟨aa, A7, H⟩ := bs_ H
 (try dsimp only at H)
 have HS_ := Q_ H
 clear H
 have O : 0 ≤ (a : Int) := dt_
 have R : a < (p.length : Int) := dt_
 obtain ⟨l, aA, aD, au, z, A, am, ap⟩ := at_U44 af.1 a O R
 cases au
 replace z := bt_ HB z
 replace A := bt_ HB A
 replace O := eq_true O
 replace R := eq_true R
 go_upto_if 20 with (first | ((with_reducible refine gate_callee (f := 74) rfl ?_); refine gl_ (some 20) Try.func74 #[.slice A1 F.length c1, .int .i64 ((rd_T44 p a).f0)] ?_; (with_reducible refine (spec_l9Has.calls k1 _ _ F ((rd_T44 p a).f0) aa _ (cb_ aM HB) aK.1 A7.1).mono ?_); rintro e w' ⟨rfl, ⟨nd, rfl⟩⟩; refine ⟨_, rfl, ?_⟩))
 (try simp only [Act.put, s1_, s2_, s3_])
 have H := HS_.1
 clear HS_
 by_cases c8 : aa = true
 rotate_left
 ·replace c8 := bf_ c8
  subst c8
  rw [if_neg ff_] at H
  have H' := Q_ H
  clear H
  go_wp2
  go_roundg k1
  case measure => have := V.1; omega
  case rel => exact ⟨(j), (wrap64 (a + 1)), el_, H', ⟨by have := V.1; omega⟩, ⟨ps_ b.1⟩, ⟨pb_ HB.1⟩⟩
 subst c8
 rw [if_pos rfl] at H
 obtain ⟨B, hy148⟩ : ∃ y_ : List Int, y_ = (([] : List Int)) := ⟨_, rfl⟩
 replace H : (if B.length + ((rd_T44 p a).f1).length < 17592186044416 then (if j.length < 4398046511104 then (spec_KnownOf.l0 k1 p F (j ++ [(⟨(rd_T44 p a).f0, (B ++ ((rd_T44 p a).f1))⟩ : S44)]) (wrap64 (a + 1))) else (none)) else (none)) = some r := hb_ hy148 H
 have L := Q_ hy148
 clear hy148
 by_cases c9 : B.length + ((rd_T44 p a).f1).length < 17592186044416
 rotate_left
 ·rw [if_neg c9] at H
  exact nn_ H
 rw [if_pos c9] at H
 have aq := Q_ c9
 clear c9
 obtain ⟨u, hy152⟩ : ∃ y_ : List Int, y_ = (B ++ ((rd_T44 p a).f1)) := ⟨_, rfl⟩
 replace H : (if j.length < 4398046511104 then (spec_KnownOf.l0 k1 p F (j ++ [(⟨(rd_T44 p a).f0, u⟩ : S44)]) (wrap64 (a + 1))) else (none)) = some r := hb_ hy152 H
 have ah := Q_ hy152
 clear hy152
 by_cases W : j.length < 4398046511104
 rotate_left
 ·rw [if_neg W] at H
  exact nn_ H
 rw [if_pos W] at H
 have ag := Q_ W
 clear W
 obtain ⟨ac, hy155⟩ : ∃ y_ : List (S44), y_ = (j ++ [(⟨(rd_T44 p a).f0, u⟩ : S44)]) := ⟨_, rfl⟩
 replace H : (spec_KnownOf.l0 k1 p F ac (wrap64 (a + 1))) = some r := hb_ hy155 H
 have ai := Q_ hy155
 clear hy155
 have H' := Q_ H
 clear H
 try go_wp2
 (try (rw [drewN_self wr]; generalize hq_ : World.drewN wr _ = wr; have n0_ : Aside0 (Kd.S k44 44 wr w.heap.size (fun k_ => True) u5 j) := ⟨by rw [← hq_]; exact ps_ b.1⟩; have n1_ : Aside0 (Below w.heap.size w wr) := ⟨by rw [← hq_]; exact (pb_ HB.1)⟩; clear b HB hq_; have b := n0_; have HB := n1_; clear n0_ n1_))
 have _ := Q_ (Kd.S_drew b.1)
 have _ := Q_ (below_drew1 HB.1)
 clear b HB
 rename_i b HB
 have P : 0 ≤ (a : Int) := dt_
 have T : a < (p.length : Int) := dt_
 obtain ⟨aj, D, E, av, q, m, an, I⟩ := at_U44 af.1 a P T
 have d := m
 have c := q
 obtain rfl : l = aj := (by injection av)
 replace q := bt_ HB q
 replace m := bt_ HB m
 replace P := eq_true P
 replace T := eq_true T
 have Q : 0 ≤ (a : Int) := dt_
 have U : a < (p.length : Int) := dt_
 obtain ⟨ak, aC, aE, aw, s, o, ao, y⟩ := at_U44 af.1 a Q U
 have i := o
 have g := s
 obtain rfl : l = ak := (by injection aw)
 replace s := bt_ HB s
 replace o := bt_ HB o
 replace Q := eq_true Q
 replace U := eq_true U
 have ea_ := Option.some.inj (m.symm.trans o)
 injection ea_ with ea_ en_ ec_
 subst ea_
 subst ec_
 clear en_
 refine start_ (n := 17) (S := fun w' => w'.cell? (l.add ((a).toNat * 2)) = some (.int .i64 ((rd_T44 p a).f0)) ∧ w'.cell? ⟨(l.add ((a).toNat * 2)).block, (l.add ((a).toNat * 2)).off + 1, none⟩ = some (.slice D ((rd_T44 p a).f1).length E) ∧ w'.cell? (l.add ((a).toNat * 2)) = some (.int .i64 ((rd_T44 p a).f0)) ∧ w'.cell? ⟨(l.add ((a).toNat * 2)).block, (l.add ((a).toNat * 2)).off + 1, none⟩ = some (.slice D ((rd_T44 p a).f1).length E)) (ds := []) (tf_ 0 17) (by kernel_rfl) rfl rfl ⟨(bt_ HB c), (bt_ HB d), (bt_ HB g), (bt_ HB i)⟩ (fun hHeld => ?_); refine with_tabW spec_KnownOf.tab6 spec_KnownOf.bits6 (fun HT_ HW_ => ?_)
 generalize wr.drew = a2 at b HB I y q m s o hHeld ⊢
 refine pu1_ 0 21 17 1 ?_
 refine pu1_ 1 22 17 3 ?_
 refine pu1_ 2 23 17 7 ?_
 refine pu1_ 3 24 17 15 ?_
 refine pu1_ 4 25 17 31 ?_
 refine pu1_ 7 28 17 159 ?_
 refine pu1_ 8 29 17 415 ?_
 refine pu1_ 9 30 17 927 ?_
 refine pu1_ 10 31 17 1951 ?_
 refine ta1_ 5 26 17 1983 hHeld ?_
 refine ta1_ 11 32 17 4031 hHeld ?_
 refine on_ 6 (some 27) (tf_ 12 17) HT_ (fun K hK => ?_)
 refine Kd.R_lit_step (Kd.int .i64) _ 3 ?hg (N := 27) ?hd (xs := ([] : List Int)) (inner := []) (ok := fun _ => True) (okp := fun _ => True) ?hr ?hp (fun _ hk => hk) trivial (Below.refl _ _) (Nat.le_refl _) (by simp) ?_; (case hd => rfl); (case hg => rfl); (case hr => first | (go_simp; done) | (go_simp; rfl)); (case hp => exact (Reps.none _ _))
 intro az a3 t hb hg_ hnew_
 clear hg_ hnew_
 (first | rw [← L.1] at t | (simp only [Int.reduceToNat] at t; rw [← L.1] at t))
 have _ := Q_ (Kd.S_elder' (ps_ b.1) (Kd.R_base t) hb)
 have _ := Q_ (Kd.R_lower t (below_size (pb_ HB.1)))
 have _ := Q_ (below_step (pb_ HB.1) hb)
 clear b HB
 rename_i b G HB
 clear hb t
 refine hK.out _ _ ⟨(bt_ HB c), (bt_ HB d), (bt_ HB g), (bt_ HB i)⟩ (fun hHeld => ?_)
 clear hK K
 refine no_ (some 27) ?_
 refine on_ 12 (some 33) (tf_ 13 17) HT_ (fun K hK => ?_)
 refine Kd.R_append_rows_step (Kd.int .i64) (w0 := w) w.heap.size (by rfl) (.tmp 27) (.tmp 32) 22 3 (.int .i64 0) 8 rfl Try.underlying22 info3 rfl (by decide) (by omega) az B ((rd_T44 p a).f1) _ _ _ (fun _ => True) (fun _ => False) rfl rfl ?aO ?aR (fun _ _ h => h) (fun _ h => h.elim) ?aF ?aB ?aS ?aL ?_
 (case aR => exact cb_ y HB)
 (case aB => exact (pb_ HB.1))
 (case aF => exact (fun _ _ => trivial))
 (case aO => exact (pr_ G.1))
 (case aS => exact (below_size (pb_ HB.1)))
 (case aL => have := aq.1; omega)
 intro aW a4 ho hb hg hat
 rw [← ah.1] at ho
 have _ := Q_ (Kd.S_after (ok := (fun _ => True)) (ps_ b.1) hg hat)
 have _ := Q_ (hb)
 have _ := Q_ (ho)
 clear b HB G
 rename_i b HB x
 clear ho hb hg hat
 obtain ⟨X, Y, Z⟩ := Kd.R_slice x.1
 (first | subst Z | (injection Z with f1_ f2_ f3_; have f4_ := f1_.symm; have f5_ := f3_.symm; clear f1_ f2_ f3_; subst f4_; subst f5_))
 refine hK.out _ _ ⟨(bt_ HB c), (bt_ HB d), (bt_ HB g), (bt_ HB i)⟩ (fun hHeld => ?_)
 clear hK K
 refine no_ (some 33) ?_
 refine pu1_ 13 34 17 16383 ?_
 refine on_ 14 (some 35) (tf_ 15 17) HT_ (fun K hK => ?_)
 refine value_ (w1 := ?_) (v := ?_) (by rfl) rfl ?_ ?_
 rotate_left 2
 ·go_simp
  constructor
  ·rfl
  ·rfl
 refine hK.out _ _ ⟨(World.cell?_alloc_lt _ _ _ (World.block_lt_of_cell? _ _ ((bt_ HB c)))).trans ((bt_ HB c)), (World.cell?_alloc_lt _ _ _ (World.block_lt_of_cell? _ _ ((bt_ HB d)))).trans ((bt_ HB d)), (World.cell?_alloc_lt _ _ _ (World.block_lt_of_cell? _ _ ((bt_ HB g)))).trans ((bt_ HB g)), (World.cell?_alloc_lt _ _ _ (World.block_lt_of_cell? _ _ ((bt_ HB i)))).trans ((bt_ HB i))⟩ (fun hHeld => ?_)
 clear hK K
 refine no_ (some 35) ?_
 refine on_ 15 (some 36) (tf_ 16 17) HT_ (fun K hK => ?_)
 refine Kd.S_append_step k44 (w0 := w) w.heap.size (by rfl) (.tmp 21) (.tmp 35) 27 44 (.agg #[(.int .i64 0), (.slice none 0 0)]) 32 rfl Try.underlying27 info44 rfl (by decide) (by omega) u5 j (⟨(rd_T44 p a).f0, u⟩ : S44) [.int .i64 ((rd_T44 p a).f0), .slice X u.length Y] (fun _ => True) (fun k_ => some k_ = (.slice X u.length Y : Value).ownBlock) rfl rfl ?aP (fun k_ hk_ => ((Kd.R_mono (ok' := fun k_ => ((fun _ => True)) k_ ∧ some k_ ≠ (u5 : Value).ownBlock) (Kd.R_apart' (x.1) (Kd.S_typed b.1) (by decide)) (fun k_ hk => ⟨trivial, hk.2⟩))).1 k_ hk_.symm) ?aF ?aO ?aB ?aS ?aL ?_
 (case aP => exact k44_mkM _ _ _ (⟨(rd_T44 p a).f0, u⟩ : S44) (Kd.R_mono (Kd.R_tight rfl (Kd.R_mono (ok' := fun k_ => ((fun _ => True)) k_ ∧ some k_ ≠ (u5 : Value).ownBlock) (Kd.R_apart' (x.1) (Kd.S_typed b.1) (by decide)) (fun k_ hk => ⟨trivial, hk.2⟩))) (fun _ h_ => h_)))
 (case aB => exact (pb_ HB.1))
 (case aF => exact (fun _ _ => trivial))
 (case aO => exact (by (with_reducible repeat (first | apply Kd.S_alloc | apply Kd.S_drewN | apply Kd.S_drew)); exact Kd.S_mono b.1 (fun k_ hk => ⟨trivial, fun e_ => hk.2 e_⟩)))
 (case aS => exact (below_size (pb_ HB.1)))
 (case aL => have := ag.1; omega)
 intro aX a5 ho hb hg hat
 rw [← ai.1] at ho
 have _ := Q_ (hb)
 have _ := Q_ (ho)
 clear HB b x
 rename_i HB ae
 clear ho hb hg hat
 refine hK.out _ _ ⟨(bt_ HB c), (bt_ HB d), (bt_ HB g), (bt_ HB i)⟩ (fun hHeld => ?_)
 clear hK K
 refine no_ (some 36) ?_
 refine pu1_ 16 5 17 131071 ?_
 refine done_ (done_of HT_.1 (by kernel_rfl)) ?_
 try go_wp2
 go_roundg k1
 case measure => have := V.1; omega
 case rel => exact ⟨(ac), (wrap64 (a + 1)), el_, H', ⟨by have := V.1; omega⟩, ⟨ps_ ae.1⟩, ⟨pb_ HB.1⟩⟩

/-! ### spec_TagsOf: function 58 -/
def spec_TagsOf.l0 : Nat → List (S44) → List Int → Int → Option (List Int)
 | 0, _, _, _ => none
 | k + 1, b, c, a => if a < (b.length : Int) then (if 0 ≤ a then (if c.length < 17592186044416 then (spec_TagsOf.l0 k b (c ++ [(rd_T44 b a).f0]) (wrap64 (a + 1))) else (none)) else (none)) else (some c)
def spec_TagsOf.f (k : Nat) (a : List (S44)) : Option (List Int) := spec_TagsOf.l0 k a (([] : List Int)) 0
theorem spec_TagsOf.mono_l : ∀ k, (∀ a b c, LeO (spec_TagsOf.l0 k a b c) (spec_TagsOf.l0 (k + 1) a b c))
 | 0 => fun _ _ _ r h => by simp [spec_TagsOf.l0] at h
 | k + 1 => by
  have ih0 := spec_TagsOf.mono_l k
  ·intro a b c
   unfold spec_TagsOf.l0
   exact mo1_ ih0
theorem spec_TagsOf.mono : ∀ a k, LeO (spec_TagsOf.f k a) (spec_TagsOf.f (k + 1) a) := by
 intro a k
 have ih0 := spec_TagsOf.mono_l k
 unfold spec_TagsOf.f
 exact mo1_ ih0
theorem spec_TagsOf.calls (k : Nat) (M : Option Addr) (O : Nat) (i : List (S44)) (r : List Int) (w : World) (hr0 : Kd.C k44 w M i.length i) (E : i.length ≤ O) (h : spec_TagsOf.f k i = some r) :
  Calls Try.prog 58 #[.slice M i.length O] w fun e w' => ∃ v0_ : Value, e = .returned (v0_) ∧ Kd.R (Kd.int .i64) 3 w' w.heap.size (fun _ => True) v0_ r ∧ Below w.heap.size w w' := by
 have K := Q_ hr0
 have T := Q_ E
 clear hr0 E
 have HB := Q_ (Below.refl w.heap.size w)
 have H : (spec_TagsOf.l0 k i (([] : List Int)) 0) = some r := h
 clear h
 obtain ⟨p, hy158⟩ : ∃ y_ : List Int, y_ = (([] : List Int)) := ⟨_, rfl⟩
 replace H : (spec_TagsOf.l0 k i p 0) = some r := hb_ hy158 H
 have l := Q_ hy158
 clear hy158
 have H' := Q_ H
 clear H
 go_enter Try.func58, Try.ntmps58
 go_wp2_with (first | ((with_reducible refine gate_dst (N := 5) rfl ?_); refine Kd.R_lit (Kd.int .i64) _ 3 ?hg (N := 5) ?hd (xs := ([] : List Int)) (inner := []) (ok := fun _ => True) (okp := fun _ => True) ?hr ?hp (fun _ hk => hk) trivial (Below.refl _ _) (Nat.le_refl _) (by simp) ?_; (case hd => rfl); (case hg => rfl); (case hr => first | (go_simp; done) | (go_simp; rfl)); (case hp => exact (Reps.none _ _)); intro Q W m hb hg_ hnew_; clear hg_ hnew_; (first | rw [← l.1] at m | (simp only [Int.reduceToNat] at m; rw [← l.1] at m)); have _ := Q_ (Kd.R_lower m (below_size (pb_ HB.1))); have _ := Q_ (below_step (pb_ HB.1) hb); clear HB; rename_i s HB; clear hb m))
 (try simp only [Act.put, s1_, s2_, s3_])
 go_loopg [3, 4] k (fun kq U V w' => ∃ (c : List Int) (a : Int), V = .int .i64 a ∧ Aside0 (spec_TagsOf.l0 kq i c a = some r) ∧ Aside0 (kq ≤ k) ∧ Aside0 (Kd.R (Kd.int .i64) 3 w' w.heap.size (fun _ => True) U c) ∧ Aside0 (Below w.heap.size w w'))
 case atStart => exact ⟨(p), (0), el_, H', ⟨Nat.le_refl _⟩, ⟨pr_ s.1⟩, ⟨pb_ HB.1⟩⟩
 clear H'
 obtain ⟨c, a, rfl, HA, y, j, HB⟩ := hrel
 rcases gk with _ | k1
 ·exact absurd HA.1 (by simp [spec_TagsOf.l0])
 have H := HA.1
 clear HA
 simp only [spec_TagsOf.l0] at H
 by_cases v : a < (i.length : Int)
 rotate_left
 ·rw [if_neg v] at H
  have B := decide_eq_false v
  clear v
  obtain rfl := Option.some.inj H
  go_wp2
  go_ret
  exact ⟨_, er_, pr_ j.1, pb_ HB.1⟩
 rw [if_pos v] at H
 have B := decide_eq_true v
 clear v
 by_cases I : 0 ≤ a
 rotate_left
 ·rw [if_neg I] at H
  exact nn_ H
 rw [if_pos I] at H
 have P := decide_eq_true I
 clear I
 by_cases J : c.length < 17592186044416
 rotate_left
 ·rw [if_neg J] at H
  exact nn_ H
 rw [if_pos J] at H
 have A := Q_ J
 clear J
 obtain ⟨q, hy162⟩ : ∃ y_ : List Int, y_ = (c ++ [(rd_T44 i a).f0]) := ⟨_, rfl⟩
 replace H : (spec_TagsOf.l0 k1 i q (wrap64 (a + 1))) = some r := hb_ hy162 H
 have u := Q_ hy162
 clear hy162
 have H' := Q_ H
 clear H
 have n : 0 ≤ (a : Int) := dt_
 have o : a < (i.length : Int) := dt_
 obtain ⟨L, F, G, D, d, g, x, z⟩ := at_U44 K.1 a n o
 cases D
 replace d := bt_ HB d
 replace g := bt_ HB g
 replace n := eq_true n
 replace o := eq_true o
 go_wp2_with (first | ((with_reducible refine gate_builtin (b := .append) (xs := #[.tmp 12, .tmp 18]) rfl ?_); at_builtin; refine Kd.R_append (Kd.int .i64) (w0 := w) w.heap.size rfl (.tmp 12) (.tmp 18) 22 3 (.int .i64 0) 8 rfl Try.underlying22 info3 rfl (by decide) (by omega) u3 c ((rd_T44 i a).f0) [.int .i64 ((rd_T44 i a).f0)] (fun _ => True) (fun _ => False) rfl rfl ?aP (fun _ hk => hk.elim) ?aF ?aO ?aB ?aS ?aL ?_; (case aP => exact rfl); (case aB => exact (pb_ HB.1)); (case aF => exact (fun _ _ => trivial)); (case aO => exact (pr_ j.1)); (case aS => exact (below_size (pb_ HB.1))); (case aL => have := A.1; omega); intro S X ho hb hg hat; rw [← u.1] at ho; have _ := Q_ (hb); have _ := Q_ (ho); clear HB j; rename_i HB t; clear ho hb hg hat))
 go_roundg k1
 case measure => have := y.1; omega
 case rel => exact ⟨(q), (wrap64 (a + 1)), el_, H', ⟨by have := y.1; omega⟩, ⟨pr_ t.1⟩, ⟨pb_ HB.1⟩⟩

/-! ### spec_l11Copy: function 35 -/
def spec_l11Copy.f (k : Nat) (c : List (S44)) : Option ((List (S44))) := (spec_TagsOf.f k c).bind fun a => ((spec_KnownOf.f k c a).bind fun b => (some b))
theorem spec_l11Copy.mono : ∀ a k, LeO (spec_l11Copy.f k a) (spec_l11Copy.f (k + 1) a) := by
 intro a k
 unfold spec_l11Copy.f
 exact mo2_ spec_KnownOf.mono spec_TagsOf.mono
theorem spec_l11Copy.calls (k : Nat) (n : Option Addr) (o : Nat) (d : List (S44)) (r : List (S44)) (w : World) (hr0 : Kd.C k44 w n d.length d) (m : d.length ≤ o) (h : spec_l11Copy.f k d = some r) :
  Calls Try.prog 35 #[.slice n d.length o] w fun e w' => ∃ v0_ : Value, e = .returned (v0_) ∧ Kd.S k44 44 w' w.heap.size (fun _ => True) v0_ r ∧ Below w.heap.size w w' := by
 have l := Q_ hr0
 have j := Q_ m
 clear hr0 m
 have HB := Q_ (Below.refl w.heap.size w)
 have H : ((spec_TagsOf.f k d).bind fun b => ((spec_KnownOf.f k d b).bind fun c => (some c))) = some r := h
 clear h
 obtain ⟨b, v, H⟩ := bs_ H
 replace H : ((spec_KnownOf.f k d b).bind fun c => (some c)) = some r := H
 obtain ⟨c, x, H⟩ := bs_ H
 replace H : (some c) = some r := H
 obtain rfl := Option.some.inj H
 go_enter Try.func35, Try.ntmps35
 go_wp2_with (first | ((with_reducible refine gate_callee (f := 58) rfl ?_); refine gl_ (some 5) Try.func58 #[.slice n d.length o] ?_; (with_reducible refine (spec_TagsOf.calls k _ _ d b _ (pc_ l.1) j.1 v.1).mono ?_); rintro e y ⟨t, rfl, g, hb⟩; refine ⟨_, rfl, ?_⟩; have _ := Q_ (Kd.R_lower g (below_size (pb_ HB.1))); have _ := Q_ (below_step (pb_ HB.1) hb); clear HB; rename_i a HB; (try clear hb g); obtain ⟨p, q, s⟩ := Kd.R_slice a.1; subst s) | ((with_reducible refine gate_callee (f := 57) rfl ?_); refine gl_ (some 6) Try.func57 #[.slice n d.length o, .slice p b.length q] ?_; (with_reducible refine (spec_KnownOf.calls k _ _ d _ _ b c _ (cb_ l HB) j.1 ?side3 ?side4 x.1).mono ?_); (case side3 => exact pc_ ((Kd.R_reads' a.1).2.2)); (case side4 => exact (Kd.R_reads' a.1).2.1); rintro e z ⟨u, rfl, g, hb⟩; refine ⟨_, rfl, ?_⟩; have _ := Q_ (Kd.R_below (pr_ a.1) hb); have _ := Q_ (Kd.S_lower (Kd.S_new' g (Kd.R_lt (pr_ a.1))) (below_size (pb_ HB.1))); have _ := Q_ (below_step (pb_ HB.1) hb); clear a HB; rename_i a i HB; (try clear hb g)))
 go_ret
 exact ⟨_, er_, ps_ (Kd.S_mono i.1 (fun _ hk => trivial)), pb_ HB.1⟩

/-! ### spec_ExtOf: function 37 -/
def spec_ExtOf.l0 : Nat → List (S44) → Int → Int → Option (Int)
 | 0, _, _, _ => none
 | k + 1, b, c, a => if a < (b.length : Int) then (if 0 ≤ a then (if ((rd_T44 b a).f0) = c then (some a) else (spec_ExtOf.l0 k b c (wrap64 (a + 1)))) else (none)) else (some (-1))
def spec_ExtOf.f (k : Nat) (b : List (S44)) (a : Int) : Option (Int) := spec_ExtOf.l0 k b a 0
theorem spec_ExtOf.mono_l : ∀ k, (∀ a b c, LeO (spec_ExtOf.l0 k a b c) (spec_ExtOf.l0 (k + 1) a b c))
 | 0 => fun _ _ _ r h => by simp [spec_ExtOf.l0] at h
 | k + 1 => by
  have ih0 := spec_ExtOf.mono_l k
  ·intro a b c
   unfold spec_ExtOf.l0
   exact mo1_ ih0
theorem spec_ExtOf.mono : ∀ a b k, LeO (spec_ExtOf.f k a b) (spec_ExtOf.f (k + 1) a b) := by
 intro a b k
 have ih0 := spec_ExtOf.mono_l k
 unfold spec_ExtOf.f
 exact mo1_ ih0
theorem spec_ExtOf.calls (k : Nat) (F : Option Addr) (G : Nat) (i : List (S44)) (q : Int) (r : Int) (w : World) (hr0 : Kd.C k44 w F i.length i) (D : i.length ≤ G) (h : spec_ExtOf.f k i q = some r) :
  Calls Try.prog 37 #[.slice F i.length G, .int .i64 q] w fun e w' => e = .returned (.int .i64 r) ∧ Drawn0 w w' := by
 have y := Q_ hr0
 have J := Q_ D
 clear hr0 D
 have H : (spec_ExtOf.l0 k i q 0) = some r := h
 clear h
 have H' := Q_ H
 clear H
 go_enter Try.func37, Try.ntmps37
 go_wp2
 go_loopg [5] k (fun kq K w' => ∃ (a : Int), K = .int .i64 a ∧ Aside0 (spec_ExtOf.l0 kq i q a = some r) ∧ Aside0 (kq ≤ k) ∧ Drawn0 w w')
 case atStart => exact ⟨(0), el_, H', ⟨Nat.le_refl _⟩, by repeat (first | exact Drawn0.refl _ | apply Drawn0.step)⟩
 clear H'
 obtain ⟨a, rfl, HA, x, ⟨m1, rfl⟩⟩ := hrel
 rcases gk with _ | k1
 ·exact absurd HA.1 (by simp [spec_ExtOf.l0])
 have H := HA.1
 clear HA
 simp only [spec_ExtOf.l0] at H
 by_cases v : a < (i.length : Int)
 rotate_left
 ·rw [if_neg v] at H
  have z := decide_eq_false v
  clear v
  obtain rfl := Option.some.inj H
  go_wp2
  go_ret
  exact ⟨by first | rfl | (simp; done) | (simp [*]; done), by repeat (first | exact Drawn0.refl _ | apply Drawn0.step)⟩
 rw [if_pos v] at H
 have z := decide_eq_true v
 clear v
 by_cases E : 0 ≤ a
 rotate_left
 ·rw [if_neg E] at H
  exact nn_ H
 rw [if_pos E] at H
 have I := decide_eq_true E
 clear E
 by_cases u : ((rd_T44 i a).f0) = q
 rotate_left
 ·rw [if_neg u] at H
  have A : (((rd_T44 i a).f0) == q) = false := beq_eq_false_iff_ne.mpr u
  have B : (((rd_T44 i a).f0) != q) = true := bne_iff_ne.mpr u
  have H' := Q_ H
  clear H
  have d : 0 ≤ (a : Int) := dt_
  have g : a < (i.length : Int) := dt_
  obtain ⟨t, p, s, m, n, o, c, b⟩ := at_T44 y.1 a d g
  cases m
  have l := Q_ b
  have j := Q_ c
  clear b c
  replace d := eq_true d
  replace g := eq_true g
  go_wp2
  go_roundg k1
  case measure => have := x.1; omega
  case rel => exact ⟨(wrap64 (a + 1)), el_, H', ⟨by have := x.1; omega⟩, by repeat (first | exact Drawn0.refl _ | apply Drawn0.step)⟩
 rw [if_pos u] at H
 have A : (((rd_T44 i a).f0) == q) = true := beq_iff_eq.mpr u
 have B : (((rd_T44 i a).f0) != q) = false := bne_eq_false_iff_eq.mpr u
 clear u
 obtain rfl := Option.some.inj H
 have d : 0 ≤ (a : Int) := dt_
 have g : a < (i.length : Int) := dt_
 obtain ⟨t, p, s, m, n, o, c, b⟩ := at_T44 y.1 a d g
 cases m
 have l := Q_ b
 have j := Q_ c
 clear b c
 replace d := eq_true d
 replace g := eq_true g
 go_wp2
 go_ret
 exact ⟨by first | rfl | (simp; done) | (simp [*]; done), by repeat (first | exact Drawn0.refl _ | apply Drawn0.step)⟩

/-! ### spec_AreExts: function 36 -/
def spec_AreExts.l0 : Nat → List (S44) → Int → Option (Bool)
 | 0, _, _ => none
 | k + 1, a, b => if b < (a.length : Int) then (if 0 ≤ b then ((spec_l1In.f ((rd_T44 a b).f0) 0 255).bind fun c => (if c = true then (if (((rd_T44 a b).f1).length : Int) > 4 then (some false) else ((spec_l9Byte.f k ((rd_T44 a b).f1)).bind fun d => (if d = true then ((spec_ExtOf.f k a ((rd_T44 a b).f0)).bind fun e => (if e < b then (some false) else (spec_AreExts.l0 k a (wrap64 (b + 1))))) else (some false)))) else (some false))) else (none)) else (some (decide ((a.length : Int) ≤ 6)))
def spec_AreExts.f (k : Nat) (a : List (S44)) : Option (Bool) := spec_AreExts.l0 k a 0
theorem spec_AreExts.mono_l : ∀ k, (∀ a b, LeO (spec_AreExts.l0 k a b) (spec_AreExts.l0 (k + 1) a b))
 | 0 => fun _ _ r h => by simp [spec_AreExts.l0] at h
 | k + 1 => by
  have ih0 := spec_AreExts.mono_l k
  ·intro a b
   unfold spec_AreExts.l0
   exact mo3_ ih0 spec_ExtOf.mono spec_l9Byte.mono
theorem spec_AreExts.mono : ∀ a k, LeO (spec_AreExts.f k a) (spec_AreExts.f (k + 1) a) := by
 intro a k
 have ih0 := spec_AreExts.mono_l k
 unfold spec_AreExts.f
 exact mo3_ ih0 spec_ExtOf.mono spec_l9Byte.mono
theorem spec_AreExts.calls (k : Nat) (A0 : Option Addr) (c0 : Nat) (t : List (S44)) (r : Bool) (w : World) (hr0 : Kd.C k44 w A0 t.length t) (al : t.length ≤ c0) (h : spec_AreExts.f k t = some r) :
  Calls Try.prog 36 #[.slice A0 t.length c0] w fun e w' => e = .returned (.bool r) ∧ Drawn0 w w' := by
 have x := Q_ hr0
 have ax := Q_ al
 clear hr0 al
 have H : (spec_AreExts.l0 k t 0) = some r := h
 clear h
 have H' := Q_ H
 clear H
 go_enter Try.func36, Try.ntmps36
 go_wp2
 go_loopg [3] k (fun kq v3 w' => ∃ (a : Int), v3 = .int .i64 a ∧ Aside0 (spec_AreExts.l0 kq t a = some r) ∧ Aside0 (kq ≤ k) ∧ Drawn0 w w')
 case atStart => exact ⟨(0), el_, H', ⟨Nat.le_refl _⟩, by repeat (first | exact Drawn0.refl _ | apply Drawn0.step)⟩
 clear H'
 obtain ⟨a, rfl, HA, af, ⟨m1, rfl⟩⟩ := hrel
 rcases gk with _ | k1
 ·exact absurd HA.1 (by simp [spec_AreExts.l0])
 have H := HA.1
 clear HA
 simp only [spec_AreExts.l0] at H
 by_cases c2 : a < (t.length : Int)
 rotate_left
 ·rw [if_neg c2] at H
  have ah := decide_eq_false c2
  clear c2
  obtain rfl := Option.some.inj H
  go_wp2
  go_ret
  exact ⟨by first | rfl | (simp; done) | (simp [*]; done), by repeat (first | exact Drawn0.refl _ | apply Drawn0.step)⟩
 rw [if_pos c2] at H
 have ah := decide_eq_true c2
 clear c2
 by_cases c3 : 0 ≤ a
 rotate_left
 ·rw [if_neg c3] at H
  exact nn_ H
 rw [if_pos c3] at H
 have aB := decide_eq_true c3
 clear c3
 obtain ⟨an, A4, H⟩ := bs_ H
 (try dsimp only at H)
 by_cases c5 : an = true
 rotate_left
 ·replace c5 := bf_ c5
  subst c5
  rw [if_neg ff_] at H
  obtain rfl := Option.some.inj H
  have j : 0 ≤ (a : Int) := dt_
  have l : a < (t.length : Int) := dt_
  obtain ⟨m, J, K, D, E, d, c, b⟩ := at_T44 x.1 a j l
  cases D
  have y := Q_ b
  have u := Q_ c
  clear b c
  replace j := eq_true j
  replace l := eq_true l
  go_wp2_with (first | ((with_reducible refine gate_callee (f := 30) rfl ?_); refine gl_ (some 15) Try.func30 #[.int .i64 ((rd_T44 t a).f0), .int .i64 0, .int .i64 255] ?_; (with_reducible refine (spec_l1In.calls ((rd_T44 t a).f0) 0 255 false _ A4.1).mono ?_); rintro e w' ⟨rfl, ⟨nd, rfl⟩⟩; refine ⟨_, rfl, ?_⟩))
  go_ret
  exact ⟨by first | rfl | (simp; done) | (simp [*]; done), by repeat (first | exact Drawn0.refl _ | apply Drawn0.step)⟩
 subst c5
 rw [if_pos rfl] at H
 by_cases c6 : (((rd_T44 t a).f1).length : Int) > 4
 ·rw [if_pos c6] at H
  have ai := decide_eq_true c6
  have aj : decide (4 < ((rd_T44 t a).f1).length) = true := decide_eq_true (by omega)
  clear c6
  obtain rfl := Option.some.inj H
  have j : 0 ≤ (a : Int) := dt_
  have l : a < (t.length : Int) := dt_
  obtain ⟨m, J, K, D, E, d, c, b⟩ := at_T44 x.1 a j l
  cases D
  have y := Q_ b
  have u := Q_ c
  clear b c
  replace j := eq_true j
  replace l := eq_true l
  go_wp2_with (first | ((with_reducible refine gate_callee (f := 30) rfl ?_); refine gl_ (some 15) Try.func30 #[.int .i64 ((rd_T44 t a).f0), .int .i64 0, .int .i64 255] ?_; (with_reducible refine (spec_l1In.calls ((rd_T44 t a).f0) 0 255 true _ A4.1).mono ?_); rintro e w' ⟨rfl, ⟨nd, rfl⟩⟩; refine ⟨_, rfl, ?_⟩; have q : 0 ≤ (a : Int) := dt_; have s : a < (t.length : Int) := dt_; obtain ⟨A, Q, R, N, O, p, i, g⟩ := at_T44 x.1 a q s; obtain rfl : m = A := (by injection N); have M := Q_ g; have L := Q_ i; clear g i; replace q := eq_true q; replace s := eq_true s; have ea_ := Option.some.inj (d.symm.trans p); injection ea_ with ea_ en_ ec_; subst ea_; subst ec_; clear en_))
  go_ret
  exact ⟨by first | rfl | (simp; done) | (simp [*]; done), by repeat (first | exact Drawn0.refl _ | apply Drawn0.step)⟩
 rw [if_neg c6] at H
 have ai := decide_eq_false c6
 have aj : decide (4 < ((rd_T44 t a).f1).length) = false := decide_eq_false (by omega)
 clear c6
 obtain ⟨ao, A7, H⟩ := bs_ H
 (try dsimp only at H)
 by_cases c8 : ao = true
 rotate_left
 ·replace c8 := bf_ c8
  subst c8
  rw [if_neg ff_] at H
  obtain rfl := Option.some.inj H
  have j : 0 ≤ (a : Int) := dt_
  have l : a < (t.length : Int) := dt_
  obtain ⟨m, J, K, D, E, d, c, b⟩ := at_T44 x.1 a j l
  cases D
  have y := Q_ b
  have u := Q_ c
  clear b c
  replace j := eq_true j
  replace l := eq_true l
  go_wp2_with (first | ((with_reducible refine gate_callee (f := 30) rfl ?_); refine gl_ (some 15) Try.func30 #[.int .i64 ((rd_T44 t a).f0), .int .i64 0, .int .i64 255] ?_; (with_reducible refine (spec_l1In.calls ((rd_T44 t a).f0) 0 255 true _ A4.1).mono ?_); rintro e w' ⟨rfl, ⟨nd, rfl⟩⟩; refine ⟨_, rfl, ?_⟩; have q : 0 ≤ (a : Int) := dt_; have s : a < (t.length : Int) := dt_; obtain ⟨A, Q, R, N, O, p, i, g⟩ := at_T44 x.1 a q s; obtain rfl : m = A := (by injection N); have M := Q_ g; have L := Q_ i; clear g i; replace q := eq_true q; replace s := eq_true s; have ea_ := Option.some.inj (d.symm.trans p); injection ea_ with ea_ en_ ec_; subst ea_; subst ec_; clear en_; have G : 0 ≤ (a : Int) := dt_; have I : a < (t.length : Int) := dt_; obtain ⟨P, Y, Z, T, U, F, o, n⟩ := at_T44 x.1 a G I; obtain rfl : m = P := (by injection T); have z := Q_ n; have v := Q_ o; clear n o; replace G := eq_true G; replace I := eq_true I; have ea_ := Option.some.inj (d.symm.trans F); injection ea_ with ea_ en_ ec_; subst ea_; subst ec_; clear en_) | (go_at_call 56; (with_reducible refine (spec_l9Byte.calls k1 _ _ ((rd_T44 t a).f1) false _ (pc_ z.1) v.1 A7.1).mono ?_); rintro e w' ⟨rfl, ⟨nd, rfl⟩⟩))
  go_ret
  exact ⟨by first | rfl | (simp; done) | (simp [*]; done), by repeat (first | exact Drawn0.refl _ | apply Drawn0.step)⟩
 subst c8
 rw [if_pos rfl] at H
 obtain ⟨aa, A9, H⟩ := bs_ H
 (try dsimp only at H)
 have HS_ := Q_ H
 clear H
 have j : 0 ≤ (a : Int) := dt_
 have l : a < (t.length : Int) := dt_
 obtain ⟨m, J, K, D, E, d, c, b⟩ := at_T44 x.1 a j l
 cases D
 have y := Q_ b
 have u := Q_ c
 clear b c
 replace j := eq_true j
 replace l := eq_true l
 go_upto_if 45 with (first | ((with_reducible refine gate_callee (f := 30) rfl ?_); refine gl_ (some 15) Try.func30 #[.int .i64 ((rd_T44 t a).f0), .int .i64 0, .int .i64 255] ?_; (with_reducible refine (spec_l1In.calls ((rd_T44 t a).f0) 0 255 true _ A4.1).mono ?_); rintro e w' ⟨rfl, ⟨nd, rfl⟩⟩; refine ⟨_, rfl, ?_⟩; have q : 0 ≤ (a : Int) := dt_; have s : a < (t.length : Int) := dt_; obtain ⟨A, Q, R, N, O, p, i, g⟩ := at_T44 x.1 a q s; obtain rfl : m = A := (by injection N); have M := Q_ g; have L := Q_ i; clear g i; replace q := eq_true q; replace s := eq_true s; have ea_ := Option.some.inj (d.symm.trans p); injection ea_ with ea_ en_ ec_; subst ea_; subst ec_; clear en_; have G : 0 ≤ (a : Int) := dt_; have I : a < (t.length : Int) := dt_; obtain ⟨P, Y, Z, T, U, F, o, n⟩ := at_T44 x.1 a G I; obtain rfl : m = P := (by injection T); have z := Q_ n; have v := Q_ o; clear n o; replace G := eq_true G; replace I := eq_true I; have ea_ := Option.some.inj (d.symm.trans F); injection ea_ with ea_ en_ ec_; subst ea_; subst ec_; clear en_) | (go_at_call 56; (with_reducible refine (spec_l9Byte.calls k1 _ _ ((rd_T44 t a).f1) true _ (pc_ z.1) v.1 A7.1).mono ?_); rintro e w' ⟨rfl, ⟨nd, rfl⟩⟩; have W : 0 ≤ (a : Int) := dt_; have X : a < (t.length : Int) := dt_; obtain ⟨ab, ap, ar, ak, am, V, ae, ag⟩ := at_U44 x.1 a W X; obtain rfl : m = ab := (by injection ak); replace W := eq_true W; replace X := eq_true X; have ea_ := Option.some.inj (d.symm.trans V); injection ea_ with ea_ en_ ec_; subst ea_; subst ec_; clear en_) | (go_at_call 37; (with_reducible refine (spec_ExtOf.calls k1 _ _ t ((rd_T44 t a).f0) aa _ (pc_ x.1) ax.1 A9.1).mono ?_); rintro e w' ⟨rfl, ⟨nd, rfl⟩⟩))
 (try simp only [Act.put, s1_, s2_, s3_])
 have H := HS_.1
 clear HS_
 by_cases S : aa < a
 rotate_left
 ·rw [if_neg S] at H
  have B := decide_eq_false S
  clear S
  (first | rw [B] | (simp only [i64_w, i32_w]; rw [B]) | skip)
  have H' := Q_ H
  clear H
  go_wp2
  go_roundg k1
  case measure => have := af.1; omega
  case rel => exact ⟨(wrap64 (a + 1)), el_, H', ⟨by have := af.1; omega⟩, by repeat (first | exact Drawn0.refl _ | apply Drawn0.step)⟩
 rw [if_pos S] at H
 have B := decide_eq_true S
 clear S
 (first | rw [B] | (simp only [i64_w, i32_w]; rw [B]) | skip)
 obtain rfl := Option.some.inj H
 go_wp2
 go_ret
 exact ⟨by first | rfl | (simp; done) | (simp [*]; done), by repeat (first | exact Drawn0.refl _ | apply Drawn0.step)⟩

end Go.Proofs.Ytibmehnippjakaa.Print
