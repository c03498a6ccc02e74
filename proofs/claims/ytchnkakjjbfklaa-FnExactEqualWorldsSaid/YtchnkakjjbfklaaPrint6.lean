-- Written by a program of this session (printx.py) out of the translation; Lean checks it.
import Derived.Test.YtchnkakjjbfklaaPrint0
import Derived.Test.YtchnkakjjbfklaaPrint5
namespace Go.Proofs.Ytchnkakjjbfklaa.Print
open Go.RowKit Go.Proofs.YtchnkakjjbfklaaW.PrintWords Go.Proofs.YtchnkakjjbfklaaW.PrintLast Go.Proofs.YtchnkakjjbfklaaW.PrintMore Go.Proofs.Ytchnkakjjbfklaa.Short
attribute [local go_sem] max2_int min2_int max_two min_two max_three min_three max_four min_four   -- for this text's walks alone
set_option linter.unusedVariables false
set_option maxHeartbeats 8000000
set_option maxRecDepth 100000
set_option linter.unusedSimpArgs false

/-! ### laws_toLoggedS: function 25 -/
def laws_toLoggedS.l0 : Nat → List (S92) → List (S57) → Int → Option ((List (S57)))
 | 0, _, _, _ => none
 | k + 1, c, d, b => if b < (c.length : Int) then (if 0 ≤ b then ((laws_toLogged.f k ((rd_T92 c b).f0) ((rd_T92 c b).f1) ((rd_T92 c b).f2) ((rd_T92 c b).f3.f0.f0) ((rd_T92 c b).f3.f0.f1) ((rd_T92 c b).f3.f0.f2) ((rd_T92 c b).f3.f1) ((rd_T92 c b).f3.f2)).bind fun a => (if b < (d.length : Int) then (laws_toLoggedS.l0 k c (d.set (b : Int).toNat (⟨a.1, a.2.1, a.2.2.1, (⟨(⟨a.2.2.2.1, a.2.2.2.2.1, a.2.2.2.2.2.1⟩ : S53), a.2.2.2.2.2.2.1, a.2.2.2.2.2.2.2⟩ : S55)⟩ : S57)) (wrap64 (b + 1))) else (none))) else (none)) else (some d)
def laws_toLoggedS.f (k : Nat) (a : List (S92)) : Option ((List (S57))) := if 0 ≤ (a.length : Int) then (if ((a.length : Int) : Int).toNat ≤ 2932031007402 then (laws_toLoggedS.l0 k a (List.replicate ((a.length : Int) : Int).toNat z57) 0) else (none)) else (none)
theorem laws_toLoggedS.mono_l : ∀ k, (∀ a b c, LeO (laws_toLoggedS.l0 k a b c) (laws_toLoggedS.l0 (k + 1) a b c))
 | 0 => fun _ _ _ r h => by simp [laws_toLoggedS.l0] at h
 | k + 1 => by
  have ih0 := laws_toLoggedS.mono_l k
  ·intro a b c
   unfold laws_toLoggedS.l0
   exact mo2_ ih0 laws_toLogged.mono
theorem laws_toLoggedS.mono : ∀ a k, LeO (laws_toLoggedS.f k a) (laws_toLoggedS.f (k + 1) a) := by
 intro a k
 have ih0 := laws_toLoggedS.mono_l k
 unfold laws_toLoggedS.f
 exact mo2_ ih0 laws_toLogged.mono
theorem laws_toLoggedS.calls (k : Nat) (A0 : Option Addr) (c0 : Nat) (m : List (S92)) (r : List (S57)) (w : World) (hr0 : Kd.C k92 w A0 m.length m) (aQ : m.length ≤ c0) (h : laws_toLoggedS.f k m = some r) :
  Calls Try.prog 25 #[.slice A0 m.length c0] w fun e w' => ∃ v0_ : Value, e = .returned (v0_) ∧ Kd.S k57 57 w' w.heap.size (fun _ => True) v0_ r ∧ Below w.heap.size w w' := by
 have hu92 := Try.underlying92
 have hu57 := Try.underlying57
 have ba := Q_ hr0
 have bo := Q_ aQ
 clear hr0 aQ
 have HB := Q_ (Below.refl w.heap.size w)
 have H : (if 0 ≤ (m.length : Int) then (if ((m.length : Int) : Int).toNat ≤ 2932031007402 then (laws_toLoggedS.l0 k m (List.replicate ((m.length : Int) : Int).toNat z57) 0) else (none)) else (none)) = some r := h
 clear h
 by_cases c2 : 0 ≤ (m.length : Int)
 rotate_left
 ·rw [if_neg c2] at H
  exact nn_ H
 rw [if_pos c2] at H
 have bg := eq_true c2
 have bh : decide (0 ≤ (m.length : Int)) = true := decide_eq_true c2
 clear c2
 by_cases c3 : ((m.length : Int) : Int).toNat ≤ 2932031007402
 rotate_left
 ·rw [if_neg c3] at H
  exact nn_ H
 rw [if_pos c3] at H
 have bi := eq_true c3
 have bj : decide (((m.length : Int) : Int).toNat ≤ 2932031007402) = true := decide_eq_true c3
 clear c3
 obtain ⟨aB, hy285⟩ : ∃ y_ : List (S57), y_ = (List.replicate ((m.length : Int) : Int).toNat z57) := ⟨_, rfl⟩
 replace H : (laws_toLoggedS.l0 k m aB 0) = some r := hb_ hy285 H
 have V := Q_ hy285
 clear hy285
 have H' := Q_ H
 clear H
 go_enter Try.func25, Try.ntmps25
 go_wp2_with (first | ((with_reducible refine gate_dst (N := 7) rfl ?_); refine Kd.S_make k57 _ 57 rfl (N := 7) rfl 35 _ _ rfl (m.length : Int) rfl rfl Try.underlying35 (.agg #[(.int .i64 0), (.int .i64 0), (.bool false), (.bool false), (.int .i64 0), (.slice none 0 0), (.int .i64 0), (.slice none 0 0)]) 96 info57 rfl (by decide) (by omega) z57 (ok := fun _ => True) (okp := fun _ => True) (k57_mkM _ _ _ z57 (Kd.R_nil _ _ _ _ _) (Kd.R_nil _ _ _ _ _)) (fun _ hk => hk) trivial dt_ (Nat.le_trans (Nat.mul_le_mul_right _ (dt_ : (m.length : Int).toNat ≤ 2932031007402)) (by omega)) (Below.refl _ _) (Nat.le_refl _) ?_; intro aR w4 W hb hg_ hnew_; clear hg_ hnew_; (first | rw [← V.1] at W | (simp only [Int.reduceToNat] at W; rw [← V.1] at W)); have _ := Q_ (Kd.S_lower W (below_size (pb_ HB.1))); have _ := Q_ (below_step (pb_ HB.1) hb); clear HB; rename_i aC HB; clear hb W))
 (try simp only [Act.put, s1_, s2_, s3_])
 go_loopg [4] k (fun kq v4 w' => ∃ (d : List (S57)) (a : Int), v4 = .int .i64 a ∧ Aside0 (laws_toLoggedS.l0 kq m d a = some r) ∧ Aside0 (kq ≤ k) ∧ Aside0 (Kd.S k57 57 w' w.heap.size (fun _ => True) aR d) ∧ Aside0 (Below w.heap.size w w'))
 case atStart => exact ⟨(aB), (0), el_, H', ⟨Nat.le_refl _⟩, ⟨ps_ aC.1⟩, ⟨pb_ HB.1⟩⟩
 clear H'
 obtain ⟨d, a, rfl, HA, aK, c, HB⟩ := hrel
 rcases gk with _ | k1
 ·exact absurd HA.1 (by simp [laws_toLoggedS.l0])
 have H := HA.1
 clear HA
 simp only [laws_toLoggedS.l0] at H
 by_cases c6 : a < (m.length : Int)
 rotate_left
 ·rw [if_neg c6] at H
  have aO := decide_eq_false c6
  clear c6
  obtain rfl := Option.some.inj H
  go_wp2
  go_ret
  exact ⟨_, er_, ps_ c.1, pb_ HB.1⟩
 rw [if_pos c6] at H
 have aO := decide_eq_true c6
 clear c6
 by_cases c7 : 0 ≤ a
 rotate_left
 ·rw [if_neg c7] at H
  exact nn_ H
 rw [if_pos c7] at H
 have bk := decide_eq_true c7
 clear c7
 obtain ⟨⟨o, q, s, u, x, L, y, M⟩, A8, H⟩ := bs_ H
 (try dsimp only at H)
 by_cases c9 : a < (d.length : Int)
 rotate_left
 ·rw [if_neg c9] at H
  exact nn_ H
 rw [if_pos c9] at H
 have bl := decide_eq_true c9
 clear c9
 obtain ⟨Z, hy301⟩ : ∃ y_ : List (S57), y_ = (d.set (a : Int).toNat (⟨o, q, s, (⟨(⟨u, x, L⟩ : S53), y, M⟩ : S55)⟩ : S57)) := ⟨_, rfl⟩
 replace H : (laws_toLoggedS.l0 k1 m Z (wrap64 (a + 1))) = some r := hb_ hy301 H
 have aD := Q_ hy301
 clear hy301
 have H' := Q_ H
 clear H
 have X : 0 ≤ (a : Int) := dt_
 have Y : a < (m.length : Int) := dt_
 obtain ⟨bb, aa, ac, ab, ad, aP, B, D, E, F, G, I, J, K, Q, T, R, U⟩ := at_U92 ba.1 a X Y
 cases aP
 replace B := bt_ HB B
 replace D := bt_ HB D
 replace E := bt_ HB E
 replace F := bt_ HB F
 replace G := bt_ HB G
 replace I := bt_ HB I
 replace J := bt_ HB J
 replace K := bt_ HB K
 replace X := eq_true X
 replace Y := eq_true Y
 go_wp2_with (first | ((with_reducible refine gate_callee (f := 65) rfl ?_); refine gl_ (some 20) Try.func65 #[.agg #[.int .i64 ((rd_T92 m a).f0), .int .i64 ((rd_T92 m a).f1), .bool ((rd_T92 m a).f2), .bool ((rd_T92 m a).f3.f0.f0), .int .i64 ((rd_T92 m a).f3.f0.f1), .slice aa ((rd_T92 m a).f3.f0.f2).length ac, .int .i64 ((rd_T92 m a).f3.f1), .slice ab ((rd_T92 m a).f3.f2).length ad]] ?_; (with_reducible refine (laws_toLogged.calls k1 ((rd_T92 m a).f0) ((rd_T92 m a).f1) ((rd_T92 m a).f2) ((rd_T92 m a).f3.f0.f0) ((rd_T92 m a).f3.f0.f1) _ _ ((rd_T92 m a).f3.f0.f2) ((rd_T92 m a).f3.f1) _ _ ((rd_T92 m a).f3.f2) o q s u x L y M _ (cb_ T HB) Q.1 (cb_ U HB) R.1 A8.1).mono ?_); rintro e l ⟨O, P, rfl, aE, aF, hb⟩; refine ⟨_, rfl, ?_⟩; have _ := Q_ (Kd.S_mono (Kd.S_told (Kd.S_told (Kd.S_old (ps_ c.1) hb) (Kd.R_base aE)) (Kd.R_base aF)) (fun _ h_ => h_.1)); have _ := Q_ (Kd.R_lower aE (below_size (pb_ HB.1))); have _ := Q_ (Kd.R_lower aF (below_size (pb_ HB.1))); have _ := Q_ (below_step (pb_ HB.1) hb); clear c HB; rename_i c z A HB; (try clear hb aE aF); have aG : 0 ≤ (a : Int) := dt_; have aH : (a : Int) < ((d.length : Int) : Int) := dt_; obtain ⟨b, aw, ax, ay, gl10, bm, HG10⟩ := Kd.S_form c.1 (by omega); (first | cases ax | (injection ax with ea_ en_ ec_; (first | subst ea_ | (injection ea_ with ea_; subst ea_)); subst ec_; clear en_)); have n := Q_ ay; have be := Q_ HG10; clear ay gl10 HG10; obtain ⟨_, ce10, hcl10, az, g, hfr10, _, _⟩ := Kd.S_elem c.1 z57 (a : Int) aG aH; obtain ⟨ve10_5, ve10_7, rfl, ge10_5, ge10_7⟩ := k57_openM az; have a2 : l.cell? ⟨b, (a : Int).toNat * 8, none⟩ = some (.int .i64 ((rd_T57 d a).f0)) := g 0 _ rfl; have a3 : l.cell? ⟨b, (a : Int).toNat * 8 + 1, none⟩ = some (.int .i64 ((rd_T57 d a).f1)) := g 1 _ rfl; have a4 : l.cell? ⟨b, (a : Int).toNat * 8 + 2, none⟩ = some (.bool ((rd_T57 d a).f2)) := g 2 _ rfl; have a5 : l.cell? ⟨b, (a : Int).toNat * 8 + 3, none⟩ = some (.bool ((rd_T57 d a).f3.f0.f0)) := g 3 _ rfl; have a6 : l.cell? ⟨b, (a : Int).toNat * 8 + 4, none⟩ = some (.int .i64 ((rd_T57 d a).f3.f0.f1)) := g 4 _ rfl; have a7 : l.cell? ⟨b, (a : Int).toNat * 8 + 5, none⟩ = some (ve10_5) := g 5 _ rfl; have a8 : l.cell? ⟨b, (a : Int).toNat * 8 + 6, none⟩ = some (.int .i64 ((rd_T57 d a).f3.f1)) := g 6 _ rfl; have a9 : l.cell? ⟨b, (a : Int).toNat * 8 + 7, none⟩ = some (ve10_7) := g 7 _ rfl; have aU : l.frozen? ⟨b, (a : Int).toNat * 8, none⟩ = false := hfr10 0; have aV : l.frozen? ⟨b, (a : Int).toNat * 8 + 1, none⟩ = false := hfr10 1; have aW : l.frozen? ⟨b, (a : Int).toNat * 8 + 2, none⟩ = false := hfr10 2; have aX : l.frozen? ⟨b, (a : Int).toNat * 8 + 3, none⟩ = false := hfr10 3; have aY : l.frozen? ⟨b, (a : Int).toNat * 8 + 4, none⟩ = false := hfr10 4; have aZ : l.frozen? ⟨b, (a : Int).toNat * 8 + 5, none⟩ = false := hfr10 5; have a0 : l.frozen? ⟨b, (a : Int).toNat * 8 + 6, none⟩ = false := hfr10 6; have a1 : l.frozen? ⟨b, (a : Int).toNat * 8 + 7, none⟩ = false := hfr10 7; clear hcl10 g hfr10; (try clear az); replace aG := eq_true aG; replace aH := eq_true aH; have n_ := Q_ (Kd.S_mono (ok' := (fun k_ => some k_ ≠ (O : Value).ownBlock ∧ some k_ ≠ (P : Value).ownBlock)) c.1 (fun k_ hk => ⟨hk.1.2, hk.2⟩)); clear c; have c := n_; clear n_; have aL := Q_ (show Kd.S k57 57 l w.heap.size (fun k_ => ((fun _ => True)) k_ ∧ ¬ ((fun k_ => some k_ = (O : Value).ownBlock ∨ some k_ = (P : Value).ownBlock)) k_) (.slice (some ⟨b, 0, none⟩) d.length aw) d from (by (with_reducible repeat (first | apply Kd.S_alloc | apply Kd.S_drewN | apply Kd.S_drew)); exact Kd.S_mono c.1 (fun k_ hk => ⟨trivial, fun e_ => e_.elim (fun h_ => hk.1 h_) (fun h_ => hk.2 h_)⟩))); obtain ⟨bc, ce12, hcl12, aA, i, hfr12, hoki12, hH12⟩ := Kd.S_elem aL.1 z57 (a : Int) dt_ (by have h_ : (a : Int) < ((d.length : Int) : Int) := dt_; first | exact h_ | (have e_ := (Kd.S_reads' c.1).1; omega) | simpa using h_); obtain ⟨ve12_5, ve12_7, rfl, ge12_5, ge12_7⟩ := k57_openM aA; have HP12 := Kd.S_seg hH12 dt_ (by have h_ : (a : Int) < ((d.length : Int) : Int) := dt_; first | exact h_ | (have e_ := (Kd.S_reads' c.1).1; omega) | simpa using h_) (seg := [.int .i64 o, .int .i64 q, .bool s, .bool u, .int .i64 x, O, .int .i64 y, P]) (j := 0) (show 8 ≤ 8 from by decide) (x' := (⟨o, q, s, (⟨(⟨u, x, L⟩ : S53), y, M⟩ : S55)⟩ : S57)) (k57_mkM _ _ _ (⟨o, q, s, (⟨(⟨u, x, L⟩ : S53), y, M⟩ : S55)⟩ : S57) (Kd.R_mono (Kd.R_tight rfl (Kd.R_mono (ok' := fun k_ => ((fun _ => True)) k_ ∧ k_ ≠ b) (Kd.R_apart' (z.1) (Kd.S_typed c.1) (by decide)) (fun k_ hk => ⟨trivial, fun e_ => (hk.2) (by rw [e_]; rfl)⟩))) (fun _ h_ => Or.inr (Or.inl h_))) (Kd.R_mono (Kd.R_tight rfl (Kd.R_mono (ok' := fun k_ => ((fun _ => True)) k_ ∧ k_ ≠ b) (Kd.R_apart' (A.1) (Kd.S_typed c.1) (by decide)) (fun k_ hk => ⟨trivial, fun e_ => (hk.2) (by rw [e_]; rfl)⟩))) (fun _ h_ => Or.inr (Or.inr (h_))))) (fun _ hk => hk) (fun k_ hk_ => hk_.elim (fun h_ => ((Kd.R_mono (ok' := fun k_ => ((fun _ => True)) k_ ∧ k_ ≠ b) (Kd.R_apart' (z.1) (Kd.S_typed c.1) (by decide)) (fun k_ hk => ⟨trivial, fun e_ => (hk.2) (by rw [e_]; rfl)⟩))).1 k_ h_.symm) (fun h_ => ((Kd.R_mono (ok' := fun k_ => ((fun _ => True)) k_ ∧ k_ ≠ b) (Kd.R_apart' (A.1) (Kd.S_typed c.1) (by decide)) (fun k_ hk => ⟨trivial, fun e_ => (hk.2) (by rw [e_]; rfl)⟩))).1 k_ h_.symm)); have am := i 0 _ rfl; (try simp only [show (k57).sz = 8 from rfl, Nat.mul_one, Nat.add_zero] at am); have ae := hfr12 0; (try simp only [show (k57).sz = 8 from rfl, Nat.mul_one, Nat.add_zero] at ae); have an := i 1 _ rfl; (try simp only [show (k57).sz = 8 from rfl, Nat.mul_one, Nat.add_zero] at an); have af := hfr12 1; (try simp only [show (k57).sz = 8 from rfl, Nat.mul_one, Nat.add_zero] at af); have ao := i 2 _ rfl; (try simp only [show (k57).sz = 8 from rfl, Nat.mul_one, Nat.add_zero] at ao); have ag := hfr12 2; (try simp only [show (k57).sz = 8 from rfl, Nat.mul_one, Nat.add_zero] at ag); have ap := i 3 _ rfl; (try simp only [show (k57).sz = 8 from rfl, Nat.mul_one, Nat.add_zero] at ap); have ah := hfr12 3; (try simp only [show (k57).sz = 8 from rfl, Nat.mul_one, Nat.add_zero] at ah); have aq := i 4 _ rfl; (try simp only [show (k57).sz = 8 from rfl, Nat.mul_one, Nat.add_zero] at aq); have ai := hfr12 4; (try simp only [show (k57).sz = 8 from rfl, Nat.mul_one, Nat.add_zero] at ai); have ar := i 5 _ rfl; (try simp only [show (k57).sz = 8 from rfl, Nat.mul_one, Nat.add_zero] at ar); have aj := hfr12 5; (try simp only [show (k57).sz = 8 from rfl, Nat.mul_one, Nat.add_zero] at aj); have au := i 6 _ rfl; (try simp only [show (k57).sz = 8 from rfl, Nat.mul_one, Nat.add_zero] at au); have ak := hfr12 6; (try simp only [show (k57).sz = 8 from rfl, Nat.mul_one, Nat.add_zero] at ak); have av := i 7 _ rfl; (try simp only [show (k57).sz = 8 from rfl, Nat.mul_one, Nat.add_zero] at av); have al := hfr12 7; (try simp only [show (k57).sz = 8 from rfl, Nat.mul_one, Nat.add_zero] at al); clear hcl12 i hfr12 hoki12 hH12; (try clear aA)) | ((with_reducible refine gate_store (t := 57) (p := 21) rfl ?_); refine store_event (t := 57) (p := 21) (v := ?vo_w13) (w1 := ((((((((l.setCell ⟨b, (a : Int).toNat * 8, none⟩ (.int .i64 o)).setCell ⟨b, (a : Int).toNat * 8 + 1, none⟩ (.int .i64 q)).setCell ⟨b, (a : Int).toNat * 8 + 2, none⟩ (.bool s)).setCell ⟨b, (a : Int).toNat * 8 + 3, none⟩ (.bool u)).setCell ⟨b, (a : Int).toNat * 8 + 4, none⟩ (.int .i64 x)).setCell ⟨b, (a : Int).toNat * 8 + 5, none⟩ (O)).setCell ⟨b, (a : Int).toNat * 8 + 6, none⟩ (.int .i64 y)).setCell ⟨b, (a : Int).toNat * 8 + 7, none⟩ (P))) ?hg ?ho ?hn ?hr ?_; (case ho => rfl); (case hg => rfl); (case hn => rfl); (case hr => first | (go_simp; done) | (go_simp; rfl) | (obtain ⟨Ae_, ce_, ee_⟩ := Kd.R_slice z.1; subst ee_; obtain ⟨Ae_, ce_, ee_⟩ := Kd.R_slice A.1; subst ee_; go_simp; first | done | rfl)); intro aI hw; have hg : l.grownBy aI (some b) := (by rw [hw]; exact HP12.2); have hp_ : Kd.S k57 57 aI w.heap.size (fun _ => True) (.slice (some ⟨b, 0, none⟩) d.length aw) Z := (by rw [hw, aD.1]; exact HP12.1); clear HP12; have _ := Q_ (hp_); have _ := Q_ ((by rw [hw]; exact below_set (below_set (below_set (below_set (below_set (below_set (below_set (below_set (HB.1) n.1) n.1) n.1) n.1) n.1) n.1) n.1) n.1 : Below w.heap.size w aI)); clear c HB z A; rename_i c HB; clear hg hw hp_))
 go_roundg k1
 case measure => have := aK.1; omega
 case rel => exact ⟨(Z), (wrap64 (a + 1)), el_, H', ⟨by have := aK.1; omega⟩, ⟨ps_ c.1⟩, ⟨pb_ HB.1⟩⟩

/-! ### laws_toWorld: function 7 -/
def laws_toWorld.f (k : Nat) (o : List Int) (p : List Int) (h : Int) (q : List (S85)) (i : Int) (r : List Int) (j : Int) (l : Bool) (m : Int) (n : Int) (e : List (S89)) (g : List (S92)) (b : Int) (c : Int) (d : Int) : Option (List Int × List Int × Int × (List (S50)) × Int × List Int × Int × Bool × Int × Int × (List (S55)) × (List (S57)) × Int × Int × Int) := (laws_toIntS.f k o).bind fun s => ((laws_toIntS.f k p).bind fun t => ((laws_toEndpointS.f k q).bind fun u => ((laws_toRollout.f k i r j l).bind fun a => ((laws_toDialedS.f k e).bind fun v => ((laws_toLoggedS.f k g).bind fun w => (some (s, t, h, u, a.1, a.2.1, a.2.2.1, a.2.2.2, m, n, v, w, b, c, d)))))))
theorem laws_toWorld.mono : ∀ g h i j l m n o p q a b c d e k, LeO (laws_toWorld.f k g h i j l m n o p q a b c d e) (laws_toWorld.f (k + 1) g h i j l m n o p q a b c d e) := by
 intro g h i j l m n o p q a b c d e k
 unfold laws_toWorld.f
 exact mo5_ laws_toDialedS.mono laws_toEndpointS.mono laws_toIntS.mono laws_toLoggedS.mono laws_toRollout.mono
theorem laws_toWorld.calls (k : Nat) (ao : Option Addr) (au : Nat) (X : List Int) (ap : Option Addr) (av : Nat) (Y : List Int) (x : Int) (aq : Option Addr) (aw : Nat) (Z : List (S85)) (al : Int) (ar : Option Addr) (ax : Nat) (aa : List Int) (am : Int) (an : Bool) (s : Int) (t : Int) (af : Option Addr) (ah : Nat) (y : List (S89)) (ag : Option Addr) (ai : Nat) (z : List (S92)) (m : Int) (n : Int) (q : Int) (r1 : List Int) (r2 : List Int) (r3 : Int) (r4 : List (S50)) (r5 : Int) (r6 : List Int) (r7 : Int) (r8 : Bool) (r9 : Int) (a3 : Int) (a4 : List (S55)) (a5 : List (S57)) (a6 : Int) (a7 : Int) (a8 : Int) (w : World) (hr0_0 : Kd.C (Kd.int .i64) w ao X.length X) (aK : X.length ≤ au) (hr0_1 : Kd.C (Kd.int .i64) w ap Y.length Y) (aL : Y.length ≤ av) (hr0_3 : Kd.C k85 w aq Z.length Z) (aM : Z.length ≤ aw) (hr0_5 : Kd.C (Kd.int .i64) w ar aa.length aa) (aN : aa.length ≤ ax) (hr0_10 : Kd.C k89 w af y.length y) (aH : y.length ≤ ah) (hr0_11 : Kd.C k92 w ag z.length z) (aI : z.length ≤ ai) (h : laws_toWorld.f k X Y x Z al aa am an s t y z m n q = some (r1, r2, r3, r4, r5, r6, r7, r8, r9, a3, a4, a5, a6, a7, a8)) :
  Calls Try.prog 7 #[.agg #[.slice ao X.length au, .slice ap Y.length av, .int .i64 x, .slice aq Z.length aw, .int .i64 al, .slice ar aa.length ax, .int .i64 am, .bool an, .int .i64 s, .int .i64 t, .slice af y.length ah, .slice ag z.length ai, .int .i64 m, .int .i64 n, .int .i64 q]] w fun e w' => ∃ v0_ v1_ v3_ v5_ v10_ v11_ : Value, e = .returned (.agg #[v0_, v1_, .int .i64 r3, v3_, .int .i64 r5, v5_, .int .i64 r7, .bool r8, .int .i64 r9, .int .i64 a3, v10_, v11_, .int .i64 a6, .int .i64 a7, .int .i64 a8]) ∧ Kd.R (Kd.int .i64) 3 w' w.heap.size (fun k_ => some k_ ≠ (v1_ : Value).ownBlock ∧ some k_ ≠ (v5_ : Value).ownBlock) v0_ r1 ∧ Kd.R (Kd.int .i64) 3 w' w.heap.size (fun k_ => some k_ ≠ (v0_ : Value).ownBlock ∧ some k_ ≠ (v5_ : Value).ownBlock) v1_ r2 ∧ Kd.R k50 50 w' w.heap.size (fun k_ => some k_ ≠ (v0_ : Value).ownBlock ∧ some k_ ≠ (v1_ : Value).ownBlock ∧ some k_ ≠ (v5_ : Value).ownBlock) v3_ r4 ∧ Kd.R (Kd.int .i64) 3 w' w.heap.size (fun k_ => some k_ ≠ (v0_ : Value).ownBlock ∧ some k_ ≠ (v1_ : Value).ownBlock) v5_ r6 ∧ Kd.S k55 55 w' w.heap.size (fun k_ => some k_ ≠ (v0_ : Value).ownBlock ∧ some k_ ≠ (v1_ : Value).ownBlock ∧ some k_ ≠ (v5_ : Value).ownBlock) v10_ a4 ∧ Kd.S k57 57 w' w.heap.size (fun k_ => some k_ ≠ (v0_ : Value).ownBlock ∧ some k_ ≠ (v1_ : Value).ownBlock ∧ some k_ ≠ (v5_ : Value).ownBlock) v11_ a5 ∧ Below w.heap.size w w' := by
 have hu29 := Try.underlying29
 have hu37 := Try.underlying37
 have hu25 := Try.underlying25
 have hu33 := Try.underlying33
 have aZ := Q_ hr0_0
 have aV := Q_ aK
 clear hr0_0 aK
 have a0 := Q_ hr0_1
 have aW := Q_ aL
 clear hr0_1 aL
 have a1 := Q_ hr0_3
 have aX := Q_ aM
 clear hr0_3 aM
 have a2 := Q_ hr0_5
 have aY := Q_ aN
 clear hr0_5 aN
 have aQ := Q_ hr0_10
 have aO := Q_ aH
 clear hr0_10 aH
 have aR := Q_ hr0_11
 have aP := Q_ aI
 clear hr0_11 aI
 have HB := Q_ (Below.refl w.heap.size w)
 have H : ((laws_toIntS.f k X).bind fun W => ((laws_toIntS.f k Y).bind fun B => ((laws_toEndpointS.f k Z).bind fun D => ((laws_toRollout.f k al aa am an).bind fun aD => ((laws_toDialedS.f k y).bind fun A => ((laws_toLoggedS.f k z).bind fun O => (some (W, B, x, D, aD.1, aD.2.1, aD.2.2.1, aD.2.2.2, s, t, A, O, m, n, q)))))))) = some (r1, r2, r3, r4, r5, r6, r7, r8, r9, a3, a4, a5, a6, a7, a8) := h
 clear h
 obtain ⟨W, A2, H⟩ := bs_ H
 (try dsimp only at H)
 obtain ⟨B, A3, H⟩ := bs_ H
 (try dsimp only at H)
 obtain ⟨D, A4, H⟩ := bs_ H
 (try dsimp only at H)
 obtain ⟨⟨E, F, G, I⟩, A5, H⟩ := bs_ H
 (try dsimp only at H)
 obtain ⟨A, A6, H⟩ := bs_ H
 (try dsimp only at H)
 obtain ⟨O, A7, H⟩ := bs_ H
 (try dsimp only at H)
 simp only [Option.some.injEq, Prod.mk.injEq] at H
 obtain ⟨rfl, rfl, rfl, rfl, rfl, rfl, rfl, rfl, rfl, rfl, rfl, rfl, rfl, rfl, rfl⟩ := H
 go_enter Try.func7, Try.ntmps7
 go_wp2_with (first | ((with_reducible refine gate_dst (N := 1) rfl ?_); refine bx_ 1 #[.slice ao X.length au, .slice ap Y.length av, .int .i64 x, .slice aq Z.length aw, .int .i64 al, .slice ar aa.length ax, .int .i64 am, .bool an, .int .i64 s, .int .i64 t, .slice af y.length ah, .slice ag z.length ai, .int .i64 m, .int .i64 n, .int .i64 q] 29 ?_; intro aC hg w8 hbox hb; have _ := Q_ (below_step (pb_ HB.1) hb); have d := Q_ (hbox); have aS := Q_ (gw_ (w := w) hg (pb_ HB.1)); have j := aS; clear HB; rename_i HB; clear hb hbox hg) | ((with_reducible refine gate_dst (N := 2) rfl ?_); refine bx_ 2 #[.slice none 0 0, .slice none 0 0, .int .i64 0, .slice none 0 0, .int .i64 0, .slice none 0 0, .int .i64 0, .bool false, .int .i64 0, .int .i64 0, .slice none 0 0, .slice none 0 0, .int .i64 0, .int .i64 0, .int .i64 0] 37 ?_; intro a hg w9 hbox hb; have _ := Q_ (bb_ d.1 hb); have _ := Q_ (below_step (pb1_ HB.1 j.1) hb); have i := Q_ (hbox); have aT := Q_ (gw_ (w := w) hg (pb1_ HB.1 j.1)); have r := aT; have az := Q_ (nb_ hg d); have aE := Q_ az.1.symm; clear d HB; rename_i d HB; clear hb hbox hg) | ((with_reducible refine gate_dst (N := 3) rfl ?_); refine bx_ 3 #[.slice none 0 0, .slice none 0 0, .int .i64 0, .slice none 0 0, .int .i64 0, .slice none 0 0, .int .i64 0, .bool false, .int .i64 0, .int .i64 0, .slice none 0 0, .slice none 0 0, .int .i64 0, .int .i64 0, .int .i64 0] 37 ?_; intro b hg bV hbox hb; have _ := Q_ (bb_ d.1 hb); have _ := Q_ (bb_ i.1 hb); have _ := Q_ (below_step (pb2_ HB.1 j.1 r.1) hb); have c := Q_ (hbox); have aU := Q_ (gw_ (w := w) hg (pb2_ HB.1 j.1 r.1)); have u := aU; have aA := Q_ (nb_ hg d); have aF := Q_ aA.1.symm; have aB := Q_ (nb_ hg i); have aG := Q_ aB.1.symm; clear d i HB; rename_i d i HB; clear hb hbox hg; have bt := az.1; have bw := aE.1; have bu := aA.1; have bx := aF.1; have bf := bc15_ d.1) | ((with_reducible refine gate_callee (f := 21) rfl ?_); refine gl_ (some 6) Try.func21 #[.slice ao X.length au] ?_; (with_reducible refine (laws_toIntS.calls k _ _ X W _ (cb_ aZ HB) aV.1 A2.1).mono ?_); rintro e bW ⟨bJ, rfl, ac, hb⟩; refine ⟨_, rfl, ?_⟩; have _ := Q_ (Kd.R_lower ac (below_size (pb3_ HB.1 j.1 r.1 u.1))); have _ := Q_ (bb_ d.1 hb); have _ := Q_ (bb_ i.1 hb); have _ := Q_ (bb_ c.1 hb); have _ := Q_ (below_step (pb3_ HB.1 j.1 r.1 u.1) hb); clear d i c HB; rename_i l d i c HB; (try clear hb ac); obtain ⟨aj, ak, a9⟩ := Kd.R_slice l.1; subst a9; have bv := aG.1; have bz := aB.1; have bg := bc15_ c.1; have bh := bc15_ d.1) | ((with_reducible refine gate_callee (f := 21) rfl ?_); refine gl_ (some 10) Try.func21 #[.slice ap Y.length av] ?_; (with_reducible refine (laws_toIntS.calls k _ _ Y B _ ?side1 aW.1 A3.1).mono ?_); (case side1 => exact Kd.C_below a0.1 (pb3_ HB.1 j.1 r.1 u.1)); rintro e bX ⟨bK, rfl, ac, hb⟩; refine ⟨_, rfl, ?_⟩; have _ := Q_ (Kd.R_elder' (pr_ (rf1_ l.1 c.1)) (Kd.R_base ac) hb); have _ := Q_ (Kd.R_lower (Kd.R_new' ac (Kd.R_lt (pr_ (rf1_ l.1 c.1)))) (below_size (pb3_ HB.1 j.1 r.1 u.1))); have _ := Q_ (blk_below (g := aC) (o := .cells #[.slice ao X.length au, .slice ap Y.length av, .int .i64 x, .slice aq Z.length aw, .int .i64 al, .slice ar aa.length ax, .int .i64 am, .bool an, .int .i64 s, .int .i64 t, .slice af y.length ah, .slice ag z.length ai, .int .i64 m, .int .i64 n, .int .i64 q] 29 (0, 0)) (pp_ d.1) hb); have _ := Q_ (blk_below (g := a) (o := .cells #[.slice none 0 0, .slice none 0 0, .int .i64 0, .slice none 0 0, .int .i64 0, .slice none 0 0, .int .i64 0, .bool false, .int .i64 0, .int .i64 0, .slice none 0 0, .slice none 0 0, .int .i64 0, .int .i64 0, .int .i64 0] 37 (0, 0)) (pp_ i.1) hb); have _ := Q_ (blk_below (g := b) (o := .cells #[.slice aj W.length ak, .slice none 0 0, .int .i64 0, .slice none 0 0, .int .i64 0, .slice none 0 0, .int .i64 0, .bool false, .int .i64 0, .int .i64 0, .slice none 0 0, .slice none 0 0, .int .i64 0, .int .i64 0, .int .i64 0] 37 (0, 0)) (pp_ c.1) hb); have _ := Q_ (below_step (pb3_ HB.1 j.1 r.1 u.1) hb); clear l d i c HB; rename_i l v d i c HB; (try clear hb ac); obtain ⟨P, U, ba⟩ := Kd.R_slice v.1; subst ba; have bi := bc15_ c.1; have bj := bc15_ d.1) | ((with_reducible refine gate_callee (f := 22) rfl ?_); refine gl_ (some 17) Try.func22 #[.slice aq Z.length aw] ?_; (with_reducible refine (laws_toEndpointS.calls k _ _ Z D _ ?side1 aX.1 A4.1).mono ?_); (case side1 => exact Kd.C_below a1.1 (pb3_ HB.1 j.1 r.1 u.1)); rintro e bY ⟨bL, rfl, ac, hb⟩; refine ⟨_, rfl, ?_⟩; have _ := Q_ (Kd.R_below (pr_ (Kd.R_mono (Kd.R_far (p := ⟨b, 2, none⟩) (Kd.R_far (p := ⟨b, 1, none⟩) (Kd.R_types l.1 c.1 (by decide)) (fun _ hk => hk.2) (.slice P B.length U)) (fun _ hk => hk.2) (.int .i64 x)) (fun _ h_ => h_.1))) hb); have _ := Q_ (Kd.R_below (pr_ (Kd.R_mono (Kd.R_far (p := ⟨b, 2, none⟩) (Kd.R_far (p := ⟨b, 1, none⟩) (Kd.R_types v.1 c.1 (by decide)) (fun _ hk => hk.2) (.slice P B.length U)) (fun _ hk => hk.2) (.int .i64 x)) (fun _ h_ => h_.1))) hb); have _ := Q_ (Kd.R_lower (Kd.R_new' (Kd.R_new' ac (Kd.R_lt (pr_ (Kd.R_mono (Kd.R_far (p := ⟨b, 2, none⟩) (Kd.R_far (p := ⟨b, 1, none⟩) (Kd.R_types l.1 c.1 (by decide)) (fun _ hk => hk.2) (.slice P B.length U)) (fun _ hk => hk.2) (.int .i64 x)) (fun _ h_ => h_.1))))) (Kd.R_lt (pr_ (Kd.R_mono (Kd.R_far (p := ⟨b, 2, none⟩) (Kd.R_far (p := ⟨b, 1, none⟩) (Kd.R_types v.1 c.1 (by decide)) (fun _ hk => hk.2) (.slice P B.length U)) (fun _ hk => hk.2) (.int .i64 x)) (fun _ h_ => h_.1))))) (below_size (pb3_ HB.1 j.1 r.1 u.1))); have _ := Q_ (blk_below (g := aC) (o := .cells #[.slice ao X.length au, .slice ap Y.length av, .int .i64 x, .slice aq Z.length aw, .int .i64 al, .slice ar aa.length ax, .int .i64 am, .bool an, .int .i64 s, .int .i64 t, .slice af y.length ah, .slice ag z.length ai, .int .i64 m, .int .i64 n, .int .i64 q] 29 (0, 0)) (pp_ d.1) hb); have _ := Q_ (blk_below (g := a) (o := .cells #[.slice none 0 0, .slice none 0 0, .int .i64 0, .slice none 0 0, .int .i64 0, .slice none 0 0, .int .i64 0, .bool false, .int .i64 0, .int .i64 0, .slice none 0 0, .slice none 0 0, .int .i64 0, .int .i64 0, .int .i64 0] 37 (0, 0)) (pp_ i.1) hb); have _ := Q_ (blk_below (g := b) (o := .cells #[.slice aj W.length ak, .slice P B.length U, .int .i64 x, .slice none 0 0, .int .i64 0, .slice none 0 0, .int .i64 0, .bool false, .int .i64 0, .int .i64 0, .slice none 0 0, .slice none 0 0, .int .i64 0, .int .i64 0, .int .i64 0] 37 (0, 0)) (pp_ c.1) hb); have _ := Q_ (below_step (pb3_ HB.1 j.1 r.1 u.1) hb); clear l v d i c HB; rename_i l v T d i c HB; (try clear hb ac); obtain ⟨Q, V, bb⟩ := Kd.R_slice T.1; subst bb; have bk := bc15_ c.1; have bl := bc15_ d.1) | ((with_reducible refine gate_callee (f := 23) rfl ?_); refine gl_ (some 21) Try.func23 #[.agg #[.int .i64 al, .slice ar aa.length ax, .int .i64 am, .bool an]] ?_; (with_reducible refine (laws_toRollout.calls k al _ _ aa am an E F G I _ ?side1 aY.1 A5.1).mono ?_); (case side1 => exact Kd.C_below a2.1 (pb3_ HB.1 j.1 r.1 u.1)); rintro e bZ ⟨bM, rfl, ac, hb⟩; refine ⟨_, rfl, ?_⟩; have _ := Q_ (Kd.R_elder' (pr_ (Kd.R_mono (Kd.R_far (p := ⟨b, 3, none⟩) (Kd.R_types l.1 c.1 (by decide)) (fun _ hk => hk.2) (.slice Q D.length V)) (fun _ h_ => h_.1))) (Kd.R_base ac) hb); have _ := Q_ (Kd.R_elder' (pr_ (Kd.R_mono (Kd.R_far (p := ⟨b, 3, none⟩) (Kd.R_types v.1 c.1 (by decide)) (fun _ hk => hk.2) (.slice Q D.length V)) (fun _ h_ => h_.1))) (Kd.R_base ac) hb); have _ := Q_ (Kd.R_elder' (pr_ (Kd.R_mono (Kd.R_far (p := ⟨b, 3, none⟩) (Kd.R_types T.1 c.1 (by decide)) (fun _ hk => hk.2) (.slice Q D.length V)) (fun _ h_ => h_.1))) (Kd.R_base ac) hb); have _ := Q_ (Kd.R_lower (Kd.R_new' (Kd.R_new' ac (Kd.R_lt (pr_ (Kd.R_mono (Kd.R_far (p := ⟨b, 3, none⟩) (Kd.R_types l.1 c.1 (by decide)) (fun _ hk => hk.2) (.slice Q D.length V)) (fun _ h_ => h_.1))))) (Kd.R_lt (pr_ (Kd.R_mono (Kd.R_far (p := ⟨b, 3, none⟩) (Kd.R_types v.1 c.1 (by decide)) (fun _ hk => hk.2) (.slice Q D.length V)) (fun _ h_ => h_.1))))) (below_size (pb3_ HB.1 j.1 r.1 u.1))); have _ := Q_ (blk_below (g := aC) (o := .cells #[.slice ao X.length au, .slice ap Y.length av, .int .i64 x, .slice aq Z.length aw, .int .i64 al, .slice ar aa.length ax, .int .i64 am, .bool an, .int .i64 s, .int .i64 t, .slice af y.length ah, .slice ag z.length ai, .int .i64 m, .int .i64 n, .int .i64 q] 29 (0, 0)) (pp_ d.1) hb); have _ := Q_ (blk_below (g := a) (o := .cells #[.slice none 0 0, .slice none 0 0, .int .i64 0, .slice none 0 0, .int .i64 0, .slice none 0 0, .int .i64 0, .bool false, .int .i64 0, .int .i64 0, .slice none 0 0, .slice none 0 0, .int .i64 0, .int .i64 0, .int .i64 0] 37 (0, 0)) (pp_ i.1) hb); have _ := Q_ (blk_below (g := b) (o := .cells #[.slice aj W.length ak, .slice P B.length U, .int .i64 x, .slice Q D.length V, .int .i64 0, .slice none 0 0, .int .i64 0, .bool false, .int .i64 0, .int .i64 0, .slice none 0 0, .slice none 0 0, .int .i64 0, .int .i64 0, .int .i64 0] 37 (0, 0)) (pp_ c.1) hb); have _ := Q_ (below_step (pb3_ HB.1 j.1 r.1 u.1) hb); clear l v T d i c HB; rename_i l v T ab d i c HB; (try clear hb ac); have bm := bc15_ c.1; obtain ⟨J, L, bc⟩ := Kd.R_slice ab.1; subst bc; have bn := bc15_ d.1) | ((with_reducible refine gate_callee (f := 24) rfl ?_); refine gl_ (some 31) Try.func24 #[.slice af y.length ah] ?_; (with_reducible refine (laws_toDialedS.calls k _ _ y A _ ?side1 aO.1 A6.1).mono ?_); (case side1 => exact Kd.C_below aQ.1 (pb3_ HB.1 j.1 r.1 u.1)); rintro e b0 ⟨bN, rfl, ac, hb⟩; refine ⟨_, rfl, ?_⟩; have _ := Q_ (Kd.R_below (pr_ (Kd.R_mono (Kd.R_far (p := ⟨b, 9, none⟩) (Kd.R_far (p := ⟨b, 8, none⟩) (Kd.R_far (p := ⟨b, 7, none⟩) (Kd.R_far (p := ⟨b, 6, none⟩) (Kd.R_far (p := ⟨b, 5, none⟩) (Kd.R_far (p := ⟨b, 4, none⟩) (Kd.R_types l.1 c.1 (by decide)) (fun _ hk => hk.2) (.int .i64 E)) (fun _ hk => hk.2) (.slice J F.length L)) (fun _ hk => hk.2) (.int .i64 G)) (fun _ hk => hk.2) (.bool I)) (fun _ hk => hk.2) (.int .i64 s)) (fun _ hk => hk.2) (.int .i64 t)) (fun _ h_ => h_.1))) hb); have _ := Q_ (Kd.R_below (pr_ (Kd.R_mono (Kd.R_far (p := ⟨b, 9, none⟩) (Kd.R_far (p := ⟨b, 8, none⟩) (Kd.R_far (p := ⟨b, 7, none⟩) (Kd.R_far (p := ⟨b, 6, none⟩) (Kd.R_far (p := ⟨b, 5, none⟩) (Kd.R_far (p := ⟨b, 4, none⟩) (Kd.R_types v.1 c.1 (by decide)) (fun _ hk => hk.2) (.int .i64 E)) (fun _ hk => hk.2) (.slice J F.length L)) (fun _ hk => hk.2) (.int .i64 G)) (fun _ hk => hk.2) (.bool I)) (fun _ hk => hk.2) (.int .i64 s)) (fun _ hk => hk.2) (.int .i64 t)) (fun _ h_ => h_.1))) hb); have _ := Q_ (Kd.R_below (pr_ (Kd.R_mono (Kd.R_far (p := ⟨b, 9, none⟩) (Kd.R_far (p := ⟨b, 8, none⟩) (Kd.R_far (p := ⟨b, 7, none⟩) (Kd.R_far (p := ⟨b, 6, none⟩) (Kd.R_far (p := ⟨b, 5, none⟩) (Kd.R_far (p := ⟨b, 4, none⟩) (Kd.R_types T.1 c.1 (by decide)) (fun _ hk => hk.2) (.int .i64 E)) (fun _ hk => hk.2) (.slice J F.length L)) (fun _ hk => hk.2) (.int .i64 G)) (fun _ hk => hk.2) (.bool I)) (fun _ hk => hk.2) (.int .i64 s)) (fun _ hk => hk.2) (.int .i64 t)) (fun _ h_ => h_.1))) hb); have _ := Q_ (Kd.R_below (pr_ (Kd.R_mono (Kd.R_far (p := ⟨b, 9, none⟩) (Kd.R_far (p := ⟨b, 8, none⟩) (Kd.R_far (p := ⟨b, 7, none⟩) (Kd.R_far (p := ⟨b, 6, none⟩) (Kd.R_far (p := ⟨b, 5, none⟩) (Kd.R_far (p := ⟨b, 4, none⟩) (Kd.R_types ab.1 c.1 (by decide)) (fun _ hk => hk.2) (.int .i64 E)) (fun _ hk => hk.2) (.slice J F.length L)) (fun _ hk => hk.2) (.int .i64 G)) (fun _ hk => hk.2) (.bool I)) (fun _ hk => hk.2) (.int .i64 s)) (fun _ hk => hk.2) (.int .i64 t)) (fun _ h_ => h_.1))) hb); have _ := Q_ (Kd.S_lower (Kd.S_new' (Kd.S_new' (Kd.S_new' ac (Kd.R_lt (pr_ (Kd.R_mono (Kd.R_far (p := ⟨b, 9, none⟩) (Kd.R_far (p := ⟨b, 8, none⟩) (Kd.R_far (p := ⟨b, 7, none⟩) (Kd.R_far (p := ⟨b, 6, none⟩) (Kd.R_far (p := ⟨b, 5, none⟩) (Kd.R_far (p := ⟨b, 4, none⟩) (Kd.R_types l.1 c.1 (by decide)) (fun _ hk => hk.2) (.int .i64 E)) (fun _ hk => hk.2) (.slice J F.length L)) (fun _ hk => hk.2) (.int .i64 G)) (fun _ hk => hk.2) (.bool I)) (fun _ hk => hk.2) (.int .i64 s)) (fun _ hk => hk.2) (.int .i64 t)) (fun _ h_ => h_.1))))) (Kd.R_lt (pr_ (Kd.R_mono (Kd.R_far (p := ⟨b, 9, none⟩) (Kd.R_far (p := ⟨b, 8, none⟩) (Kd.R_far (p := ⟨b, 7, none⟩) (Kd.R_far (p := ⟨b, 6, none⟩) (Kd.R_far (p := ⟨b, 5, none⟩) (Kd.R_far (p := ⟨b, 4, none⟩) (Kd.R_types v.1 c.1 (by decide)) (fun _ hk => hk.2) (.int .i64 E)) (fun _ hk => hk.2) (.slice J F.length L)) (fun _ hk => hk.2) (.int .i64 G)) (fun _ hk => hk.2) (.bool I)) (fun _ hk => hk.2) (.int .i64 s)) (fun _ hk => hk.2) (.int .i64 t)) (fun _ h_ => h_.1))))) (Kd.R_lt (pr_ (Kd.R_mono (Kd.R_far (p := ⟨b, 9, none⟩) (Kd.R_far (p := ⟨b, 8, none⟩) (Kd.R_far (p := ⟨b, 7, none⟩) (Kd.R_far (p := ⟨b, 6, none⟩) (Kd.R_far (p := ⟨b, 5, none⟩) (Kd.R_far (p := ⟨b, 4, none⟩) (Kd.R_types ab.1 c.1 (by decide)) (fun _ hk => hk.2) (.int .i64 E)) (fun _ hk => hk.2) (.slice J F.length L)) (fun _ hk => hk.2) (.int .i64 G)) (fun _ hk => hk.2) (.bool I)) (fun _ hk => hk.2) (.int .i64 s)) (fun _ hk => hk.2) (.int .i64 t)) (fun _ h_ => h_.1))))) (below_size (pb3_ HB.1 j.1 r.1 u.1))); have _ := Q_ (blk_below (g := aC) (o := .cells #[.slice ao X.length au, .slice ap Y.length av, .int .i64 x, .slice aq Z.length aw, .int .i64 al, .slice ar aa.length ax, .int .i64 am, .bool an, .int .i64 s, .int .i64 t, .slice af y.length ah, .slice ag z.length ai, .int .i64 m, .int .i64 n, .int .i64 q] 29 (0, 0)) (pp_ d.1) hb); have _ := Q_ (blk_below (g := a) (o := .cells #[.slice none 0 0, .slice none 0 0, .int .i64 0, .slice none 0 0, .int .i64 0, .slice none 0 0, .int .i64 0, .bool false, .int .i64 0, .int .i64 0, .slice none 0 0, .slice none 0 0, .int .i64 0, .int .i64 0, .int .i64 0] 37 (0, 0)) (pp_ i.1) hb); have _ := Q_ (blk_below (g := b) (o := .cells #[.slice aj W.length ak, .slice P B.length U, .int .i64 x, .slice Q D.length V, .int .i64 E, .slice J F.length L, .int .i64 G, .bool I, .int .i64 s, .int .i64 t, .slice none 0 0, .slice none 0 0, .int .i64 0, .int .i64 0, .int .i64 0] 37 (0, 0)) (pp_ c.1) hb); have _ := Q_ (below_step (pb3_ HB.1 j.1 r.1 u.1) hb); clear l v T ab d i c HB; rename_i l v T ab ay d i c HB; (try clear hb ac); obtain ⟨K, M, bd⟩ := Kd.S_slice ay.1; subst bd; have bo := bc15_ c.1; have bp := bc15_ d.1) | ((with_reducible refine gate_callee (f := 25) rfl ?_); refine gl_ (some 35) Try.func25 #[.slice ag z.length ai] ?_; (with_reducible refine (laws_toLoggedS.calls k _ _ z O _ ?side1 aP.1 A7.1).mono ?_); (case side1 => exact Kd.C_below aR.1 (pb3_ HB.1 j.1 r.1 u.1)); rintro e b1 ⟨bO, rfl, ac, hb⟩; refine ⟨_, rfl, ?_⟩; have _ := Q_ (Kd.R_below (pr_ (Kd.R_mono (Kd.R_far (p := ⟨b, 10, none⟩) (Kd.R_types l.1 c.1 (by decide)) (fun _ hk => hk.2) (.slice K A.length M)) (fun _ h_ => h_.1))) hb); have _ := Q_ (Kd.R_below (pr_ (Kd.R_mono (Kd.R_far (p := ⟨b, 10, none⟩) (Kd.R_types v.1 c.1 (by decide)) (fun _ hk => hk.2) (.slice K A.length M)) (fun _ h_ => h_.1))) hb); have _ := Q_ (Kd.R_below (pr_ (Kd.R_mono (Kd.R_far (p := ⟨b, 10, none⟩) (Kd.R_types T.1 c.1 (by decide)) (fun _ hk => hk.2) (.slice K A.length M)) (fun _ h_ => h_.1))) hb); have _ := Q_ (Kd.R_below (pr_ (Kd.R_mono (Kd.R_far (p := ⟨b, 10, none⟩) (Kd.R_types ab.1 c.1 (by decide)) (fun _ hk => hk.2) (.slice K A.length M)) (fun _ h_ => h_.1))) hb); have _ := Q_ (Kd.S_below (ps_ (Kd.S_mono (Kd.S_far (p := ⟨b, 10, none⟩) (Kd.S_types ay.1 c.1 (by decide)) (fun _ hk => hk.2) (.slice K A.length M)) (fun _ h_ => h_.1))) hb); have _ := Q_ (Kd.S_lower (Kd.S_new' (Kd.S_new' (Kd.S_new' ac (Kd.R_lt (pr_ (Kd.R_mono (Kd.R_far (p := ⟨b, 10, none⟩) (Kd.R_types l.1 c.1 (by decide)) (fun _ hk => hk.2) (.slice K A.length M)) (fun _ h_ => h_.1))))) (Kd.R_lt (pr_ (Kd.R_mono (Kd.R_far (p := ⟨b, 10, none⟩) (Kd.R_types v.1 c.1 (by decide)) (fun _ hk => hk.2) (.slice K A.length M)) (fun _ h_ => h_.1))))) (Kd.R_lt (pr_ (Kd.R_mono (Kd.R_far (p := ⟨b, 10, none⟩) (Kd.R_types ab.1 c.1 (by decide)) (fun _ hk => hk.2) (.slice K A.length M)) (fun _ h_ => h_.1))))) (below_size (pb3_ HB.1 j.1 r.1 u.1))); have _ := Q_ (blk_below (g := aC) (o := .cells #[.slice ao X.length au, .slice ap Y.length av, .int .i64 x, .slice aq Z.length aw, .int .i64 al, .slice ar aa.length ax, .int .i64 am, .bool an, .int .i64 s, .int .i64 t, .slice af y.length ah, .slice ag z.length ai, .int .i64 m, .int .i64 n, .int .i64 q] 29 (0, 0)) (pp_ d.1) hb); have _ := Q_ (blk_below (g := a) (o := .cells #[.slice none 0 0, .slice none 0 0, .int .i64 0, .slice none 0 0, .int .i64 0, .slice none 0 0, .int .i64 0, .bool false, .int .i64 0, .int .i64 0, .slice none 0 0, .slice none 0 0, .int .i64 0, .int .i64 0, .int .i64 0] 37 (0, 0)) (pp_ i.1) hb); have _ := Q_ (blk_below (g := b) (o := .cells #[.slice aj W.length ak, .slice P B.length U, .int .i64 x, .slice Q D.length V, .int .i64 E, .slice J F.length L, .int .i64 G, .bool I, .int .i64 s, .int .i64 t, .slice K A.length M, .slice none 0 0, .int .i64 0, .int .i64 0, .int .i64 0] 37 (0, 0)) (pp_ c.1) hb); have _ := Q_ (below_step (pb3_ HB.1 j.1 r.1 u.1) hb); clear l v T ab ay d i c HB; rename_i l v T ab ay aJ d i c HB; (try clear hb ac); obtain ⟨ad, ae, be⟩ := Kd.S_slice aJ.1; subst be; have bq := bc15_ c.1; have br := bc15_ d.1; have bs := bc15_ i.1))
 refine bodyPost_ret (results_cell_row rfl _ _ a 37 #[.slice aj W.length ak, .slice P B.length U, .int .i64 x, .slice Q D.length V, .int .i64 E, .slice J F.length L, .int .i64 G, .bool I, .int .i64 s, .int .i64 t, .slice K A.length M, .slice ad O.length ae, .int .i64 m, .int .i64 n, .int .i64 q] (0, 0) _ rfl (by apply Eq.trans; (with_reducible repeat (first | apply blk_set | apply blk_drewN | apply blk_drew | apply blk_alloc | apply blk_far (hp := Aside0.out (by assumption)))); exact i.1; simp only [List.setIfInBounds_toArray, List.set_cons_zero, List.set_cons_succ]) Try.underlying37 rfl (by kernel_rfl)) rfl ?_
 exact ⟨_, _, _, _, _, _, er_, by (with_reducible repeat (first | apply Kd.R_alloc | apply Kd.R_drewN | apply Kd.R_drew)); exact Kd.R_mono (Kd.R_far (p := ⟨a, 14, none⟩) (Kd.R_far (p := ⟨a, 13, none⟩) (Kd.R_far (p := ⟨a, 12, none⟩) (Kd.R_far (p := ⟨a, 11, none⟩) (Kd.R_far (p := ⟨a, 10, none⟩) (Kd.R_far (p := ⟨a, 9, none⟩) (Kd.R_far (p := ⟨a, 8, none⟩) (Kd.R_far (p := ⟨a, 7, none⟩) (Kd.R_far (p := ⟨a, 6, none⟩) (Kd.R_far (p := ⟨a, 5, none⟩) (Kd.R_far (p := ⟨a, 4, none⟩) (Kd.R_far (p := ⟨a, 3, none⟩) (Kd.R_far (p := ⟨a, 2, none⟩) (Kd.R_far (p := ⟨a, 1, none⟩) (Kd.R_far (p := ⟨a, 0, none⟩) (Kd.R_far (p := ⟨b, 14, none⟩) (Kd.R_far (p := ⟨b, 13, none⟩) (Kd.R_far (p := ⟨b, 12, none⟩) (Kd.R_far (p := ⟨b, 11, none⟩) (Kd.R_types (Kd.R_types l.1 c.1 (by decide)) i.1 (by decide)) (fun _ hk => hk.1.2) (.slice ad O.length ae)) (fun _ hk => hk.1.2) (.int .i64 m)) (fun _ hk => hk.1.2) (.int .i64 n)) (fun _ hk => hk.1.2) (.int .i64 q)) (fun _ hk => hk.2) (.slice aj W.length ak)) (fun _ hk => hk.2) (.slice P B.length U)) (fun _ hk => hk.2) (.int .i64 x)) (fun _ hk => hk.2) (.slice Q D.length V)) (fun _ hk => hk.2) (.int .i64 E)) (fun _ hk => hk.2) (.slice J F.length L)) (fun _ hk => hk.2) (.int .i64 G)) (fun _ hk => hk.2) (.bool I)) (fun _ hk => hk.2) (.int .i64 s)) (fun _ hk => hk.2) (.int .i64 t)) (fun _ hk => hk.2) (.slice K A.length M)) (fun _ hk => hk.2) (.slice ad O.length ae)) (fun _ hk => hk.2) (.int .i64 m)) (fun _ hk => hk.2) (.int .i64 n)) (fun _ hk => hk.2) (.int .i64 q)) (fun _ hk => ⟨hk.1.1.1.2, hk.1.1.2⟩), by (with_reducible repeat (first | apply Kd.R_alloc | apply Kd.R_drewN | apply Kd.R_drew)); exact Kd.R_mono (Kd.R_far (p := ⟨a, 14, none⟩) (Kd.R_far (p := ⟨a, 13, none⟩) (Kd.R_far (p := ⟨a, 12, none⟩) (Kd.R_far (p := ⟨a, 11, none⟩) (Kd.R_far (p := ⟨a, 10, none⟩) (Kd.R_far (p := ⟨a, 9, none⟩) (Kd.R_far (p := ⟨a, 8, none⟩) (Kd.R_far (p := ⟨a, 7, none⟩) (Kd.R_far (p := ⟨a, 6, none⟩) (Kd.R_far (p := ⟨a, 5, none⟩) (Kd.R_far (p := ⟨a, 4, none⟩) (Kd.R_far (p := ⟨a, 3, none⟩) (Kd.R_far (p := ⟨a, 2, none⟩) (Kd.R_far (p := ⟨a, 1, none⟩) (Kd.R_far (p := ⟨a, 0, none⟩) (Kd.R_far (p := ⟨b, 14, none⟩) (Kd.R_far (p := ⟨b, 13, none⟩) (Kd.R_far (p := ⟨b, 12, none⟩) (Kd.R_far (p := ⟨b, 11, none⟩) (Kd.R_types (Kd.R_types v.1 c.1 (by decide)) i.1 (by decide)) (fun _ hk => hk.1.2) (.slice ad O.length ae)) (fun _ hk => hk.1.2) (.int .i64 m)) (fun _ hk => hk.1.2) (.int .i64 n)) (fun _ hk => hk.1.2) (.int .i64 q)) (fun _ hk => hk.2) (.slice aj W.length ak)) (fun _ hk => hk.2) (.slice P B.length U)) (fun _ hk => hk.2) (.int .i64 x)) (fun _ hk => hk.2) (.slice Q D.length V)) (fun _ hk => hk.2) (.int .i64 E)) (fun _ hk => hk.2) (.slice J F.length L)) (fun _ hk => hk.2) (.int .i64 G)) (fun _ hk => hk.2) (.bool I)) (fun _ hk => hk.2) (.int .i64 s)) (fun _ hk => hk.2) (.int .i64 t)) (fun _ hk => hk.2) (.slice K A.length M)) (fun _ hk => hk.2) (.slice ad O.length ae)) (fun _ hk => hk.2) (.int .i64 m)) (fun _ hk => hk.2) (.int .i64 n)) (fun _ hk => hk.2) (.int .i64 q)) (fun _ hk => ⟨hk.1.1.1.2, hk.1.1.2⟩), by (with_reducible repeat (first | apply Kd.R_alloc | apply Kd.R_drewN | apply Kd.R_drew)); exact Kd.R_mono (Kd.R_far (p := ⟨a, 14, none⟩) (Kd.R_far (p := ⟨a, 13, none⟩) (Kd.R_far (p := ⟨a, 12, none⟩) (Kd.R_far (p := ⟨a, 11, none⟩) (Kd.R_far (p := ⟨a, 10, none⟩) (Kd.R_far (p := ⟨a, 9, none⟩) (Kd.R_far (p := ⟨a, 8, none⟩) (Kd.R_far (p := ⟨a, 7, none⟩) (Kd.R_far (p := ⟨a, 6, none⟩) (Kd.R_far (p := ⟨a, 5, none⟩) (Kd.R_far (p := ⟨a, 4, none⟩) (Kd.R_far (p := ⟨a, 3, none⟩) (Kd.R_far (p := ⟨a, 2, none⟩) (Kd.R_far (p := ⟨a, 1, none⟩) (Kd.R_far (p := ⟨a, 0, none⟩) (Kd.R_far (p := ⟨b, 14, none⟩) (Kd.R_far (p := ⟨b, 13, none⟩) (Kd.R_far (p := ⟨b, 12, none⟩) (Kd.R_far (p := ⟨b, 11, none⟩) (Kd.R_types (Kd.R_types T.1 c.1 (by decide)) i.1 (by decide)) (fun _ hk => hk.1.2) (.slice ad O.length ae)) (fun _ hk => hk.1.2) (.int .i64 m)) (fun _ hk => hk.1.2) (.int .i64 n)) (fun _ hk => hk.1.2) (.int .i64 q)) (fun _ hk => hk.2) (.slice aj W.length ak)) (fun _ hk => hk.2) (.slice P B.length U)) (fun _ hk => hk.2) (.int .i64 x)) (fun _ hk => hk.2) (.slice Q D.length V)) (fun _ hk => hk.2) (.int .i64 E)) (fun _ hk => hk.2) (.slice J F.length L)) (fun _ hk => hk.2) (.int .i64 G)) (fun _ hk => hk.2) (.bool I)) (fun _ hk => hk.2) (.int .i64 s)) (fun _ hk => hk.2) (.int .i64 t)) (fun _ hk => hk.2) (.slice K A.length M)) (fun _ hk => hk.2) (.slice ad O.length ae)) (fun _ hk => hk.2) (.int .i64 m)) (fun _ hk => hk.2) (.int .i64 n)) (fun _ hk => hk.2) (.int .i64 q)) (fun _ hk => ⟨hk.1.1.1.1.2, ⟨hk.1.1.1.2, hk.1.1.2⟩⟩), by (with_reducible repeat (first | apply Kd.R_alloc | apply Kd.R_drewN | apply Kd.R_drew)); exact Kd.R_mono (Kd.R_far (p := ⟨a, 14, none⟩) (Kd.R_far (p := ⟨a, 13, none⟩) (Kd.R_far (p := ⟨a, 12, none⟩) (Kd.R_far (p := ⟨a, 11, none⟩) (Kd.R_far (p := ⟨a, 10, none⟩) (Kd.R_far (p := ⟨a, 9, none⟩) (Kd.R_far (p := ⟨a, 8, none⟩) (Kd.R_far (p := ⟨a, 7, none⟩) (Kd.R_far (p := ⟨a, 6, none⟩) (Kd.R_far (p := ⟨a, 5, none⟩) (Kd.R_far (p := ⟨a, 4, none⟩) (Kd.R_far (p := ⟨a, 3, none⟩) (Kd.R_far (p := ⟨a, 2, none⟩) (Kd.R_far (p := ⟨a, 1, none⟩) (Kd.R_far (p := ⟨a, 0, none⟩) (Kd.R_far (p := ⟨b, 14, none⟩) (Kd.R_far (p := ⟨b, 13, none⟩) (Kd.R_far (p := ⟨b, 12, none⟩) (Kd.R_far (p := ⟨b, 11, none⟩) (Kd.R_types (Kd.R_types ab.1 c.1 (by decide)) i.1 (by decide)) (fun _ hk => hk.1.2) (.slice ad O.length ae)) (fun _ hk => hk.1.2) (.int .i64 m)) (fun _ hk => hk.1.2) (.int .i64 n)) (fun _ hk => hk.1.2) (.int .i64 q)) (fun _ hk => hk.2) (.slice aj W.length ak)) (fun _ hk => hk.2) (.slice P B.length U)) (fun _ hk => hk.2) (.int .i64 x)) (fun _ hk => hk.2) (.slice Q D.length V)) (fun _ hk => hk.2) (.int .i64 E)) (fun _ hk => hk.2) (.slice J F.length L)) (fun _ hk => hk.2) (.int .i64 G)) (fun _ hk => hk.2) (.bool I)) (fun _ hk => hk.2) (.int .i64 s)) (fun _ hk => hk.2) (.int .i64 t)) (fun _ hk => hk.2) (.slice K A.length M)) (fun _ hk => hk.2) (.slice ad O.length ae)) (fun _ hk => hk.2) (.int .i64 m)) (fun _ hk => hk.2) (.int .i64 n)) (fun _ hk => hk.2) (.int .i64 q)) (fun _ hk => ⟨hk.1.1.1.2, hk.1.1.2⟩), by (with_reducible repeat (first | apply Kd.S_alloc | apply Kd.S_drewN | apply Kd.S_drew)); exact Kd.S_mono (Kd.S_far (p := ⟨a, 14, none⟩) (Kd.S_far (p := ⟨a, 13, none⟩) (Kd.S_far (p := ⟨a, 12, none⟩) (Kd.S_far (p := ⟨a, 11, none⟩) (Kd.S_far (p := ⟨a, 10, none⟩) (Kd.S_far (p := ⟨a, 9, none⟩) (Kd.S_far (p := ⟨a, 8, none⟩) (Kd.S_far (p := ⟨a, 7, none⟩) (Kd.S_far (p := ⟨a, 6, none⟩) (Kd.S_far (p := ⟨a, 5, none⟩) (Kd.S_far (p := ⟨a, 4, none⟩) (Kd.S_far (p := ⟨a, 3, none⟩) (Kd.S_far (p := ⟨a, 2, none⟩) (Kd.S_far (p := ⟨a, 1, none⟩) (Kd.S_far (p := ⟨a, 0, none⟩) (Kd.S_far (p := ⟨b, 14, none⟩) (Kd.S_far (p := ⟨b, 13, none⟩) (Kd.S_far (p := ⟨b, 12, none⟩) (Kd.S_far (p := ⟨b, 11, none⟩) (Kd.S_types (Kd.S_types ay.1 c.1 (by decide)) i.1 (by decide)) (fun _ hk => hk.1.2) (.slice ad O.length ae)) (fun _ hk => hk.1.2) (.int .i64 m)) (fun _ hk => hk.1.2) (.int .i64 n)) (fun _ hk => hk.1.2) (.int .i64 q)) (fun _ hk => hk.2) (.slice aj W.length ak)) (fun _ hk => hk.2) (.slice P B.length U)) (fun _ hk => hk.2) (.int .i64 x)) (fun _ hk => hk.2) (.slice Q D.length V)) (fun _ hk => hk.2) (.int .i64 E)) (fun _ hk => hk.2) (.slice J F.length L)) (fun _ hk => hk.2) (.int .i64 G)) (fun _ hk => hk.2) (.bool I)) (fun _ hk => hk.2) (.int .i64 s)) (fun _ hk => hk.2) (.int .i64 t)) (fun _ hk => hk.2) (.slice K A.length M)) (fun _ hk => hk.2) (.slice ad O.length ae)) (fun _ hk => hk.2) (.int .i64 m)) (fun _ hk => hk.2) (.int .i64 n)) (fun _ hk => hk.2) (.int .i64 q)) (fun _ hk => ⟨hk.1.1.1.1.2, ⟨hk.1.1.1.2, hk.1.1.2⟩⟩), by (with_reducible repeat (first | apply Kd.S_alloc | apply Kd.S_drewN | apply Kd.S_drew)); exact Kd.S_mono (Kd.S_far (p := ⟨a, 14, none⟩) (Kd.S_far (p := ⟨a, 13, none⟩) (Kd.S_far (p := ⟨a, 12, none⟩) (Kd.S_far (p := ⟨a, 11, none⟩) (Kd.S_far (p := ⟨a, 10, none⟩) (Kd.S_far (p := ⟨a, 9, none⟩) (Kd.S_far (p := ⟨a, 8, none⟩) (Kd.S_far (p := ⟨a, 7, none⟩) (Kd.S_far (p := ⟨a, 6, none⟩) (Kd.S_far (p := ⟨a, 5, none⟩) (Kd.S_far (p := ⟨a, 4, none⟩) (Kd.S_far (p := ⟨a, 3, none⟩) (Kd.S_far (p := ⟨a, 2, none⟩) (Kd.S_far (p := ⟨a, 1, none⟩) (Kd.S_far (p := ⟨a, 0, none⟩) (Kd.S_far (p := ⟨b, 14, none⟩) (Kd.S_far (p := ⟨b, 13, none⟩) (Kd.S_far (p := ⟨b, 12, none⟩) (Kd.S_far (p := ⟨b, 11, none⟩) (Kd.S_types (Kd.S_types aJ.1 c.1 (by decide)) i.1 (by decide)) (fun _ hk => hk.1.2) (.slice ad O.length ae)) (fun _ hk => hk.1.2) (.int .i64 m)) (fun _ hk => hk.1.2) (.int .i64 n)) (fun _ hk => hk.1.2) (.int .i64 q)) (fun _ hk => hk.2) (.slice aj W.length ak)) (fun _ hk => hk.2) (.slice P B.length U)) (fun _ hk => hk.2) (.int .i64 x)) (fun _ hk => hk.2) (.slice Q D.length V)) (fun _ hk => hk.2) (.int .i64 E)) (fun _ hk => hk.2) (.slice J F.length L)) (fun _ hk => hk.2) (.int .i64 G)) (fun _ hk => hk.2) (.bool I)) (fun _ hk => hk.2) (.int .i64 s)) (fun _ hk => hk.2) (.int .i64 t)) (fun _ hk => hk.2) (.slice K A.length M)) (fun _ hk => hk.2) (.slice ad O.length ae)) (fun _ hk => hk.2) (.int .i64 m)) (fun _ hk => hk.2) (.int .i64 n)) (fun _ hk => hk.2) (.int .i64 q)) (fun _ hk => ⟨hk.1.1.1.1.2, ⟨hk.1.1.1.2, hk.1.1.2⟩⟩), pb3_ HB.1 j.1 r.1 u.1⟩

/-! ### slices_Equal_int_int: function 26 -/
def slices_Equal_int_int.l0 : Nat → List Int → List Int → Int → Int → Option (Bool)
 | 0, _, _, _, _ => none
 | k + 1, c, d, b, a => if a < b then (if 0 ≤ a then (if a < (c.length : Int) then (if a < (d.length : Int) then (if (rd c a) = (rd d a) then (slices_Equal_int_int.l0 k c d b (wrap64 (a + 1))) else (some false)) else (none)) else (none)) else (none)) else (some true)
def slices_Equal_int_int.f (k : Nat) (a : List Int) (b : List Int) : Option (Bool) := if (a.length : Int) = (b.length : Int) then (slices_Equal_int_int.l0 k a b (a.length : Int) 0) else (some false)
theorem slices_Equal_int_int.mono_l : ∀ k, (∀ a b c d, LeO (slices_Equal_int_int.l0 k a b c d) (slices_Equal_int_int.l0 (k + 1) a b c d))
 | 0 => fun _ _ _ _ r h => by simp [slices_Equal_int_int.l0] at h
 | k + 1 => by
  have ih0 := slices_Equal_int_int.mono_l k
  ·intro a b c d
   unfold slices_Equal_int_int.l0
   exact mo1_ ih0
theorem slices_Equal_int_int.mono : ∀ a b k, LeO (slices_Equal_int_int.f k a b) (slices_Equal_int_int.f (k + 1) a b) := by
 intro a b k
 have ih0 := slices_Equal_int_int.mono_l k
 unfold slices_Equal_int_int.f
 exact mo1_ ih0
theorem slices_Equal_int_int.calls (k : Nat) (N : Option Addr) (P : Nat) (b : List Int) (O : Option Addr) (Q : Nat) (c : List Int) (r : Bool) (w : World) (hr0 : Kd.C (Kd.int .i64) w N b.length b) (G : b.length ≤ P) (hr1 : Kd.C (Kd.int .i64) w O c.length c) (I : c.length ≤ Q) (h : slices_Equal_int_int.f k b c = some r) :
  Calls Try.prog 26 #[.slice N b.length P, .slice O c.length Q] w fun e w' => e = .returned (.bool r) ∧ Drawn0 w w' := by
 have x := Q_ hr0
 have U := Q_ G
 clear hr0 G
 have y := Q_ hr1
 have V := Q_ I
 clear hr1 I
 have H : (if (b.length : Int) = (c.length : Int) then (slices_Equal_int_int.l0 k b c (b.length : Int) 0) else (some false)) = some r := h
 clear h
 by_cases l : (b.length : Int) = (c.length : Int)
 rotate_left
 ·rw [if_neg l] at H
  have z : ((b.length : Int) == (c.length : Int)) = false := beq_eq_false_iff_ne.mpr l
  have A : ((b.length : Int) != (c.length : Int)) = true := bne_iff_ne.mpr l
  have B : (b.length == c.length) = false := by first | simpa using l | (simp at l ⊢; omega)
  obtain rfl := Option.some.inj H
  go_enter Try.func26, Try.ntmps26
  go_wp2
  repeat (go_quiet (fail); try go_wp2)
  go_ret
  exact ⟨by first | rfl | (simp; done) | (simp [*]; done), by repeat (first | exact Drawn0.refl _ | apply Drawn0.step)⟩
 rw [if_pos l] at H
 have z : ((b.length : Int) == (c.length : Int)) = true := beq_iff_eq.mpr l
 have A : ((b.length : Int) != (c.length : Int)) = false := bne_eq_false_iff_eq.mpr l
 have B : (b.length == c.length) = true := by first | simpa using l | (simp at l ⊢; omega)
 clear l
 have H' := Q_ H
 clear H
 go_enter Try.func26, Try.ntmps26
 go_wp2
 repeat (go_quiet (fail); try go_wp2)
 go_loopg [13] k (fun kq M w' => ∃ (a : Int), M = .int .i64 a ∧ Aside0 (slices_Equal_int_int.l0 kq b c (b.length : Int) a = some r) ∧ Aside0 (kq ≤ k) ∧ Drawn0 w w')
 case atStart => exact ⟨(0), el_, H', ⟨Nat.le_refl _⟩, by repeat (first | exact Drawn0.refl _ | apply Drawn0.step)⟩
 clear H'
 obtain ⟨a, rfl, HA, v, ⟨m1, rfl⟩⟩ := hrel
 rcases gk with _ | k1
 ·exact absurd HA.1 (by simp [slices_Equal_int_int.l0])
 have H := HA.1
 clear HA
 simp only [slices_Equal_int_int.l0] at H
 by_cases u : a < (b.length : Int)
 rotate_left
 ·rw [if_neg u] at H
  have D := decide_eq_false u
  clear u
  obtain rfl := Option.some.inj H
  go_wp2
  repeat (go_quiet (fail); try go_wp2)
  go_ret
  exact ⟨by first | rfl | (simp; done) | (simp [*]; done), by repeat (first | exact Drawn0.refl _ | apply Drawn0.step)⟩
 rw [if_pos u] at H
 have D := decide_eq_true u
 clear u
 by_cases J : 0 ≤ a
 rotate_left
 ·rw [if_neg J] at H
  exact nn_ H
 rw [if_pos J] at H
 have R := decide_eq_true J
 clear J
 by_cases K : a < (b.length : Int)
 rotate_left
 ·rw [if_neg K] at H
  exact nn_ H
 rw [if_pos K] at H
 have S := decide_eq_true K
 clear K
 by_cases L : a < (c.length : Int)
 rotate_left
 ·rw [if_neg L] at H
  exact nn_ H
 rw [if_pos L] at H
 have T := decide_eq_true L
 clear L
 by_cases t : (rd b a) = (rd c a)
 rotate_left
 ·rw [if_neg t] at H
  have E : ((rd b a) == (rd c a)) = false := beq_eq_false_iff_ne.mpr t
  have F : ((rd b a) != (rd c a)) = true := bne_iff_ne.mpr t
  obtain rfl := Option.some.inj H
  have d : 0 ≤ (a : Int) := dt_
  have i : a < (b.length : Int) := dt_
  obtain ⟨q, m, o⟩ := Kd.at_int x.1 a d i
  cases m
  replace d := eq_true d
  replace i := eq_true i
  have g : 0 ≤ (a : Int) := dt_
  have j : a < (c.length : Int) := dt_
  obtain ⟨s, n, p⟩ := Kd.at_int y.1 a g j
  cases n
  replace g := eq_true g
  replace j := eq_true j
  go_wp2
  repeat (go_quiet (fail); try go_wp2)
  go_ret
  exact ⟨by first | rfl | (simp; done) | (simp [*]; done), by repeat (first | exact Drawn0.refl _ | apply Drawn0.step)⟩
 rw [if_pos t] at H
 have E : ((rd b a) == (rd c a)) = true := beq_iff_eq.mpr t
 have F : ((rd b a) != (rd c a)) = false := bne_eq_false_iff_eq.mpr t
 clear t
 have H' := Q_ H
 clear H
 have d : 0 ≤ (a : Int) := dt_
 have i : a < (b.length : Int) := dt_
 obtain ⟨q, m, o⟩ := Kd.at_int x.1 a d i
 cases m
 replace d := eq_true d
 replace i := eq_true i
 have g : 0 ≤ (a : Int) := dt_
 have j : a < (c.length : Int) := dt_
 obtain ⟨s, n, p⟩ := Kd.at_int y.1 a g j
 cases n
 replace g := eq_true g
 replace j := eq_true j
 go_wp2
 repeat (go_quiet (fail); try go_wp2)
 go_roundg k1
 case measure => have := v.1; omega
 case rel => exact ⟨(wrap64 (a + 1)), el_, H', ⟨by have := v.1; omega⟩, by repeat (first | exact Drawn0.refl _ | apply Drawn0.step)⟩

/-! ### impl_EqualBoxes: function 67 -/
def impl_EqualBoxes.f (k : Nat) (b : Int) (e : List Int) (g : List Int) (c : Bool) (d : Int) (h : List Int) (i : List Int) (a : Bool) : Option (Bool) := if b = d then ((slices_Equal_int_int.f k e h).bind fun j => (if j = true then ((slices_Equal_int_int.f k g i).bind fun l => (if l = true then (if c = true then (if a = true then (some true) else (some false)) else (if a = true then (some false) else (some true))) else (some false))) else (some false))) else (some false)
theorem impl_EqualBoxes.mono : ∀ a b c d e g h i k, LeO (impl_EqualBoxes.f k a b c d e g h i) (impl_EqualBoxes.f (k + 1) a b c d e g h i) := by
 intro a b c d e g h i k
 unfold impl_EqualBoxes.f
 exact mo1_ slices_Equal_int_int.mono
theorem impl_EqualBoxes.calls (k : Nat) (o : Int) (F : Option Addr) (L : Nat) (i : List Int) (G : Option Addr) (M : Nat) (l : List Int) (B : Bool) (p : Int) (J : Option Addr) (O : Nat) (j : List Int) (K : Option Addr) (P : Nat) (m : List Int) (A : Bool) (r : Bool) (w : World) (hr0_1 : Kd.C (Kd.int .i64) w F i.length i) (Q : i.length ≤ L) (hr0_2 : Kd.C (Kd.int .i64) w G l.length l) (R : l.length ≤ M) (hr1_1 : Kd.C (Kd.int .i64) w J j.length j) (S : j.length ≤ O) (hr1_2 : Kd.C (Kd.int .i64) w K m.length m) (T : m.length ≤ P) (h : impl_EqualBoxes.f k o i l B p j m A = some r) :
  Calls Try.prog 67 #[.agg #[.int .i64 o, .slice F i.length L, .slice G l.length M, .bool B], .agg #[.int .i64 p, .slice J j.length O, .slice K m.length P, .bool A]] w fun e w' => e = .returned (.bool r) ∧ Below w.heap.size w w' := by
 have hu95 := Try.underlying95
 have t := Q_ hr0_1
 have q := Q_ Q
 clear hr0_1 Q
 have y := Q_ hr0_2
 have v := Q_ R
 clear hr0_2 R
 have u := Q_ hr1_1
 have s := Q_ S
 clear hr1_1 S
 have z := Q_ hr1_2
 have x := Q_ T
 clear hr1_2 T
 have HB := Q_ (Below.refl w.heap.size w)
 have H : (if o = p then ((slices_Equal_int_int.f k i j).bind fun U => (if U = true then ((slices_Equal_int_int.f k l m).bind fun V => (if V = true then (if B = true then (if A = true then (some true) else (some false)) else (if A = true then (some false) else (some true))) else (some false))) else (some false))) else (some false)) = some r := h
 clear h
 have HS_ := Q_ H
 clear H
 go_enter Try.func67, Try.ntmps67
 go_upto_region 1 with (first | ((with_reducible refine gate_dst (N := 2) rfl ?_); refine bx_ 2 #[.int .i64 o, .slice F i.length L, .slice G l.length M, .bool B] 95 ?_; intro af hg w3 hbox hb; have _ := Q_ (below_step (pb_ HB.1) hb); have g := Q_ (hbox); have ab := Q_ (gw_ (w := w) hg (pb_ HB.1)); have a := ab; clear HB; rename_i HB; clear hb hbox hg) | ((with_reducible refine gate_dst (N := 3) rfl ?_); refine bx_ 3 #[.int .i64 p, .slice J j.length O, .slice K m.length P, .bool A] 95 ?_; intro ag hg w4 hbox hb; have _ := Q_ (bb_ g.1 hb); have _ := Q_ (below_step (pb1_ HB.1 a.1) hb); have n := Q_ (hbox); have ac := Q_ (gw_ (w := w) hg (pb1_ HB.1 a.1)); have b := ac; have c := Q_ (nb_ hg g); have d := Q_ c.1.symm; clear g HB; rename_i g HB; clear hb hbox hg))
 (try simp only [Act.put, s1_, s2_, s3_])
 have H := HS_.1
 clear HS_
 by_cases c5 : o = p
 rotate_left
 ·rw [if_neg c5] at H
  have D : (o == p) = false := beq_eq_false_iff_ne.mpr c5
  have E : (o != p) = true := bne_iff_ne.mpr c5
  (first | rw [D] | (simp only [i64_w, i32_w]; rw [D]) | rw [E] | (have c_ := E; rw [bne] at c_; rw [c_]; clear c_) | skip)
  obtain rfl := Option.some.inj H
  have aJ := c.1
  have aK := d.1
  have aH := bc4_ g.1
  have aI := bc4_ n.1
  go_wp2
  go_ret
  exact ⟨er_, pb2_ HB.1 a.1 b.1⟩
 rw [if_pos c5] at H
 have D : (o == p) = true := beq_iff_eq.mpr c5
 have E : (o != p) = false := bne_eq_false_iff_eq.mpr c5
 clear c5
 (first | rw [D] | (simp only [i64_w, i32_w]; rw [D]) | rw [E] | (have c_ := E; rw [bne] at c_; rw [c_]; clear c_) | skip)
 obtain ⟨U, A9, H⟩ := bs_ H
 (try dsimp only at H)
 by_cases W : U = true
 rotate_left
 ·replace W := bf_ W
  subst W
  rw [if_neg ff_] at H
  obtain rfl := Option.some.inj H
  have av := c.1
  have aB := d.1
  have ah := bc4_ g.1
  have ai := bc4_ n.1
  go_wp2_with (first | (go_at_call 26; (with_reducible refine (slices_Equal_int_int.calls k _ _ i _ _ j false _ (cb_ t HB) q.1 (cb_ u HB) s.1 A9.1).mono ?_); rintro e w' ⟨rfl, ⟨nd, rfl⟩⟩))
  go_ret
  exact ⟨er_, pb2_ HB.1 a.1 b.1⟩
 subst W
 rw [if_pos rfl] at H
 obtain ⟨V, I, H⟩ := bs_ H
 (try dsimp only at H)
 by_cases X : V = true
 rotate_left
 ·replace X := bf_ X
  subst X
  rw [if_neg ff_] at H
  obtain rfl := Option.some.inj H
  have aw := c.1
  have aC := d.1
  have aj := bc4_ g.1
  have ak := bc4_ n.1
  go_wp2_with (first | (go_at_call 26; (with_reducible refine (slices_Equal_int_int.calls k _ _ i _ _ j true _ (cb_ t HB) q.1 (cb_ u HB) s.1 A9.1).mono ?_); rintro e w' ⟨rfl, ⟨nd, rfl⟩⟩) | (go_at_call 26; (with_reducible refine (slices_Equal_int_int.calls k _ _ l _ _ m false _ ?side1 v.1 ?side3 x.1 I.1).mono ?_); (case side1 => exact pc_ (Kd.C_below y.1 (pb2_ HB.1 a.1 b.1))); (case side3 => exact pc_ (Kd.C_below z.1 (pb2_ HB.1 a.1 b.1))); rintro e w' ⟨rfl, ⟨nd, rfl⟩⟩))
  go_ret
  exact ⟨er_, pb2_ HB.1 a.1 b.1⟩
 subst X
 rw [if_pos rfl] at H
 by_cases Y : B = true
 rotate_left
 ·replace Y := bf_ Y
  subst Y
  rw [if_neg ff_] at H
  by_cases Z : A = true
  rotate_left
  ·replace Z := bf_ Z
   subst Z
   rw [if_neg ff_] at H
   obtain rfl := Option.some.inj H
   have ax := c.1
   have aD := d.1
   have al := bc4_ g.1
   have am := bc4_ n.1
   go_wp2_with (first | (go_at_call 26; (with_reducible refine (slices_Equal_int_int.calls k _ _ i _ _ j true _ (cb_ t HB) q.1 (cb_ u HB) s.1 A9.1).mono ?_); rintro e w' ⟨rfl, ⟨nd, rfl⟩⟩) | (go_at_call 26; (with_reducible refine (slices_Equal_int_int.calls k _ _ l _ _ m true _ ?side1 v.1 ?side3 x.1 I.1).mono ?_); (case side1 => exact pc_ (Kd.C_below y.1 (pb2_ HB.1 a.1 b.1))); (case side3 => exact pc_ (Kd.C_below z.1 (pb2_ HB.1 a.1 b.1))); rintro e w' ⟨rfl, ⟨nd, rfl⟩⟩))
   go_ret
   exact ⟨er_, pb2_ HB.1 a.1 b.1⟩
  subst Z
  rw [if_pos rfl] at H
  obtain rfl := Option.some.inj H
  have ay := c.1
  have aE := d.1
  have an := bc4_ g.1
  have ao := bc4_ n.1
  go_wp2_with (first | (go_at_call 26; (with_reducible refine (slices_Equal_int_int.calls k _ _ i _ _ j true _ (cb_ t HB) q.1 (cb_ u HB) s.1 A9.1).mono ?_); rintro e w' ⟨rfl, ⟨nd, rfl⟩⟩) | (go_at_call 26; (with_reducible refine (slices_Equal_int_int.calls k _ _ l _ _ m true _ ?side1 v.1 ?side3 x.1 I.1).mono ?_); (case side1 => exact pc_ (Kd.C_below y.1 (pb2_ HB.1 a.1 b.1))); (case side3 => exact pc_ (Kd.C_below z.1 (pb2_ HB.1 a.1 b.1))); rintro e w' ⟨rfl, ⟨nd, rfl⟩⟩))
  go_ret
  exact ⟨er_, pb2_ HB.1 a.1 b.1⟩
 subst Y
 rw [if_pos rfl] at H
 by_cases aa : A = true
 rotate_left
 ·replace aa := bf_ aa
  subst aa
  rw [if_neg ff_] at H
  obtain rfl := Option.some.inj H
  have az := c.1
  have aF := d.1
  have ap := bc4_ g.1
  have aq := bc4_ n.1
  go_wp2_with (first | (go_at_call 26; (with_reducible refine (slices_Equal_int_int.calls k _ _ i _ _ j true _ (cb_ t HB) q.1 (cb_ u HB) s.1 A9.1).mono ?_); rintro e w' ⟨rfl, ⟨nd, rfl⟩⟩) | (go_at_call 26; (with_reducible refine (slices_Equal_int_int.calls k _ _ l _ _ m true _ ?side1 v.1 ?side3 x.1 I.1).mono ?_); (case side1 => exact pc_ (Kd.C_below y.1 (pb2_ HB.1 a.1 b.1))); (case side3 => exact pc_ (Kd.C_below z.1 (pb2_ HB.1 a.1 b.1))); rintro e w' ⟨rfl, ⟨nd, rfl⟩⟩))
  go_ret
  exact ⟨er_, pb2_ HB.1 a.1 b.1⟩
 subst aa
 rw [if_pos rfl] at H
 obtain rfl := Option.some.inj H
 have aA := c.1
 have aG := d.1
 have ar := bc4_ g.1
 have au := bc4_ n.1
 go_wp2_with (first | (go_at_call 26; (with_reducible refine (slices_Equal_int_int.calls k _ _ i _ _ j true _ (cb_ t HB) q.1 (cb_ u HB) s.1 A9.1).mono ?_); rintro e w' ⟨rfl, ⟨nd, rfl⟩⟩) | (go_at_call 26; (with_reducible refine (slices_Equal_int_int.calls k _ _ l _ _ m true _ ?side1 v.1 ?side3 x.1 I.1).mono ?_); (case side1 => exact pc_ (Kd.C_below y.1 (pb2_ HB.1 a.1 b.1))); (case side3 => exact pc_ (Kd.C_below z.1 (pb2_ HB.1 a.1 b.1))); rintro e w' ⟨rfl, ⟨nd, rfl⟩⟩))
 go_ret
 exact ⟨er_, pb2_ HB.1 a.1 b.1⟩

/-! ### slices_EqualFunc_impl_Box_impl_Box_impl_Box_impl_Box_with_impl_EqualBoxes: function 100000 -/
def slices_EqualFunc_impl_Box_impl_Box_impl_Box_impl_Box_with_impl_EqualBoxes.l0 : Nat → List (S95) → List (S95) → Int → Int → Option (Bool)
 | 0, _, _, _, _ => none
 | k + 1, c, b, e, a => if a < e then (if 0 ≤ a then (if a < (b.length : Int) then (if a < (c.length : Int) then ((impl_EqualBoxes.f k ((rd_T95 b a).f0) ((rd_T95 b a).f1) ((rd_T95 b a).f2) ((rd_T95 b a).f3) ((rd_T95 c a).f0) ((rd_T95 c a).f1) ((rd_T95 c a).f2) ((rd_T95 c a).f3)).bind fun d => (if d = true then (slices_EqualFunc_impl_Box_impl_Box_impl_Box_impl_Box_with_impl_EqualBoxes.l0 k c b e (wrap64 (a + 1))) else (some false))) else (none)) else (none)) else (none)) else (some true)
def slices_EqualFunc_impl_Box_impl_Box_impl_Box_impl_Box_with_impl_EqualBoxes.f (k : Nat) (a : List (S95)) (b : List (S95)) : Option (Bool) := if (a.length : Int) = (b.length : Int) then (slices_EqualFunc_impl_Box_impl_Box_impl_Box_impl_Box_with_impl_EqualBoxes.l0 k b a (a.length : Int) 0) else (some false)
theorem slices_EqualFunc_impl_Box_impl_Box_impl_Box_impl_Box_with_impl_EqualBoxes.mono_l : ∀ k, (∀ a b c d, LeO (slices_EqualFunc_impl_Box_impl_Box_impl_Box_impl_Box_with_impl_EqualBoxes.l0 k a b c d) (slices_EqualFunc_impl_Box_impl_Box_impl_Box_impl_Box_with_impl_EqualBoxes.l0 (k + 1) a b c d))
 | 0 => fun _ _ _ _ r h => by simp [slices_EqualFunc_impl_Box_impl_Box_impl_Box_impl_Box_with_impl_EqualBoxes.l0] at h
 | k + 1 => by
  have ih0 := slices_EqualFunc_impl_Box_impl_Box_impl_Box_impl_Box_with_impl_EqualBoxes.mono_l k
  ·intro a b c d
   unfold slices_EqualFunc_impl_Box_impl_Box_impl_Box_impl_Box_with_impl_EqualBoxes.l0
   exact mo2_ ih0 impl_EqualBoxes.mono
theorem slices_EqualFunc_impl_Box_impl_Box_impl_Box_impl_Box_with_impl_EqualBoxes.mono : ∀ a b k, LeO (slices_EqualFunc_impl_Box_impl_Box_impl_Box_impl_Box_with_impl_EqualBoxes.f k a b) (slices_EqualFunc_impl_Box_impl_Box_impl_Box_impl_Box_with_impl_EqualBoxes.f (k + 1) a b) := by
 intro a b k
 have ih0 := slices_EqualFunc_impl_Box_impl_Box_impl_Box_impl_Box_with_impl_EqualBoxes.mono_l k
 unfold slices_EqualFunc_impl_Box_impl_Box_impl_Box_impl_Box_with_impl_EqualBoxes.f
 exact mo2_ ih0 impl_EqualBoxes.mono
theorem slices_EqualFunc_impl_Box_impl_Box_impl_Box_impl_Box_with_impl_EqualBoxes.calls (k : Nat) (A0 : Option Addr) (c0 : Nat) (s : List (S95)) (A1 : Option Addr) (c1 : Nat) (D : List (S95)) (r : Bool) (w : World) (hr0 : Kd.C k95 w A0 s.length s) (au : s.length ≤ c0) (hr1 : Kd.C k95 w A1 D.length D) (av : D.length ≤ c1) (h : slices_EqualFunc_impl_Box_impl_Box_impl_Box_impl_Box_with_impl_EqualBoxes.f k s D = some r) :
  Calls Try.prog 66 #[.slice A0 s.length c0, .slice A1 D.length c1, .func (.func 67) #[] #[]] w fun e w' => e = .returned (.bool r) ∧ Below w.heap.size w w' := by
 have hu95 := Try.underlying95
 have aA := Q_ hr0
 have aS := Q_ au
 clear hr0 au
 have aB := Q_ hr1
 have aT := Q_ av
 clear hr1 av
 have HB := Q_ (Below.refl w.heap.size w)
 have H : (if (s.length : Int) = (D.length : Int) then (slices_EqualFunc_impl_Box_impl_Box_impl_Box_impl_Box_with_impl_EqualBoxes.l0 k D s (s.length : Int) 0) else (some false)) = some r := h
 clear h
 by_cases W : (s.length : Int) = (D.length : Int)
 rotate_left
 ·rw [if_neg W] at H
  have am : ((s.length : Int) == (D.length : Int)) = false := beq_eq_false_iff_ne.mpr W
  have an : ((s.length : Int) != (D.length : Int)) = true := bne_iff_ne.mpr W
  have ao : (s.length == D.length) = false := by first | simpa using W | (simp at W ⊢; omega)
  obtain rfl := Option.some.inj H
  go_enter Try.func66, Try.ntmps66
  (try simp only [Bool.not_false, Bool.not_true])
  go_wp2
  go_ret
  exact ⟨er_, pb_ HB.1⟩
 rw [if_pos W] at H
 have am : ((s.length : Int) == (D.length : Int)) = true := beq_iff_eq.mpr W
 have an : ((s.length : Int) != (D.length : Int)) = false := bne_eq_false_iff_eq.mpr W
 have ao : (s.length == D.length) = true := by first | simpa using W | (simp at W ⊢; omega)
 clear W
 have H' := Q_ H
 clear H
 go_enter Try.func66, Try.ntmps66
 (try simp only [Bool.not_false, Bool.not_true])
 go_wp2
 go_loopg [17] k (fun kq aK w' => ∃ (a : Int), aK = .int .i64 a ∧ Aside0 (slices_EqualFunc_impl_Box_impl_Box_impl_Box_impl_Box_with_impl_EqualBoxes.l0 kq D s (s.length : Int) a = some r) ∧ Aside0 (kq ≤ k) ∧ Aside0 (Below w.heap.size w w'))
 case atStart => exact ⟨(0), el_, H', ⟨Nat.le_refl _⟩, ⟨pb_ HB.1⟩⟩
 clear H'
 obtain ⟨a, rfl, HA, al, HB⟩ := hrel
 rcases gk with _ | k1
 ·exact absurd HA.1 (by simp [slices_EqualFunc_impl_Box_impl_Box_impl_Box_impl_Box_with_impl_EqualBoxes.l0])
 have H := HA.1
 clear HA
 simp only [slices_EqualFunc_impl_Box_impl_Box_impl_Box_impl_Box_with_impl_EqualBoxes.l0] at H
 by_cases c4 : a < (s.length : Int)
 rotate_left
 ·rw [if_neg c4] at H
  have ap := decide_eq_false c4
  clear c4
  obtain rfl := Option.some.inj H
  (try simp only [Bool.not_false, Bool.not_true])
  go_wp2
  go_ret
  exact ⟨er_, pb_ HB.1⟩
 rw [if_pos c4] at H
 have ap := decide_eq_true c4
 clear c4
 by_cases c5 : 0 ≤ a
 rotate_left
 ·rw [if_neg c5] at H
  exact nn_ H
 rw [if_pos c5] at H
 have aP := decide_eq_true c5
 clear c5
 by_cases c6 : a < (s.length : Int)
 rotate_left
 ·rw [if_neg c6] at H
  exact nn_ H
 rw [if_pos c6] at H
 have aQ := decide_eq_true c6
 clear c6
 have HS_ := Q_ H
 clear H
 have Y : 0 ≤ (a : Int) := dt_
 have aa : a < (s.length : Int) := dt_
 obtain ⟨aC, t, y, u, z, aq, J, K, L, M, O, S, P, T⟩ := at_U95 aA.1 a Y aa
 cases aq
 replace J := bt_ HB J
 replace K := bt_ HB K
 replace L := bt_ HB L
 replace M := bt_ HB M
 replace Y := eq_true Y
 replace aa := eq_true aa
 go_upto_region 6 with (first | ((with_reducible refine gate_dst (N := 8) rfl ?_); refine bx_ 8 #[.int .i64 0, .slice none 0 0, .slice none 0 0, .bool false] 95 ?_; intro b hg w7 hbox hb; have _ := Q_ (below_step (pb_ HB.1) hb); have v := Q_ (hbox); have F := Q_ (gw_ (w := w) hg (pb_ HB.1)); have x := F; clear HB; rename_i HB; clear hb hbox hg; have aR := bc4_ v.1))
 (try simp only [Act.put, s1_, s2_, s3_])
 have H := HS_.1
 clear HS_
 by_cases c9 : a < (D.length : Int)
 rotate_left
 ·rw [if_neg c9] at H
  exact nn_ H
 rw [if_pos c9] at H
 have ah := decide_eq_true c9
 clear c9
 (first | rw [ah] | (simp only [i64_w, i32_w]; rw [ah]) | skip)
 have HS_ := Q_ H
 clear H
 have Z : 0 ≤ (a : Int) := dt_
 have ab : a < (D.length : Int) := dt_
 obtain ⟨I, ac, af, ad, ag, ar, c, m, n, q, Q, U, R, V⟩ := at_U95 aB.1 a Z ab
 cases ar
 have d : I.block ≠ b := Nat.ne_of_lt (Nat.lt_of_lt_of_le (by have := World.block_lt_of_cell? _ _ c; first | rwa [add_block] at this | exact this) F.1)
 have i : I.block ≠ b := Nat.ne_of_lt (Nat.lt_of_lt_of_le (by have := World.block_lt_of_cell? _ _ c; first | rwa [add_block] at this | exact this) F.1)
 have j : I.block ≠ b := Nat.ne_of_lt (Nat.lt_of_lt_of_le (by have := World.block_lt_of_cell? _ _ c; first | rwa [add_block] at this | exact this) F.1)
 have l : I.block ≠ b := Nat.ne_of_lt (Nat.lt_of_lt_of_le (by have := World.block_lt_of_cell? _ _ c; first | rwa [add_block] at this | exact this) F.1)
 replace c := bt_ HB c
 replace m := bt_ HB m
 replace n := bt_ HB n
 replace q := bt_ HB q
 replace c := (cell_far (p := ⟨b, 0, none⟩) (by first | (rw [add_block]; exact d) | (show (Addr.add _ _).block ≠ _; rw [add_block]; exact d) | exact d) (.int .i64 ((rd_T95 s a).f0))).trans c
 replace m := (cell_far (p := ⟨b, 0, none⟩) (by first | (rw [add_block]; exact d) | (show (Addr.add _ _).block ≠ _; rw [add_block]; exact d) | exact d) (.int .i64 ((rd_T95 s a).f0))).trans m
 replace n := (cell_far (p := ⟨b, 0, none⟩) (by first | (rw [add_block]; exact d) | (show (Addr.add _ _).block ≠ _; rw [add_block]; exact d) | exact d) (.int .i64 ((rd_T95 s a).f0))).trans n
 replace q := (cell_far (p := ⟨b, 0, none⟩) (by first | (rw [add_block]; exact d) | (show (Addr.add _ _).block ≠ _; rw [add_block]; exact d) | exact d) (.int .i64 ((rd_T95 s a).f0))).trans q
 replace c := (cell_far (p := ⟨b, 1, none⟩) (by first | (rw [add_block]; exact i) | (show (Addr.add _ _).block ≠ _; rw [add_block]; exact i) | exact i) (.slice t ((rd_T95 s a).f1).length y)).trans c
 replace m := (cell_far (p := ⟨b, 1, none⟩) (by first | (rw [add_block]; exact i) | (show (Addr.add _ _).block ≠ _; rw [add_block]; exact i) | exact i) (.slice t ((rd_T95 s a).f1).length y)).trans m
 replace n := (cell_far (p := ⟨b, 1, none⟩) (by first | (rw [add_block]; exact i) | (show (Addr.add _ _).block ≠ _; rw [add_block]; exact i) | exact i) (.slice t ((rd_T95 s a).f1).length y)).trans n
 replace q := (cell_far (p := ⟨b, 1, none⟩) (by first | (rw [add_block]; exact i) | (show (Addr.add _ _).block ≠ _; rw [add_block]; exact i) | exact i) (.slice t ((rd_T95 s a).f1).length y)).trans q
 replace c := (cell_far (p := ⟨b, 2, none⟩) (by first | (rw [add_block]; exact j) | (show (Addr.add _ _).block ≠ _; rw [add_block]; exact j) | exact j) (.slice u ((rd_T95 s a).f2).length z)).trans c
 replace m := (cell_far (p := ⟨b, 2, none⟩) (by first | (rw [add_block]; exact j) | (show (Addr.add _ _).block ≠ _; rw [add_block]; exact j) | exact j) (.slice u ((rd_T95 s a).f2).length z)).trans m
 replace n := (cell_far (p := ⟨b, 2, none⟩) (by first | (rw [add_block]; exact j) | (show (Addr.add _ _).block ≠ _; rw [add_block]; exact j) | exact j) (.slice u ((rd_T95 s a).f2).length z)).trans n
 replace q := (cell_far (p := ⟨b, 2, none⟩) (by first | (rw [add_block]; exact j) | (show (Addr.add _ _).block ≠ _; rw [add_block]; exact j) | exact j) (.slice u ((rd_T95 s a).f2).length z)).trans q
 replace c := (cell_far (p := ⟨b, 3, none⟩) (by first | (rw [add_block]; exact l) | (show (Addr.add _ _).block ≠ _; rw [add_block]; exact l) | exact l) (.bool ((rd_T95 s a).f3))).trans c
 replace m := (cell_far (p := ⟨b, 3, none⟩) (by first | (rw [add_block]; exact l) | (show (Addr.add _ _).block ≠ _; rw [add_block]; exact l) | exact l) (.bool ((rd_T95 s a).f3))).trans m
 replace n := (cell_far (p := ⟨b, 3, none⟩) (by first | (rw [add_block]; exact l) | (show (Addr.add _ _).block ≠ _; rw [add_block]; exact l) | exact l) (.bool ((rd_T95 s a).f3))).trans n
 replace q := (cell_far (p := ⟨b, 3, none⟩) (by first | (rw [add_block]; exact l) | (show (Addr.add _ _).block ≠ _; rw [add_block]; exact l) | exact l) (.bool ((rd_T95 s a).f3))).trans q
 clear d
 clear i
 clear j
 clear l
 replace Z := eq_true Z
 replace ab := eq_true ab
 go_upto_region 7 with (first | ((with_reducible refine gate_dst (N := 9) rfl ?_); refine bx_ 9 #[.int .i64 0, .slice none 0 0, .slice none 0 0, .bool false] 95 ?_; intro X hg aU hbox hb; have _ := Q_ (blk_below (g := b) (o := .cells #[.int .i64 ((rd_T95 s a).f0), .slice t ((rd_T95 s a).f1).length y, .slice u ((rd_T95 s a).f2).length z, .bool ((rd_T95 s a).f3)] 95 (0, 0)) (pp_ v.1) hb); have _ := Q_ (below_step (pb1_ HB.1 x.1) hb); have E := Q_ (hbox); have aj := Q_ (gw_ (w := w) hg (pb1_ HB.1 x.1)); have A := aj; have B := Q_ ((by rw [hg]; exact Nat.ne_of_lt (blk_lt (g := b) (o := .cells #[.int .i64 ((rd_T95 s a).f0), .slice t ((rd_T95 s a).f1).length y, .slice u ((rd_T95 s a).f2).length z, .bool ((rd_T95 s a).f3)] 95 (0, 0)) (pp_ v.1)) : b ≠ X)); have G := Q_ B.1.symm; clear v HB; rename_i v HB; clear hb hbox hg; have aG := G.1; have aI := B.1; have aD := bc4_ E.1))
 (try simp only [Act.put, s1_, s2_, s3_])
 have H := HS_.1
 clear HS_
 obtain ⟨ai, az, H⟩ := bs_ H
 (try dsimp only at H)
 have HS_ := Q_ H
 clear H
 have aH := B.1
 have aJ := G.1
 have aE := bc4_ v.1
 have aF := bc4_ E.1
 go_upto_if 30 with (first | (go_at_call 67; (with_reducible refine (impl_EqualBoxes.calls k1 ((rd_T95 s a).f0) _ _ ((rd_T95 s a).f1) _ _ ((rd_T95 s a).f2) ((rd_T95 s a).f3) ((rd_T95 D a).f0) _ _ ((rd_T95 D a).f1) _ _ ((rd_T95 D a).f2) ((rd_T95 D a).f3) ai _ ?side1 O.1 ?side3 P.1 ?side5 Q.1 ?side7 R.1 az.1).mono ?_); (case side1 => exact Kd.C_below S.1 (pb2_ HB.1 x.1 A.1)); (case side3 => exact Kd.C_below T.1 (pb2_ HB.1 x.1 A.1)); (case side5 => exact Kd.C_below U.1 (pb2_ HB.1 x.1 A.1)); (case side7 => exact Kd.C_below V.1 (pb2_ HB.1 x.1 A.1)); rintro e aV ⟨rfl, hb⟩; have _ := Q_ (blk_below (g := b) (o := .cells #[.int .i64 ((rd_T95 s a).f0), .slice t ((rd_T95 s a).f1).length y, .slice u ((rd_T95 s a).f2).length z, .bool ((rd_T95 s a).f3)] 95 (0, 0)) (pp_ v.1) hb); have _ := Q_ (blk_below (g := X) (o := .cells #[.int .i64 ((rd_T95 D a).f0), .slice ac ((rd_T95 D a).f1).length af, .slice ad ((rd_T95 D a).f2).length ag, .bool ((rd_T95 D a).f3)] 95 (0, 0)) (pp_ E.1) hb); have _ := Q_ (below_step (pb2_ HB.1 x.1 A.1) hb); clear v E HB; rename_i v E HB; (try clear hb)))
 (try simp only [Act.put, s1_, s2_, s3_])
 have H := HS_.1
 clear HS_
 by_cases ae : ai = true
 rotate_left
 ·replace ae := bf_ ae
  subst ae
  rw [if_neg ff_] at H
  obtain rfl := Option.some.inj H
  (try simp only [Bool.not_false, Bool.not_true])
  go_wp2
  go_ret
  exact ⟨er_, pb2_ HB.1 x.1 A.1⟩
 subst ae
 rw [if_pos rfl] at H
 have H' := Q_ H
 clear H
 (try simp only [Bool.not_false, Bool.not_true])
 go_wp2
 go_roundg k1
 case measure => have := al.1; omega
 case rel => exact ⟨(wrap64 (a + 1)), el_, H', ⟨by have := al.1; omega⟩, ⟨pb2_ HB.1 x.1 A.1⟩⟩

/-! ### impl_EqualEndpoints: function 28 -/
def impl_EqualEndpoints.f (k : Nat) (c : List Int) (d : List Int) (e : List (S95)) (a : Int) (g : List Int) (h : List Int) (i : List (S95)) (b : Int) : Option (Bool) := (slices_Equal_int_int.f k c g).bind fun j => (if j = true then ((slices_Equal_int_int.f k d h).bind fun l => (if l = true then ((slices_EqualFunc_impl_Box_impl_Box_impl_Box_impl_Box_with_impl_EqualBoxes.f k e i).bind fun m => (if m = true then (some (a == b)) else (some false))) else (some false))) else (some false))
theorem impl_EqualEndpoints.mono : ∀ a b c d e g h i k, LeO (impl_EqualEndpoints.f k a b c d e g h i) (impl_EqualEndpoints.f (k + 1) a b c d e g h i) := by
 intro a b c d e g h i k
 unfold impl_EqualEndpoints.f
 exact mo2_ slices_EqualFunc_impl_Box_impl_Box_impl_Box_impl_Box_with_impl_EqualBoxes.mono slices_Equal_int_int.mono
theorem impl_EqualEndpoints.calls (k : Nat) (q : Option Addr) (t : Nat) (i : List Int) (J : Option Addr) (S : Nat) (m : List Int) (K : Option Addr) (T : Nat) (o : List (S95)) (A : Int) (s : Option Addr) (u : Nat) (j : List Int) (L : Option Addr) (U : Nat) (n : List Int) (M : Option Addr) (V : Nat) (p : List (S95)) (B : Int) (r : Bool) (w : World) (hr0_0 : Kd.C (Kd.int .i64) w q i.length i) (W : i.length ≤ t) (hr0_1 : Kd.C (Kd.int .i64) w J m.length m) (X : m.length ≤ S) (hr0_2 : Kd.C k95 w K o.length o) (Y : o.length ≤ T) (hr1_0 : Kd.C (Kd.int .i64) w s j.length j) (Z : j.length ≤ u) (hr1_1 : Kd.C (Kd.int .i64) w L n.length n) (aa : n.length ≤ U) (hr1_2 : Kd.C k95 w M p.length p) (ab : p.length ≤ V) (h : impl_EqualEndpoints.f k i m o A j n p B = some r) :
  Calls Try.prog 28 #[.agg #[.slice q i.length t, .slice J m.length S, .slice K o.length T, .int .i64 A], .agg #[.slice s j.length u, .slice L n.length U, .slice M p.length V, .int .i64 B]] w fun e w' => e = .returned (.bool r) ∧ Below w.heap.size w w' := by
 have hu50 := Try.underlying50
 have y := Q_ hr0_0
 have v := Q_ W
 clear hr0_0 W
 have F := Q_ hr0_1
 have D := Q_ X
 clear hr0_1 X
 have Q := Q_ hr0_2
 have O := Q_ Y
 clear hr0_2 Y
 have z := Q_ hr1_0
 have x := Q_ Z
 clear hr1_0 Z
 have G := Q_ hr1_1
 have E := Q_ aa
 clear hr1_1 aa
 have R := Q_ hr1_2
 have P := Q_ ab
 clear hr1_2 ab
 have HB := Q_ (Below.refl w.heap.size w)
 have H : ((slices_Equal_int_int.f k i j).bind fun ac => (if ac = true then ((slices_Equal_int_int.f k m n).bind fun ad => (if ad = true then ((slices_EqualFunc_impl_Box_impl_Box_impl_Box_impl_Box_with_impl_EqualBoxes.f k o p).bind fun I => (if I = true then (some (A == B)) else (some false))) else (some false))) else (some false))) = some r := h
 clear h
 have HS_ := Q_ H
 clear H
 go_enter Try.func28, Try.ntmps28
 go_upto_region 1 with (first | ((with_reducible refine gate_dst (N := 2) rfl ?_); refine bx_ 2 #[.slice q i.length t, .slice J m.length S, .slice K o.length T, .int .i64 A] 50 ?_; intro am hg w3 hbox hb; have _ := Q_ (below_step (pb_ HB.1) hb); have c := Q_ (hbox); have ah := Q_ (gw_ (w := w) hg (pb_ HB.1)); have a := ah; clear HB; rename_i HB; clear hb hbox hg) | ((with_reducible refine gate_dst (N := 3) rfl ?_); refine bx_ 3 #[.slice s j.length u, .slice L n.length U, .slice M p.length V, .int .i64 B] 50 ?_; intro an hg w4 hbox hb; have _ := Q_ (bb_ c.1 hb); have _ := Q_ (below_step (pb1_ HB.1 a.1) hb); have d := Q_ (hbox); have ai := Q_ (gw_ (w := w) hg (pb1_ HB.1 a.1)); have b := ai; have g := Q_ (nb_ hg c); have l := Q_ g.1.symm; clear c HB; rename_i c HB; clear hb hbox hg))
 (try simp only [Act.put, s1_, s2_, s3_])
 have H := HS_.1
 clear HS_
 obtain ⟨ac, A5, H⟩ := bs_ H
 (try dsimp only at H)
 by_cases c6 : ac = true
 rotate_left
 ·replace c6 := bf_ c6
  subst c6
  rw [if_neg ff_] at H
  obtain rfl := Option.some.inj H
  have aG := g.1
  have aH := l.1
  have aE := bc4_ c.1
  have aF := bc4_ d.1
  go_wp2_with (first | ((with_reducible refine gate_callee (f := 26) rfl ?_); refine gl_ (some 9) Try.func26 #[.slice q i.length t, .slice s j.length u] ?_; (with_reducible refine (slices_Equal_int_int.calls k _ _ i _ _ j false _ (cb_ y HB) v.1 (cb_ z HB) x.1 A5.1).mono ?_); rintro e w' ⟨rfl, ⟨nd, rfl⟩⟩; refine ⟨_, rfl, ?_⟩))
  go_ret
  exact ⟨er_, pb2_ HB.1 a.1 b.1⟩
 subst c6
 rw [if_pos rfl] at H
 obtain ⟨ad, ag, H⟩ := bs_ H
 (try dsimp only at H)
 by_cases ae : ad = true
 rotate_left
 ·replace ae := bf_ ae
  subst ae
  rw [if_neg ff_] at H
  obtain rfl := Option.some.inj H
  have ay := g.1
  have aB := l.1
  have ao := bc4_ c.1
  have ap := bc4_ d.1
  go_wp2_with (first | ((with_reducible refine gate_callee (f := 26) rfl ?_); refine gl_ (some 9) Try.func26 #[.slice q i.length t, .slice s j.length u] ?_; (with_reducible refine (slices_Equal_int_int.calls k _ _ i _ _ j true _ (cb_ y HB) v.1 (cb_ z HB) x.1 A5.1).mono ?_); rintro e w' ⟨rfl, ⟨nd, rfl⟩⟩; refine ⟨_, rfl, ?_⟩) | (go_at_call 26; (with_reducible refine (slices_Equal_int_int.calls k _ _ m _ _ n false _ ?side1 D.1 ?side3 E.1 ag.1).mono ?_); (case side1 => exact pc_ (Kd.C_below F.1 (pb2_ HB.1 a.1 b.1))); (case side3 => exact pc_ (Kd.C_below G.1 (pb2_ HB.1 a.1 b.1))); rintro e w' ⟨rfl, ⟨nd, rfl⟩⟩))
  go_ret
  exact ⟨er_, pb2_ HB.1 a.1 b.1⟩
 subst ae
 rw [if_pos rfl] at H
 obtain ⟨I, aj, H⟩ := bs_ H
 replace H : (if I = true then (some (A == B)) else (some false)) = some r := H
 by_cases af : I = true
 rotate_left
 ·replace af := bf_ af
  subst af
  rw [if_neg ff_] at H
  obtain rfl := Option.some.inj H
  have az := g.1
  have aC := l.1
  have aq := bc4_ c.1
  have ar := bc4_ d.1
  go_wp2_with (first | ((with_reducible refine gate_callee (f := 26) rfl ?_); refine gl_ (some 9) Try.func26 #[.slice q i.length t, .slice s j.length u] ?_; (with_reducible refine (slices_Equal_int_int.calls k _ _ i _ _ j true _ (cb_ y HB) v.1 (cb_ z HB) x.1 A5.1).mono ?_); rintro e w' ⟨rfl, ⟨nd, rfl⟩⟩; refine ⟨_, rfl, ?_⟩) | (go_at_call 26; (with_reducible refine (slices_Equal_int_int.calls k _ _ m _ _ n true _ ?side1 D.1 ?side3 E.1 ag.1).mono ?_); (case side1 => exact pc_ (Kd.C_below F.1 (pb2_ HB.1 a.1 b.1))); (case side3 => exact pc_ (Kd.C_below G.1 (pb2_ HB.1 a.1 b.1))); rintro e w' ⟨rfl, ⟨nd, rfl⟩⟩) | (go_at_call 66; (with_reducible refine (slices_EqualFunc_impl_Box_impl_Box_impl_Box_impl_Box_with_impl_EqualBoxes.calls k _ _ o _ _ p false _ ?side1 O.1 ?side3 P.1 aj.1).mono ?_); (case side1 => exact pc_ (Kd.C_below Q.1 (pb2_ HB.1 a.1 b.1))); (case side3 => exact pc_ (Kd.C_below R.1 (pb2_ HB.1 a.1 b.1))); rintro e aI ⟨rfl, hb⟩; have _ := Q_ (bb_ c.1 hb); have _ := Q_ (bb_ d.1 hb); have _ := Q_ (below_step (pb2_ HB.1 a.1 b.1) hb); clear c d HB; rename_i c d HB; (try clear hb)))
  go_ret
  exact ⟨er_, pb2_ HB.1 a.1 b.1⟩
 subst af
 rw [if_pos rfl] at H
 obtain rfl := Option.some.inj H
 have aA := g.1
 have aD := l.1
 have au := bc4_ c.1
 have av := bc4_ d.1
 go_wp2_with (first | ((with_reducible refine gate_callee (f := 26) rfl ?_); refine gl_ (some 9) Try.func26 #[.slice q i.length t, .slice s j.length u] ?_; (with_reducible refine (slices_Equal_int_int.calls k _ _ i _ _ j true _ (cb_ y HB) v.1 (cb_ z HB) x.1 A5.1).mono ?_); rintro e w' ⟨rfl, ⟨nd, rfl⟩⟩; refine ⟨_, rfl, ?_⟩) | (go_at_call 26; (with_reducible refine (slices_Equal_int_int.calls k _ _ m _ _ n true _ ?side1 D.1 ?side3 E.1 ag.1).mono ?_); (case side1 => exact pc_ (Kd.C_below F.1 (pb2_ HB.1 a.1 b.1))); (case side3 => exact pc_ (Kd.C_below G.1 (pb2_ HB.1 a.1 b.1))); rintro e w' ⟨rfl, ⟨nd, rfl⟩⟩) | (go_at_call 66; (with_reducible refine (slices_EqualFunc_impl_Box_impl_Box_impl_Box_impl_Box_with_impl_EqualBoxes.calls k _ _ o _ _ p true _ ?side1 O.1 ?side3 P.1 aj.1).mono ?_); (case side1 => exact pc_ (Kd.C_below Q.1 (pb2_ HB.1 a.1 b.1))); (case side3 => exact pc_ (Kd.C_below R.1 (pb2_ HB.1 a.1 b.1))); rintro e aJ ⟨rfl, hb⟩; have _ := Q_ (bb_ c.1 hb); have _ := Q_ (bb_ d.1 hb); have _ := Q_ (below_step (pb2_ HB.1 a.1 b.1) hb); clear c d HB; rename_i c d HB; (try clear hb); have aw := bc4_ c.1; have ax := bc4_ d.1))
 go_ret
 exact ⟨er_, pb2_ HB.1 a.1 b.1⟩

end Go.Proofs.Ytchnkakjjbfklaa.Print
