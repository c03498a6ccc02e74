-- Written by a program of this session (printx.py) out of the translation; Lean checks it.
import Derived.Test.YtibmehnippjakaaGreatPrint0
namespace Go.Proofs.YtibmehnippjakaaGreat.Print
open Go.RowKit Go.Proofs.YtibmehnippjakaaGreatW.PrintWords Go.Proofs.YtibmehnippjakaaGreatW.PrintLast Go.Proofs.YtibmehnippjakaaGreatW.PrintMore Go.Proofs.YtibmehnippjakaaGreat.Short
attribute [local go_sem] F8 Fq G5 G6 FA FH F5 Fp
set_option linter.unusedVariables false
set_option maxHeartbeats 8000000
set_option maxRecDepth 100000
set_option linter.unusedSimpArgs false
def Ae (w0 W : World) (g : Nat) (f0 : List Int) (f1 : Int) (f2 : Int) : Prop := ∃ a b, W.heap[g]? = some (.cells #[.slice a f0.length b, .int .i64 f1, .int .i64 f2] 95 (0, 0)) ∧ w0.heap.size ≤ g ∧ Kd.C (Kd.int .u8) w0 a f0.length f0
theorem Ae.grown {w0 W : World} {g : Nat} {f0 : List Int} {f1 : Int} {f2 : Int} {W1 : World} {row : Option Nat} (h : Ae w0 W g f0 f1 f2) (hw : W.grownBy W1 row) (hne : some g ≠ row) : Ae w0 W1 g f0 f1 f2 := by
 obtain ⟨a, b, hb, hg, hr0⟩ := h
 exact ⟨a, b, Eb hb hw hne, hg, hr0⟩
theorem Ae.own_neN {w0 W : World} {g : Nat} {f0 : List Int} {f1 : Int} {f2 : Int} {α : Type} {d : Kd α} {e : Nat} {base : Nat} {ok : Nat → Prop} {v : Value} {xs : List α} (h : Ae w0 W g f0 f1 f2) (ho : Kd.N d e W base ok v xs) (ht : e ≠ 95) : some g ≠ v.ownBlock := by
 obtain ⟨a, b, hb, hg, hr0⟩ := h
 exact Kd.Xf ho hb ht
theorem Ae.fresh {w0 W : World} {g : Nat} {f0 : List Int} {f1 : Int} {f2 : Int} (h : Ae w0 W g f0 f1 f2) : ∀ k, W.heap.size ≤ k → k ≠ g := by
 obtain ⟨a, b, hb, hg, hr0⟩ := h
 exact Kd.Gy hb
theorem Ae.kept {w0 W : World} {g : Nat} {f0 : List Int} {f1 : Int} {f2 : Int} {W1 : World} {S : Nat → Prop} (h : Ae w0 W g f0 f1 f2) (hk : Kept W W1 S) (hne : ¬ S g) : Ae w0 W1 g f0 f1 f2 := by
 obtain ⟨a, b, hb, hg, hr0⟩ := h
 exact ⟨a, b, VI hb hk hne, hg, hr0⟩
theorem Ae.below {w0 W : World} {g : Nat} {f0 : List Int} {f1 : Int} {f2 : Int} {W1 : World} (h : Ae w0 W g f0 f1 f2) (hw : Below W.heap.size W W1) : Ae w0 W1 g f0 f1 f2 := h.grown (J3 hw none) (by simp)
theorem Ae.alloc {w0 W : World} {g : Nat} {f0 : List Int} {f1 : Int} {f2 : Int} (h : Ae w0 W g f0 f1 f2) (o : Obj) : Ae w0 (W.alloc o) g f0 f1 f2 := h.below (Ez (Below.refl _ _) o)
theorem Ae.drewN {w0 W : World} {g : Nat} {f0 : List Int} {f1 : Int} {f2 : Int} (h : Ae w0 W g f0 f1 f2) (m : Nat) : Ae w0 (W.drewN m) g f0 f1 f2 := h
theorem Ae.drew {w0 W : World} {g : Nat} {f0 : List Int} {f1 : Int} {f2 : Int} (h : Ae w0 W g f0 f1 f2) : Ae w0 W.drew g f0 f1 f2 := h
theorem Ae.at_ {w0 W : World} {g : Nat} {f0 : List Int} {f1 : Int} {f2 : Int} {w' : World} {m : Nat} (hq : W.drewN m = w') (h : Ae w0 W g f0 f1 f2) : Ae w0 w' g f0 f1 f2 := by subst hq; exact Ae.drewN h m
theorem Ae.apart {w0 W : World} {g : Nat} {f0 : List Int} {f1 : Int} {f2 : Int} {α : Type} {d : Kd α} {e : Nat} {base : Nat} {ok : Nat → Prop} {v : Value} {xs : List α} (h : Ae w0 W g f0 f1 f2) (ho : d.R e W base ok v xs) (ht : ∀ q, q ∈ e :: d.E → q ≠ 95) : d.R e W base (fun k => ok k ∧ k ≠ g) v xs := by
 obtain ⟨a, b, hb, hg, hr0⟩ := h
 exact Kd.Bi ho hb ht
theorem Ae.own_ne {w0 W : World} {g : Nat} {f0 : List Int} {f1 : Int} {f2 : Int} {α : Type} {d : Kd α} {e : Nat} {base : Nat} {ok : Nat → Prop} {v : Value} {xs : List α} (h : Ae w0 W g f0 f1 f2) (ho : d.R e W base ok v xs) (ht : e ≠ 95) : some g ≠ v.ownBlock := by
 obtain ⟨a, b, hb, hg, hr0⟩ := h
 exact Kd.JB ho hb ht
theorem Ae.apartS {w0 W : World} {g : Nat} {f0 : List Int} {f1 : Int} {f2 : Int} {α : Type} {d : Kd α} {e : Nat} {base : Nat} {ok : Nat → Prop} {v : Value} {xs : List α} (h : Ae w0 W g f0 f1 f2) (ho : d.S e W base ok v xs) (ht : ∀ q, q ∈ e :: d.E → q ≠ 95) : d.S e W base (fun k => ok k ∧ k ≠ g) v xs := by
 obtain ⟨a, b, hb, hg, hr0⟩ := h
 exact Kd.IL ho hb ht
theorem Ae.own_neS {w0 W : World} {g : Nat} {f0 : List Int} {f1 : Int} {f2 : Int} {α : Type} {d : Kd α} {e : Nat} {base : Nat} {ok : Nat → Prop} {v : Value} {xs : List α} (h : Ae w0 W g f0 f1 f2) (ho : d.S e W base ok v xs) (ht : e ≠ 95) : some g ≠ v.ownBlock := by
 obtain ⟨a, b, hb, hg, hr0⟩ := h
 exact Kd.UH ho hb ht
theorem Ae.lt {w0 W : World} {g : Nat} {f0 : List Int} {f1 : Int} {f2 : Int} (h : Ae w0 W g f0 f1 f2) : g < W.heap.size := by
 obtain ⟨a, b, hb, hg, hr0⟩ := h
 exact Hl hb
theorem Ae.ge {w0 W : World} {g : Nat} {f0 : List Int} {f1 : Int} {f2 : Int} (h : Ae w0 W g f0 f1 f2) : w0.heap.size ≤ g := by
 obtain ⟨a, b, hb, hg, hr0⟩ := h
 exact hg
theorem Ae.ne_blk {w0 W : World} {g : Nat} {f0 : List Int} {f1 : Int} {f2 : Int} {a : Nat} {cs : Array Value} {t : TypeId} {fr : Nat × Nat} (h : Ae w0 W g f0 f1 f2) (hb2 : W.heap[a]? = some (.cells cs t fr)) (ht : t ≠ 95) : g ≠ a := by
 obtain ⟨b, c, hb, hg, hr0⟩ := h
 rintro rfl
 rw [hb] at hb2
 injection hb2 with hb2
 injection hb2 with _ ht2
 exact ht ht2.symm
theorem Ae.far {w0 W : World} {g : Nat} {f0 : List Int} {f1 : Int} {f2 : Int} {p : Addr} (h : Ae w0 W g f0 f1 f2) (hne : g ≠ p.block) (u : Value) : Ae w0 (W.setCell p u) g f0 f1 f2 := by
 obtain ⟨a, b, hb, hg, hr0⟩ := h
 exact ⟨a, b, JU hb hne u, hg, hr0⟩
theorem Om {W : World} {g : Nat} {a : Option Addr} {b : Nat} {f0 : List Int} {f1 : Int} {f2 : Int} (h : W.heap[g]? = some (.cells #[.slice a f0.length b, .int .i64 f1, .int .i64 f2] 95 (0, 0))) : W.cell? ⟨g, 0, none⟩ = some (.slice a f0.length b) := (BM h 0).trans rfl
theorem Oc {W : World} {g : Nat} {a : Option Addr} {b : Nat} {f0 : List Int} {f1 : Int} {f2 : Int} (h : W.heap[g]? = some (.cells #[.slice a f0.length b, .int .i64 f1, .int .i64 f2] 95 (0, 0))) : W.cell? ⟨g, 1, none⟩ = some (.int .i64 f1) := (BM h 1).trans rfl
theorem Ae.set_1 {w0 W : World} {g : Nat} {f0 : List Int} {f1 : Int} {f2 : Int} (h : Ae w0 W g f0 f1 f2) (x : Int) : Ae w0 (W.setCell ⟨g, 1, none⟩ (.int .i64 x)) g f0 x f2 := by
 obtain ⟨a, b, hb, hg, hr0⟩ := h
 exact ⟨a, b, by simpa using M8 hb 1 (.int .i64 x), hg, hr0⟩
theorem Oy {W : World} {g : Nat} {a : Option Addr} {b : Nat} {f0 : List Int} {f1 : Int} {f2 : Int} (h : W.heap[g]? = some (.cells #[.slice a f0.length b, .int .i64 f1, .int .i64 f2] 95 (0, 0))) : W.cell? ⟨g, 2, none⟩ = some (.int .i64 f2) := (BM h 2).trans rfl
theorem Ae.set_2 {w0 W : World} {g : Nat} {f0 : List Int} {f1 : Int} {f2 : Int} (h : Ae w0 W g f0 f1 f2) (x : Int) : Ae w0 (W.setCell ⟨g, 2, none⟩ (.int .i64 x)) g f0 f1 x := by
 obtain ⟨a, b, hb, hg, hr0⟩ := h
 exact ⟨a, b, by simpa using M8 hb 2 (.int .i64 x), hg, hr0⟩
def CE.l0 : Nat → List Int → Int → Int → Option (List Int × Int × Int)
 | 0, _, _, _ => none
 | k + 1, a, c, b => if b < (a.length : Int) then (if b < 4000 then (if 0 ≤ b then (CE.l0 k a (Go.bits .and .i64 (wrap64 ((wrap64 ((wrap64 (c * 137)) + (wrap64 (rd a b)))) + 11)) 1073741823) (wrap64 (b + 1))) else (none)) else (some (a, 0, c))) else (some (a, 0, c))
def CE.f (k : Nat) (a : List Int) : Option (List Int × Int × Int) := CE.l0 k a (wrap64 (193017 + (a.length : Int))) 0
theorem CE.mono_l : ∀ k, (∀ a b c, LeO (CE.l0 k a b c) (CE.l0 (k + 1) a b c))
 | 0 => fun _ _ _ r h => by simp [CE.l0] at h
 | k + 1 => by
  have ih0 := CE.mono_l k
  ·intro a b c
   unfold CE.l0
   exact G7 ih0
theorem CE.mono : ∀ a k, LeO (CE.f k a) (CE.f (k + 1) a) := by
 intro a k
 have ih0 := CE.mono_l k
 unfold CE.f
 exact G7 ih0
theorem CE.calls (k : Nat) (B : Option Addr) (D : Nat) (d : List Int) (F : List Int) (G : Int) (I : Int) (w0 w : World) (hB : Below w0.heap.size w0 w) (hr0 : Kd.C (Kd.int .u8) w0 B d.length d) (A : d.length ≤ D) (h : CE.f k d = some (F, G, I)) :
  Calls Tryz.prog 42 #[.slice B d.length D] w fun e w' => ∃ g_ : Nat, e = .returned (.pointer (some ⟨g_, 0, none⟩)) ∧ Ae w0 w' g_ F G I ∧ Below w0.heap.size w0 w' ∧ Below w.heap.size w w' := by
 have hu95 := Tryz.underlying95
 have q := Q_ hr0
 have L := Q_ A
 clear hr0 A
 have HBW := Q_ (Below.refl w.heap.size w)
 have HW0 := Q_ hB.size
 have HB := Q_ hB
 clear hB
 unfold CE.f at h
 have H := h
 clear h
 have H' := Q_ H
 clear H
 go_enter Tryz.func42, Tryz.ntmps42
 go_wp2
 go_loopg [3, 4] k (fun kq M O w' => ∃ (b : Int) (a : Int), M = .int .i64 b ∧ O = .int .i64 a ∧ Aside0 (CE.l0 kq d b a = some (F, G, I)) ∧ Aside0 (kq ≤ k) ∧ Aside0 (Below w0.heap.size w0 w') ∧ Aside0 (Below w.heap.size w w'))
 case atStart => exact ⟨(wrap64 (193017 + (d.length : Int))), (0), el_, el_, H', ⟨Nat.le_refl _⟩, ⟨pb_ HB.1⟩, ⟨pb_ HBW.1⟩⟩
 clear H'
 obtain ⟨b, a, rfl, rfl, HA, v, HB, HBW⟩ := hrel
 rcases gk with _ | k1
 ·exact absurd HA.1 (by simp [CE.l0])
 have H := HA.1
 clear HA
 simp only [CE.l0] at H
 by_cases t : a < (d.length : Int)
 rotate_left
 ·rw [if_neg t] at H
  have x := decide_eq_false t
  clear t
  simp only [Option.some.injEq, Prod.mk.injEq] at H
  obtain ⟨rfl, rfl, rfl⟩ := H
  go_wp2_with (first | (refine bg_ 31 #[.slice B d.length D, .int .i64 0, .int .i64 b] 95 ?_; intro s hg P hbox hb; have _ := Q_ (AD HBW.1 hb); have _ := Q_ (AD (pb_ HB.1) hb); have n := Q_ (hbox); have p := Q_ (gw_ (w := w) hg (pb_ HBW.1)); have i := Q_ (Nat.le_trans HW0.1 p.1); clear HBW HB; rename_i HBW HB; clear hb hbox hg))
  go_ret
  exact ⟨_, rfl, (show Ae w0 _ s d 0 b from ⟨_, _, pk_ n.1, i.1, q.1⟩), CM HB.1 i.1, pb_ HBW.1⟩
 rw [if_pos t] at H
 have x := decide_eq_true t
 clear t
 by_cases u : a < 4000
 rotate_left
 ·rw [if_neg u] at H
  have y := decide_eq_false u
  clear u
  simp only [Option.some.injEq, Prod.mk.injEq] at H
  obtain ⟨rfl, rfl, rfl⟩ := H
  go_wp2_with (first | (refine bg_ 31 #[.slice B d.length D, .int .i64 0, .int .i64 b] 95 ?_; intro r hg Q hbox hb; have _ := Q_ (AD HBW.1 hb); have _ := Q_ (AD (pb_ HB.1) hb); have m := Q_ (hbox); have o := Q_ (gw_ (w := w) hg (pb_ HBW.1)); have g := Q_ (Nat.le_trans HW0.1 o.1); clear HBW HB; rename_i HBW HB; clear hb hbox hg))
  go_ret
  exact ⟨_, rfl, (show Ae w0 _ r d 0 b from ⟨_, _, pk_ m.1, g.1, q.1⟩), CM HB.1 g.1, pb_ HBW.1⟩
 rw [if_pos u] at H
 have y := decide_eq_true u
 clear u
 by_cases E : 0 ≤ a
 rotate_left
 ·rw [if_neg E] at H
  exact nn_ H
 rw [if_pos E] at H
 have K := decide_eq_true E
 clear E
 have H' := Q_ H
 clear H
 have j : 0 ≤ (a : Int) := dt_
 have l : a < (d.length : Int) := dt_
 obtain ⟨J, z, c⟩ := Kd.GG q.1 a j l
 cases z
 replace c := H9 HB.1 c
 replace j := eq_true j
 replace l := eq_true l
 go_wp2
 go_roundg k1
 case measure => have := v.1; omega
 case rel => exact ⟨(Go.bits .and .i64 (wrap64 ((wrap64 ((wrap64 (b * 137)) + (wrap64 (rd d a)))) + 11)) 1073741823), (wrap64 (a + 1)), el_, el_, H', ⟨by have := v.1; omega⟩, ⟨pb_ HB.1⟩, ⟨pb_ HBW.1⟩⟩
def G2.f (c : List Int) (b : Int) (a : Int) : Option (Int × Int × Int) := if b < (c.length : Int) then (if 0 ≤ b then (some (Go.bits .and .i64 (wrap64 ((Go.bits .and .i64 (Go.bits .xor .i64 ((wrap64 ((wrap64 (a * 6364136223846793005)) + 1442695040888963407)) / 8589934592) ((wrap64 ((wrap64 (a * 6364136223846793005)) + 1442695040888963407)) / 140737488355328)) 255) + (wrap64 (rd c b)))) 255, wrap64 (b + 1), wrap64 ((wrap64 (a * 6364136223846793005)) + 1442695040888963407))) else (none)) else (some (Go.bits .and .i64 (Go.bits .xor .i64 ((wrap64 ((wrap64 (a * 6364136223846793005)) + 1442695040888963407)) / 8589934592) ((wrap64 ((wrap64 (a * 6364136223846793005)) + 1442695040888963407)) / 140737488355328)) 255, b, wrap64 ((wrap64 (a * 6364136223846793005)) + 1442695040888963407)))
theorem G2.calls (g : Nat) (i : List Int) (b : Int) (c : Int) (D : Int) (E : Int) (F : Int) (w0 w : World) (hI : Ae w0 w g i b c) (hB : Below w0.heap.size w0 w) (h : G2.f i b c = some (D, E, F)) :
  Calls Tryz.prog 117 #[.pointer (some ⟨g, 0, none⟩)] w fun e w' => e = .returned (.int .i64 D) ∧ Ae w0 w' g i E F ∧ Below w0.heap.size w0 w' ∧ Aw w w' g none := by
 have j := Q_ hI
 have HK := Q_ (Aw.refl w g none)
 have HL := Q_ hB.size
 clear hI
 have HW0 := Q_ hB.size
 have HB := Q_ hB
 clear hB
 unfold G2.f at h
 have H := h
 clear h
 by_cases n : b < (i.length : Int)
 rotate_left
 ·rw [if_neg n] at H
  have o := decide_eq_false n
  clear n
  simp only [Option.some.injEq, Prod.mk.injEq] at H
  obtain ⟨rfl, rfl, rfl⟩ := H
  obtain ⟨ASz3_0, cSz3_0, HGz3, hgz3, HSz3_0⟩ := j.1
  have s := Om HGz3
  have t := Oc HGz3
  have u := Oy HGz3
  have z := DI HGz3 1
  have A := DI HGz3 2
  clear HGz3 hgz3
  go_enter Tryz.func117, Tryz.ntmps117
  go_wp2
  repeat (go_quiet (fail); try go_wp2)
  go_ret
  exact ⟨er_, D3 j.1, Hg HB.1 (Ae.ge j.1), Gi HK.1⟩
 rw [if_pos n] at H
 have o := decide_eq_true n
 clear n
 by_cases r : 0 ≤ b
 rotate_left
 ·rw [if_neg r] at H
  exact nn_ H
 rw [if_pos r] at H
 have G := decide_eq_true r
 clear r
 simp only [Option.some.injEq, Prod.mk.injEq] at H
 obtain ⟨rfl, rfl, rfl⟩ := H
 obtain ⟨ASz5_0, cSz5_0, HGz5, hgz5, HSz5_0⟩ := j.1
 have v := Om HGz5
 have x := Oc HGz5
 have y := Oy HGz5
 have B := DI HGz5 1
 have C := DI HGz5 2
 clear HGz5 hgz5
 have k : 0 ≤ (b : Int) := dt_
 have l : b < (i.length : Int) := dt_
 obtain ⟨m, q, a⟩ := Kd.GG HSz5_0 b k l
 cases q
 have d : m.block ≠ g := Nat.ne_of_lt (Nat.lt_of_lt_of_le (by have := World.block_lt_of_cell? _ _ a; first | rwa [add_block] at this | exact this) (Ae.ge j.1))
 replace a := H9 HB.1 a
 replace a := (cell_far (p := ⟨g, 2, none⟩) (by first | (rw [add_block]; exact d) | (show (Addr.add _ _).block ≠ _; rw [add_block]; exact d) | exact d) (.int .i64 (wrap64 ((wrap64 (c * 6364136223846793005)) + 1442695040888963407)))).trans a
 (try have hy742_0 := fun (n_ : Nat) => (show (((w.drewN n_).setCell ⟨g, 2, none⟩ (.int .i64 (wrap64 ((wrap64 (c * 6364136223846793005)) + 1442695040888963407))))).cell? _ = some _ from a))
 clear d
 replace k := eq_true k
 replace l := eq_true l
 go_enter Tryz.func117, Tryz.ntmps117
 go_wp2
 repeat (go_quiet (fail); try go_wp2)
 go_ret
 exact ⟨er_, D3 j.1, Hg HB.1 (Ae.ge j.1), Gi HK.1⟩
def Cc.f (e : List Int) (g : Int) (h : Int) (i : Int) : Option (Int × Int × Int) := if i ≤ 0 then (some (0, g, h)) else (if i ≤ 256 then ((G2.f e g h).bind fun a => (if i = 0 then (none) else (some (Int.tmod a.1 i, a.2.1, a.2.2)))) else ((G2.f e g h).bind fun b => ((G2.f e b.2.1 b.2.2).bind fun c => ((G2.f e c.2.1 c.2.2).bind fun d => (if i = 0 then (none) else (some (Int.tmod (wrap64 ((wrap64 ((wrap64 (b.1 * 65536)) + (wrap64 (c.1 * 256)))) + d.1)) i, d.2.1, d.2.2)))))))
theorem Cc.calls (g : Nat) (b : List Int) (c : Int) (d : Int) (i : Int) (K : Int) (L : Int) (M : Int) (w0 w : World) (hI : Ae w0 w g b c d) (hB : Below w0.heap.size w0 w) (h : Cc.f b c d i = some (K, L, M)) :
  Calls Tryz.prog 77 #[.pointer (some ⟨g, 0, none⟩), .int .i64 i] w fun e w' => e = .returned (.int .i64 K) ∧ Ae w0 w' g b L M ∧ Below w0.heap.size w0 w' ∧ Aw w w' g none := by
 have a := Q_ hI
 have HK := Q_ (Aw.refl w g none)
 have HL := Q_ hB.size
 clear hI
 have HW0 := Q_ hB.size
 have HB := Q_ hB
 clear hB
 unfold Cc.f at h
 have H := h
 clear h
 by_cases s : i ≤ 0
 ·rw [if_pos s] at H
  have u := decide_eq_true s
  clear s
  simp only [Option.some.injEq, Prod.mk.injEq] at H
  obtain ⟨rfl, rfl, rfl⟩ := H
  go_enter Tryz.func77, Tryz.ntmps77
  go_wp2
  go_ret
  exact ⟨er_, D3 a.1, Hg HB.1 (Ae.ge a.1), Gi HK.1⟩
 rw [if_neg s] at H
 have u := decide_eq_false s
 clear s
 by_cases t : i ≤ 256
 ·rw [if_pos t] at H
  have v := decide_eq_true t
  clear t
  obtain ⟨⟨x, y, z⟩, P, H⟩ := bs_ H
  (try dsimp only at H)
  by_cases F : i = 0
  rotate_left
  ·rw [if_neg F] at H
   have N : (i == 0) = false := beq_eq_false_iff_ne.mpr F
   have O : (i != 0) = true := bne_iff_ne.mpr F
   simp only [Option.some.injEq, Prod.mk.injEq] at H
   obtain ⟨rfl, rfl, rfl⟩ := H
   go_enter Tryz.func77, Tryz.ntmps77
   go_wp2_with (first | (refine gk_ 117 13 Tryz.func117 #[.pointer (some ⟨g, 0, none⟩)] ?_; (with_reducible refine (G2.calls g b c d x y z w0 _ ?side1 ?side2 P.1).mono ?_); (case side1 => exact D3 a.1); (case side2 => exact Hg HB.1 (Ae.ge a.1)); rintro e V ⟨rfl, hi, hb, hk⟩; refine ⟨_, rfl, ?_⟩; have _ := Q_ (Aw.trans (Gi HK.1) hk (.inl rfl)); have _ := Q_ (hb); have _ := Q_ (hi); clear HK HB a; rename_i HK HB a; (try clear hb hk hi)))
   go_ret
   exact ⟨er_, D3 a.1, Hg HB.1 (Ae.ge a.1), Gi HK.1⟩
  rw [if_pos F] at H
  exact nn_ H
 rw [if_neg t] at H
 have v := decide_eq_false t
 clear t
 obtain ⟨⟨A, o, p⟩, Q, H⟩ := bs_ H
 (try dsimp only at H)
 obtain ⟨⟨B, q, r⟩, R, H⟩ := bs_ H
 (try dsimp only at H)
 obtain ⟨⟨C, D, E⟩, G, H⟩ := bs_ H
 (try dsimp only at H)
 by_cases n : i = 0
 rotate_left
 ·rw [if_neg n] at H
  have I : (i == 0) = false := beq_eq_false_iff_ne.mpr n
  have J : (i != 0) = true := bne_iff_ne.mpr n
  simp only [Option.some.injEq, Prod.mk.injEq] at H
  obtain ⟨rfl, rfl, rfl⟩ := H
  go_enter Tryz.func77, Tryz.ntmps77
  go_wp2_with (first | (refine gk_ 117 17 Tryz.func117 #[.pointer (some ⟨g, 0, none⟩)] ?_; (with_reducible refine (G2.calls g b c d A o p w0 _ ?side1 ?side2 Q.1).mono ?_); (case side1 => exact D3 a.1); (case side2 => exact Hg HB.1 (Ae.ge a.1)); rintro e S ⟨rfl, hi, hb, hk⟩; refine ⟨_, rfl, ?_⟩; have _ := Q_ (Aw.trans (Gi HK.1) hk (.inl rfl)); have _ := Q_ (hb); have _ := Q_ (hi); clear HK HB a; rename_i HK HB a; (try clear hb hk hi)) | (refine gk_ 117 19 Tryz.func117 #[.pointer (some ⟨g, 0, none⟩)] ?_; (with_reducible refine (G2.calls g b o p B q r w0 _ ?side1 ?side2 R.1).mono ?_); (case side1 => exact D3 a.1); (case side2 => exact Hg HB.1 (Ae.ge a.1)); rintro e T ⟨rfl, hi, hb, hk⟩; refine ⟨_, rfl, ?_⟩; have _ := Q_ (Aw.trans (Gi HK.1) hk (.inl rfl)); have _ := Q_ (hb); have _ := Q_ (hi); clear HK HB a; rename_i HK HB a; (try clear hb hk hi)) | (refine gk_ 117 21 Tryz.func117 #[.pointer (some ⟨g, 0, none⟩)] ?_; (with_reducible refine (G2.calls g b q r C D E w0 _ ?side1 ?side2 G.1).mono ?_); (case side1 => exact D3 a.1); (case side2 => exact Hg HB.1 (Ae.ge a.1)); rintro e U ⟨rfl, hi, hb, hk⟩; refine ⟨_, rfl, ?_⟩; have _ := Q_ (Aw.trans (Gi HK.1) hk (.inl rfl)); have _ := Q_ (hb); have _ := Q_ (hi); clear HK HB a; rename_i HK HB a; (try clear hb hk hi)))
  go_ret
  exact ⟨er_, D3 a.1, Hg HB.1 (Ae.ge a.1), Gi HK.1⟩
 rw [if_pos n] at H
 exact nn_ H
def D'.f (b : List Int) (c : Int) (d : Int) (e : List Int) : Option (Int × Int × Int) := (Cc.f b c d (e.length : Int)).bind fun a => (if 0 ≤ a.1 then (if a.1 < (e.length : Int) then (some (rd e a.1, a.2.1, a.2.2)) else (none)) else (none))
theorem D'.calls (g : Nat) (d : List Int) (i : Int) (j : Int) (x : Option Addr) (D : Nat) (l : List Int) (z : Int) (A : Int) (B : Int) (w0 w : World) (hI : Ae w0 w g d i j) (hB : Below w0.heap.size w0 w) (hr1 : Kd.C (Kd.int .i64) w x l.length l) (r : l.length ≤ D) (p : ∀ ad, x = some ad → 0 < l.length → ad.block ≠ g) (h : D'.f d i j l = some (z, A, B)) :
  Calls Tryz.prog 45 #[.pointer (some ⟨g, 0, none⟩), .slice x l.length D] w fun e w' => e = .returned (.int .i64 z) ∧ Ae w0 w' g d A B ∧ Below w0.heap.size w0 w' ∧ Aw w w' g none := by
 have y := Q_ hr1
 have I := Q_ r
 clear hr1 r
 have k := Q_ hI
 have HK := Q_ (Aw.refl w g none)
 have HL := Q_ hB.size
 clear hI
 have HW0 := Q_ hB.size
 have HB := Q_ hB
 clear hB
 unfold D'.f at h
 have H := h
 clear h
 obtain ⟨⟨b, s, t⟩, G, H⟩ := bs_ H
 (try dsimp only at H)
 by_cases u : 0 ≤ b
 rotate_left
 ·rw [if_neg u] at H
  exact nn_ H
 rw [if_pos u] at H
 have E := decide_eq_true u
 clear u
 by_cases v : b < (l.length : Int)
 rotate_left
 ·rw [if_neg v] at H
  exact nn_ H
 rw [if_pos v] at H
 have F := decide_eq_true v
 clear v
 simp only [Option.some.injEq, Prod.mk.injEq] at H
 obtain ⟨rfl, rfl, rfl⟩ := H
 go_enter Tryz.func45, Tryz.ntmps45
 go_wp2_with (first | (refine gk_ 77 9 Tryz.func77 #[.pointer (some ⟨g, 0, none⟩), .int .i64 (l.length : Int)] ?_; (with_reducible refine (Cc.calls g d i j (l.length : Int) b s t w0 _ ?side1 ?side2 G.1).mono ?_); (case side1 => exact D3 k.1); (case side2 => exact Hg HB.1 (Ae.ge k.1)); rintro e J ⟨rfl, hi, hb, hk⟩; refine ⟨_, rfl, ?_⟩; have _ := Q_ (Aw.trans (Gi HK.1) hk (.inl rfl)); have _ := Q_ (hb); have _ := Q_ (hi); clear HK HB k; rename_i HK HB k; (try clear hb hk hi); have m : 0 ≤ (b : Int) := dt_; have n : b < (l.length : Int) := dt_; obtain ⟨o, q, c⟩ := Kd.GG y.1 b m n; cases q; replace c := UN HK.1 c (by first | (rw [add_block]; exact p _ rfl (by omega)) | exact p _ rfl (by omega) | exact p o rfl (by omega)); replace m := eq_true m; replace n := eq_true n))
 go_ret
 exact ⟨er_, D3 k.1, Hg HB.1 (Ae.ge k.1), Gi HK.1⟩
def BZ.l0 : Nat → List Int → Int → Int → Option (List Int)
 | 0, _, _, _ => none
 | k + 1, a, m, b => if b < (a.length : Int) then (if 0 ≤ b then (if (rd a b) < m then (BZ.l0 k a m (wrap64 (b + 1))) else (if (rd a b) = m then ((some (([] : List Int) : List Int)).bind fun c => (if c.length + a.length < 17592186044416 then (some (c ++ a)) else (none))) else ((some (([] : List Int) : List Int)).bind fun d => (if b ≤ (a.length : Int) then (if d.length + (a.take (b : Int).toNat).length < 17592186044416 then ((some (d ++ (a.take (b : Int).toNat) : List Int)).bind fun e => ((some (([m] : List Int) : List Int)).bind fun f => (if e.length + f.length < 17592186044416 then ((some (e ++ f : List Int)).bind fun g => (if g.length + (a.drop (b : Int).toNat).length < 17592186044416 then (some (g ++ (a.drop (b : Int).toNat))) else (none))) else (none)))) else (none)) else (none))))) else (none)) else ((some (([] : List Int) : List Int)).bind fun h => (if 0 ≤ b then (if b ≤ (a.length : Int) then (if h.length + (a.take (b : Int).toNat).length < 17592186044416 then ((some (h ++ (a.take (b : Int).toNat) : List Int)).bind fun i => ((some (([m] : List Int) : List Int)).bind fun j => (if i.length + j.length < 17592186044416 then ((some (i ++ j : List Int)).bind fun l => (if l.length + (a.drop (b : Int).toNat).length < 17592186044416 then (some (l ++ (a.drop (b : Int).toNat))) else (none))) else (none)))) else (none)) else (none)) else (none)))
def BZ.f (k : Nat) (b : List Int) (a : Int) : Option (List Int) := BZ.l0 k b a 0
theorem BZ.mono_l : ∀ k, (∀ a b c, LeO (BZ.l0 k a b c) (BZ.l0 (k + 1) a b c))
 | 0 => fun _ _ _ r h => by simp [BZ.l0] at h
 | k + 1 => by
  have ih0 := BZ.mono_l k
  ·intro a b c
   unfold BZ.l0
   exact G7 ih0
theorem BZ.mono : ∀ a b k, LeO (BZ.f k a b) (BZ.f (k + 1) a b) := by
 intro a b k
 have ih0 := BZ.mono_l k
 unfold BZ.f
 exact G7 ih0
def BZ.T6 : Bool × List (List Nat × List Nat) := (true, [([], []), ([], []), ([], []), ([1, 2], [1, 2]), ([0, 3], [0, 3]), ([], []), ([5], [5]), ([4, 6, 4], [4, 6]), ([], []), ([], []), ([8, 9], [8, 9]), ([7, 10, 7], [7, 10]), ([11, 11, 0, 1, 2, 3, 4, 5, 6, 7, 8, 9, 10, 11], [11])])
def BZ.B6 : List Nat := [0, 0, 0, 6, 15, 0, 32, 127, 0, 0, 768, 2047, 4095]
theorem BZ.tab6 : rtab .any (opsOf Tryz.f78 6) = BZ.T6 := by kernel_rfl
theorem BZ.bits6 : Fa BZ.T6.2 BZ.B6 = true := by kernel_rfl
theorem BZ.calls (k : Nat) (A0 : Option Addr) (c0 : Nat) (c : List Int) (B : Int) (r : List Int) (w : World) (hr0 : Kd.C (Kd.int .i64) w A0 c.length c) (bp : c.length ≤ c0) (h : BZ.f k c B = some r) :
  Calls Tryz.prog 78 #[.slice A0 c.length c0, .int .i64 B] w fun e w' => ∃ v0_ : Value, e = .returned (v0_) ∧ Kd.R (Kd.int .i64) 3 w' w.heap.size (fun _ => True) v0_ r ∧ Below w.heap.size w w' := by
 have ae := Q_ hr0
 have aJ := Q_ bp
 clear hr0 bp
 have HB := Q_ (Below.refl w.heap.size w)
 unfold BZ.f at h
 have H := h
 clear h
 have H' := Q_ H
 clear H
 go_enter Tryz.func78, Tryz.ntmps78
 go_wp2
 go_loopg [5] k (fun kq v5 w' => ∃ (a : Int), v5 = .int .i64 a ∧ Aside0 (BZ.l0 kq c B a = some r) ∧ Aside0 (kq ≤ k) ∧ Aside0 (Below w.heap.size w w'))
 case atStart => exact ⟨(0), el_, H', ⟨Nat.le_refl _⟩, ⟨pb_ HB.1⟩⟩
 clear H'
 obtain ⟨a, rfl, HA, bk, HB⟩ := hrel
 rcases gk with _ | k1
 ·exact absurd HA.1 (by simp [BZ.l0])
 have H := HA.1
 clear HA
 simp only [BZ.l0] at H
 by_cases c3 : a < (c.length : Int)
 rotate_left
 ·rw [if_neg c3] at H
  have bm := decide_eq_false c3
  clear c3
  obtain ⟨ad, hy784⟩ : ∃ y_ : List Int, y_ = (([] : List Int)) := ⟨_, rfl⟩
  replace H : (if 0 ≤ a then (if a ≤ (c.length : Int) then (if ad.length + (c.take (a : Int).toNat).length < 17592186044416 then ((some (ad ++ (c.take (a : Int).toNat) : List Int)).bind fun E => ((some (([B] : List Int) : List Int)).bind fun t => (if E.length + t.length < 17592186044416 then ((some (E ++ t : List Int)).bind fun v => (if v.length + (c.drop (a : Int).toNat).length < 17592186044416 then (some (v ++ (c.drop (a : Int).toNat))) else (none))) else (none)))) else (none)) else (none)) else (none)) = some r := hb_ hy784 H
  have ak := Q_ hy784
  clear hy784
  by_cases c4 : 0 ≤ a
  rotate_left
  ·rw [if_neg c4] at H
   exact nn_ H
  rw [if_pos c4] at H
  have bQ := eq_true c4
  have bR : decide (0 ≤ a) = true := decide_eq_true c4
  clear c4
  by_cases c5 : a ≤ (c.length : Int)
  rotate_left
  ·rw [if_neg c5] at H
   exact nn_ H
  rw [if_pos c5] at H
  have bS := eq_true c5
  have bT : decide (a ≤ (c.length : Int)) = true := decide_eq_true c5
  clear c5
  by_cases c6 : ad.length + (c.take (a : Int).toNat).length < 17592186044416
  rotate_left
  ·rw [if_neg c6] at H
   exact nn_ H
  rw [if_pos c6] at H
  have az := Q_ c6
  clear c6
  obtain ⟨E, hy788⟩ : ∃ y_ : List Int, y_ = (ad ++ (c.take (a : Int).toNat)) := ⟨_, rfl⟩
  replace H : ((some (([B] : List Int) : List Int)).bind fun t => (if E.length + t.length < 17592186044416 then ((some (E ++ t : List Int)).bind fun v => (if v.length + (c.drop (a : Int).toNat).length < 17592186044416 then (some (v ++ (c.drop (a : Int).toNat))) else (none))) else (none))) = some r := hb_ hy788 H
  have aq := Q_ hy788
  clear hy788
  obtain ⟨t, hy791⟩ : ∃ y_ : List Int, y_ = (([B] : List Int)) := ⟨_, rfl⟩
  replace H : (if E.length + t.length < 17592186044416 then ((some (E ++ t : List Int)).bind fun v => (if v.length + (c.drop (a : Int).toNat).length < 17592186044416 then (some (v ++ (c.drop (a : Int).toNat))) else (none))) else (none)) = some r := hb_ hy791 H
  have W := Q_ hy791
  clear hy791
  by_cases c7 : E.length + t.length < 17592186044416
  rotate_left
  ·rw [if_neg c7] at H
   exact nn_ H
  rw [if_pos c7] at H
  have bl := Q_ c7
  clear c7
  obtain ⟨v, hy794⟩ : ∃ y_ : List Int, y_ = (E ++ t) := ⟨_, rfl⟩
  replace H : (if v.length + (c.drop (a : Int).toNat).length < 17592186044416 then (some (v ++ (c.drop (a : Int).toNat))) else (none)) = some r := hb_ hy794 H
  have bb := Q_ hy794
  clear hy794
  have bU := eq_true (dt_ : 0 ≤ a)
  have bV := eq_true (dt_ : a ≤ (c.length : Int))
  by_cases aK : v.length + (c.drop (a : Int).toNat).length < 17592186044416
  rotate_left
  ·rw [if_neg aK] at H
   exact nn_ H
  rw [if_pos aK] at H
  have a4 := Q_ aK
  clear aK
  obtain ⟨bx, hy798⟩ : ∃ y_ : List Int, y_ = (v ++ (c.drop (a : Int).toNat)) := ⟨_, rfl⟩
  replace H : (some bx) = some r := hb_ hy798 H
  have bc := Q_ hy798
  clear hy798
  obtain rfl := Option.some.inj H
  try go_wp2
  have _ := Q_ (Cm HB.1)
  clear HB
  rename_i HB
  obtain ⟨i012, aE, _, hsz12, _⟩ := info_parts HI
  obtain ⟨hcut12, hA12, hC12⟩ := Iz (P := Tryz.prog) (Value.int .i64) 0 22 3 .i64 Tryz.underlying22 aE hsz12 A0 c0 c a dt_ dt_ aJ.1
  have y := Q_ (Kd.IZ (h1 := fun _ => rfl) (hA12 _ (Kd.IY ae.1)))
  have bE := Q_ hC12
  clear hA12 hC12 aE hsz12
  obtain ⟨i013, aG, _, hsz13, _⟩ := info_parts HI
  obtain ⟨bZ, hcut13, hA13, hC13⟩ := Ky (P := Tryz.prog) (Value.int .i64) 0 22 3 .i64 Tryz.underlying22 aG hsz13 A0 c0 c a dt_ dt_ aJ.1
  have ai := Q_ (Kd.IZ (h1 := fun _ => rfl) (hA13 _ (Kd.IY ae.1)))
  have bF := Q_ hC13
  clear hA13 hC13 aG hsz13
  refine sw_ (S := fun w' => True) 13 BZ.tab6 BZ.bits6 trivial (fun hHeld HT_ HW_ => ?_)
  generalize wr.drew = b2 at HB y ai hHeld ⊢
  refine Ba 1 36 13 2 ?_
  refine Ba 2 37 13 6 ?_
  refine Ba 3 38 13 14 ?_
  refine Ba 5 40 13 46 ?_
  refine Ba 8 43 13 302 ?_
  refine Ba 9 44 13 814 ?_
  refine Ba 10 45 13 1838 ?_
  refine VP (σ := Value × Value × Value) 3 #[true, true, true, true, true, true, true, false, true, true, true, false, false] (fun s_ => [(35, s_.1), (39, s_.2.1), (41, s_.2.2)]) (fun s_ w' => (Kd.R (Kd.int .i64) 3 w' w.heap.size (fun k_ => some k_ ≠ (s_.2.2 : Value).ownBlock) s_.2.1 E) ∧ (Kd.R (Kd.int .i64) 3 w' w.heap.size (fun k_ => some k_ ≠ (s_.2.1 : Value).ownBlock) s_.2.2 t) ∧ (Below w.heap.size w w')) ?_ ?_
  rotate_left
  ·intro hCont
   refine Ub (i := 0) (j := 6) (Ni := some 35) (Nj := some 41) #[true, true, true, true, false, true, false, false, true, true, true, false, false] #[false, true, true, true, false, true, true, false, true, true, true, false, false] rfl rfl rfl rfl (Lr HT_.1 (by kernel_rfl)) (by decide) (by decide) (fun K hK => ?_) (fun K hK => ?_)
   ·skip
    refine JY .i64 3 35 ([] : List Int) ?_
    intro Z bM F hb
    rw [← ak.1] at F
    have _ := Q_ (Kd.BV F (AZ (pb_ HB.1)))
    have _ := Q_ (AD (pb_ HB.1) hb)
    clear HB
    rename_i q HB
    clear hb F
    refine hK.out _ _ trivial (fun hHeld => ?_)
    clear hK K
    refine no_ (some 35) ?_
    refine Ub (i := 4) (j := 6) (Ni := some 39) (Nj := some 41) #[true, true, true, true, true, true, false, false, true, true, true, false, false] #[true, true, true, true, false, true, true, false, true, true, true, false, false] rfl rfl rfl rfl (Lr HT_.1 (by kernel_rfl)) (by decide) (by decide) (fun K hK => ?_) (fun K hK => ?_)
    ·skip
     refine Kd.D2 (Kd.int .i64) (w0 := w) w.heap.size (by rfl) (.tmp 35) (.tmp 38) 22 3 (.int .i64 0) 8 rfl Tryz.underlying22 HI rfl (by decide) (by omega) Z ad (c.take (a : Int).toNat) _ _ _ (fun _ => True) (fun _ => False) rfl rfl ?aO ?aR (fun _ _ h => h) (fun _ h => h.elim) ?aF ?aB ?aS ?aL ?_
     (case aR => first | ((conv => (arg 5; rw [← show (c.take (a : Int).toNat).length = a.toNat from (by rw [List.length_take]; have h_ : (a : Int) ≤ (c.length : Int) := dt_; omega)])); exact cb_ y HB) | (rw [← show (c.take (a : Int).toNat).length = a.toNat from (by rw [List.length_take]; have h_ : (a : Int) ≤ (c.length : Int) := dt_; omega)]; exact cb_ y HB) | (exact cb_ y HB))
     (case aB => exact (pb_ HB.1))
     (case aF => exact (fun _ _ => trivial))
     (case aO => exact (pr_ q.1))
     (case aS => exact (AZ (pb_ HB.1)))
     (case aL => have := az.1; have hlx_ := (show (c.take (a : Int).toNat).length = a.toNat from (by rw [List.length_take]; have h_ : (a : Int) ≤ (c.length : Int) := dt_; omega)); omega)
     intro U bt ho hb hg hat
     rw [← aq.1] at ho
     have _ := Q_ (hb)
     have _ := Q_ (ho)
     clear HB q
     rename_i HB o
     clear ho hb hg hat
     refine hK.out _ _ trivial (fun hHeld => ?_)
     clear hK K
     refine no_ (some 39) ?_
     refine on_ 6 (some 41) (tm_ 13 1919) HT_ (fun K hK => ?_)
     refine JY .i64 3 41 ([B] : List Int) ?_
     intro Q b3 af hb
     rw [← W.1] at af
     have _ := Q_ (Kd.B0 (pr_ o.1) (Kd.BJ af) hb)
     have _ := Q_ (Kd.BV (Kd.B8 af (Kd.Dj (pr_ o.1))) (AZ (pb_ HB.1)))
     have _ := Q_ (AD (pb_ HB.1) hb)
     clear o HB
     rename_i o g HB
     clear hb af
     refine hK.out _ _ trivial (fun hHeld => ?_)
     clear hK K
     refine no_ (some 41) ?_
     exact Ja (by simp only [Ic, Act.put, List.setIfInBounds_toArray, List.set_cons_zero, List.set_cons_succ]) (hCont (Z, U, Q) _ ⟨(pr_ (Kd.Ax o.1 (fun _ hk => hk.2))), (pr_ (Kd.Ax g.1 (fun _ hk => hk.2))), (pb_ HB.1)⟩)
    ·skip
     refine JY .i64 3 41 ([B] : List Int) ?_
     intro Q bt z hb
     rw [← W.1] at z
     have _ := Q_ (Kd.B0 (pr_ q.1) (Kd.BJ z) hb)
     have _ := Q_ (Kd.BV (Kd.B8 z (Kd.Dj (pr_ q.1))) (AZ (pb_ HB.1)))
     have _ := Q_ (AD (pb_ HB.1) hb)
     clear q HB
     rename_i q g HB
     clear hb z
     refine hK.out _ _ trivial (fun hHeld => ?_)
     clear hK K
     refine no_ (some 41) ?_
     refine on_ 4 (some 39) (tm_ 13 1919) HT_ (fun K hK => ?_)
     refine Kd.D2 (Kd.int .i64) (w0 := w) w.heap.size (by rfl) (.tmp 35) (.tmp 38) 22 3 (.int .i64 0) 8 rfl Tryz.underlying22 HI rfl (by decide) (by omega) Z ad (c.take (a : Int).toNat) _ _ _ (fun k_ => some k_ ≠ (Q : Value).ownBlock) (fun _ => False) rfl rfl ?aO ?aR (fun _ _ h => h) (fun _ h => h.elim) ?aF ?aB ?aS ?aL ?_
     (case aR => first | ((conv => (arg 5; rw [← show (c.take (a : Int).toNat).length = a.toNat from (by rw [List.length_take]; have h_ : (a : Int) ≤ (c.length : Int) := dt_; omega)])); exact cb_ y HB) | (rw [← show (c.take (a : Int).toNat).length = a.toNat from (by rw [List.length_take]; have h_ : (a : Int) ≤ (c.length : Int) := dt_; omega)]; exact cb_ y HB) | (exact cb_ y HB))
     (case aB => exact (pb_ HB.1))
     (case aF => exact (fun k_ hk => Kd.fresh' (Kd.Dj (pr_ g.1)) k_ hk))
     (case aO => exact (pr_ (Kd.Ax q.1 (fun _ hk => hk.2))))
     (case aS => exact (AZ (pb_ HB.1)))
     (case aL => have := az.1; have hlx_ := (show (c.take (a : Int).toNat).length = a.toNat from (by rw [List.length_take]; have h_ : (a : Int) ≤ (c.length : Int) := dt_; omega)); omega)
     intro U bN ho hb hg hat
     rw [← aq.1] at ho
     have _ := Q_ (Kd.Ho (ok := (fun _ => True)) (pr_ g.1) hg hat)
     have _ := Q_ (hb)
     have _ := Q_ (ho)
     clear g HB q
     rename_i g HB o
     clear ho hb hg hat
     refine hK.out _ _ trivial (fun hHeld => ?_)
     clear hK K
     refine no_ (some 39) ?_
     exact Ja (by simp only [Ic, Act.put, List.setIfInBounds_toArray, List.set_cons_zero, List.set_cons_succ]) (hCont (Z, U, Q) _ ⟨(pr_ o.1), (pr_ (Kd.Ax g.1 (fun _ hk => hk.2))), (pb_ HB.1)⟩)
   ·skip
    refine JY .i64 3 41 ([B] : List Int) ?_
    intro Q bM F hb
    rw [← W.1] at F
    have _ := Q_ (Kd.BV F (AZ (pb_ HB.1)))
    have _ := Q_ (AD (pb_ HB.1) hb)
    clear HB
    rename_i g HB
    clear hb F
    refine hK.out _ _ trivial (fun hHeld => ?_)
    clear hK K
    refine no_ (some 41) ?_
    refine on_ 0 (some 35) (tm_ 13 1903) HT_ (fun K hK => ?_)
    refine JY .i64 3 35 ([] : List Int) ?_
    intro Z bt z hb
    rw [← ak.1] at z
    have _ := Q_ (Kd.B0 (pr_ g.1) (Kd.BJ z) hb)
    have _ := Q_ (Kd.BV (Kd.B8 z (Kd.Dj (pr_ g.1))) (AZ (pb_ HB.1)))
    have _ := Q_ (AD (pb_ HB.1) hb)
    clear g HB
    rename_i g q HB
    clear hb z
    refine hK.out _ _ trivial (fun hHeld => ?_)
    clear hK K
    refine no_ (some 35) ?_
    refine on_ 4 (some 39) (tm_ 13 1919) HT_ (fun K hK => ?_)
    refine Kd.D2 (Kd.int .i64) (w0 := w) w.heap.size (by rfl) (.tmp 35) (.tmp 38) 22 3 (.int .i64 0) 8 rfl Tryz.underlying22 HI rfl (by decide) (by omega) Z ad (c.take (a : Int).toNat) _ _ _ (fun k_ => some k_ ≠ (Q : Value).ownBlock) (fun _ => False) rfl rfl ?aO ?aR (fun _ _ h => h) (fun _ h => h.elim) ?aF ?aB ?aS ?aL ?_
    (case aR => first | ((conv => (arg 5; rw [← show (c.take (a : Int).toNat).length = a.toNat from (by rw [List.length_take]; have h_ : (a : Int) ≤ (c.length : Int) := dt_; omega)])); exact cb_ y HB) | (rw [← show (c.take (a : Int).toNat).length = a.toNat from (by rw [List.length_take]; have h_ : (a : Int) ≤ (c.length : Int) := dt_; omega)]; exact cb_ y HB) | (exact cb_ y HB))
    (case aB => exact (pb_ HB.1))
    (case aF => exact (fun k_ hk => Kd.fresh' (Kd.Dj (pr_ g.1)) k_ hk))
    (case aO => exact (pr_ (Kd.Ax q.1 (fun _ hk => hk.2))))
    (case aS => exact (AZ (pb_ HB.1)))
    (case aL => have := az.1; have hlx_ := (show (c.take (a : Int).toNat).length = a.toNat from (by rw [List.length_take]; have h_ : (a : Int) ≤ (c.length : Int) := dt_; omega)); omega)
    intro U bN ho hb hg hat
    rw [← aq.1] at ho
    have _ := Q_ (Kd.Ho (ok := (fun _ => True)) (pr_ g.1) hg hat)
    have _ := Q_ (hb)
    have _ := Q_ (ho)
    clear g HB q
    rename_i g HB o
    clear ho hb hg hat
    refine hK.out _ _ trivial (fun hHeld => ?_)
    clear hK K
    refine no_ (some 39) ?_
    exact Ja (by simp only [Ic, Act.put, List.setIfInBounds_toArray, List.set_cons_zero, List.set_cons_succ]) (hCont (Z, U, Q) _ ⟨(pr_ o.1), (pr_ (Kd.Ax g.1 (fun _ hk => hk.2))), (pb_ HB.1)⟩)
  rintro ⟨Z, U, Q⟩ bg ⟨h0_, h1_, h2_⟩
  have n0_ : Aside0 (Kd.R (Kd.int .i64) 3 bg w.heap.size (fun k_ => some k_ ≠ (Q : Value).ownBlock) U E) := ⟨h0_⟩
  have n1_ : Aside0 (Kd.R (Kd.int .i64) 3 bg w.heap.size (fun k_ => some k_ ≠ (U : Value).ownBlock) Q t) := ⟨h1_⟩
  have n2_ : Aside0 (Below w.heap.size w bg) := ⟨h2_⟩
  clear HB
  clear h0_ h1_ h2_
  have o := n0_
  have g := n1_
  have HB := n2_
  clear n0_ n1_ n2_
  have hHeld := trivial
  obtain ⟨aU, aW, aY⟩ := Kd.Bo g.1
  (first | subst aY | (injection aY with f1_ f2_ f3_; have f4_ := f1_.symm; have f5_ := f3_.symm; clear f1_ f2_ f3_; subst f4_; subst f5_))
  refine Ja (a' := ?_) ?_ ?_
  rotate_left
  ·simp only [Ic, Act.put, List.setIfInBounds_toArray, List.set_cons_zero, List.set_cons_succ]
   rfl
  refine on_ 7 (some 42) (tf_ 11 13) HT_ (fun K hK => ?_)
  refine Kd.D2 (Kd.int .i64) (w0 := w) w.heap.size (by rfl) (.tmp 39) (.tmp 41) 22 3 (.int .i64 0) 8 rfl Tryz.underlying22 HI rfl (by decide) (by omega) U E t _ _ _ (fun k_ => some k_ ≠ (.slice aU t.length aW : Value).ownBlock) (fun _ => False) rfl rfl ?aO ?aR (fun _ _ h => h) (fun _ h => h.elim) ?aF ?aB ?aS ?aL ?_
  (case aR => exact pc_ ((Kd.BH g.1).2.2))
  (case aB => exact (pb_ HB.1))
  (case aF => exact (fun k_ hk => Kd.fresh' (Kd.Dj (pr_ g.1)) k_ hk))
  (case aO => exact (pr_ o.1))
  (case aS => exact (AZ (pb_ HB.1)))
  (case aL => have := bl.1; omega)
  intro bs b4 ho hb hg hat
  rw [← bb.1] at ho
  have _ := Q_ (Kd.Ho (ok := (fun _ => True)) (by (with_reducible repeat (first | apply Kd.Ef | apply Kd.Ed | apply Kd.EU)); exact Kd.Ax g.1 (fun _ hk => ⟨trivial, hk⟩)) hg hat)
  have _ := Q_ (hb)
  have _ := Q_ (ho)
  clear g HB o
  rename_i g HB ay
  clear ho hb hg hat
  refine hK.out _ _ trivial (fun hHeld => ?_)
  clear hK K
  refine no_ (some 42) ?_
  refine on_ 11 (some 46) (tf_ 12 13) HT_ (fun K hK => ?_)
  refine Kd.D2 (Kd.int .i64) (w0 := w) w.heap.size (by rfl) (.tmp 42) (.tmp 45) 22 3 (.int .i64 0) 8 rfl Tryz.underlying22 HI rfl (by decide) (by omega) bs v (c.drop (a : Int).toNat) _ _ _ (fun k_ => some k_ ≠ (.slice aU t.length aW : Value).ownBlock) (fun _ => False) rfl rfl ?aO ?aR (fun _ _ h => h) (fun _ h => h.elim) ?aF ?aB ?aS ?aL ?_
  (case aR => first | ((conv => (arg 5; rw [← show (c.drop (a : Int).toNat).length = (c.length - a.toNat) from List.length_drop])); exact cb_ ai HB) | (rw [← show (c.drop (a : Int).toNat).length = (c.length - a.toNat) from List.length_drop]; exact cb_ ai HB) | (exact cb_ ai HB))
  (case aB => exact (pb_ HB.1))
  (case aF => exact (fun k_ hk => Kd.fresh' (Kd.Dj (pr_ g.1)) k_ hk))
  (case aO => exact (pr_ ay.1))
  (case aS => exact (AZ (pb_ HB.1)))
  (case aL => have := a4.1; have hlx_ := (show (c.drop (a : Int).toNat).length = (c.length - a.toNat) from List.length_drop); omega)
  intro bY b5 ho hb hg hat
  rw [← bc.1] at ho
  have _ := Q_ (Kd.Ho (ok := (fun _ => True)) (pr_ g.1) hg hat)
  have _ := Q_ (hb)
  have _ := Q_ (ho)
  clear g HB ay
  rename_i g HB a3
  clear ho hb hg hat
  refine hK.out _ _ trivial (fun hHeld => ?_)
  clear hK K
  refine no_ (some 46) ?_
  refine Ba 12 4 13 8191 ?_
  refine G8 (E0 HT_.1 (by kernel_rfl)) ?_
  try go_wp2
  go_ret
  exact ⟨_, er_, pr_ (Kd.Ax a3.1 (fun _ hk => trivial)), pb_ HB.1⟩
 rw [if_pos c3] at H
 have bm := decide_eq_true c3
 clear c3
 by_cases aM : 0 ≤ a
 rotate_left
 ·rw [if_neg aM] at H
  exact nn_ H
 rw [if_pos aM] at H
 have bG := decide_eq_true aM
 clear aM
 by_cases av : (rd c a) < B
 ·rw [if_pos av] at H
  have bd := decide_eq_true av
  clear av
  have H' := Q_ H
  clear H
  have J : 0 ≤ (a : Int) := dt_
  have L : a < (c.length : Int) := dt_
  obtain ⟨X, al, l⟩ := Kd.GG ae.1 a J L
  cases al
  replace l := bt_ HB l
  replace J := eq_true J
  replace L := eq_true L
  go_wp2
  go_roundg k1
  case measure => have := bk.1; omega
  case rel => exact ⟨(wrap64 (a + 1)), el_, H', ⟨by have := bk.1; omega⟩, ⟨pb_ HB.1⟩⟩
 rw [if_neg av] at H
 have bd := decide_eq_false av
 clear av
 by_cases au : (rd c a) = B
 ·rw [if_pos au] at H
  have be : ((rd c a) == B) = true := beq_iff_eq.mpr au
  have bf : ((rd c a) != B) = false := bne_eq_false_iff_eq.mpr au
  clear au
  obtain ⟨an, hy761⟩ : ∃ y_ : List Int, y_ = (([] : List Int)) := ⟨_, rfl⟩
  replace H : (if an.length + c.length < 17592186044416 then (some (an ++ c)) else (none)) = some r := hb_ hy761 H
  have aA := Q_ hy761
  clear hy761
  by_cases aN : an.length + c.length < 17592186044416
  rotate_left
  ·rw [if_neg aN] at H
   exact nn_ H
  rw [if_pos aN] at H
  have a5 := Q_ aN
  clear aN
  obtain ⟨bv, hy764⟩ : ∃ y_ : List Int, y_ = (an ++ c) := ⟨_, rfl⟩
  replace H : (some bv) = some r := hb_ hy764 H
  have a8 := Q_ hy764
  clear hy764
  obtain rfl := Option.some.inj H
  have J : 0 ≤ (a : Int) := dt_
  have L : a < (c.length : Int) := dt_
  obtain ⟨X, al, l⟩ := Kd.GG ae.1 a J L
  cases al
  replace l := bt_ HB l
  replace J := eq_true J
  replace L := eq_true L
  have aa : 0 ≤ (a : Int) := dt_
  have ab : a < (c.length : Int) := dt_
  obtain ⟨ar, aD, I⟩ := Kd.GG ae.1 a aa ab
  obtain rfl : X = ar := (by injection aD)
  replace I := bt_ HB I
  replace aa := eq_true aa
  replace ab := eq_true ab
  go_wp2_with (first | (refine Ie .i64 3 32 ([] : List Int) ?_; intro bq b6 am hb; rw [← aA.1] at am; have _ := Q_ (Kd.BV am (AZ (pb_ HB.1))); have _ := Q_ (AD (pb_ HB.1) hb); clear HB; rename_i aw HB; clear hb am) | ((with_reducible refine FO (b := .append) (xs := #[.tmp 32, .tmp 33]) rfl ?_); at_builtin; refine Kd.Hi (Kd.int .i64) (w0 := w) w.heap.size rfl (.tmp 32) (.tmp 33) 22 3 (.int .i64 0) 8 rfl Tryz.underlying22 HI rfl (by decide) (by omega) bq an c _ _ _ (fun _ => True) (fun _ => False) rfl rfl ?aO ?aR (fun _ _ h => h) (fun _ h => h.elim) ?aF ?aB ?aS ?aL ?_; (case aR => exact cb_ ae HB); (case aB => exact (pb_ HB.1)); (case aF => exact (fun _ _ => trivial)); (case aO => exact (pr_ aw.1)); (case aS => exact (AZ (pb_ HB.1))); (case aL => have := a5.1; omega); intro bW b7 ho hb hg hat; rw [← a8.1] at ho; have _ := Q_ (hb); have _ := Q_ (ho); clear HB aw; rename_i HB a0; clear ho hb hg hat))
  go_ret
  exact ⟨_, er_, pr_ a0.1, pb_ HB.1⟩
 rw [if_neg au] at H
 have be : ((rd c a) == B) = false := beq_eq_false_iff_ne.mpr au
 have bf : ((rd c a) != B) = true := bne_iff_ne.mpr au
 obtain ⟨ac, hy767⟩ : ∃ y_ : List Int, y_ = (([] : List Int)) := ⟨_, rfl⟩
 replace H : (if a ≤ (c.length : Int) then (if ac.length + (c.take (a : Int).toNat).length < 17592186044416 then ((some (ac ++ (c.take (a : Int).toNat) : List Int)).bind fun D => ((some (([B] : List Int) : List Int)).bind fun s => (if D.length + s.length < 17592186044416 then ((some (D ++ s : List Int)).bind fun u => (if u.length + (c.drop (a : Int).toNat).length < 17592186044416 then (some (u ++ (c.drop (a : Int).toNat))) else (none))) else (none)))) else (none)) else (none)) = some r := hb_ hy767 H
 have aj := Q_ hy767
 clear hy767
 have bH := eq_true (dt_ : 0 ≤ a)
 by_cases aC : a ≤ (c.length : Int)
 rotate_left
 ·rw [if_neg aC] at H
  exact nn_ H
 rw [if_pos aC] at H
 have bI := eq_true aC
 have bJ : decide (a ≤ (c.length : Int)) = true := decide_eq_true aC
 clear aC
 by_cases aP : ac.length + (c.take (a : Int).toNat).length < 17592186044416
 rotate_left
 ·rw [if_neg aP] at H
  exact nn_ H
 rw [if_pos aP] at H
 have ao := Q_ aP
 clear aP
 obtain ⟨D, hy771⟩ : ∃ y_ : List Int, y_ = (ac ++ (c.take (a : Int).toNat)) := ⟨_, rfl⟩
 replace H : ((some (([B] : List Int) : List Int)).bind fun s => (if D.length + s.length < 17592186044416 then ((some (D ++ s : List Int)).bind fun u => (if u.length + (c.drop (a : Int).toNat).length < 17592186044416 then (some (u ++ (c.drop (a : Int).toNat))) else (none))) else (none))) = some r := hb_ hy771 H
 have ap := Q_ hy771
 clear hy771
 obtain ⟨s, hy774⟩ : ∃ y_ : List Int, y_ = (([B] : List Int)) := ⟨_, rfl⟩
 replace H : (if D.length + s.length < 17592186044416 then ((some (D ++ s : List Int)).bind fun u => (if u.length + (c.drop (a : Int).toNat).length < 17592186044416 then (some (u ++ (c.drop (a : Int).toNat))) else (none))) else (none)) = some r := hb_ hy774 H
 have V := Q_ hy774
 clear hy774
 by_cases aQ : D.length + s.length < 17592186044416
 rotate_left
 ·rw [if_neg aQ] at H
  exact nn_ H
 rw [if_pos aQ] at H
 have a6 := Q_ aQ
 clear aQ
 obtain ⟨u, hy777⟩ : ∃ y_ : List Int, y_ = (D ++ s) := ⟨_, rfl⟩
 replace H : (if u.length + (c.drop (a : Int).toNat).length < 17592186044416 then (some (u ++ (c.drop (a : Int).toNat))) else (none)) = some r := hb_ hy777 H
 have a9 := Q_ hy777
 clear hy777
 have bK := eq_true (dt_ : 0 ≤ a)
 have bL := eq_true (dt_ : a ≤ (c.length : Int))
 by_cases aT : u.length + (c.drop (a : Int).toNat).length < 17592186044416
 rotate_left
 ·rw [if_neg aT] at H
  exact nn_ H
 rw [if_pos aT] at H
 have a7 := Q_ aT
 clear aT
 obtain ⟨bw, hy781⟩ : ∃ y_ : List Int, y_ = (u ++ (c.drop (a : Int).toNat)) := ⟨_, rfl⟩
 replace H : (some bw) = some r := hb_ hy781 H
 have ba := Q_ hy781
 clear hy781
 obtain rfl := Option.some.inj H
 have J : 0 ≤ (a : Int) := dt_
 have L : a < (c.length : Int) := dt_
 obtain ⟨X, al, l⟩ := Kd.GG ae.1 a J L
 cases al
 replace l := bt_ HB l
 replace J := eq_true J
 replace L := eq_true L
 have aa : 0 ≤ (a : Int) := dt_
 have ab : a < (c.length : Int) := dt_
 obtain ⟨ar, aD, I⟩ := Kd.GG ae.1 a aa ab
 obtain rfl : X = ar := (by injection aD)
 replace I := bt_ HB I
 replace aa := eq_true aa
 replace ab := eq_true ab
 try go_wp2
 have _ := Q_ (Cm HB.1)
 clear HB
 rename_i HB
 obtain ⟨i038, aH, _, hsz38, _⟩ := info_parts HI
 obtain ⟨hcut38, hA38, hC38⟩ := Iz (P := Tryz.prog) (Value.int .i64) 0 22 3 .i64 Tryz.underlying22 aH hsz38 (some X) c0 c a dt_ dt_ aJ.1
 have x := Q_ (Kd.IZ (h1 := fun _ => rfl) (hA38 _ (Kd.IY ae.1)))
 have bC := Q_ hC38
 clear hA38 hC38 aH hsz38
 obtain ⟨i039, aI, _, hsz39, _⟩ := info_parts HI
 obtain ⟨b0, hcut39, hA39, hC39⟩ := Ky (P := Tryz.prog) (Value.int .i64) 0 22 3 .i64 Tryz.underlying22 aI hsz39 (some X) c0 c a dt_ dt_ aJ.1
 have ah := Q_ (Kd.IZ (h1 := fun _ => rfl) (hA39 _ (Kd.IY ae.1)))
 have bD := Q_ hC39
 clear hA39 hC39 aI hsz39
 refine sw_ (S := fun w' => True) 13 BZ.tab6 BZ.bits6 trivial (fun hHeld HT_ HW_ => ?_)
 generalize wr.drew = b8 at HB x ah hHeld ⊢
 refine Ba 1 36 13 2 ?_
 refine Ba 2 37 13 6 ?_
 refine Ba 3 38 13 14 ?_
 refine Ba 5 40 13 46 ?_
 refine Ba 8 43 13 302 ?_
 refine Ba 9 44 13 814 ?_
 refine Ba 10 45 13 1838 ?_
 refine VP (σ := Value × Value × Value) 3 #[true, true, true, true, true, true, true, false, true, true, true, false, false] (fun s_ => [(35, s_.1), (39, s_.2.1), (41, s_.2.2)]) (fun s_ w' => (Kd.R (Kd.int .i64) 3 w' w.heap.size (fun k_ => some k_ ≠ (s_.2.2 : Value).ownBlock) s_.2.1 D) ∧ (Kd.R (Kd.int .i64) 3 w' w.heap.size (fun k_ => some k_ ≠ (s_.2.1 : Value).ownBlock) s_.2.2 s) ∧ (Below w.heap.size w w')) ?_ ?_
 rotate_left
 ·intro hCont
  refine Ub (i := 0) (j := 6) (Ni := some 35) (Nj := some 41) #[true, true, true, true, false, true, false, false, true, true, true, false, false] #[false, true, true, true, false, true, true, false, true, true, true, false, false] rfl rfl rfl rfl (Lr HT_.1 (by kernel_rfl)) (by decide) (by decide) (fun K hK => ?_) (fun K hK => ?_)
  ·skip
   refine JY .i64 3 35 ([] : List Int) ?_
   intro Y bO G hb
   rw [← aj.1] at G
   have _ := Q_ (Kd.BV G (AZ (pb_ HB.1)))
   have _ := Q_ (AD (pb_ HB.1) hb)
   clear HB
   rename_i p HB
   clear hb G
   refine hK.out _ _ trivial (fun hHeld => ?_)
   clear hK K
   refine no_ (some 35) ?_
   refine Ub (i := 4) (j := 6) (Ni := some 39) (Nj := some 41) #[true, true, true, true, true, true, false, false, true, true, true, false, false] #[true, true, true, true, false, true, true, false, true, true, true, false, false] rfl rfl rfl rfl (Lr HT_.1 (by kernel_rfl)) (by decide) (by decide) (fun K hK => ?_) (fun K hK => ?_)
   ·skip
    refine Kd.D2 (Kd.int .i64) (w0 := w) w.heap.size (by rfl) (.tmp 35) (.tmp 38) 22 3 (.int .i64 0) 8 rfl Tryz.underlying22 HI rfl (by decide) (by omega) Y ac (c.take (a : Int).toNat) _ _ _ (fun _ => True) (fun _ => False) rfl rfl ?aO ?aR (fun _ _ h => h) (fun _ h => h.elim) ?aF ?aB ?aS ?aL ?_
    (case aR => first | ((conv => (arg 5; rw [← show (c.take (a : Int).toNat).length = a.toNat from (by rw [List.length_take]; have h_ : (a : Int) ≤ (c.length : Int) := dt_; omega)])); exact cb_ x HB) | (rw [← show (c.take (a : Int).toNat).length = a.toNat from (by rw [List.length_take]; have h_ : (a : Int) ≤ (c.length : Int) := dt_; omega)]; exact cb_ x HB) | (exact cb_ x HB))
    (case aB => exact (pb_ HB.1))
    (case aF => exact (fun _ _ => trivial))
    (case aO => exact (pr_ p.1))
    (case aS => exact (AZ (pb_ HB.1)))
    (case aL => have := ao.1; have hlx_ := (show (c.take (a : Int).toNat).length = a.toNat from (by rw [List.length_take]; have h_ : (a : Int) ≤ (c.length : Int) := dt_; omega)); omega)
    intro T bu ho hb hg hat
    rw [← ap.1] at ho
    have _ := Q_ (hb)
    have _ := Q_ (ho)
    clear HB p
    rename_i HB m
    clear ho hb hg hat
    refine hK.out _ _ trivial (fun hHeld => ?_)
    clear hK K
    refine no_ (some 39) ?_
    refine on_ 6 (some 41) (tm_ 13 1919) HT_ (fun K hK => ?_)
    refine JY .i64 3 41 ([B] : List Int) ?_
    intro O b9 ag hb
    rw [← V.1] at ag
    have _ := Q_ (Kd.B0 (pr_ m.1) (Kd.BJ ag) hb)
    have _ := Q_ (Kd.BV (Kd.B8 ag (Kd.Dj (pr_ m.1))) (AZ (pb_ HB.1)))
    have _ := Q_ (AD (pb_ HB.1) hb)
    clear m HB
    rename_i m d HB
    clear hb ag
    refine hK.out _ _ trivial (fun hHeld => ?_)
    clear hK K
    refine no_ (some 41) ?_
    exact Ja (by simp only [Ic, Act.put, List.setIfInBounds_toArray, List.set_cons_zero, List.set_cons_succ]) (hCont (Y, T, O) _ ⟨(pr_ (Kd.Ax m.1 (fun _ hk => hk.2))), (pr_ (Kd.Ax d.1 (fun _ hk => hk.2))), (pb_ HB.1)⟩)
   ·skip
    refine JY .i64 3 41 ([B] : List Int) ?_
    intro O bu A hb
    rw [← V.1] at A
    have _ := Q_ (Kd.B0 (pr_ p.1) (Kd.BJ A) hb)
    have _ := Q_ (Kd.BV (Kd.B8 A (Kd.Dj (pr_ p.1))) (AZ (pb_ HB.1)))
    have _ := Q_ (AD (pb_ HB.1) hb)
    clear p HB
    rename_i p d HB
    clear hb A
    refine hK.out _ _ trivial (fun hHeld => ?_)
    clear hK K
    refine no_ (some 41) ?_
    refine on_ 4 (some 39) (tm_ 13 1919) HT_ (fun K hK => ?_)
    refine Kd.D2 (Kd.int .i64) (w0 := w) w.heap.size (by rfl) (.tmp 35) (.tmp 38) 22 3 (.int .i64 0) 8 rfl Tryz.underlying22 HI rfl (by decide) (by omega) Y ac (c.take (a : Int).toNat) _ _ _ (fun k_ => some k_ ≠ (O : Value).ownBlock) (fun _ => False) rfl rfl ?aO ?aR (fun _ _ h => h) (fun _ h => h.elim) ?aF ?aB ?aS ?aL ?_
    (case aR => first | ((conv => (arg 5; rw [← show (c.take (a : Int).toNat).length = a.toNat from (by rw [List.length_take]; have h_ : (a : Int) ≤ (c.length : Int) := dt_; omega)])); exact cb_ x HB) | (rw [← show (c.take (a : Int).toNat).length = a.toNat from (by rw [List.length_take]; have h_ : (a : Int) ≤ (c.length : Int) := dt_; omega)]; exact cb_ x HB) | (exact cb_ x HB))
    (case aB => exact (pb_ HB.1))
    (case aF => exact (fun k_ hk => Kd.fresh' (Kd.Dj (pr_ d.1)) k_ hk))
    (case aO => exact (pr_ (Kd.Ax p.1 (fun _ hk => hk.2))))
    (case aS => exact (AZ (pb_ HB.1)))
    (case aL => have := ao.1; have hlx_ := (show (c.take (a : Int).toNat).length = a.toNat from (by rw [List.length_take]; have h_ : (a : Int) ≤ (c.length : Int) := dt_; omega)); omega)
    intro T bP ho hb hg hat
    rw [← ap.1] at ho
    have _ := Q_ (Kd.Ho (ok := (fun _ => True)) (pr_ d.1) hg hat)
    have _ := Q_ (hb)
    have _ := Q_ (ho)
    clear d HB p
    rename_i d HB m
    clear ho hb hg hat
    refine hK.out _ _ trivial (fun hHeld => ?_)
    clear hK K
    refine no_ (some 39) ?_
    exact Ja (by simp only [Ic, Act.put, List.setIfInBounds_toArray, List.set_cons_zero, List.set_cons_succ]) (hCont (Y, T, O) _ ⟨(pr_ m.1), (pr_ (Kd.Ax d.1 (fun _ hk => hk.2))), (pb_ HB.1)⟩)
  ·skip
   refine JY .i64 3 41 ([B] : List Int) ?_
   intro O bO G hb
   rw [← V.1] at G
   have _ := Q_ (Kd.BV G (AZ (pb_ HB.1)))
   have _ := Q_ (AD (pb_ HB.1) hb)
   clear HB
   rename_i d HB
   clear hb G
   refine hK.out _ _ trivial (fun hHeld => ?_)
   clear hK K
   refine no_ (some 41) ?_
   refine on_ 0 (some 35) (tm_ 13 1903) HT_ (fun K hK => ?_)
   refine JY .i64 3 35 ([] : List Int) ?_
   intro Y bu A hb
   rw [← aj.1] at A
   have _ := Q_ (Kd.B0 (pr_ d.1) (Kd.BJ A) hb)
   have _ := Q_ (Kd.BV (Kd.B8 A (Kd.Dj (pr_ d.1))) (AZ (pb_ HB.1)))
   have _ := Q_ (AD (pb_ HB.1) hb)
   clear d HB
   rename_i d p HB
   clear hb A
   refine hK.out _ _ trivial (fun hHeld => ?_)
   clear hK K
   refine no_ (some 35) ?_
   refine on_ 4 (some 39) (tm_ 13 1919) HT_ (fun K hK => ?_)
   refine Kd.D2 (Kd.int .i64) (w0 := w) w.heap.size (by rfl) (.tmp 35) (.tmp 38) 22 3 (.int .i64 0) 8 rfl Tryz.underlying22 HI rfl (by decide) (by omega) Y ac (c.take (a : Int).toNat) _ _ _ (fun k_ => some k_ ≠ (O : Value).ownBlock) (fun _ => False) rfl rfl ?aO ?aR (fun _ _ h => h) (fun _ h => h.elim) ?aF ?aB ?aS ?aL ?_
   (case aR => first | ((conv => (arg 5; rw [← show (c.take (a : Int).toNat).length = a.toNat from (by rw [List.length_take]; have h_ : (a : Int) ≤ (c.length : Int) := dt_; omega)])); exact cb_ x HB) | (rw [← show (c.take (a : Int).toNat).length = a.toNat from (by rw [List.length_take]; have h_ : (a : Int) ≤ (c.length : Int) := dt_; omega)]; exact cb_ x HB) | (exact cb_ x HB))
   (case aB => exact (pb_ HB.1))
   (case aF => exact (fun k_ hk => Kd.fresh' (Kd.Dj (pr_ d.1)) k_ hk))
   (case aO => exact (pr_ (Kd.Ax p.1 (fun _ hk => hk.2))))
   (case aS => exact (AZ (pb_ HB.1)))
   (case aL => have := ao.1; have hlx_ := (show (c.take (a : Int).toNat).length = a.toNat from (by rw [List.length_take]; have h_ : (a : Int) ≤ (c.length : Int) := dt_; omega)); omega)
   intro T bP ho hb hg hat
   rw [← ap.1] at ho
   have _ := Q_ (Kd.Ho (ok := (fun _ => True)) (pr_ d.1) hg hat)
   have _ := Q_ (hb)
   have _ := Q_ (ho)
   clear d HB p
   rename_i d HB m
   clear ho hb hg hat
   refine hK.out _ _ trivial (fun hHeld => ?_)
   clear hK K
   refine no_ (some 39) ?_
   exact Ja (by simp only [Ic, Act.put, List.setIfInBounds_toArray, List.set_cons_zero, List.set_cons_succ]) (hCont (Y, T, O) _ ⟨(pr_ m.1), (pr_ (Kd.Ax d.1 (fun _ hk => hk.2))), (pb_ HB.1)⟩)
 rintro ⟨Y, T, O⟩ bh ⟨h0_, h1_, h2_⟩
 have n0_ : Aside0 (Kd.R (Kd.int .i64) 3 bh w.heap.size (fun k_ => some k_ ≠ (O : Value).ownBlock) T D) := ⟨h0_⟩
 have n1_ : Aside0 (Kd.R (Kd.int .i64) 3 bh w.heap.size (fun k_ => some k_ ≠ (T : Value).ownBlock) O s) := ⟨h1_⟩
 have n2_ : Aside0 (Below w.heap.size w bh) := ⟨h2_⟩
 clear HB
 clear h0_ h1_ h2_
 have m := n0_
 have d := n1_
 have HB := n2_
 clear n0_ n1_ n2_
 have hHeld := trivial
 obtain ⟨aV, aX, aZ⟩ := Kd.Bo d.1
 (first | subst aZ | (injection aZ with f1_ f2_ f3_; have f4_ := f1_.symm; have f5_ := f3_.symm; clear f1_ f2_ f3_; subst f4_; subst f5_))
 refine Ja (a' := ?_) ?_ ?_
 rotate_left
 ·simp only [Ic, Act.put, List.setIfInBounds_toArray, List.set_cons_zero, List.set_cons_succ]
  rfl
 refine on_ 7 (some 42) (tf_ 11 13) HT_ (fun K hK => ?_)
 refine Kd.D2 (Kd.int .i64) (w0 := w) w.heap.size (by rfl) (.tmp 39) (.tmp 41) 22 3 (.int .i64 0) 8 rfl Tryz.underlying22 HI rfl (by decide) (by omega) T D s _ _ _ (fun k_ => some k_ ≠ (.slice aV s.length aX : Value).ownBlock) (fun _ => False) rfl rfl ?aO ?aR (fun _ _ h => h) (fun _ h => h.elim) ?aF ?aB ?aS ?aL ?_
 (case aR => exact pc_ ((Kd.BH d.1).2.2))
 (case aB => exact (pb_ HB.1))
 (case aF => exact (fun k_ hk => Kd.fresh' (Kd.Dj (pr_ d.1)) k_ hk))
 (case aO => exact (pr_ m.1))
 (case aS => exact (AZ (pb_ HB.1)))
 (case aL => have := a6.1; omega)
 intro br ca ho hb hg hat
 rw [← a9.1] at ho
 have _ := Q_ (Kd.Ho (ok := (fun _ => True)) (by (with_reducible repeat (first | apply Kd.Ef | apply Kd.Ed | apply Kd.EU)); exact Kd.Ax d.1 (fun _ hk => ⟨trivial, hk⟩)) hg hat)
 have _ := Q_ (hb)
 have _ := Q_ (ho)
 clear d HB m
 rename_i d HB ax
 clear ho hb hg hat
 refine hK.out _ _ trivial (fun hHeld => ?_)
 clear hK K
 refine no_ (some 42) ?_
 refine on_ 11 (some 46) (tf_ 12 13) HT_ (fun K hK => ?_)
 refine Kd.D2 (Kd.int .i64) (w0 := w) w.heap.size (by rfl) (.tmp 42) (.tmp 45) 22 3 (.int .i64 0) 8 rfl Tryz.underlying22 HI rfl (by decide) (by omega) br u (c.drop (a : Int).toNat) _ _ _ (fun k_ => some k_ ≠ (.slice aV s.length aX : Value).ownBlock) (fun _ => False) rfl rfl ?aO ?aR (fun _ _ h => h) (fun _ h => h.elim) ?aF ?aB ?aS ?aL ?_
 (case aR => first | ((conv => (arg 5; rw [← show (c.drop (a : Int).toNat).length = (c.length - a.toNat) from List.length_drop])); exact cb_ ah HB) | (rw [← show (c.drop (a : Int).toNat).length = (c.length - a.toNat) from List.length_drop]; exact cb_ ah HB) | (exact cb_ ah HB))
 (case aB => exact (pb_ HB.1))
 (case aF => exact (fun k_ hk => Kd.fresh' (Kd.Dj (pr_ d.1)) k_ hk))
 (case aO => exact (pr_ ax.1))
 (case aS => exact (AZ (pb_ HB.1)))
 (case aL => have := a7.1; have hlx_ := (show (c.drop (a : Int).toNat).length = (c.length - a.toNat) from List.length_drop); omega)
 intro bX cb ho hb hg hat
 rw [← ba.1] at ho
 have _ := Q_ (Kd.Ho (ok := (fun _ => True)) (pr_ d.1) hg hat)
 have _ := Q_ (hb)
 have _ := Q_ (ho)
 clear d HB ax
 rename_i d HB a2
 clear ho hb hg hat
 refine hK.out _ _ trivial (fun hHeld => ?_)
 clear hK K
 refine no_ (some 46) ?_
 refine Ba 12 4 13 8191 ?_
 refine G8 (E0 HT_.1 (by kernel_rfl)) ?_
 try go_wp2
 go_ret
 exact ⟨_, er_, pr_ (Kd.Ax a2.1 (fun _ hk => trivial)), pb_ HB.1⟩
def BW.l0 : Nat → List Int → Int → List Int → Int → Int → Option (List Int × Int × Int)
 | 0, _, _, _, _, _ => none
 | k + 1, g, h, b, c, d => if h > 0 then ((Cc.f b c d 6).bind fun a => ((BZ.f k g (wrap64 (1 + a.1))).bind fun e => (BW.l0 k e (wrap64 (h - 1)) b a.2.1 a.2.2))) else (some (g, c, d))
def BW.f (k : Nat) (c : List Int) (d : Int) (e : Int) : Option (List Int × Int × Int) := (Cc.f c d e 4).bind fun a => ((Cc.f c a.2.1 a.2.2 4).bind fun b => (BW.l0 k (([wrap64 (1 + a.1)] : List Int)) b.1 c b.2.1 b.2.2))
theorem BW.mono_l : ∀ k, (∀ a b c d e, LeO (BW.l0 k a b c d e) (BW.l0 (k + 1) a b c d e))
 | 0 => fun _ _ _ _ _ r h => by simp [BW.l0] at h
 | k + 1 => by
  have ih0 := BW.mono_l k
  ·intro a b c d e
   unfold BW.l0
   exact H8 ih0 BZ.mono
theorem BW.mono : ∀ a b c k, LeO (BW.f k a b c) (BW.f (k + 1) a b c) := by
 intro a b c k
 have ih0 := BW.mono_l k
 unfold BW.f
 exact H8 ih0 BZ.mono
theorem BW.calls (k : Nat) (g : Nat) (b : List Int) (q : Int) (r : Int) (J : List Int) (K : Int) (L : Int) (w0 w : World) (hI : Ae w0 w g b q r) (hB : Below w0.heap.size w0 w) (h : BW.f k b q r = some (J, K, L)) :
  Calls Tryz.prog 43 #[.pointer (some ⟨g, 0, none⟩)] w fun e w' => ∃ v0_ : Value, e = .returned (v0_) ∧ Kd.R (Kd.int .i64) 3 w' w.heap.size (fun _ => True) v0_ J ∧ Ae w0 w' g b K L ∧ Below w0.heap.size w0 w' ∧ Aw w w' g none := by
 have a := Q_ hI
 have HK := Q_ (Aw.refl w g none)
 have HL := Q_ hB.size
 clear hI
 have HW0 := Q_ hB.size
 have HB := Q_ hB
 clear hB
 unfold BW.f at h
 have H := h
 clear h
 obtain ⟨⟨l, s, t⟩, X, H⟩ := bs_ H
 (try dsimp only at H)
 obtain ⟨B, hy804⟩ : ∃ y_ : List Int, y_ = (([wrap64 (1 + l)] : List Int)) := ⟨_, rfl⟩
 replace H : ((Cc.f b s t 4).bind fun j => (BW.l0 k B j.1 b j.2.1 j.2.2)) = some (J, K, L) := hb_ hy804 H
 have u := Q_ hy804
 clear hy804
 obtain ⟨⟨x, y, z⟩, Y, H⟩ := bs_ H
 replace H : (BW.l0 k B x b y z) = some (J, K, L) := H
 have H' := Q_ H
 clear H
 go_enter Tryz.func43, Tryz.ntmps43
 go_wp2_with (first | (refine gk_ 77 6 Tryz.func77 #[.pointer (some ⟨g, 0, none⟩), .int .i64 4] ?_; (with_reducible refine (Cc.calls g b q r 4 l s t w0 _ ?side1 ?side2 X.1).mono ?_); (case side1 => exact D3 a.1); (case side2 => exact Hg HB.1 (Ae.ge a.1)); rintro e w4 ⟨rfl, hi, hb, hk⟩; refine ⟨_, rfl, ?_⟩; have _ := Q_ (Aw.trans (Gi HK.1) hk (.inl rfl)); have _ := Q_ (hb); have _ := Q_ (hi); clear HK HB a; rename_i HK HB a; (try clear hb hk hi)) | (refine Ie .i64 3 8 ([wrap64 (1 + l)] : List Int) ?_; intro V w5 v hb; rw [← u.1] at v; have _ := Q_ (Kd.BV v (DN (w := w) (g := g) (row := none) (Gi HK.1))); have _ := Q_ (Ae.below (D3 a.1) hb); have _ := Q_ (Aw.trans (Gi HK.1) (Aw.of_below hb g none) (.inl rfl)); have _ := Q_ (AD (Hg HB.1 (Ae.ge a.1)) hb); clear a HK HB; rename_i m a HK HB; clear hb v) | (refine gk_ 77 10 Tryz.func77 #[.pointer (some ⟨g, 0, none⟩), .int .i64 4] ?_; (with_reducible refine (Cc.calls g b s t 4 x y z w0 _ ?side1 ?side2 Y.1).mono ?_); (case side1 => exact D3 a.1); (case side2 => exact Hg HB.1 (Ae.ge a.1)); rintro e w7 ⟨rfl, hi, hb, hk⟩; refine ⟨_, rfl, ?_⟩; have _ := Q_ (Kd.Ax (Kd.Fg (Ae.apart (show Ae w0 _ g b s t from D3 a.1) (pr_ m.1) (by decide)) hk (fun _ h => h.2)) (fun _ h => h.1)); have _ := Q_ (Aw.trans (Gi HK.1) hk (.inl rfl)); have _ := Q_ (hb); have _ := Q_ (hi); clear m HK HB a; rename_i m HK HB a; (try clear hb hk hi)))
 (try simp only [Act.put, s1_, s2_, s3_])
 go_loopg [3, 4] k (fun kq v3 v4 w' => ∃ (n : List Int) (o : Int) (d : Int) (i : Int), v4 = .int .i64 o ∧ Aside0 (BW.l0 kq n o b d i = some (J, K, L)) ∧ Aside0 (kq ≤ k) ∧ Aside0 (Kd.R (Kd.int .i64) 3 w' w.heap.size (fun _ => True) v3 n) ∧ Aside0 (Ae w0 w' g b d i) ∧ Aside0 (Aw w w' g none) ∧ Aside0 (Below w0.heap.size w0 w'))
 case atStart => exact ⟨(B), (x), (y), (z), el_, H', ⟨Nat.le_refl _⟩, ⟨pr_ m.1⟩, ⟨D3 a.1⟩, ⟨Gi HK.1⟩, ⟨Hg HB.1 (Ae.ge a.1)⟩⟩
 clear H'
 obtain ⟨n, o, d, i, rfl, HA, P, c, a, HK, HB⟩ := hrel
 rcases gk with _ | k1
 ·exact absurd HA.1 (by simp [BW.l0])
 have H := HA.1
 clear HA
 simp only [BW.l0] at H
 by_cases I : o > 0
 rotate_left
 ·rw [if_neg I] at H
  have Q := decide_eq_false I
  clear I
  simp only [Option.some.injEq, Prod.mk.injEq] at H
  obtain ⟨rfl, rfl, rfl⟩ := H
  go_wp2
  go_ret
  exact ⟨_, er_, pr_ c.1, D3 a.1, Hg HB.1 (Ae.ge a.1), Gi HK.1⟩
 rw [if_pos I] at H
 have Q := decide_eq_true I
 clear I
 obtain ⟨⟨A, C, D⟩, Z, H⟩ := bs_ H
 (try dsimp only at H)
 obtain ⟨E, U, H⟩ := bs_ H
 (try dsimp only at H)
 have H' := Q_ H
 clear H
 go_wp2_with (first | (refine gk_ 77 17 Tryz.func77 #[.pointer (some ⟨g, 0, none⟩), .int .i64 6] ?_; (with_reducible refine (Cc.calls g b d i 6 A C D w0 _ ?side1 ?side2 Z.1).mono ?_); (case side1 => exact D3 a.1); (case side2 => exact Hg HB.1 (Ae.ge a.1)); rintro e ac ⟨rfl, hi, hb, hk⟩; refine ⟨_, rfl, ?_⟩; have _ := Q_ (Kd.Ax (Kd.Fg (Ae.apart (show Ae w0 _ g b d i from D3 a.1) (pr_ c.1) (by decide)) hk (fun _ h => h.2)) (fun _ h => h.1)); have _ := Q_ (Aw.trans (Gi HK.1) hk (.inl rfl)); have _ := Q_ (hb); have _ := Q_ (hi); clear c HK HB a; rename_i c HK HB a; (try clear hb hk hi); obtain ⟨O, S, T⟩ := Kd.Bo c.1; subst T) | (refine gk_ 78 19 Tryz.func78 #[.slice O n.length S, .int .i64 (wrap64 (1 + A))] ?_; (with_reducible refine (BZ.calls k1 _ _ n (wrap64 (1 + A)) E _ ?side1 ?side2 U.1).mono ?_); (case side1 => exact pc_ ((Kd.BH c.1).2.2)); (case side2 => exact (Kd.BH c.1).2.1); rintro e ad ⟨W, rfl, G, hb⟩; refine ⟨_, rfl, ?_⟩; have _ := Q_ (Kd.B0 (pr_ c.1) (Kd.BJ G) hb); have _ := Q_ (Kd.BV (Kd.B8 G (Kd.Dj (pr_ c.1))) (DN (w := w) (g := g) (row := none) (Gi HK.1))); have _ := Q_ (Ae.below (D3 a.1) hb); have _ := Q_ (Aw.trans (Gi HK.1) (Aw.of_below hb g none) (.inl rfl)); have _ := Q_ (AD (Hg HB.1 (Ae.ge a.1)) hb); clear c a HK HB; rename_i c F a HK HB; (try clear hb G)))
 go_roundg k1
 case measure => have := P.1; omega
 case rel => exact ⟨(E), (wrap64 (o - 1)), (C), (D), el_, H', ⟨by have := P.1; omega⟩, ⟨pr_ (Kd.Ax F.1 (fun _ hk => trivial))⟩, ⟨D3 a.1⟩, ⟨Gi HK.1⟩, ⟨Hg HB.1 (Ae.ge a.1)⟩⟩
end Go.Proofs.YtibmehnippjakaaGreat.Print
