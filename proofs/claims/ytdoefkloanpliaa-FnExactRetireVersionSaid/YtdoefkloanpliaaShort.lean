-- Written by a program of this session (prune.py): the words that the kit's print laid for this seat, as far as its texts use them; Lean checks it.
import Derived.Test.YtdoefkloanpliaaWWords
import Derived.Test.YtdoefkloanpliaaWApart
import Derived.Test.YtdoefkloanpliaaWMore
namespace Go.Proofs.Ytdoefkloanpliaa.Short
open Go.RowKit Go.Proofs.YtdoefkloanpliaaW.PrintWords Go.Proofs.YtdoefkloanpliaaW.PrintLast Go.Proofs.YtdoefkloanpliaaW.PrintMore
theorem mp_ {q : Prop} (e : q := by (try simp only [List.map_toArray, List.map_cons, List.map_nil]); first | done | rfl | (simp only [List.length_drop, List.length_take]; rfl)) : q := e
theorem er_ {q : Prop} (e : q := by first | rfl | (simp [errW_none, errW_some] <;> rfl) | (simp [*, errW_none, errW_some] <;> rfl)) : q := e
theorem el_ {q : Prop} (e : q := by first | rfl | (simp; done) | (simp [*]; done)) : q := e
theorem dt_ {p : Prop} [Decidable p] (h : decide p = true := by first | (with_reducible assumption) | assumption) : p := of_decide_eq_true h
theorem pr_ {p q : Prop} (h : p) (e : p → q := by intro h_; (with_reducible repeat (first | apply Kd.R_alloc | apply Kd.R_drewN | apply Kd.R_drew)); exact h_) : q := e h
theorem ps_ {p q : Prop} (h : p) (e : p → q := by intro h_; (with_reducible repeat (first | apply Kd.S_alloc | apply Kd.S_drewN | apply Kd.S_drew)); exact h_) : q := e h
theorem pc_ {p q : Prop} (h : p) (e : p → q := by intro h_; repeat (first | exact h_ | (with_reducible refine Kd.C_alloc ?_ _) | (with_reducible refine Kd.C_drewN ?_ _) | (with_reducible refine Kd.C_drew ?_))) : q := e h
theorem pb_ {p q : Prop} (h : p) (e : p → q := by intro h_; repeat (first | (with_reducible first | exact h_ | apply below_alloc | apply pw_below_drewN | apply below_drew1) | exact h_)) : q := e h
end Go.Proofs.Ytdoefkloanpliaa.Short
namespace Go.Proofs.YtdoefkloanpliaaW.PrintWords
open Go.RowKit
/-- Element i's rows lent to a call that keeps all else: the element comes back changed. -/
theorem Kd.S_call {α : Type} {d : Kd α} {e g n cap : Nat} {W : World} {base : Nat} {ok : Nat → Prop} {xs : List α} (h : Kd.S d e W base ok (.slice (some ⟨g, 0, none⟩) n cap) xs) (z : α) (i : Int) (h0 : 0 ≤ i) (h1 : i < n) :
    ∃ (oki : Nat → Prop) (c : List Value), c.length = d.sz ∧ d.M W base oki (xs.getD i.toNat z) c ∧ (∀ j u, c[j]? = some u → W.cell? ⟨g, i.toNat * d.sz + j, none⟩ = some u) ∧ (∀ k, oki k → ok k) ∧
      ∀ {w1 : World} {x' : α}, Kept W w1 oki → d.M w1 base (fun k => oki k ∨ W.heap.size ≤ k) x' c → Kd.S d e w1 base (fun k => ok k ∨ W.heap.size ≤ k) (.slice (some ⟨g, 0, none⟩) n cap) (xs.set i.toNat x') := by
  obtain ⟨oki, c, hcl, hM, hcc, hoki, hH⟩ := Kd.S_lend h z i h0 h1
  refine ⟨oki, c, hcl, hM, hcc, fun k hk => (hoki k hk).1, fun hk hM1 => ?_⟩
  have hH1 := Kd.H_widen (Kd.H_mono hH (ok' := fun k => ok k ∨ W.heap.size ≤ k) (fun k hk => .inl hk))
  have hH2 := Kd.H_step hH1 (fun k _ hn hlt => hk.2 k hlt (fun ho => hn (.inl ho)))
  exact Kd.H_back hH2 hM1 (fun k hk => hk.elim .inl (fun h2 => .inr ⟨.inr h2, h2⟩))
end Go.Proofs.YtdoefkloanpliaaW.PrintWords
