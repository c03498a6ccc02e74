/- The numbers that the laws draw from bytes: each draw comes to an answer, in its range, and leaves a place in the bytes. Condition: at most 2 to the 40 bytes; the place lies in the bytes. -/
import Derived.Test.YtlcmkgbabffmeaaPlain
import Derived.Test.YtlcmkgbabffmeaaLim3
import Derived.Test.YtlcmkgbabffmeaaPrint3
import Derived.Test.YtlcmkgbabffmeaaPrint5
import Derived.Laws.Bits64b
set_option linter.unusedSimpArgs false
set_option linter.unusedVariables false
namespace Go.Proofs.Ytlcmkgbabffmeaa.Plain
open Go.RowKit Go.Proofs.YtlcmkgbabffmeaaW.PrintWords Go.Proofs.Ytlcmkgbabffmeaa.Base Go.Proofs.Ytlcmkgbabffmeaa.Print

/-- A place in the bytes. -/
def St (l : List Int) (p : Int) : Prop := 0 ≤ p ∧ p ≤ l.length ∧ l.length ≤ 1000000000000
theorem and255 (x : Int) : 0 ≤ Go.bits .and .i64 x 255 ∧ Go.bits .and .i64 x 255 ≤ 255 := by
  have hle : (BitVec.ofInt 64 x &&& BitVec.ofInt 64 255).toNat ≤ 255 := by
    rw [BitVec.toNat_and]
    exact Nat.and_le_right
  have h : Go.bits .and .i64 x 255 = wrap64 ((BitVec.ofInt 64 x &&& BitVec.ofInt 64 255).toNat : Int) := by
    unfold wrap64
    exact Go.IntKind.wrap_i64 _
  rw [h, w64 (by omega) (by omega)]
  omega
theorem l1Byte_ex (l : List Int) (p r : Int) (h : St l p) : ∃ b p' r', spec_l1Byte.f l p r = some (b, p', r') ∧ St l p' ∧ 0 ≤ b ∧ b ≤ 255 := by
  obtain ⟨h0, h1, h2⟩ := h
  unfold spec_l1Byte.f
  by_cases hp : p < (l.length : Int)
  · rw [if_pos hp, if_pos h0]
    refine ⟨_, _, _, rfl, ⟨?_, ?_, h2⟩, (and255 _).1, (and255 _).2⟩
    · rw [w64 (by omega) (by omega)]
      omega
    · rw [w64 (by omega) (by omega)]
      omega
  · rw [if_neg hp]
    exact ⟨_, _, _, rfl, ⟨h0, h1, h2⟩, (and255 _).1, (and255 _).2⟩
theorem tmod_in (x n : Int) (hx : 0 ≤ x) (hn : 0 < n) : 0 ≤ Int.tmod x n ∧ Int.tmod x n < n := ⟨Int.tmod_nonneg _ hx, Int.tmod_lt_of_pos _ hn⟩
theorem l1Below_ex (l : List Int) (p r n : Int) (h : St l p) (hn : 0 < n) : ∃ b p' r', spec_l1Below.f l p r n = some (b, p', r') ∧ St l p' ∧ 0 ≤ b ∧ b < n := by
  unfold spec_l1Below.f
  rw [if_neg (by omega)]
  obtain ⟨b, p', r', e, h', b0, b1⟩ := l1Byte_ex l p r h
  rw [e]
  by_cases h256 : n ≤ 256
  · rw [if_pos h256]
    simp only [Option.bind_some]
    rw [if_neg (by omega)]
    exact ⟨_, _, _, rfl, h', tmod_in _ _ b0 hn⟩
  · rw [if_neg h256]
    simp only [Option.bind_some]
    obtain ⟨c, p2, r2, e2, h2, c0, c1⟩ := l1Byte_ex l p' r' h'
    rw [e2]
    simp only [Option.bind_some]
    obtain ⟨d, p3, r3, e3, h3, d0, d1⟩ := l1Byte_ex l p2 r2 h2
    rw [e3]
    simp only [Option.bind_some]
    rw [if_neg (by omega)]
    refine ⟨_, _, _, rfl, h3, tmod_in _ _ ?_ hn⟩
    rw [w64 (x := b * 65536) (by omega) (by omega), w64 (x := c * 256) (by omega) (by omega), w64 (x := b * 65536 + c * 256) (by omega) (by omega), w64 (by omega) (by omega)]
    omega
theorem l1Int_ex (l : List Int) (p r : Int) (xs : List Int) (h : St l p) (hx : xs ≠ []) : ∃ b p' r', spec_l1Int.f l p r xs = some (b, p', r') ∧ St l p' ∧ b ∈ xs := by
  unfold spec_l1Int.f
  have hl : 0 < xs.length := List.length_pos_iff.mpr hx
  obtain ⟨b, p', r', e, h', b0, b1⟩ := l1Below_ex l p r (xs.length : Int) h (by omega)
  rw [e]
  simp only [Option.bind_some]
  rw [if_pos b0, if_pos b1]
  refine ⟨_, _, _, rfl, h', ?_⟩
  have hb : b.toNat < xs.length := by omega
  have e1 : rd xs b = xs[b.toNat] := by simp [rd, hb]
  rw [e1]
  exact List.getElem_mem hb
theorem l1Once_ex (l : List Int) (p r n : Int) (h : St l p) (hn : 0 < n) : ∃ (b : Bool) (p' r' : Int), spec_l1Once.f l p r n = some (b, p', r') ∧ St l p' := by
  unfold spec_l1Once.f
  obtain ⟨b, p', r', e, h', b0, b1⟩ := l1Below_ex l p r n h hn
  rw [e]
  exact ⟨_, _, _, rfl, h'⟩
theorem l1New_l0 (suf : List Int) : ∀ (pre : List Int) (s : Int), (pre ++ suf).length ≤ 1000000000000 → ∃ r, spec_l1New.l0v (pre ++ suf) s (pre.length : Int) = some (pre ++ suf, 0, r) := by
  induction suf with
  | nil =>
    intro pre s _
    rw [spec_l1New.l0v_eq, if_neg (nlt_end pre)]
    exact ⟨_, rfl⟩
  | cons x suf ih =>
    intro pre s hl
    have hn : pre.length < (pre ++ x :: suf).length := by simp
    rw [spec_l1New.l0v_eq, if_pos (lt_mid pre suf x)]
    by_cases h4 : (pre.length : Int) < 4000
    · rw [if_pos h4, if_pos (by omega), up_mid pre x hn hl]
      rw [mid_snoc pre suf x] at hl ⊢
      exact ih (pre ++ [x]) _ hl
    · rw [if_neg h4]
      exact ⟨_, rfl⟩
theorem l1New_ex (l : List Int) (hl : l.length ≤ 1000000000000) : ∃ r, spec_l1New.fv l = some (l, 0, r) ∧ St l 0 := by
  rw [spec_l1New.fv_eq]
  obtain ⟨r, h⟩ := l1New_l0 l [] (wrap64 (193017 + (l.length : Int))) (by simpa using hl)
  exact ⟨r, h, by omega, by omega, hl⟩
end Go.Proofs.Ytlcmkgbabffmeaa.Plain
