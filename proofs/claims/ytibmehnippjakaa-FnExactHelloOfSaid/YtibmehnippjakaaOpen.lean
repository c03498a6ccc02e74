/- How the arguments of a law are read: whatever reads as data of a type has the cells of a Lean value of that type's kind; lengths are bounded by what the row's reading allows. No condition. -/
import Derived.Test.YtibmehnippjakaaWWords
import Derived.Deep.Slices
import Derived.SizedLaws
import Derived.ChangeOld
import Derived.ChangeArms
namespace Go.Proofs.Ytibmehnippjakaa.Open
open Go.RowKit Go.Proofs.YtibmehnippjakaaW.PrintWords Go.ChangeShapes Go.WideShapes

section
variable {H : Type} {enc : TypeId × Value → H} {P : Program} {w : World}

/-- Whatever reads as data of type t, and is no heavier than the reach, has the cells of a value of kind d that meets Q. -/
def Rds {H : Type} (enc : TypeId × Value → H) (P : Program) (w : World) {α : Type} (d : Kd α) (t : TypeId) (Q : α → Prop) : Prop :=
  ∀ (fuel : Nat) (cs : List Value) (x : DataW H × List MemPlace), DataW.trod enc P w 0 (fun _ => true) true fuel t cs = some x →
    (∀ n ∈ DataW.weights P t x.1, n ≤ reachBytes) → ∃ y : α, d.K w y cs ∧ Q y

theorem rds_int {t : TypeId} {k : IntKind} (ht : P.underlying t = some (.int k)) : Rds enc P w (Kd.int k) t (fun n => (Lit.int k n).wf = true) := by
  intro fuel cs x h _
  obtain ⟨n, rfl, _, hw⟩ := DataW.trod_int ht h
  exact ⟨n, rfl, hw⟩

theorem rds_bool {t : TypeId} (ht : P.underlying t = some .bool) : Rds enc P w Kd.bool t (fun _ => True) := by
  intro fuel cs x h _
  obtain ⟨b, rfl, _⟩ := DataW.trod_bool ht h
  exact ⟨b, rfl, trivial⟩

theorem mem_weightsAll {e : TypeId} {n : Nat} {d : DataW H} (hn : n ∈ DataW.weights P e d) : ∀ {ds : List (DataW H)}, d ∈ ds → n ∈ DataW.weightsAll P e ds
  | [], h => absurd h List.not_mem_nil
  | c :: r, h => by
    simp only [DataW.weightsAll]
    rcases List.mem_cons.1 h with rfl | h
    · exact List.mem_append_left _ hn
    · exact List.mem_append_right _ (mem_weightsAll hn h)

theorem rds_slice {t e : TypeId} {α : Type} {d : Kd α} {Q : α → Prop} {B : Nat} (ht : P.underlying t = some (.slice e)) (hsz : P.cellsOf e = d.sz) (hB : P.bytesOf e = B)
    (he : Rds enc P w d e Q) : Rds enc P w (Kd.slice e d) t (fun xs => xs.length * B ≤ 140737488351232 ∧ ∀ y ∈ xs, Q y) := by
  intro fuel cs x h hw
  rcases Go.Deep.open_slice ht h with ⟨rfl, rfl⟩ | ⟨a, len, cap, m, n, D, Pl, rfl, hb, hl, hm, hmm, rfl, hx⟩
  · exact ⟨[], ⟨none, 0, rfl, Nat.le_refl _, Kd.C_nil d w⟩, by simp, by simp⟩
  have hmc : m = cap := by simpa using hmm
  have hel : ∀ i : Fin len, ∃ y : α, ∃ cs', w.cells? 0 (a.add (i.1 * P.cellsOf e)) (P.cellsOf e) = some cs' ∧ d.K w y cs' ∧ Q y := by
    intro i
    obtain ⟨cs', h1, h2⟩ := hx i.1 (by have := i.2; omega)
    obtain ⟨y, hk, hq⟩ := he n cs' _ h2 (fun z hz => hw z (by
      simp only [DataW.weights, ht]
      exact List.mem_cons_of_mem _ (List.mem_append_left _ (mem_weightsAll hz (List.mem_map.2 ⟨i.1, List.mem_range.2 i.2, rfl⟩)))))
    exact ⟨y, cs', h1, hk, hq⟩
  have hlen : len ≤ 9223372036854775807 := by
    have h1 : cap ≤ 9223372036854775807 := hm
    omega
  refine ⟨List.ofFn fun i => Classical.choose (hel i), ⟨some a, cap, by rw [List.length_ofFn], by rw [List.length_ofFn]; exact hl, ?_⟩, ?_, ?_⟩
  · refine ⟨rfl, by rw [List.length_ofFn]; exact hlen, fun _ => ⟨a, rfl, fun j p hp => ?_⟩⟩
    obtain ⟨hj, rfl⟩ := List.getElem?_eq_some_iff.1 hp
    rw [List.length_ofFn] at hj
    obtain ⟨cs', h1, h2, _⟩ := Classical.choose_spec (hel ⟨j, hj⟩)
    obtain ⟨_, hcl, hc⟩ := World.cells?_some h1
    rw [List.getElem_ofFn]
    refine ⟨cs', by rw [hcl, hsz], h2, fun i u hu => ?_⟩
    have hi : i < P.cellsOf e := by
      have := (List.getElem?_eq_some_iff.1 hu).1
      omega
    have h3 := hc i hi
    rw [Go.Deep.add_add, hu, hsz] at h3
    exact h3
  · rw [List.length_ofFn]
    have h1 := hw _ (by simp only [DataW.weights, ht]; exact List.mem_cons_self)
    simp only [List.length_map, List.length_range, hB] at h1
    have h2 : (len + (m - len)) * B ≤ 140737488351232 := h1
    exact Nat.le_trans (Nat.mul_le_mul_right _ (by omega)) h2
  · intro y hy
    obtain ⟨i, hi, rfl⟩ := List.mem_iff_getElem.1 hy
    rw [List.getElem_ofFn]
    obtain ⟨_, _, _, hq⟩ := Classical.choose_spec (hel ⟨i, by rw [List.length_ofFn] at hi; exact hi⟩)
    exact hq

theorem cut (cs : List Value) (a s : Nat) : cs.drop a = (cs.drop a).take s ++ cs.drop (a + s) := by
  rw [← List.drop_drop]
  exact (List.take_append_drop s _).symm

theorem cut_last (cs : List Value) {a s n : Nat} (hl : cs.length = n) (h : n = a + s) : (cs.drop a).take s = cs.drop a :=
  List.take_of_length_le (by rw [List.length_drop, hl, h]; omega)

/-- An argument's weights, out of the row's. -/
theorem weights_at {ts : List TypeId} {ds : List (DataW H)} (hsz : (DataW.weightsEach P ts ds).all (· ≤ reachBytes) = true) {j : Nat} {t : TypeId} {d : DataW H} (ht : ts[j]? = some t) (hd : ds[j]? = some d) : ∀ n ∈ DataW.weights P t d, n ≤ reachBytes :=
  fun n hn => by simpa using List.all_eq_true.1 hsz n (DataW.weights_mem_each ht hd n hn)

theorem arr_of {cs : Array Value} {l : List Value} (h : cs.toList = l) : cs = l.toArray := by
  cases cs
  simp at h
  rw [h]
end
end Go.Proofs.Ytibmehnippjakaa.Open
