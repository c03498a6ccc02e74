/- The readings of this program's types of arguments, out of what reads as their data. No condition. -/
import Derived.Test.YtibmehnippjakaaOpen
import Derived.Test.YtibmehnippjakaaPrint0
import Derived.KernelRfl
namespace Go.Proofs.Ytibmehnippjakaa.Print
open Go.RowKit Go.Proofs.Ytibmehnippjakaa.Open Go.Proofs.YtibmehnippjakaaW.PrintWords Go.ChangeShapes Go.WideShapes
set_option linter.unusedVariables false
set_option linter.unusedSimpArgs false
set_option maxRecDepth 100000 in
theorem rds55 {H : Type} {enc : TypeId × Value → H} {w : World} : Rds enc Try.prog w k55 55 Q55 := by
  intro fuel cs x h hw
  obtain ⟨xs, n, _, rfl, hl, hlen, hf⟩ := DataW.trod_struct Try.underlying55 h
  have hl : cs.length = 4 := hl.trans (by kernel_rfl)
  match xs, hlen, hf, hw with
  | [y0, y1, y2, y3], _, hf, hw =>
    have h0 : DataW.trod enc Try.prog w 0 (fun _ => true) true n 3 ((cs.drop 0).take (Try.prog.cellsOf 3)) = some y0 := hf 0 _ rfl
    rw [show Try.prog.cellsOf 3 = 1 from by kernel_rfl] at h0
    obtain ⟨z0, k0, q0⟩ := (rds_int Try.underlying3) n _ _ h0 (fun z hz => hw z (by simp [DataW.weights, Try.underlying55, DataW.weightsEach, hz]))
    have h1 : DataW.trod enc Try.prog w 0 (fun _ => true) true n 22 ((cs.drop 1).take (Try.prog.cellsOf 22)) = some y1 := hf 1 _ rfl
    rw [show Try.prog.cellsOf 22 = 1 from by kernel_rfl] at h1
    obtain ⟨z1, k1, q1⟩ := (rds_slice Try.underlying22 (by kernel_rfl) (by kernel_rfl) (rds_int Try.underlying3)) n _ _ h1 (fun z hz => hw z (by simp [DataW.weights, Try.underlying55, DataW.weightsEach, hz]))
    have h2 : DataW.trod enc Try.prog w 0 (fun _ => true) true n 22 ((cs.drop 2).take (Try.prog.cellsOf 22)) = some y2 := hf 2 _ rfl
    rw [show Try.prog.cellsOf 22 = 1 from by kernel_rfl] at h2
    obtain ⟨z2, k2, q2⟩ := (rds_slice Try.underlying22 (by kernel_rfl) (by kernel_rfl) (rds_int Try.underlying3)) n _ _ h2 (fun z hz => hw z (by simp [DataW.weights, Try.underlying55, DataW.weightsEach, hz]))
    have h3 : DataW.trod enc Try.prog w 0 (fun _ => true) true n 4 ((cs.drop 3).take (Try.prog.cellsOf 4)) = some y3 := hf 3 _ rfl
    rw [show Try.prog.cellsOf 4 = 1 from by kernel_rfl] at h3
    obtain ⟨z3, k3, q3⟩ := (rds_bool Try.underlying4) n _ _ h3 (fun z hz => hw z (by simp [DataW.weights, Try.underlying55, DataW.weightsEach, hz]))
    rw [cut_last cs (n := 4) hl (by rfl)] at k3
    exact ⟨⟨z0, z1, z2, z3⟩, ⟨(cs.drop 0).take 1, cs.drop 1, cut cs 0 1, k0, ⟨(cs.drop 1).take 1, cs.drop 2, cut cs 1 1, k1, ⟨(cs.drop 2).take 1, cs.drop 3, cut cs 2 1, k2, k3⟩⟩⟩, ⟨q0, q1, q2, q3⟩⟩
set_option maxRecDepth 100000 in
theorem rds25 {H : Type} {enc : TypeId × Value → H} {w : World} : Rds enc Try.prog w k25 25 Q25 := by
  intro fuel cs x h hw
  obtain ⟨xs, n, _, rfl, hl, hlen, hf⟩ := DataW.trod_struct Try.underlying25 h
  have hl : cs.length = 4 := hl.trans (by kernel_rfl)
  match xs, hlen, hf, hw with
  | [y0, y1, y2, y3], _, hf, hw =>
    have h0 : DataW.trod enc Try.prog w 0 (fun _ => true) true n 22 ((cs.drop 0).take (Try.prog.cellsOf 22)) = some y0 := hf 0 _ rfl
    rw [show Try.prog.cellsOf 22 = 1 from by kernel_rfl] at h0
    obtain ⟨z0, k0, q0⟩ := (rds_slice Try.underlying22 (by kernel_rfl) (by kernel_rfl) (rds_int Try.underlying3)) n _ _ h0 (fun z hz => hw z (by simp [DataW.weights, Try.underlying25, DataW.weightsEach, hz]))
    have h1 : DataW.trod enc Try.prog w 0 (fun _ => true) true n 22 ((cs.drop 1).take (Try.prog.cellsOf 22)) = some y1 := hf 1 _ rfl
    rw [show Try.prog.cellsOf 22 = 1 from by kernel_rfl] at h1
    obtain ⟨z1, k1, q1⟩ := (rds_slice Try.underlying22 (by kernel_rfl) (by kernel_rfl) (rds_int Try.underlying3)) n _ _ h1 (fun z hz => hw z (by simp [DataW.weights, Try.underlying25, DataW.weightsEach, hz]))
    have h2 : DataW.trod enc Try.prog w 0 (fun _ => true) true n 23 ((cs.drop 2).take (Try.prog.cellsOf 23)) = some y2 := hf 2 _ rfl
    rw [show Try.prog.cellsOf 23 = 1 from by kernel_rfl] at h2
    obtain ⟨z2, k2, q2⟩ := (rds_slice Try.underlying23 (by kernel_rfl) (by kernel_rfl) (rds55 (enc := enc) (w := w))) n _ _ h2 (fun z hz => hw z (by simp [DataW.weights, Try.underlying25, DataW.weightsEach, hz]))
    have h3 : DataW.trod enc Try.prog w 0 (fun _ => true) true n 3 ((cs.drop 3).take (Try.prog.cellsOf 3)) = some y3 := hf 3 _ rfl
    rw [show Try.prog.cellsOf 3 = 1 from by kernel_rfl] at h3
    obtain ⟨z3, k3, q3⟩ := (rds_int Try.underlying3) n _ _ h3 (fun z hz => hw z (by simp [DataW.weights, Try.underlying25, DataW.weightsEach, hz]))
    rw [cut_last cs (n := 4) hl (by rfl)] at k3
    exact ⟨⟨z0, z1, z2, z3⟩, ⟨(cs.drop 0).take 1, cs.drop 1, cut cs 0 1, k0, ⟨(cs.drop 1).take 1, cs.drop 2, cut cs 1 1, k1, ⟨(cs.drop 2).take 1, cs.drop 3, cut cs 2 1, k2, k3⟩⟩⟩, ⟨q0, q1, q2, q3⟩⟩
end Go.Proofs.Ytibmehnippjakaa.Print
