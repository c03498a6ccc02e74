/- The readings of this program's types of arguments, out of what reads as their data. No condition. -/
import Derived.Test.YtchnkakjjbfklaaOpen
import Derived.Test.YtchnkakjjbfklaaPrint0
import Derived.KernelRfl
namespace Go.Proofs.Ytchnkakjjbfklaa.Print
open Go.RowKit Go.Proofs.Ytchnkakjjbfklaa.Open Go.Proofs.YtchnkakjjbfklaaW.PrintWords Go.ChangeShapes Go.WideShapes
set_option linter.unusedVariables false
set_option linter.unusedSimpArgs false
set_option maxRecDepth 100000 in
theorem rds117 {H : Type} {enc : TypeId × Value → H} {w : World} : Rds enc Try.prog w k117 117 Q117 := by
  intro fuel cs x h hw
  obtain ⟨xs, n, _, rfl, hl, hlen, hf⟩ := DataW.trod_struct Try.underlying117 h
  have hl : cs.length = 4 := hl.trans (by kernel_rfl)
  match xs, hlen, hf, hw with
  | [y0, y1, y2, y3], _, hf, hw =>
    have h0 : DataW.trod enc Try.prog w 0 (fun _ => true) true n 3 ((cs.drop 0).take (Try.prog.cellsOf 3)) = some y0 := hf 0 _ rfl
    rw [show Try.prog.cellsOf 3 = 1 from by kernel_rfl] at h0
    obtain ⟨z0, k0, q0⟩ := (rds_int Try.underlying3) n _ _ h0 (fun z hz => hw z (by simp [DataW.weights, Try.underlying117, DataW.weightsEach, hz]))
    have h1 : DataW.trod enc Try.prog w 0 (fun _ => true) true n 22 ((cs.drop 1).take (Try.prog.cellsOf 22)) = some y1 := hf 1 _ rfl
    rw [show Try.prog.cellsOf 22 = 1 from by kernel_rfl] at h1
    obtain ⟨z1, k1, q1⟩ := (rds_slice Try.underlying22 (by kernel_rfl) (by kernel_rfl) (rds_int Try.underlying3)) n _ _ h1 (fun z hz => hw z (by simp [DataW.weights, Try.underlying117, DataW.weightsEach, hz]))
    have h2 : DataW.trod enc Try.prog w 0 (fun _ => true) true n 22 ((cs.drop 2).take (Try.prog.cellsOf 22)) = some y2 := hf 2 _ rfl
    rw [show Try.prog.cellsOf 22 = 1 from by kernel_rfl] at h2
    obtain ⟨z2, k2, q2⟩ := (rds_slice Try.underlying22 (by kernel_rfl) (by kernel_rfl) (rds_int Try.underlying3)) n _ _ h2 (fun z hz => hw z (by simp [DataW.weights, Try.underlying117, DataW.weightsEach, hz]))
    have h3 : DataW.trod enc Try.prog w 0 (fun _ => true) true n 4 ((cs.drop 3).take (Try.prog.cellsOf 4)) = some y3 := hf 3 _ rfl
    rw [show Try.prog.cellsOf 4 = 1 from by kernel_rfl] at h3
    obtain ⟨z3, k3, q3⟩ := (rds_bool Try.underlying4) n _ _ h3 (fun z hz => hw z (by simp [DataW.weights, Try.underlying117, DataW.weightsEach, hz]))
    rw [cut_last cs (n := 4) hl (by rfl)] at k3
    exact ⟨⟨z0, z1, z2, z3⟩, ⟨(cs.drop 0).take 1, cs.drop 1, cut cs 0 1, k0, ⟨(cs.drop 1).take 1, cs.drop 2, cut cs 1 1, k1, ⟨(cs.drop 2).take 1, cs.drop 3, cut cs 2 1, k2, k3⟩⟩⟩, ⟨q0, q1, q2, q3⟩⟩
set_option maxRecDepth 100000 in
theorem rds85 {H : Type} {enc : TypeId × Value → H} {w : World} : Rds enc Try.prog w k85 85 Q85 := by
  intro fuel cs x h hw
  obtain ⟨xs, n, _, rfl, hl, hlen, hf⟩ := DataW.trod_struct Try.underlying85 h
  have hl : cs.length = 4 := hl.trans (by kernel_rfl)
  match xs, hlen, hf, hw with
  | [y0, y1, y2, y3], _, hf, hw =>
    have h0 : DataW.trod enc Try.prog w 0 (fun _ => true) true n 22 ((cs.drop 0).take (Try.prog.cellsOf 22)) = some y0 := hf 0 _ rfl
    rw [show Try.prog.cellsOf 22 = 1 from by kernel_rfl] at h0
    obtain ⟨z0, k0, q0⟩ := (rds_slice Try.underlying22 (by kernel_rfl) (by kernel_rfl) (rds_int Try.underlying3)) n _ _ h0 (fun z hz => hw z (by simp [DataW.weights, Try.underlying85, DataW.weightsEach, hz]))
    have h1 : DataW.trod enc Try.prog w 0 (fun _ => true) true n 22 ((cs.drop 1).take (Try.prog.cellsOf 22)) = some y1 := hf 1 _ rfl
    rw [show Try.prog.cellsOf 22 = 1 from by kernel_rfl] at h1
    obtain ⟨z1, k1, q1⟩ := (rds_slice Try.underlying22 (by kernel_rfl) (by kernel_rfl) (rds_int Try.underlying3)) n _ _ h1 (fun z hz => hw z (by simp [DataW.weights, Try.underlying85, DataW.weightsEach, hz]))
    have h2 : DataW.trod enc Try.prog w 0 (fun _ => true) true n 83 ((cs.drop 2).take (Try.prog.cellsOf 83)) = some y2 := hf 2 _ rfl
    rw [show Try.prog.cellsOf 83 = 1 from by kernel_rfl] at h2
    obtain ⟨z2, k2, q2⟩ := (rds_slice Try.underlying83 (by kernel_rfl) (by kernel_rfl) (rds117 (enc := enc) (w := w))) n _ _ h2 (fun z hz => hw z (by simp [DataW.weights, Try.underlying85, DataW.weightsEach, hz]))
    have h3 : DataW.trod enc Try.prog w 0 (fun _ => true) true n 3 ((cs.drop 3).take (Try.prog.cellsOf 3)) = some y3 := hf 3 _ rfl
    rw [show Try.prog.cellsOf 3 = 1 from by kernel_rfl] at h3
    obtain ⟨z3, k3, q3⟩ := (rds_int Try.underlying3) n _ _ h3 (fun z hz => hw z (by simp [DataW.weights, Try.underlying85, DataW.weightsEach, hz]))
    rw [cut_last cs (n := 4) hl (by rfl)] at k3
    exact ⟨⟨z0, z1, z2, z3⟩, ⟨(cs.drop 0).take 1, cs.drop 1, cut cs 0 1, k0, ⟨(cs.drop 1).take 1, cs.drop 2, cut cs 1 1, k1, ⟨(cs.drop 2).take 1, cs.drop 3, cut cs 2 1, k2, k3⟩⟩⟩, ⟨q0, q1, q2, q3⟩⟩
set_option maxRecDepth 100000 in
theorem rds25 {H : Type} {enc : TypeId × Value → H} {w : World} : Rds enc Try.prog w k25 25 Q25 := by
  intro fuel cs x h hw
  obtain ⟨xs, n, _, rfl, hl, hlen, hf⟩ := DataW.trod_struct Try.underlying25 h
  have hl : cs.length = 4 := hl.trans (by kernel_rfl)
  match xs, hlen, hf, hw with
  | [y0, y1, y2, y3], _, hf, hw =>
    have h0 : DataW.trod enc Try.prog w 0 (fun _ => true) true n 3 ((cs.drop 0).take (Try.prog.cellsOf 3)) = some y0 := hf 0 _ rfl
    rw [show Try.prog.cellsOf 3 = 1 from by kernel_rfl] at h0
    obtain ⟨z0, k0, q0⟩ := (rds_int Try.underlying3) n _ _ h0 (fun z hz => hw z (by simp [DataW.weights, Try.underlying25, DataW.weightsEach, hz]))
    have h1 : DataW.trod enc Try.prog w 0 (fun _ => true) true n 22 ((cs.drop 1).take (Try.prog.cellsOf 22)) = some y1 := hf 1 _ rfl
    rw [show Try.prog.cellsOf 22 = 1 from by kernel_rfl] at h1
    obtain ⟨z1, k1, q1⟩ := (rds_slice Try.underlying22 (by kernel_rfl) (by kernel_rfl) (rds_int Try.underlying3)) n _ _ h1 (fun z hz => hw z (by simp [DataW.weights, Try.underlying25, DataW.weightsEach, hz]))
    have h2 : DataW.trod enc Try.prog w 0 (fun _ => true) true n 3 ((cs.drop 2).take (Try.prog.cellsOf 3)) = some y2 := hf 2 _ rfl
    rw [show Try.prog.cellsOf 3 = 1 from by kernel_rfl] at h2
    obtain ⟨z2, k2, q2⟩ := (rds_int Try.underlying3) n _ _ h2 (fun z hz => hw z (by simp [DataW.weights, Try.underlying25, DataW.weightsEach, hz]))
    have h3 : DataW.trod enc Try.prog w 0 (fun _ => true) true n 4 ((cs.drop 3).take (Try.prog.cellsOf 4)) = some y3 := hf 3 _ rfl
    rw [show Try.prog.cellsOf 4 = 1 from by kernel_rfl] at h3
    obtain ⟨z3, k3, q3⟩ := (rds_bool Try.underlying4) n _ _ h3 (fun z hz => hw z (by simp [DataW.weights, Try.underlying25, DataW.weightsEach, hz]))
    rw [cut_last cs (n := 4) hl (by rfl)] at k3
    exact ⟨⟨z0, z1, z2, z3⟩, ⟨(cs.drop 0).take 1, cs.drop 1, cut cs 0 1, k0, ⟨(cs.drop 1).take 1, cs.drop 2, cut cs 1 1, k1, ⟨(cs.drop 2).take 1, cs.drop 3, cut cs 2 1, k2, k3⟩⟩⟩, ⟨q0, q1, q2, q3⟩⟩
set_option maxRecDepth 100000 in
theorem rds87 {H : Type} {enc : TypeId × Value → H} {w : World} : Rds enc Try.prog w k87 87 Q87 := by
  intro fuel cs x h hw
  obtain ⟨xs, n, _, rfl, hl, hlen, hf⟩ := DataW.trod_struct Try.underlying87 h
  have hl : cs.length = 3 := hl.trans (by kernel_rfl)
  match xs, hlen, hf, hw with
  | [y0, y1, y2], _, hf, hw =>
    have h0 : DataW.trod enc Try.prog w 0 (fun _ => true) true n 4 ((cs.drop 0).take (Try.prog.cellsOf 4)) = some y0 := hf 0 _ rfl
    rw [show Try.prog.cellsOf 4 = 1 from by kernel_rfl] at h0
    obtain ⟨z0, k0, q0⟩ := (rds_bool Try.underlying4) n _ _ h0 (fun z hz => hw z (by simp [DataW.weights, Try.underlying87, DataW.weightsEach, hz]))
    have h1 : DataW.trod enc Try.prog w 0 (fun _ => true) true n 3 ((cs.drop 1).take (Try.prog.cellsOf 3)) = some y1 := hf 1 _ rfl
    rw [show Try.prog.cellsOf 3 = 1 from by kernel_rfl] at h1
    obtain ⟨z1, k1, q1⟩ := (rds_int Try.underlying3) n _ _ h1 (fun z hz => hw z (by simp [DataW.weights, Try.underlying87, DataW.weightsEach, hz]))
    have h2 : DataW.trod enc Try.prog w 0 (fun _ => true) true n 22 ((cs.drop 2).take (Try.prog.cellsOf 22)) = some y2 := hf 2 _ rfl
    rw [show Try.prog.cellsOf 22 = 1 from by kernel_rfl] at h2
    obtain ⟨z2, k2, q2⟩ := (rds_slice Try.underlying22 (by kernel_rfl) (by kernel_rfl) (rds_int Try.underlying3)) n _ _ h2 (fun z hz => hw z (by simp [DataW.weights, Try.underlying87, DataW.weightsEach, hz]))
    rw [cut_last cs (n := 3) hl (by rfl)] at k2
    exact ⟨⟨z0, z1, z2⟩, ⟨(cs.drop 0).take 1, cs.drop 1, cut cs 0 1, k0, ⟨(cs.drop 1).take 1, cs.drop 2, cut cs 1 1, k1, k2⟩⟩, ⟨q0, q1, q2⟩⟩
set_option maxRecDepth 100000 in
theorem rds89 {H : Type} {enc : TypeId × Value → H} {w : World} : Rds enc Try.prog w k89 89 Q89 := by
  intro fuel cs x h hw
  obtain ⟨xs, n, _, rfl, hl, hlen, hf⟩ := DataW.trod_struct Try.underlying89 h
  have hl : cs.length = 5 := hl.trans (by kernel_rfl)
  match xs, hlen, hf, hw with
  | [y0, y1, y2], _, hf, hw =>
    have h0 : DataW.trod enc Try.prog w 0 (fun _ => true) true n 87 ((cs.drop 0).take (Try.prog.cellsOf 87)) = some y0 := hf 0 _ rfl
    rw [show Try.prog.cellsOf 87 = 3 from by kernel_rfl] at h0
    obtain ⟨z0, k0, q0⟩ := (rds87 (enc := enc) (w := w)) n _ _ h0 (fun z hz => hw z (by simp [DataW.weights, Try.underlying89, DataW.weightsEach, hz]))
    have h1 : DataW.trod enc Try.prog w 0 (fun _ => true) true n 3 ((cs.drop 3).take (Try.prog.cellsOf 3)) = some y1 := hf 1 _ rfl
    rw [show Try.prog.cellsOf 3 = 1 from by kernel_rfl] at h1
    obtain ⟨z1, k1, q1⟩ := (rds_int Try.underlying3) n _ _ h1 (fun z hz => hw z (by simp [DataW.weights, Try.underlying89, DataW.weightsEach, hz]))
    have h2 : DataW.trod enc Try.prog w 0 (fun _ => true) true n 22 ((cs.drop 4).take (Try.prog.cellsOf 22)) = some y2 := hf 2 _ rfl
    rw [show Try.prog.cellsOf 22 = 1 from by kernel_rfl] at h2
    obtain ⟨z2, k2, q2⟩ := (rds_slice Try.underlying22 (by kernel_rfl) (by kernel_rfl) (rds_int Try.underlying3)) n _ _ h2 (fun z hz => hw z (by simp [DataW.weights, Try.underlying89, DataW.weightsEach, hz]))
    rw [cut_last cs (n := 5) hl (by rfl)] at k2
    exact ⟨⟨z0, z1, z2⟩, ⟨(cs.drop 0).take 3, cs.drop 3, cut cs 0 3, k0, ⟨(cs.drop 3).take 1, cs.drop 4, cut cs 3 1, k1, k2⟩⟩, ⟨q0, q1, q2⟩⟩
set_option maxRecDepth 100000 in
theorem rds92 {H : Type} {enc : TypeId × Value → H} {w : World} : Rds enc Try.prog w k92 92 Q92 := by
  intro fuel cs x h hw
  obtain ⟨xs, n, _, rfl, hl, hlen, hf⟩ := DataW.trod_struct Try.underlying92 h
  have hl : cs.length = 8 := hl.trans (by kernel_rfl)
  match xs, hlen, hf, hw with
  | [y0, y1, y2, y3], _, hf, hw =>
    have h0 : DataW.trod enc Try.prog w 0 (fun _ => true) true n 3 ((cs.drop 0).take (Try.prog.cellsOf 3)) = some y0 := hf 0 _ rfl
    rw [show Try.prog.cellsOf 3 = 1 from by kernel_rfl] at h0
    obtain ⟨z0, k0, q0⟩ := (rds_int Try.underlying3) n _ _ h0 (fun z hz => hw z (by simp [DataW.weights, Try.underlying92, DataW.weightsEach, hz]))
    have h1 : DataW.trod enc Try.prog w 0 (fun _ => true) true n 3 ((cs.drop 1).take (Try.prog.cellsOf 3)) = some y1 := hf 1 _ rfl
    rw [show Try.prog.cellsOf 3 = 1 from by kernel_rfl] at h1
    obtain ⟨z1, k1, q1⟩ := (rds_int Try.underlying3) n _ _ h1 (fun z hz => hw z (by simp [DataW.weights, Try.underlying92, DataW.weightsEach, hz]))
    have h2 : DataW.trod enc Try.prog w 0 (fun _ => true) true n 4 ((cs.drop 2).take (Try.prog.cellsOf 4)) = some y2 := hf 2 _ rfl
    rw [show Try.prog.cellsOf 4 = 1 from by kernel_rfl] at h2
    obtain ⟨z2, k2, q2⟩ := (rds_bool Try.underlying4) n _ _ h2 (fun z hz => hw z (by simp [DataW.weights, Try.underlying92, DataW.weightsEach, hz]))
    have h3 : DataW.trod enc Try.prog w 0 (fun _ => true) true n 89 ((cs.drop 3).take (Try.prog.cellsOf 89)) = some y3 := hf 3 _ rfl
    rw [show Try.prog.cellsOf 89 = 5 from by kernel_rfl] at h3
    obtain ⟨z3, k3, q3⟩ := (rds89 (enc := enc) (w := w)) n _ _ h3 (fun z hz => hw z (by simp [DataW.weights, Try.underlying92, DataW.weightsEach, hz]))
    rw [cut_last cs (n := 8) hl (by rfl)] at k3
    exact ⟨⟨z0, z1, z2, z3⟩, ⟨(cs.drop 0).take 1, cs.drop 1, cut cs 0 1, k0, ⟨(cs.drop 1).take 1, cs.drop 2, cut cs 1 1, k1, ⟨(cs.drop 2).take 1, cs.drop 3, cut cs 2 1, k2, k3⟩⟩⟩, ⟨q0, q1, q2, q3⟩⟩
set_option maxRecDepth 100000 in
theorem rds29 {H : Type} {enc : TypeId × Value → H} {w : World} : Rds enc Try.prog w k29 29 Q29 := by
  intro fuel cs x h hw
  obtain ⟨xs, n, _, rfl, hl, hlen, hf⟩ := DataW.trod_struct Try.underlying29 h
  have hl : cs.length = 15 := hl.trans (by kernel_rfl)
  match xs, hlen, hf, hw with
  | [y0, y1, y2, y3, y4, y5, y6, y7, y8, y9, y10, y11], _, hf, hw =>
    have h0 : DataW.trod enc Try.prog w 0 (fun _ => true) true n 22 ((cs.drop 0).take (Try.prog.cellsOf 22)) = some y0 := hf 0 _ rfl
    rw [show Try.prog.cellsOf 22 = 1 from by kernel_rfl] at h0
    obtain ⟨z0, k0, q0⟩ := (rds_slice Try.underlying22 (by kernel_rfl) (by kernel_rfl) (rds_int Try.underlying3)) n _ _ h0 (fun z hz => hw z (by simp [DataW.weights, Try.underlying29, DataW.weightsEach, hz]))
    have h1 : DataW.trod enc Try.prog w 0 (fun _ => true) true n 22 ((cs.drop 1).take (Try.prog.cellsOf 22)) = some y1 := hf 1 _ rfl
    rw [show Try.prog.cellsOf 22 = 1 from by kernel_rfl] at h1
    obtain ⟨z1, k1, q1⟩ := (rds_slice Try.underlying22 (by kernel_rfl) (by kernel_rfl) (rds_int Try.underlying3)) n _ _ h1 (fun z hz => hw z (by simp [DataW.weights, Try.underlying29, DataW.weightsEach, hz]))
    have h2 : DataW.trod enc Try.prog w 0 (fun _ => true) true n 3 ((cs.drop 2).take (Try.prog.cellsOf 3)) = some y2 := hf 2 _ rfl
    rw [show Try.prog.cellsOf 3 = 1 from by kernel_rfl] at h2
    obtain ⟨z2, k2, q2⟩ := (rds_int Try.underlying3) n _ _ h2 (fun z hz => hw z (by simp [DataW.weights, Try.underlying29, DataW.weightsEach, hz]))
    have h3 : DataW.trod enc Try.prog w 0 (fun _ => true) true n 23 ((cs.drop 3).take (Try.prog.cellsOf 23)) = some y3 := hf 3 _ rfl
    rw [show Try.prog.cellsOf 23 = 1 from by kernel_rfl] at h3
    obtain ⟨z3, k3, q3⟩ := (rds_slice Try.underlying23 (by kernel_rfl) (by kernel_rfl) (rds85 (enc := enc) (w := w))) n _ _ h3 (fun z hz => hw z (by simp [DataW.weights, Try.underlying29, DataW.weightsEach, hz]))
    have h4 : DataW.trod enc Try.prog w 0 (fun _ => true) true n 25 ((cs.drop 4).take (Try.prog.cellsOf 25)) = some y4 := hf 4 _ rfl
    rw [show Try.prog.cellsOf 25 = 4 from by kernel_rfl] at h4
    obtain ⟨z4, k4, q4⟩ := (rds25 (enc := enc) (w := w)) n _ _ h4 (fun z hz => hw z (by simp [DataW.weights, Try.underlying29, DataW.weightsEach, hz]))
    have h5 : DataW.trod enc Try.prog w 0 (fun _ => true) true n 3 ((cs.drop 8).take (Try.prog.cellsOf 3)) = some y5 := hf 5 _ rfl
    rw [show Try.prog.cellsOf 3 = 1 from by kernel_rfl] at h5
    obtain ⟨z5, k5, q5⟩ := (rds_int Try.underlying3) n _ _ h5 (fun z hz => hw z (by simp [DataW.weights, Try.underlying29, DataW.weightsEach, hz]))
    have h6 : DataW.trod enc Try.prog w 0 (fun _ => true) true n 3 ((cs.drop 9).take (Try.prog.cellsOf 3)) = some y6 := hf 6 _ rfl
    rw [show Try.prog.cellsOf 3 = 1 from by kernel_rfl] at h6
    obtain ⟨z6, k6, q6⟩ := (rds_int Try.underlying3) n _ _ h6 (fun z hz => hw z (by simp [DataW.weights, Try.underlying29, DataW.weightsEach, hz]))
    have h7 : DataW.trod enc Try.prog w 0 (fun _ => true) true n 26 ((cs.drop 10).take (Try.prog.cellsOf 26)) = some y7 := hf 7 _ rfl
    rw [show Try.prog.cellsOf 26 = 1 from by kernel_rfl] at h7
    obtain ⟨z7, k7, q7⟩ := (rds_slice Try.underlying26 (by kernel_rfl) (by kernel_rfl) (rds89 (enc := enc) (w := w))) n _ _ h7 (fun z hz => hw z (by simp [DataW.weights, Try.underlying29, DataW.weightsEach, hz]))
    have h8 : DataW.trod enc Try.prog w 0 (fun _ => true) true n 27 ((cs.drop 11).take (Try.prog.cellsOf 27)) = some y8 := hf 8 _ rfl
    rw [show Try.prog.cellsOf 27 = 1 from by kernel_rfl] at h8
    obtain ⟨z8, k8, q8⟩ := (rds_slice Try.underlying27 (by kernel_rfl) (by kernel_rfl) (rds92 (enc := enc) (w := w))) n _ _ h8 (fun z hz => hw z (by simp [DataW.weights, Try.underlying29, DataW.weightsEach, hz]))
    have h9 : DataW.trod enc Try.prog w 0 (fun _ => true) true n 3 ((cs.drop 12).take (Try.prog.cellsOf 3)) = some y9 := hf 9 _ rfl
    rw [show Try.prog.cellsOf 3 = 1 from by kernel_rfl] at h9
    obtain ⟨z9, k9, q9⟩ := (rds_int Try.underlying3) n _ _ h9 (fun z hz => hw z (by simp [DataW.weights, Try.underlying29, DataW.weightsEach, hz]))
    have h10 : DataW.trod enc Try.prog w 0 (fun _ => true) true n 3 ((cs.drop 13).take (Try.prog.cellsOf 3)) = some y10 := hf 10 _ rfl
    rw [show Try.prog.cellsOf 3 = 1 from by kernel_rfl] at h10
    obtain ⟨z10, k10, q10⟩ := (rds_int Try.underlying3) n _ _ h10 (fun z hz => hw z (by simp [DataW.weights, Try.underlying29, DataW.weightsEach, hz]))
    have h11 : DataW.trod enc Try.prog w 0 (fun _ => true) true n 3 ((cs.drop 14).take (Try.prog.cellsOf 3)) = some y11 := hf 11 _ rfl
    rw [show Try.prog.cellsOf 3 = 1 from by kernel_rfl] at h11
    obtain ⟨z11, k11, q11⟩ := (rds_int Try.underlying3) n _ _ h11 (fun z hz => hw z (by simp [DataW.weights, Try.underlying29, DataW.weightsEach, hz]))
    rw [cut_last cs (n := 15) hl (by rfl)] at k11
    exact ⟨⟨z0, z1, z2, z3, z4, z5, z6, z7, z8, z9, z10, z11⟩, ⟨(cs.drop 0).take 1, cs.drop 1, cut cs 0 1, k0, ⟨(cs.drop 1).take 1, cs.drop 2, cut cs 1 1, k1, ⟨(cs.drop 2).take 1, cs.drop 3, cut cs 2 1, k2, ⟨(cs.drop 3).take 1, cs.drop 4, cut cs 3 1, k3, ⟨(cs.drop 4).take 4, cs.drop 8, cut cs 4 4, k4, ⟨(cs.drop 8).take 1, cs.drop 9, cut cs 8 1, k5, ⟨(cs.drop 9).take 1, cs.drop 10, cut cs 9 1, k6, ⟨(cs.drop 10).take 1, cs.drop 11, cut cs 10 1, k7, ⟨(cs.drop 11).take 1, cs.drop 12, cut cs 11 1, k8, ⟨(cs.drop 12).take 1, cs.drop 13, cut cs 12 1, k9, ⟨(cs.drop 13).take 1, cs.drop 14, cut cs 13 1, k10, k11⟩⟩⟩⟩⟩⟩⟩⟩⟩⟩⟩, ⟨q0, q1, q2, q3, q4, q5, q6, q7, q8, q9, q10, q11⟩⟩
end Go.Proofs.Ytchnkakjjbfklaa.Print
