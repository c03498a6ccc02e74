import Derived.Test.YtibmehnippjakaaGreatProg
import Derived.Test.YtibmehnippjakaaGreatWWords
import Derived.Laws.CopyRow
import Derived.Laws.MakeOwn
import Derived.Handy
import Derived.OwnWalk
import Derived.WalkKit
import Derived.Shelf.RegionOpenPlain
import Derived.Lib.Walk
set_option linter.unusedVariables false
set_option maxRecDepth 100000
set_option linter.unusedSimpArgs false
namespace Go.Proofs.YtibmehnippjakaaGreat.RepK
open Go.RowKit Go.Lib Go.Proofs.YtibmehnippjakaaGreatW.PrintWords
theorem Ny {P : Program} {ops : Array Oper} {o : Oper} {a : Act} {w : World} {K : Act → World → Prop} {Q : Exit → Act → World → Prop} {E : Prop}
 (hg : o.guard = none) (d x : Operand) (dT sT : TypeId) (hop : o.op = Op.call { callee := Callee.builtin Builtin.copy, args := #[d, x], argTypes := #[dT, sT] })
 (v u : Value) (hd : a.eval d = v) (hx : a.eval x = u) {v' : Value} {w' : World} (hr : (Builtin.copy_ #[dT, sT] o.type #[v, u]).run P w = .ok v' w') (hK : K (a.put o.dst v') w') :
 if Region.wanted o (yielded ops a.tmps) = true then Oper.wp P o a w K Q else E := by
 have hw : Region.wanted o (yielded ops a.tmps) = true := by simp [Region.wanted, hg]
 rw [if_pos hw]
 unfold Oper.wp
 simp [execOp, hop, resolve, invoke, builtin, hd, hx, hr, Result.andThen]
 exact hK
theorem Im {P : Program} (w : World) {ops : Array Oper} {rest : List Oper} {o : Oper} {a : Act} {Q : Exit → Act → World → Prop}
 (hg : o.guard = none) (l c : Operand) (t : TypeId) (hop : o.op = Op.makeSlice t l c) (v u : Value) (hl : a.eval l = v) (hc : a.eval c = u) {v' : Value} {w' : World}
 (hr : (Instr.makeSlice t v u).run P w = .ok v' w') (h : wpList P ops Q rest (a.put o.dst v') w') : wpList P ops Q (o :: rest) a w := by
 refine wpList_plain hg fun K hK => ?_
 unfold Oper.wp
 simp [execOp, hop, hl, hc, hr, Result.andThen]
 exact hK _ _ h
theorem sz3 : (Tryz.prog.info? 3).map (·.size) = some 1 := by kernel_rfl
theorem mk_ (c : Nat) (hc : c ≤ 2) (w : World) : (Instr.makeSlice 22 (.int .i64 (c : Int)) (.int .i64 (c : Int))).run Tryz.prog w = .ok (.slice (some ⟨w.heap.size, 0, none⟩) c c) (w.alloc (.cells (madeCells #[.int .i64 0] c) 3)) := by
 have h : (Tryz.prog.info? 3).map (fun i => (i.zero, i.size, i.bytes)) = some (some (.int .i64 0), 1, 8) := by kernel_rfl
 obtain ⟨i, h1, h2, h3, h4⟩ := info_parts h
 have := run_makeSlice (P := Tryz.prog) w 22 3 i (.int .i64 0) Tryz.underlying22 h1 h2 .i64 .i64 c c (by omega) (by omega) (by rw [h3]; omega) (by rw [h4]; omega) (by omega)
 rw [h3, Int.toNat_natCast, Nat.mul_one] at this
 exact this
def Out (w : World) (c : Nat) (x : Int) (e : Ending) (w' : World) : Prop :=
 e = .returned (.slice (some ⟨w.heap.size, 0, none⟩) c c) ∧ w'.heap[w.heap.size]? = some (.cells (Array.replicate c (.int .i64 x)) 3 (0, 0)) ∧ Below w.heap.size w w'
theorem md0 (v : Value) : madeCells #[v] 0 = #[] := by simp [madeCells, Array.range_zero']
theorem md1 (v : Value) : madeCells #[v] 1 = #[v] := by simp [madeCells, Array.range_succ, Array.range_zero']
theorem md2 (v : Value) : madeCells #[v] 2 = #[v, v] := by simp [madeCells, Array.range_succ, Array.range_zero']
theorem O' {B : Nat} {w W : World} (h : Below B w W) {g : Nat} (hg : B ≤ g) (A : Array Value) : Below B w (W.setRow g A) :=
 ⟨h.os, h.tape, h.output, by rw [size_setRow]; exact h.size, fun k hk => (setRow_other W g k A (by omega)).trans (h.block k hk)⟩
theorem QS (w : World) (nd : Nat) : Below w.heap.size w (w.drewN nd) := ⟨rfl, rfl, rfl, Nat.le_refl _, fun _ _ => rfl⟩
theorem cp_ (c : Nat) (hc : c ≤ 2) (w : World) (gv : Nat) (x : Int) (hv : w.heap[gv]? = some (.cells #[.int .i64 x] 3 (0, 0))) (nd : Nat) :
 ∃ W, (Builtin.copy_ #[22, 22] 3 #[.slice (some ⟨w.heap.size, 0, none⟩) c c, .slice (some ⟨gv, 0, none⟩) 1 1]).run Tryz.prog ((w.drewN nd).alloc (.cells (madeCells #[.int .i64 0] c) 3)) = .ok (goInt (Nat.min 1 c)) W ∧
  W.heap[w.heap.size]? = some (.cells (if c = 0 then #[] else if c = 1 then #[.int .i64 x] else #[.int .i64 x, .int .i64 0]) 3 (0, 0)) ∧ Below w.heap.size w W := by
 have hgv : gv < w.heap.size := Hl hv
 have hg : ((w.drewN nd).alloc (.cells (madeCells #[.int .i64 0] c) 3)).heap[w.heap.size]? = some (.cells (madeCells #[.int .i64 0] c) 3 (0, 0)) := by
  simp [World.alloc, World.drewN]
 have hv' : ((w.drewN nd).alloc (.cells (madeCells #[.int .i64 0] c) 3)).heap[gv]? = some (.cells #[.int .i64 x] 3 (0, 0)) := (Below.heap_alloc (w.drewN nd) _ gv hgv).trans hv
 have hb : Below w.heap.size w ((w.drewN nd).alloc (.cells (madeCells #[.int .i64 0] c) 3)) := (QS w nd).alloc (Nat.le_refl _) _
 have hs : (madeCells #[.int .i64 0] c).size = c := size_madeCells _ _
 have hl : (([.int .i64 x] : List Value).take c).length = Nat.min 1 c := by simp [Nat.min_comm]
 have h := run_copy_row (P := Tryz.prog) _ 22 22 3 3 w.heap.size 0 c c ⟨gv, 0, none⟩ 1 1 _ 3 (([.int .i64 x] : List Value).take c) Tryz.underlying22 sz3 hg hl
  (fun j v hj => by
   rw [Addr.add_lit, cell_of_row _ gv _ _ _ _ hv', Nat.zero_add, ← hj]
   rcases c with _ | c
   · simp at hj
   · simp)
  (by rw [hl, hs]; simp only [Nat.min_def]; split <;> omega) (fun v hv => by
   rw [List.mem_singleton.1 (List.mem_of_mem_take hv)]; rfl)
 rw [hl] at h
 refine ⟨_, h, ?_, O' hb (Nat.le_refl _) _⟩
 rw [setRow_heap _ _ _ _ 3 _ hg]
 rcases c with _ | _ | _ | c
 · rw [md0]; rfl
 · rw [md1]; rfl
 · rw [md2]; rfl
 · omega
theorem Zi (w : World) (gv : Nat) (x : Int) (hv : w.heap[gv]? = some (.cells #[.int .i64 x] 3 (0, 0)))
 (hm : ∀ w, Calls Tryz.prog 126 #[.int .u64 1, .int .u64 0] w fun e w' => e = .returned (.tuple #[.int .u64 0, .int .u64 0]) ∧ C' w w') :
 Calls Tryz.prog 89 #[.slice (some ⟨gv, 0, none⟩) 1 1, .int .i64 0] w (Out w 0 x) := by
 have hmk := mk_ 0 (by omega)
 go_enter Tryz.func89, Tryz.ntmps89
 go_wp2_with (fail)
 refine (hm _).mono ?_
 rintro e w' ⟨rfl, ⟨nd, rfl⟩⟩
 go_wp2_with (at_make; refine Im _ rfl _ _ 22 rfl _ _ rfl rfl (hmk _) ?_)
 obtain ⟨W, hW, hh, hb⟩ := cp_ 0 (by omega) w gv x hv nd
 rw [show (Builtin.copy_ #[22, 22] 3 #[.slice (some ⟨w.heap.size, 0, none⟩) 0 0, .slice (some ⟨gv, 0, none⟩) 1 1]).run Tryz.prog ((w.drewN nd).alloc (.cells (madeCells #[.int .i64 0] 0) 3)) = _ from hW]
 go_wp2
 refine wp_loop_rounds 1 ?_
 rw [rounds_succ]
 go_wp2
 go_ret
 exact ⟨rfl, hh, hb⟩
theorem ZW (w : World) (gv : Nat) (x : Int) (hv : w.heap[gv]? = some (.cells #[.int .i64 x] 3 (0, 0)))
 (hm : ∀ w, Calls Tryz.prog 126 #[.int .u64 1, .int .u64 1] w fun e w' => e = .returned (.tuple #[.int .u64 0, .int .u64 1]) ∧ C' w w') :
 Calls Tryz.prog 89 #[.slice (some ⟨gv, 0, none⟩) 1 1, .int .i64 1] w (Out w 1 x) := by
 have hmk := mk_ 1 (by omega)
 go_enter Tryz.func89, Tryz.ntmps89
 go_wp2_with (fail)
 refine (hm _).mono ?_
 rintro e w' ⟨rfl, ⟨nd, rfl⟩⟩
 go_wp2_with (at_make; refine Im _ rfl _ _ 22 rfl _ _ rfl rfl (hmk _) ?_)
 obtain ⟨W, hW, hh, hb⟩ := cp_ 1 (by omega) w gv x hv nd
 rw [show (Builtin.copy_ #[22, 22] 3 #[.slice (some ⟨w.heap.size, 0, none⟩) 1 1, .slice (some ⟨gv, 0, none⟩) 1 1]).run Tryz.prog ((w.drewN nd).alloc (.cells (madeCells #[.int .i64 0] 1) 3)) = _ from hW]
 go_wp2
 refine wp_loop_rounds 1 ?_
 rw [rounds_succ]
 go_wp2
 go_ret
 exact ⟨rfl, hh, hb⟩
theorem Ze (w : World) (gv : Nat) (x : Int) (hv : w.heap[gv]? = some (.cells #[.int .i64 x] 3 (0, 0)))
 (hm : ∀ w, Calls Tryz.prog 126 #[.int .u64 1, .int .u64 2] w fun e w' => e = .returned (.tuple #[.int .u64 0, .int .u64 2]) ∧ C' w w') :
 Calls Tryz.prog 89 #[.slice (some ⟨gv, 0, none⟩) 1 1, .int .i64 2] w (Out w 2 x) := by
 have hmk := mk_ 2 (by omega)
 go_enter Tryz.func89, Tryz.ntmps89
 go_wp2_with (fail)
 refine (hm _).mono ?_
 rintro e w' ⟨rfl, ⟨nd, rfl⟩⟩
 go_wp2_with (at_make; refine Im _ rfl _ _ 22 rfl _ _ rfl rfl (hmk _) ?_)
 obtain ⟨W, hW, hh, hb⟩ := cp_ 2 (by omega) w gv x hv nd
 rw [show (Builtin.copy_ #[22, 22] 3 #[.slice (some ⟨w.heap.size, 0, none⟩) 2 2, .slice (some ⟨gv, 0, none⟩) 1 1]).run Tryz.prog ((w.drewN nd).alloc (.cells (madeCells #[.int .i64 0] 2) 3)) = _ from hW]
 go_wp2
 have hcp : ∀ ty dc sc, (Builtin.copy_ #[22, 22] ty #[.slice (some ⟨w.heap.size, 1, none⟩) 1 dc, .slice (some ⟨w.heap.size, 0, none⟩) 1 sc]).run Tryz.prog W.drew = .ok (goInt 1) (W.drew.setRow w.heap.size #[.int .i64 x, .int .i64 x]) := fun ty dc sc =>
  run_copy_row (P := Tryz.prog) W.drew 22 22 ty 3 w.heap.size 1 1 dc ⟨w.heap.size, 0, none⟩ 1 sc #[.int .i64 x, .int .i64 0] 3 [.int .i64 x] Tryz.underlying22 sz3 hh rfl
   (fun j v hj => by
    rw [Addr.add_lit, cell_of_row W.drew w.heap.size _ _ _ _ hh, Nat.zero_add]
    rcases j with _ | j
    · exact hj
    · simp at hj)
   (by simp) (fun v hv => by rw [List.mem_singleton.1 hv]; rfl)
 have hh2 : (W.drew.setRow w.heap.size #[.int .i64 x, .int .i64 x]).heap[w.heap.size]? = some (.cells #[.int .i64 x, .int .i64 x] 3 (0, 0)) := setRow_heap W.drew _ _ _ 3 _ hh
 have hb2 : Below w.heap.size w (W.drew.setRow w.heap.size #[.int .i64 x, .int .i64 x]) := O' hb.drew (Nat.le_refl _) _
 have mixed : Tryz.prog.follows .mixedOrders = true := by kernel_rfl
 refine wp_loop_rounds 2 ?_
 rw [rounds_succ]
 go_wp2
 go_region_law_o (refine Ny rfl _ _ 22 22 rfl _ _ (by simp [Act.eval, Act.put]) (by simp [Act.eval, Act.put]) (hcp _ _ _) ?_)
 go_wp2
 rw [rounds_succ]
 go_wp2
 go_ret
 exact ⟨rfl, hh2, hb2⟩
theorem ZO (w : World) (gv c : Nat) (hc : c ≤ 2) (x : Int) (hv : w.heap[gv]? = some (.cells #[.int .i64 x] 3 (0, 0)))
 (hm : ∀ w, Calls Tryz.prog 126 #[.int .u64 1, .int .u64 c] w fun e w' => e = .returned (.tuple #[.int .u64 0, .int .u64 c]) ∧ C' w w') :
 Calls Tryz.prog 89 #[.slice (some ⟨gv, 0, none⟩) 1 1, .int .i64 c] w fun e w' => ∃ v, e = .returned v ∧ Kd.R (Kd.int .i64) 3 w' w.heap.size (fun _ => True) v (List.replicate c x) ∧ Below w.heap.size w w' := by
 have h : Calls Tryz.prog 89 #[.slice (some ⟨gv, 0, none⟩) 1 1, .int .i64 c] w (Out w c x) := by
  rcases c with _ | _ | _ | c
  · exact Zi w gv x hv hm
  · exact ZW w gv x hv hm
  · exact Ze w gv x hv hm
  · omega
 refine h.mono ?_
 rintro e w' ⟨rfl, hh, hb⟩
 have h1 : (Kd.int .i64).sz = 1 := rfl
 refine ⟨_, rfl, ⟨fun _ _ => trivial, List.replicate c (.int .i64 x), ?_, ?_⟩, hb⟩
 · rw [h1, List.length_replicate]
   exact ⟨by simp, .inr ⟨w.heap.size, c, _, rfl, Nat.le_refl _, hh, Nat.le_refl _, by unfold maxLen; omega, by simp, by simp⟩⟩
 · rw [h1]
   refine ⟨by simp, fun j p hj => ?_⟩
   obtain ⟨hj1, hj2⟩ := List.getElem?_eq_some_iff.1 hj
   rw [List.length_replicate] at hj1
   rw [List.getElem_replicate] at hj2
   subst hj2
   rw [List.drop_replicate, List.take_replicate, show min 1 (c - j * 1) = 1 by omega]
   rfl
end Go.Proofs.YtibmehnippjakaaGreat.RepK
