import Derived.Test.YtibmehnippjakaaGreatProg
import Derived.Test.YtibmehnippjakaaGreatWWords
import Derived.Test.YtibmehnippjakaaGreatWApart
import Derived.Test.YtibmehnippjakaaGreatWMore
import Derived.Test.YtibmehnippjakaaGreatWArr
import Derived.Test.YtibmehnippjakaaGreatWRepsOne
import Derived.Laws.CopyRow
import Derived.Laws.Externs
import Derived.Lib.AppendZerosOnto
import Derived.Lib.Overlaps
import Derived.Lib.SliceRun
import Derived.WalkKit
import Derived.Shelf.RegionOpenPlain
import Derived.Lib.Walk
set_option linter.unusedVariables false
set_option maxRecDepth 100000
set_option linter.unusedSimpArgs false
namespace Go.Proofs.YtibmehnippjakaaGreat.InsK
open Go.RowKit Go.Lib Go.Proofs.YtibmehnippjakaaGreatW.PrintWords
theorem I1 {P : Program} (w : World) (dT sT ty elem : TypeId) (g o dLen dCap : Nat) (a : Addr) (sLen sCap : Nat) (cur : Array Value) (t : TypeId) (cs : List Value)
 (hu : P.underlying dT = some (.slice elem)) (hs : (P.info? elem).map (·.size) = some 2)
 (hg : w.heap[g]? = some (.cells cur t (0, 0))) (hn : cs.length = Nat.min sLen dLen * 2)
 (hsrc : ∀ j v, cs[j]? = some v → w.cell? (a.add j) = some v) (hfit : o + cs.length ≤ cur.size) (h1 : ∀ v ∈ cs, v.oneCell' = true) :
 (Builtin.copy_ #[dT, sT] ty #[.slice (some ⟨g, o, none⟩) dLen dCap, .slice (some a) sLen sCap]).run P w =
  .ok (goInt (Nat.min sLen dLen)) (w.setRow g (cur.toList.take o ++ cs ++ cur.toList.drop (o + cs.length)).toArray) := by
 have hl := run_loadCells_list (P := P) w a cs hsrc
 have hst := run_storeCells_at P g o t cs 0 cur w hg (by simpa using hfit) h1
 cases hq : P.info? elem with
 | none => simp [hq] at hs
 | some i =>
  have hi : i.size = 2 := by simpa [hq] using hs
  simp only [hn] at hl
  simp [Builtin.copy_, run_underlying hu, Builtin.lenOf, Builtin.firstCells, sizeOf, typeInfo, hq, hi, hl, hst]
theorem QL {P : Program} (w : World) {o : Oper} {a : Act} {K : Act → World → Prop} {Q : Exit → Act → World → Prop} (d s : Operand) (t t' : TypeId)
 (ho : o.op = .call { callee := .builtin .copy, args := #[d, s], argTypes := #[t, t'] }) (v u : Value) (hd : a.eval d = v) (hs : a.eval s = u) {v' : Value} {w' : World}
 (hr : (Builtin.copy_ #[t, t'] o.type #[v, u]).run P w = .ok v' w') (h : K (a.put o.dst v') w') : o.wp P a w K Q := by
 unfold Oper.wp execOp
 simp only [ho, resolve, invoke, builtin, Sem.run_bind, Sem.run_pure, Result.andThen_ok, List.map_toArray, List.map_cons, List.map_nil, hd, hs, hr]
 exact h
theorem Ji {P : Program} (w : World) {ops : Array Oper} {rest : List Oper} {o : Oper} {a : Act} {Q : Exit → Act → World → Prop} (hgd : o.guard = none) (d s : Operand) (t t' : TypeId)
 (ho : o.op = .call { callee := .builtin .copy, args := #[d, s], argTypes := #[t, t'] }) (v u : Value) (hd : a.eval d = v) (hs : a.eval s = u) {v' : Value} {w' : World}
 (hr : (Builtin.copy_ #[t, t'] o.type #[v, u]).run P w = .ok v' w') (h : wpList P ops Q rest (a.put o.dst v') w') : wpList P ops Q (o :: rest) a w :=
 wpList_plain hgd fun _ hK => QL w d s t t' ho v u hd hs hr (hK _ _ h)
theorem KP {P : Program} {ops : Array Oper} {o : Oper} {a : Act} {w : World} {K : Act → World → Prop} {Q : Exit → Act → World → Prop} {E : Prop}
 (hg : o.guard = none) (d x : Operand) (dT sT : TypeId) (hop : o.op = Op.call { callee := Callee.builtin Builtin.copy, args := #[d, x], argTypes := #[dT, sT] })
 (v u : Value) (hd : a.eval d = v) (hx : a.eval x = u) {v' : Value} {w' : World} (hr : (Builtin.copy_ #[dT, sT] o.type #[v, u]).run P w = .ok v' w') (hK : K (a.put o.dst v') w') :
 if Region.wanted o (yielded ops a.tmps) = true then Oper.wp P o a w K Q else E := by
 have hw : Region.wanted o (yielded ops a.tmps) = true := by simp [Region.wanted, hg]
 rw [if_pos hw]
 unfold Oper.wp
 simp [execOp, hop, resolve, invoke, builtin, hd, hx, hr, Result.andThen]
 exact hK
theorem U2 : (Tryz.prog.info? 81).map (·.size) = some 2 := by kernel_rfl
theorem Jd {w : World} {g j : Nat} {cs : Array Value} {t : TypeId} {fr : Nat × Nat} (hg : w.heap[g]? = some (.cells cs t fr)) : w.cell? ⟨g, j, none⟩ = cs[j]? := cell_of_row w g j cs t fr hg
theorem XG (w : World) : (Go.sizeOf 81).run Tryz.prog w = .ok 2 w := by
 have h := U2
 cases hq : Tryz.prog.info? 81 with
 | none => simp [hq] at h
 | some i =>
  have hi : i.size = 2 := by simpa [hq] using h
  simp [sizeOf, typeInfo, hq, hi]
theorem Yv (w : World) (g gv i lb cb : Nat) (cur : Array Value) (c0 c1 : Value) (hne : gv ≠ g) (hg : w.heap[g]? = some (.cells cur 81 (0, 0))) (hpos : cur.size ≠ 0) (hv : w.heap[gv]? = some (.cells #[c0, c1] 81 (0, 0))) :
 (callFunc 129 #[.slice (some ⟨gv, 0, none⟩) 1 1, .slice (some ⟨g, i, none⟩) lb cb]).run Tryz.prog w = .ok (.value (.bool false)) w := by
 rw [run_callFunc_extern Tryz.func129 (by kernel_rfl) (by kernel_rfl) (by kernel_rfl) (e := Extern.SlicesOverlaps.overlaps #[51, 51] #[4]) (by kernel_rfl),
  Lib.run_overlaps_apart w 51 4 81 Tryz.underlying51 2 XG ⟨gv, 0, none⟩ ⟨g, i, none⟩ 1 1 lb cb hne 81 81 2 cur.size (by simp [World.shape?, hv]) (by simp [World.shape?, hg]) hpos (by simp [World.frozen?, hv]) (by simp [World.frozen?, hv])]
 rfl
set_option maxHeartbeats 4000000
set_option maxRecDepth 100000
def Qw (g : Nat) (w w' : World) : Prop := w'.os = w.os ∧ w'.tape = w.tape ∧ w'.output = w.output ∧ w'.heap.size = w.heap.size ∧ ∀ k, k ≠ g → w'.heap[k]? = w.heap[k]?
theorem Qw.drew (g : Nat) (w : World) : Qw g w w.drew := ⟨rfl, rfl, rfl, rfl, fun _ _ => rfl⟩
theorem Qw.row {g : Nat} {w w' : World} (h : Qw g w w') (A : Array Value) : Qw g w (w'.setRow g A) := ⟨h.1, h.2.1, h.2.2.1, (size_setRow w' g A).trans h.2.2.2.1, fun k hk => (setRow_other w' g k A hk).trans (h.2.2.2.2 k hk)⟩
theorem Tz (L : List Value) (n c i : Nat) (hL : L.length = c * 2) (hi : i ≤ n) (hn : n + 1 ≤ c) : ((L.take (n * 2)).drop (i * 2)).length = (n - i) * 2 := by
 rw [List.length_drop, List.length_take]
 omega
theorem X7 (L : List Value) (n c i : Nat) (c0 c1 : Value) (hL : L.length = c * 2) (hi : i ≤ n) (hn : n + 1 ≤ c) (A1 A2 : List Value)
 (h1 : A1 = L.take ((i + 1) * 2) ++ (L.take (n * 2)).drop (i * 2) ++ L.drop ((i + 1) * 2 + ((L.take (n * 2)).drop (i * 2)).length)) (h2 : A2 = A1.take (i * 2) ++ [c0, c1] ++ A1.drop (i * 2 + [c0, c1].length)) :
 A1.length = c * 2 ∧ A2.length = c * 2 ∧ A2.take ((n + 1) * 2) = (L.take (n * 2)).take (i * 2) ++ [c0, c1] ++ (L.take (n * 2)).drop (i * 2) := by
 have l1 := Tz L n c i hL hi hn
 have l2 : (L.take ((i + 1) * 2)).length = i * 2 + 2 := by rw [List.length_take]; omega
 have e1 : A1.take (i * 2) = (L.take (n * 2)).take (i * 2) := by
  rw [h1, List.append_assoc, List.take_append_of_le_length (by omega), List.take_take, List.take_take, Nat.min_eq_left (by omega), Nat.min_eq_left (by omega)]
 have e2 : A1.drop (i * 2 + 2) = (L.take (n * 2)).drop (i * 2) ++ L.drop ((i + 1) * 2 + ((L.take (n * 2)).drop (i * 2)).length) := by
  rw [h1, List.append_assoc, List.drop_left' l2]
 have l3 : ((L.take (n * 2)).take (i * 2)).length = i * 2 := by rw [List.length_take, List.length_take]; omega
 have l4 : (L.drop ((i + 1) * 2 + ((L.take (n * 2)).drop (i * 2)).length)).length = c * 2 - (n + 1) * 2 := by rw [List.length_drop, l1]; omega
 have e3 : A2 = ((L.take (n * 2)).take (i * 2) ++ [c0, c1] ++ (L.take (n * 2)).drop (i * 2)) ++ L.drop ((i + 1) * 2 + ((L.take (n * 2)).drop (i * 2)).length) := by
  rw [h2, e1, show i * 2 + [c0, c1].length = i * 2 + 2 from rfl, e2]
  simp only [List.append_assoc]
 have l5 : ((L.take (n * 2)).take (i * 2) ++ [c0, c1] ++ (L.take (n * 2)).drop (i * 2)).length = (n + 1) * 2 := by
  rw [List.length_append, List.length_append, l3, l1]
  simp only [List.length_cons, List.length_nil]
  omega
 refine ⟨?_, ?_, ?_⟩
 · rw [h1, List.length_append, List.length_append, l2, l4, l1]
   omega
 · rw [e3, List.length_append, l5, l4]
   omega
 · rw [e3, List.take_left' l5]
theorem UL (w : World) (g n c i gv : Nat) (cur : Array Value) (c0 c1 : Value) (hi : i < n) (hroom : n + 1 ≤ c) (hc63 : c ≤ 9223372036854775807) (hne : gv ≠ g)
 (hg : w.heap[g]? = some (.cells cur 81 (0, 0))) (hsz : cur.size = c * 2) (hv : w.heap[gv]? = some (.cells #[c0, c1] 81 (0, 0))) (h1 : ∀ v ∈ cur.toList.take (n * 2), v.oneCell' = true) (h1v : c0.oneCell' = true ∧ c1.oneCell' = true) :
 Calls Tryz.prog 91 #[.slice (some ⟨g, 0, none⟩) n c, .int .i64 i, .slice (some ⟨gv, 0, none⟩) 1 1] w fun e w' =>
  e = .returned (.slice (some ⟨g, 0, none⟩) (n + 1) c) ∧ ∃ A : Array Value, w'.heap[g]? = some (.cells A 81 (0, 0)) ∧ A.size = c * 2 ∧ A.toList.take ((n + 1) * 2) = (cur.toList.take (n * 2)).take (i * 2) ++ [c0, c1] ++ (cur.toList.take (n * 2)).drop (i * 2) ∧ Qw g w w' := by
 have hov : ∀ i lb cb, (callFunc 129 #[.slice (some ⟨gv, 0, none⟩) 1 1, .slice (some ⟨g, i, none⟩) lb cb]).run Tryz.prog w = .ok (.value (.bool false)) w := fun i lb cb => Yv w g gv i lb cb cur c0 c1 hne hg (by omega) hv
 have hz2 : ¬ ((i : Int) = (n : Int)) := by omega
 have hz3 : ¬ ((n : Int) + 1 > (c : Int)) := by omega
 have hw1 : IntKind.i64.wrap ((i : Int) + 1) = (i : Int) + 1 := by rw [IntKind.wrap_i64]; omega
 have hw2 : IntKind.i64.wrap ((n : Int) + 1) = (n : Int) + 1 := by rw [IntKind.wrap_i64]; omega
 have hb1 : (0 : Int) ≤ (i : Int) + 1 := by omega
 have hin : i ≤ n := by omega
 have htn : ((i : Int) + 1).toNat = i + 1 := by omega
 have hb2 : ¬ (c = i + 1) := by omega
 have hb3 : (i : Int) ≤ (n : Int) + 1 := by omega
 have hb4 : ¬ (c = i) := by omega
 have zr := XG
 have mixed : Tryz.prog.follows .mixedOrders = true := by kernel_rfl
 have hL : cur.toList.length = c * 2 := by rw [Array.length_toList]; exact hsz
 obtain ⟨A1, hA1⟩ : ∃ A1 : List Value, A1 = cur.toList.take ((i + 1) * 2) ++ (cur.toList.take (n * 2)).drop (i * 2) ++ cur.toList.drop ((i + 1) * 2 + ((cur.toList.take (n * 2)).drop (i * 2)).length) := ⟨_, rfl⟩
 obtain ⟨A2, hA2⟩ : ∃ A2 : List Value, A2 = A1.take (i * 2) ++ [c0, c1] ++ A1.drop (i * 2 + [c0, c1].length) := ⟨_, rfl⟩
 obtain ⟨q1, q2, q3⟩ := X7 cur.toList n c i c0 c1 hL hin (by omega) A1 A2 hA1 hA2
 have l1 := Tz cur.toList n c i hL hin (by omega)
 have hg' : w.drew.heap[g]? = some (.cells cur 81 (0, 0)) := hg
 have hcp1 : ∀ ty dc sc, (Builtin.copy_ #[51, 51] ty #[.slice (some ⟨g, (i + 1) * 2, none⟩) (n - i) dc, .slice (some ⟨g, i * 2, none⟩) (n + 1 - i) sc]).run Tryz.prog w.drew = .ok (goInt (Nat.min (n + 1 - i) (n - i))) (w.drew.setRow g A1.toArray) := fun ty dc sc => by
  rw [hA1]
  exact I1 w.drew 51 51 ty 81 g ((i + 1) * 2) (n - i) dc ⟨g, i * 2, none⟩ (n + 1 - i) sc cur 81 ((cur.toList.take (n * 2)).drop (i * 2)) Tryz.underlying51 U2 hg' (by rw [l1]; simp only [Nat.min_def]; split <;> omega)
   (fun j v hj => by
    rw [Addr.add_lit, Jd hg']
    rw [List.getElem?_drop, List.getElem?_take] at hj
    split at hj
    · rw [← hj, Array.getElem?_toList]
    · cases hj)
   (by rw [l1]; omega) (fun v hv => h1 v (List.mem_of_mem_drop hv))
 obtain ⟨W1, hW1⟩ : ∃ W1, W1 = w.drew.setRow g A1.toArray := ⟨_, rfl⟩
 have hg1 : W1.heap[g]? = some (.cells A1.toArray 81 (0, 0)) := by rw [hW1]; exact setRow_heap _ g cur _ 81 _ hg'
 have hv1 : W1.heap[gv]? = some (.cells #[c0, c1] 81 (0, 0)) := by rw [hW1]; exact (setRow_other _ g gv _ hne).trans hv
 have hcp2 : ∀ ty dc, (Builtin.copy_ #[51, 51] ty #[.slice (some ⟨g, i * 2, none⟩) (n + 1 - i) dc, .slice (some ⟨gv, 0, none⟩) 1 1]).run Tryz.prog W1 = .ok (goInt (Nat.min 1 (n + 1 - i))) (W1.setRow g A2.toArray) := fun ty dc => by
  have h := I1 W1 51 51 ty 81 g (i * 2) (n + 1 - i) dc ⟨gv, 0, none⟩ 1 1 A1.toArray 81 [c0, c1] Tryz.underlying51 U2 hg1 (by simp only [Nat.min_def, List.length_cons, List.length_nil]; split <;> omega)
   (fun j v hj => by
    rw [Addr.add_lit, Jd hv1, ← hj, Nat.zero_add, List.getElem?_toArray])
   (by simp only [List.size_toArray, q1, List.length_cons, List.length_nil]; omega) (fun v hv => by
    rcases List.mem_cons.1 hv with rfl | hv
    · exact h1v.1
    · rw [List.mem_singleton.1 hv]; exact h1v.2)
  rw [hA2]
  exact h
 have hO : Qw g w (W1.setRow g A2.toArray) := by rw [hW1]; exact ((Qw.drew g w).row _).row _
 have hg2 : (W1.setRow g A2.toArray).heap[g]? = some (.cells A2.toArray 81 (0, 0)) := setRow_heap _ g _ _ 81 _ hg1
 have q4 : A2.toArray.size = c * 2 := by rw [List.size_toArray]; exact q2
 have q5 : A2.toArray.toList.take ((n + 1) * 2) = (cur.toList.take (n * 2)).take (i * 2) ++ [c0, c1] ++ (cur.toList.take (n * 2)).drop (i * 2) := q3
 rw [← hW1] at hcp1
 clear hA1 hA2 hW1 q1 q2 q3 l1 hL
 go_enter Tryz.func91, Tryz.ntmps91
 go_wp2_with (simp only [hov])
 go_region_law_o (refine KP rfl _ _ 51 51 rfl _ _ (by simp [Act.eval, Act.put]) (by simp [Act.eval, Act.put]) (hcp1 _ _ _) ?_)
 go_wp2_with (at_builtin; refine Ji _ rfl _ _ 51 51 rfl _ _ rfl rfl (hcp2 _ _) ?_)
 go_ret
 exact ⟨rfl, _, hg2, q4, q5, hO⟩
theorem V4 (w : World) (g n c i gv : Nat) (cur : Array Value) (c0 c1 : Value) (hi : i < n) (hnc : n ≤ c) (hroom : c < n + 1) (hbig : n ≤ 1000000)
 (hg : w.heap[g]? = some (.cells cur 81 (0, 0))) (hsz : cur.size = c * 2) (hv : w.heap[gv]? = some (.cells #[c0, c1] 81 (0, 0))) (h1 : ∀ v ∈ cur.toList.take (n * 2), v.oneCell' = true) (h1v : c0.oneCell' = true ∧ c1.oneCell' = true) :
 Calls Tryz.prog 91 #[.slice (some ⟨g, 0, none⟩) n c, .int .i64 i, .slice (some ⟨gv, 0, none⟩) 1 1] w fun e w' =>
  ∃ G, e = .returned (.slice (some ⟨w.heap.size, 0, none⟩) (n + 1) G) ∧ n + 1 ≤ G ∧ G ≤ maxLen ∧ ∃ A : Array Value, w'.heap[w.heap.size]? = some (.cells A 81 (0, 0)) ∧ A.size = G * 2 ∧ A.toList.take ((n + 1) * 2) = (cur.toList.take (n * 2)).take (i * 2) ++ [c0, c1] ++ (cur.toList.take (n * 2)).drop (i * 2) ∧ Below w.heap.size w w' := by
 obtain rfl : c = n := by omega
 have hL : cur.toList.length = c * 2 := by rw [Array.length_toList]; exact hsz
 have hz2 : ¬ ((i : Int) = (c : Int)) := by omega
 have hz3 : (c : Int) < (c : Int) + 1 := by omega
 have hkk : (c : Int) + 1 - (i : Int) = ((c + 1 - i : Nat) : Int) := by omega
 have hik : i + (c + 1 - i) = c + 1 := by omega
 obtain ⟨i0, hi0⟩ : ∃ i0, Tryz.prog.info? 81 = some i0 := by
  have h := U2
  cases hq : Tryz.prog.info? 81 with
  | none => simp [hq] at h
  | some i0 => exact ⟨i0, rfl⟩
 have hinf : (Tryz.prog.info? 81).map (fun i => (i.zero, i.size, i.bytes)) = some (some (.agg #[.int .i64 0, .slice none 0 0]), 2, 32) := by kernel_rfl
 rw [hi0] at hinf
 simp only [Option.map_some, Option.some.injEq, Prod.mk.injEq] at hinf
 obtain ⟨hz0, hzs, hzb⟩ := hinf
 have hgw : g < w.heap.size := Hl hg
 have hvw : gv < w.heap.size := Hl hv
 have hold : (Builtin.firstCells i0.size i (.slice (some ⟨g, 0, none⟩) i c)).run Tryz.prog w.drew = .ok (cur.toList.take (i * 2)).toArray w.drew := by
  rw [hzs]
  exact run_firstCells_some w.drew 2 i ⟨g, 0, none⟩ i c (cur.toList.take (i * 2)) (by rw [List.length_take]; omega) (fun j v hj => by
   rw [Addr.add_lit, Jd (w := w.drew) hg, Nat.zero_add]
   rw [List.getElem?_take] at hj
   split at hj
   · rw [← hj, Array.getElem?_toList]
   · cases hj)
 have hrz : ∀ ty, (Builtin.append_ #[51, 3] ty #[.slice (some ⟨g, 0, none⟩) i c, .int .i64 ((c : Int) + 1 - (i : Int))]).run Tryz.prog w =
  .ok (.slice (some ⟨w.heap.size, 0, none⟩) (c + 1) (grownCap w (c + 1) c 81)) (w.drew.alloc (.cells ((cur.toList.take (i * 2)).toArray ++ Builtin.zeroCells (Value.agg #[.int .i64 0, .slice none 0 0]).cells (c + 1 - i) ++ Builtin.zeroCells (Value.agg #[.int .i64 0, .slice none 0 0]).cells (grownCap w (c + 1) c 81 - (c + 1))) 81)) := fun ty => by
  have h := Lib.run_append_grow_zeros w 51 3 ty 81 i0 _ .i64 .i64 Tryz.underlying51 Tryz.underlying3 hi0 hz0 (some ⟨g, 0, none⟩) i c (cur.toList.take (i * 2)) hold (c + 1 - i) (by omega) (by omega) (by omega) (by omega) (by rw [hzb]; omega) (by rw [hzb, hik]; exact growslice_fits hroom (by omega))
  rw [hik] at h
  rw [hkk]
  exact h
 obtain ⟨G, hG⟩ : ∃ G, G = grownCap w (c + 1) c 81 := ⟨_, rfl⟩
 have hGn : c + 1 ≤ G := by rw [hG]; exact grownCap_ge w _ _ _
 have hGm : G ≤ maxLen := by rw [hG]; exact grownCap_le_maxLen w (c + 1) c 81 (by unfold maxLen; omega)
 have hG63 : G ≤ 9223372036854775807 := by
  unfold maxLen at hGm
  omega
 obtain ⟨ROW, hROW⟩ : ∃ ROW : Array Value, ROW = (cur.toList.take (i * 2)).toArray ++ Builtin.zeroCells (Value.agg #[.int .i64 0, .slice none 0 0]).cells (c + 1 - i) ++ Builtin.zeroCells (Value.agg #[.int .i64 0, .slice none 0 0]).cells (G - (c + 1)) := ⟨_, rfl⟩
 rw [← hG] at hrz
 rw [← hROW] at hrz
 have hRl : ROW.toList.length = G * 2 := by
  rw [hROW]
  simp [Builtin.zeroCells, Value.cells]
  omega
 have hRt : ROW.toList.take (i * 2) = (cur.toList.take (c * 2)).take (i * 2) := by
  rw [hROW]
  simp only [Array.toList_append, List.append_assoc]
  rw [List.take_left' (by rw [List.length_take]; omega), List.take_take, Nat.min_eq_left (by omega)]
 obtain ⟨N, hN⟩ : ∃ N, N = w.heap.size := ⟨_, rfl⟩
 obtain ⟨Wa, hWa⟩ : ∃ Wa, Wa = w.drew.alloc (.cells ROW 81) := ⟨_, rfl⟩
 have hgN : Wa.heap[N]? = some (.cells ROW 81 (0, 0)) := by rw [hWa, hN]; exact TQ w.drew _
 have hgg : Wa.heap[g]? = some (.cells cur 81 (0, 0)) := by rw [hWa]; exact G3 (w := w.drew) hg _
 have hgv : Wa.heap[gv]? = some (.cells #[c0, c1] 81 (0, 0)) := by rw [hWa]; exact G3 (w := w.drew) hv _
 have hneg : g ≠ N := by omega
 have hnev : gv ≠ N := by omega
 obtain ⟨I, hI⟩ : ∃ I : List Value, I = (cur.toList.take (c * 2)).drop (i * 2) := ⟨_, rfl⟩
 have hIl : I.length = (c - i) * 2 := by rw [hI, List.length_drop, List.length_take]; omega
 obtain ⟨A1, hA1⟩ : ∃ A1 : List Value, A1 = ROW.toList.take (i * 2) ++ [c0, c1] ++ ROW.toList.drop (i * 2 + [c0, c1].length) := ⟨_, rfl⟩
 have hA1l : A1.length = G * 2 := by
  rw [hA1]
  simp only [List.length_append, List.length_take, List.length_drop, List.length_cons, List.length_nil, hRl]
  omega
 obtain ⟨A2, hA2⟩ : ∃ A2 : List Value, A2 = A1.take ((i + 1) * 2) ++ I ++ A1.drop ((i + 1) * 2 + I.length) := ⟨_, rfl⟩
 have hA2l : A2.length = G * 2 := by
  rw [hA2]
  simp only [List.length_append, List.length_take, List.length_drop, hA1l, hIl]
  omega
 have e1 : A1.take ((i + 1) * 2) = (cur.toList.take (c * 2)).take (i * 2) ++ [c0, c1] := by
  rw [hA1, List.take_left' (by simp only [List.length_append, List.length_take, List.length_cons, List.length_nil, hRl]; omega), hRt]
 have hA2t : A2.take ((c + 1) * 2) = (cur.toList.take (c * 2)).take (i * 2) ++ [c0, c1] ++ I := by
  rw [hA2, e1, List.take_left' (by simp only [List.length_append, List.length_take, List.length_cons, List.length_nil, hIl]; omega)]
 have hcpA : ∀ (W : World), W.heap = Wa.heap → ∀ ty dc, (Builtin.copy_ #[51, 51] ty #[.slice (some ⟨N, i * 2, none⟩) (c + 1 - i) dc, .slice (some ⟨gv, 0, none⟩) 1 1]).run Tryz.prog W = .ok (goInt (Nat.min 1 (c + 1 - i))) (W.setRow N A1.toArray) := fun W hW ty dc => by
  have h := I1 W 51 51 ty 81 N (i * 2) (c + 1 - i) dc ⟨gv, 0, none⟩ 1 1 ROW 81 [c0, c1] Tryz.underlying51 U2 (by rw [hW]; exact hgN) (by simp only [Nat.min_def, List.length_cons, List.length_nil]; split <;> omega)
   (fun j v hj => by
    rw [Addr.add_lit, Jd (w := W) (by rw [hW]; exact hgv), ← hj, Nat.zero_add, List.getElem?_toArray])
   (by rw [← Array.length_toList, hRl]; simp only [List.length_cons, List.length_nil]; omega) (fun v hv => by
    rcases List.mem_cons.1 hv with rfl | hv
    · exact h1v.1
    · rw [List.mem_singleton.1 hv]; exact h1v.2)
  rw [hA1]
  exact h
 have hcpB : ∀ (W : World), W.heap = (Wa.setRow N A1.toArray).heap → ∀ ty dc sc, (Builtin.copy_ #[51, 51] ty #[.slice (some ⟨N, (i + 1) * 2, none⟩) (c - i) dc, .slice (some ⟨g, i * 2, none⟩) (c - i) sc]).run Tryz.prog W = .ok (goInt (Nat.min (c - i) (c - i))) (W.setRow N A2.toArray) := fun W hW ty dc sc => by
  have h := I1 W 51 51 ty 81 N ((i + 1) * 2) (c - i) dc ⟨g, i * 2, none⟩ (c - i) sc A1.toArray 81 I Tryz.underlying51 U2 (by rw [hW]; exact setRow_heap _ N _ _ 81 _ hgN) (by rw [hIl]; simp only [Nat.min_def]; split <;> omega)
   (fun j v hj => by
    rw [Addr.add_lit, Jd (w := W) (by rw [hW]; exact (setRow_other _ N g _ hneg).trans hgg)]
    rw [hI, List.getElem?_drop, List.getElem?_take] at hj
    split at hj
    · rw [← hj, Array.getElem?_toList]
    · cases hj)
   (by simp only [List.size_toArray, hA1l, hIl]; omega) (fun v hv => h1 v (List.mem_of_mem_drop (hI ▸ hv)))
  rw [hA2]
  exact h
 have hfin : ∀ W : World, W.heap = (Wa.setRow N A1.toArray).heap → (W.setRow N A2.toArray).heap[N]? = some (.cells A2.toArray 81 (0, 0)) := fun W hW => setRow_heap W N A1.toArray _ 81 _ (by rw [hW]; exact setRow_heap _ N _ _ 81 _ hgN)
 have hq : A2.toArray.size = G * 2 := by rw [List.size_toArray]; exact hA2l
 have hBel : ∀ W : World, W.os = w.os → W.tape = w.tape → W.output = w.output → W.heap = (Wa.setRow N A1.toArray).heap → Below N w (W.setRow N A2.toArray) := fun W a1 a2 a3 hW => ⟨a1, a2, a3, by
  rw [size_setRow, hW, size_setRow, hWa]
  exact Nat.le_of_lt (by simp [World.alloc]), fun k hk => by
  rw [setRow_other W N k _ (by omega), hW, setRow_other _ N k _ (by omega), hWa]
  exact Below.heap_alloc w.drew _ k (by show k < w.heap.size; omega)⟩
 rw [← hN] at hrz ⊢
 rw [← hWa] at hrz
 rw [hI] at hA2t
 have q5 : A2.toArray.toList.take ((c + 1) * 2) = (cur.toList.take (c * 2)).take (i * 2) ++ [c0, c1] ++ (cur.toList.take (c * 2)).drop (i * 2) := hA2t
 have hGi : ¬ (G = i) := by omega
 have hGim : ¬ (G = i + 1) := by omega
 have hci : ¬ (c = i) := by omega
 have hw1 : IntKind.i64.wrap ((i : Int) + 1) = (i : Int) + 1 := by rw [IntKind.wrap_i64]; omega
 have hw2 : IntKind.i64.wrap ((c : Int) + 1) = (c : Int) + 1 := by rw [IntKind.wrap_i64]; omega
 have hw3 : IntKind.i64.wrap ((c : Int) + 1 - (i : Int)) = (c : Int) + 1 - (i : Int) := by rw [IntKind.wrap_i64]; omega
 have hb1 : (0 : Int) ≤ (i : Int) + 1 := by omega
 have hin : i ≤ c := by omega
 have htn : ((i : Int) + 1).toNat = i + 1 := by omega
 have hb3 : (i : Int) ≤ (c : Int) := by omega
 have zr := XG
 have mixed : Tryz.prog.follows .mixedOrders = true := by kernel_rfl
 have hos : Wa.os = w.os ∧ Wa.tape = w.tape ∧ Wa.output = w.output := by rw [hWa]; exact ⟨rfl, rfl, rfl⟩
 clear hkk hik hold hROW hG hRl hRt hA1 hA2 hI hIl hA1l hA2l e1 hA2t hWa hgN hgg hgv hN
 go_enter Tryz.func91, Tryz.ntmps91
 go_wp2_with (first
  | (at_builtin; refine Lib.wpList_append_run _ rfl _ _ _ _ rfl _ _ rfl rfl _ _ (hrz _) ?_)
  | (at_builtin; refine Ji _ rfl _ _ 51 51 rfl _ _ rfl rfl (hcpA _ rfl _ _) ?_))
 go_region_law_o (refine KP rfl _ _ 51 51 rfl (.slice (some ⟨N, (i + 1) * 2, none⟩) (c - i) (G - (i + 1))) (.slice (some ⟨g, i * 2, none⟩) (c - i) (c - i)) (by simp [Act.eval, Act.put]) (by simp [Act.eval, Act.put]) (hcpB (Wa.setRow N A1.toArray).drew rfl 3 (G - (i + 1)) (c - i)) ?_)
 go_wp2
 go_ret
 exact ⟨G, rfl, hGn, hGm, _, hfin (Wa.setRow N A1.toArray).drew rfl, hq, q5, hBel (Wa.setRow N A1.toArray).drew hos.1 hos.2.1 hos.2.2 rfl⟩
theorem XM {α : Type} (d : Kd α) (hd : d.sz = 2) (w0 w : World) (base c gv : Nat) (A : Option Addr) (xs : List α) (x : α) (c0 c1 : Value) (ok okp : Nat → Prop)
 (HO : d.R 81 w base ok (.slice A xs.length c) xs) (hc63 : xs.length ≤ 1000000) (hv : w.heap[gv]? = some (.cells #[c0, c1] 81 (0, 0))) (hx : d.M w base okp x [c0, c1]) (hokp : ∀ k, okp k → ok k ∧ some k ≠ (Value.slice A xs.length c).ownBlock) (hfresh : ∀ k, w.heap.size ≤ k → ok k)
 (HB : Below base w0 w) (hbase : base ≤ w.heap.size) (h1v : c0.oneCell' = true ∧ c1.oneCell' = true) :
 Calls Tryz.prog 91 #[.slice A xs.length c, .int .i64 xs.length, .slice (some ⟨gv, 0, none⟩) 1 1] w fun e w' => ∃ v, e = .returned v ∧ d.R 81 w' base ok v (xs ++ [x]) ∧ Below base w0 w' := by
 have hinf : (Tryz.prog.info? 81).map (fun i => (i.zero, i.size, i.bytes)) = some (some (.agg #[.int .i64 0, .slice none 0 0]), 2, 32) := by kernel_rfl
 have zr := XG
 go_enter Tryz.func91, Tryz.ntmps91
 go_wp2_with (at_builtin; refine Kd.Hi d (w0 := w0) base rfl (.tmp 23) (.tmp 24) 51 81 (.agg #[.int .i64 0, .slice none 0 0]) 32 rfl Tryz.underlying51 (by rw [hd]; exact hinf) (by rw [hd]; rfl) (by omega) (by omega) (.slice A xs.length c) xs [x] (some ⟨gv, 0, none⟩) 1 1 ok okp rfl rfl HO ?aR (fun _ _ h => h) hokp hfresh HB hbase ?aL ?_)
 case aR =>
  refine ⟨rfl, by omega, fun _ => ⟨⟨gv, 0, none⟩, rfl, fun j p hj => ?_⟩⟩
  cases j with
  | zero =>
   obtain rfl : x = p := by simpa using hj
   refine ⟨[c0, c1], by rw [hd]; rfl, hx, fun i u hi => ?_⟩
   rw [Addr.add_lit, Jd hv, Nat.zero_mul, Nat.zero_add, Nat.zero_add, ← hi, List.getElem?_toArray]
  | succ j => simp at hj
 case aL => omega
 all_goals (intro v1 w1 ho hb hg hat; go_wp2; go_ret; exact ⟨_, rfl, ho, hb⟩)
theorem Yb {α : Type} (d : Kd α) (hd : d.sz = 2) (w0 w : World) (base c gv i : Nat) (A : Option Addr) (xs : List α) (x : α) (c0 c1 : Value) (ok okp : Nat → Prop) (hi : i ≤ xs.length)
 (HO : d.R 81 w base ok (.slice A xs.length c) xs) (hc63 : xs.length ≤ 1000000) (hv : w.heap[gv]? = some (.cells #[c0, c1] 81 (0, 0))) (hne : some gv ≠ (Value.slice A xs.length c).ownBlock) (hx : d.M w base okp x [c0, c1]) (hokp : ∀ k, okp k → ok k ∧ some k ≠ (Value.slice A xs.length c).ownBlock) (hfresh : ∀ k, w.heap.size ≤ k → ok k)
 (HB : Below base w0 w) (hbase : base ≤ w.heap.size) (h1v : c0.oneCell' = true ∧ c1.oneCell' = true) :
 Calls Tryz.prog 91 #[.slice A xs.length c, .int .i64 i, .slice (some ⟨gv, 0, none⟩) 1 1] w fun e w' => ∃ v, e = .returned v ∧ d.R 81 w' base ok v (xs.take i ++ x :: xs.drop i) ∧ Below base w0 w' := by
 rcases Nat.lt_or_ge i xs.length with hlt | hge
 rotate_left
 · obtain rfl : i = xs.length := by omega
   rw [List.take_length, List.drop_length]
   exact XM d hd w0 w base c gv A xs x c0 c1 ok okp HO hc63 hv hx hokp hfresh HB hbase h1v
 obtain ⟨hok, inner, ⟨hil, hown⟩, hrep⟩ := HO
 rcases hown with ⟨_, h0⟩ | ⟨g, cap, cur, hve, hgb, hg, hnc, hcm, hsz, htk⟩
 · omega
 simp only [Value.slice.injEq, true_and] at hve
 obtain ⟨rfl, rfl⟩ := hve
 rw [hd] at hil hsz htk hrep
 have hgw : g < w.heap.size := Hl hg
 have hgv : gv ≠ g := fun h => hne (by rw [h]; rfl)
 have h1 : ∀ v ∈ cur.toList.take (xs.length * 2), v.oneCell' = true := by
  rw [htk]
  intro v hv
  exact Kd.Vf (R := d.M w base _) (size := 2) hrep (by omega) (fun p c hp => d.K_one (d.K_of_M hp)) v hv
 have hcap : c ≤ 9223372036854775807 := by unfold maxLen at hcm; omega
 have hneok : ∀ k, some k ≠ (Value.slice (some ⟨g, 0, none⟩) xs.length c).ownBlock → k ≠ g := fun k h1 h2 => h1 (by rw [h2]; rfl)
 rcases Nat.lt_or_ge c (xs.length + 1) with hno | hroom
 · refine (V4 w g xs.length c i gv cur c0 c1 hlt hnc hno hc63 hg hsz hv h1 h1v).mono ?_
   rintro e w' ⟨G, rfl, hGn, hGm, B, hB, hBs, hBt, hbel⟩
   have hmv : ∀ k, k < w.heap.size → w'.heap[k]? = w.heap[k]? := fun k hk => hbel.block k hk
   refine ⟨_, rfl, ?_, GY HB hbase hbel⟩
   have hl : (xs.take i ++ x :: xs.drop i).length = xs.length + 1 := by
    simp only [List.length_append, List.length_take, List.length_cons, List.length_drop]
    omega
   rw [htk] at hBt
   refine ⟨fun k hk => ?_, inner.take (i * 2) ++ [c0, c1] ++ inner.drop (i * 2), ⟨?_, .inr ⟨w.heap.size, G, B, by rw [hl], hbase, hB, by rw [hl]; exact hGn, hGm, by rw [hd]; exact hBs, by rw [hl, hd]; exact hBt⟩⟩, ?_⟩
   · have : w.heap.size = k := by simpa [Value.ownBlock] using hk
     exact hfresh k (by omega)
   · rw [hd, hl]
     simp only [List.length_append, List.length_take, List.length_drop, List.length_cons, List.length_nil, hil]
     omega
   · rw [hd]
     have hold : Reps (d.M w' base (fun k => ok k ∧ some k ≠ (Value.slice (some ⟨w.heap.size, 0, none⟩) (xs.length + 1) G).ownBlock)) 2 xs inner := hrep.imp_ (fun p cs hp => d.M_mono (fun k hk => ⟨hk.1.1, fun h => by
      have h2 : k = w.heap.size := by simpa [Value.ownBlock] using h
      have := hk.2.2.1
      omega⟩) (d.M_move (fun k hk => hmv k hk.2.2.1) (d.M_bound hp)))
     have hnew : d.M w' base (fun k => ok k ∧ some k ≠ (Value.slice (some ⟨w.heap.size, 0, none⟩) (xs.length + 1) G).ownBlock) x [c0, c1] := d.M_mono (fun k hk => ⟨(hokp k hk.1).1, fun h => by
      have h2 : k = w.heap.size := by simpa [Value.ownBlock] using h
      have := hk.2.2.1
      omega⟩) (d.M_move (fun k hk => hmv k hk.2.2.1) (d.M_bound hx))
     rw [List.append_assoc]
     exact Kd.JM (Kd.Ou hold (by omega)) (Reps.c2 hnew (Kd.O1 hold))
 · refine (UL w g xs.length c i gv cur c0 c1 hlt hroom hcap hgv hg hsz hv h1 h1v).mono ?_
   rintro e w' ⟨rfl, B, hB, hBs, hBt, hO⟩
   have hmv : ∀ k, k ≠ g → w'.heap[k]? = w.heap[k]? := hO.2.2.2.2
   have hBel : Below base w0 w' := ⟨hO.1.trans HB.os, hO.2.1.trans HB.tape, hO.2.2.1.trans HB.output, by rw [hO.2.2.2.1]; exact HB.size, fun k hk => (hmv k (by omega)).trans (HB.block k hk)⟩
   refine ⟨_, rfl, ?_, hBel⟩
   have hl : (xs.take i ++ x :: xs.drop i).length = xs.length + 1 := by
    simp only [List.length_append, List.length_take, List.length_cons, List.length_drop]
    omega
   rw [htk] at hBt
   refine ⟨fun k hk => hok k hk, inner.take (i * 2) ++ [c0, c1] ++ inner.drop (i * 2), ⟨?_, .inr ⟨g, c, B, by rw [hl], hgb, hB, by rw [hl]; exact hroom, hcm, by rw [hd]; exact hBs, by rw [hl, hd]; exact hBt⟩⟩, ?_⟩
   · rw [hd, hl]
     simp only [List.length_append, List.length_take, List.length_drop, List.length_cons, List.length_nil, hil]
     omega
   · rw [hd]
     have hold : Reps (d.M w' base (fun k => ok k ∧ some k ≠ (Value.slice (some ⟨g, 0, none⟩) (xs.length + 1) c).ownBlock)) 2 xs inner := hrep.imp_ (fun p cs hp => d.M_move (fun k hk => hmv k (hneok k hk.2)) hp)
     have hnew : d.M w' base (fun k => ok k ∧ some k ≠ (Value.slice (some ⟨g, 0, none⟩) (xs.length + 1) c).ownBlock) x [c0, c1] := d.M_mono (fun k hk => hokp k hk) (d.M_move (fun k hk => hmv k (hneok k (hokp k hk).2)) hx)
     rw [List.append_assoc]
     exact Kd.JM (Kd.Ou hold (by omega)) (Reps.c2 hnew (Kd.O1 hold))
theorem YY {α : Type} (d : Kd α) (hd : d.sz = 2) (w0 w : World) (base c gv i : Nat) (A : Option Addr) (xs : List α) (x : α) (c0 c1 : Value) (ok okp : Nat → Prop) (hi : i ≤ xs.length)
 (HO : Kd.S d 81 w base (fun k => ok k ∧ ¬ okp k) (.slice A xs.length c) xs) (hc63 : xs.length ≤ 1000000) (hv : w.heap[gv]? = some (.cells #[c0, c1] 81 (0, 0))) (hne : some gv ≠ (Value.slice A xs.length c).ownBlock) (hx : d.M w base okp x [c0, c1]) (hokp : ∀ k, okp k → ok k ∧ some k ≠ (Value.slice A xs.length c).ownBlock) (hfresh : ∀ k, w.heap.size ≤ k → ok k)
 (HB : Below base w0 w) (hbase : base ≤ w.heap.size) (h1v : c0.oneCell' = true ∧ c1.oneCell' = true) :
 Calls Tryz.prog 91 #[.slice A xs.length c, .int .i64 i, .slice (some ⟨gv, 0, none⟩) 1 1] w fun e w' => ∃ v, e = .returned v ∧ Kd.S d 81 w' base ok v (xs.take i ++ x :: xs.drop i) ∧ Below base w0 w' := by
 obtain ⟨f, hf, hR⟩ := Kd.V0 HO xs.length okp (fun _ hk h2 => h2.2 hk)
 have hzl : xs.zipIdx.length = xs.length := List.length_zipIdx
 have h := Yb (Kd.tag f d) hd w0 w base c gv i A xs.zipIdx (x, xs.length) c0 c1 ok okp (by omega) (by rw [hzl]; exact Kd.Ax hR (fun _ hk => hk.1)) (by omega) hv (by rw [hzl]; exact hne) (d.M_mono (fun k hk => ⟨hk, hf k hk⟩) hx) (by rw [hzl]; exact hokp) hfresh HB hbase h1v
 rw [hzl] at h
 refine h.mono ?_
 rintro e w' ⟨v, rfl, hr, hb⟩
 refine ⟨v, rfl, ?_, hb⟩
 obtain ⟨h0, inner, ho, hrp⟩ := hr
 have hl : (xs.zipIdx.take i ++ (x, xs.length) :: xs.zipIdx.drop i).length = (xs.take i ++ x :: xs.drop i).length := by
  simp only [List.length_append, List.length_take, List.length_cons, List.length_drop, hzl]
 rw [hl] at ho
 refine ⟨fun k => if f k = xs.length then i else if f k < i then f k else f k + 1, h0, inner, by rw [List.length_zipIdx]; exact ho, by rw [List.length_zipIdx, ← hl]; exact hrp.1, fun j p hj => ?_⟩
 rw [List.getElem?_zipIdx, Nat.zero_add] at hj
 obtain ⟨y, hy, rfl⟩ := Option.map_eq_some_iff.1 hj
 have hti : (xs.take i).length = i := by rw [List.length_take]; omega
 have hzi : (xs.zipIdx.take i).length = i := by rw [List.length_take]; omega
 rcases Nat.lt_trichotomy j i with hji | hji | hji
 · rw [List.getElem?_append_left (by omega), List.getElem?_take, if_pos hji] at hy
   refine d.M_mono (fun b hb => ⟨hb.1, ?_⟩) (hrp.2 j (y, j) (by rw [List.getElem?_append_left (by omega), List.getElem?_take, if_pos hji]; exact Kd.S0 hy))
   have h2 : f b = j := hb.2
   show (if f b = xs.length then i else if f b < i then f b else f b + 1) = j
   rw [if_neg (by omega), if_pos (by omega)]
   exact h2
 · subst hji
   rw [List.getElem?_append_right (by omega), hti, Nat.sub_self] at hy
   obtain rfl : x = y := by simpa using hy
   refine d.M_mono (fun b hb => ⟨hb.1, ?_⟩) (hrp.2 j (x, xs.length) (by rw [List.getElem?_append_right (by omega), hzi, Nat.sub_self]; rfl))
   have h2 : f b = xs.length := hb.2
   show (if f b = xs.length then j else if f b < j then f b else f b + 1) = j
   rw [if_pos h2]
 · obtain ⟨q, rfl⟩ : ∃ q, j = i + 1 + q := ⟨j - (i + 1), by omega⟩
   rw [List.getElem?_append_right (by omega), hti, show i + 1 + q - i = q + 1 by omega, List.getElem?_cons_succ, List.getElem?_drop] at hy
   have hlt : i + q < xs.length := (List.getElem?_eq_some_iff.1 hy).1
   refine d.M_mono (fun b hb => ⟨hb.1, ?_⟩) (hrp.2 (i + 1 + q) (y, i + q) (by rw [List.getElem?_append_right (by omega), hzi, show i + 1 + q - i = q + 1 by omega, List.getElem?_cons_succ, List.getElem?_drop]; exact Kd.S0 hy))
   have h2 : f b = i + q := hb.2
   show (if f b = xs.length then i else if f b < i then f b else f b + 1) = i + 1 + q
   rw [if_neg (by omega), if_neg (by omega)]
   omega
end Go.Proofs.YtibmehnippjakaaGreat.InsK
