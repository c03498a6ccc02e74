import Derived.Test.YtibmehnippjakaaGreatProg
import Derived.Test.YtibmehnippjakaaGreatWWords
import Derived.Test.YtibmehnippjakaaGreatWZeros
import Derived.Laws.CopyRow
import Derived.Laws.MakeOwn
import Derived.Handy
import Derived.OwnWalk
import Derived.WalkKit
import Derived.Shelf.RegionOpenPlain
import Derived.Lib.Walk
import Derived.Lib.AppendZeros
set_option linter.unusedVariables false
set_option linter.unusedSimpArgs false
set_option maxRecDepth 10000000
namespace Go.Proofs.YtibmehnippjakaaGreat.GrowK
open Go.RowKit Go.Lib Go.Proofs.YtibmehnippjakaaGreatW.PrintWords
theorem Zc (w : World) (B : Nat) : Kd.R (Kd.int .i64) 3 w B (fun _ => True) (.slice none 0 0) ([] : List Int) := Kd.I7 _ _ _ _ _
theorem Y4 (a : Int) (h0 : 0 ≤ a) (hl : a < 17592186044416) (w : World) :
 Calls Tryz.prog 193 #[.slice none 0 0, .int .i64 a] w fun e w' => ∃ v, e = .returned v ∧ Kd.R (Kd.int .i64) 3 w' w.heap.size (fun _ => True) v ([] : List Int) ∧ Below w.heap.size w w' := by
 obtain ⟨m, rfl⟩ := Int.eq_ofNat_of_zero_le h0
 have hw : IntKind.i64.wrap (m : Int) = (m : Int) := by rw [IntKind.wrap_i64]; omega
 have hn : ¬ ((m : Int) < 0) := by omega
 have hi : (Tryz.prog.info? 3).map (fun i => (i.zero, i.size, i.bytes)) = some (some (.int .i64 0), 1, 8) := by kernel_rfl
 obtain ⟨i, h1, h2, h3, h4⟩ := info_parts hi
 rcases Nat.eq_zero_or_pos m with rfl | hm
 · go_enter Tryz.func193, Tryz.ntmps193
   go_wp2_with (fail)
   go_ret
   exact ⟨_, rfl, Zc _ _, Below.refl _ _⟩
 · have hp : (0 : Int) < (m : Int) := by omega
   have hrun : ∀ W : World, W.heap = w.heap → W.os = w.os → W.tape = w.tape → W.output = w.output → ∀ ty, ∃ g c cur w', (Builtin.append_ #[22, 3] ty #[.slice none 0 0, .int .i64 m]).run Tryz.prog W = .ok (.slice (some ⟨g, 0, none⟩) m c) w' ∧ w'.heap[g]? = some (.cells cur 3 (0, 0)) ∧ w.heap.size ≤ g ∧ m ≤ c ∧ c ≤ maxLen ∧ cur.size = c ∧ Below w.heap.size w w' := by
    intro W hW1 hW2 hW3 hW4 ty
    obtain ⟨v', w', hr, ho, hg, hat⟩ := L8 (P := Tryz.prog) W w.heap.size 22 3 ty 3 i (.int .i64 0) 1 8 Tryz.underlying22 Tryz.underlying3 h1 h2 h3 h4 rfl (by omega) (by omega) (.slice none 0 0) 0 [] ⟨rfl, .inl ⟨rfl, rfl⟩⟩ .i64 m (fun u hu => by
     have : u = .int .i64 0 := by
      simp [Builtin.zeroCells, Value.cells, Nat.mod_one] at hu
      exact hu.2.symm
     rw [this]; rfl) (by omega) (by rw [hW1]; exact Nat.le_refl _)
    obtain ⟨hlen, hown⟩ := ho
    rcases hown with ⟨hv, hz⟩ | ⟨g, c, cur, hve, hgb, hgc, hnc, hcm, hsz, htk⟩
    · omega
    · rw [Nat.zero_add] at hve hnc
      subst hve
      refine ⟨g, c, cur, w', hr, hgc, hgb, hnc, hcm, by omega, ?_⟩
      have hb : Below w.heap.size w W := ⟨hW2, hW3, hW4, by rw [hW1]; exact Nat.le_refl _, fun k _ => by rw [hW1]⟩
      exact hb.grown hg (by rw [hW1]; exact Nat.le_refl _) (fun k hk => by simp [Value.ownBlock] at hk)
   go_enter Tryz.func193, Tryz.ntmps193
   clear h1 h2 h3 h4 hi h0 hl hm
   have hrun := Aside0.mk hrun
   obtain ⟨g, c, cur, w1, hr, hh, hgb, hmc, hcm, hsz, hb⟩ := hrun.out w rfl rfl rfl rfl 22
   clear hrun
   have hh := Aside0.mk hh
   have hr := Aside0.mk hr
   go_wp2_with (at_builtin; refine wpList_append_run _ rfl _ _ _ _ rfl _ _ rfl rfl _ _ hr.out ?_)
   go_ret
   have h1 : (Kd.int .i64).sz = 1 := rfl
   refine ⟨_, rfl, ⟨fun _ _ => trivial, [], ⟨rfl, .inr ⟨g, c, cur, rfl, hgb, hh.out, Nat.zero_le _, hcm, by rw [h1]; omega, by simp⟩⟩, ⟨rfl, fun j p hj => by simp at hj⟩⟩, hb⟩
end Go.Proofs.YtibmehnippjakaaGreat.GrowK
