-- Written by a program of this session (printx.py) out of the translation; Lean checks it.
import Derived.Test.YtldcchjbaglppaaPrint0
import Derived.Test.YtldcchjbaglppaaPrint10
import Derived.Test.YtldcchjbaglppaaPrint12
import Derived.Test.YtldcchjbaglppaaPrint15
namespace Go.Proofs.Ytldcchjbaglppaa.Print
open Go.RowKit Go.Proofs.YtldcchjbaglppaaW.PrintWords Go.Proofs.YtldcchjbaglppaaW.PrintLast Go.Proofs.YtldcchjbaglppaaW.PrintMore Go.Proofs.Ytldcchjbaglppaa.Short
attribute [local go_sem] max2_int min2_int max_two min_two max_three min_three max_four min_four   -- for this text's walks alone
set_option linter.unusedVariables false
set_option maxHeartbeats 8000000
set_option maxRecDepth 100000
set_option linter.unusedSimpArgs false

/-! ### spec_l30Three: function 56 -/
def spec_l30Three.l0 : Nat → Int → List (S34) → List (S34) → Int → Option ((List (S34)) × (List (S34)))
 | 0, _, _, _, _ => none
 | k + 1, f, d, e, b => if b < 3 then ((some (([false, true] : List Bool) : List Bool)).bind fun c => (if ([] : List (S78)).length < 4398046511104 then ((some (([] : List (S78)) ++ [(⟨0, false, b, 1⟩ : S78)] : List (S78))).bind fun a => (if b > 0 then (if a.length < 4398046511104 then (if d.length < 2513169434916 then (if e.length < 2513169434916 then (spec_l30Three.l0 k f (d ++ [(⟨2, c, (a ++ [(⟨0, false, wrap64 (b - 1), 1⟩ : S78)])⟩ : S34)]) (e ++ [(⟨2, (([false, true] : List Bool)), (([(⟨0, true, wrap64 (b + f), 1⟩ : S78)] : List (S78)))⟩ : S34)]) (wrap64 (b + 1))) else (none)) else (none)) else (none)) else (if d.length < 2513169434916 then (if e.length < 2513169434916 then (spec_l30Three.l0 k f (d ++ [(⟨2, c, a⟩ : S34)]) (e ++ [(⟨2, (([false, true] : List Bool)), (([(⟨0, true, wrap64 (b + f), 1⟩ : S78)] : List (S78)))⟩ : S34)]) (wrap64 (b + 1))) else (none)) else (none)))) else (none))) else (some (d, e))
def spec_l30Three.f (k : Nat) (a : Int) : Option ((List (S34)) × (List (S34))) := spec_l30Three.l0 k a (([] : List (S34))) (([] : List (S34))) 0
theorem spec_l30Three.mono_l : ∀ k, (∀ a b c d, LeO (spec_l30Three.l0 k a b c d) (spec_l30Three.l0 (k + 1) a b c d))
 | 0 => fun _ _ _ _ r h => by simp [spec_l30Three.l0] at h
 | k + 1 => by
  have ih0 := spec_l30Three.mono_l k
  ·intro a b c d
   unfold spec_l30Three.l0
   exact mo1_ ih0
theorem spec_l30Three.mono : ∀ a k, LeO (spec_l30Three.f k a) (spec_l30Three.f (k + 1) a) := by
 intro a k
 have ih0 := spec_l30Three.mono_l k
 unfold spec_l30Three.f
 exact mo1_ ih0
theorem spec_l30Three.calls (k : Nat) (G : Int) (r1 : List (S34)) (r2 : List (S34)) (w : World) (h : spec_l30Three.f k G = some (r1, r2)) :
  Calls Try.prog 56 #[.int .i64 G] w fun e w' => ∃ v0_ v1_ : Value, e = .returned (.tuple #[v0_, v1_]) ∧ Kd.S k34 34 w' w.heap.size (fun k_ => some k_ ≠ (v1_ : Value).ownBlock) v0_ r1 ∧ Kd.S k34 34 w' w.heap.size (fun k_ => some k_ ≠ (v0_ : Value).ownBlock) v1_ r2 ∧ Below w.heap.size w w' := by
 have hu34 := Try.underlying34
 have hu78 := Try.underlying78
 have HB := Q_ (Below.refl w.heap.size w)
 have H : (spec_l30Three.l0 k G (([] : List (S34))) (([] : List (S34))) 0) = some (r1, r2) := h
 clear h
 obtain ⟨aH, hy674⟩ : ∃ y_ : List (S34), y_ = (([] : List (S34))) := ⟨_, rfl⟩
 replace H : (spec_l30Three.l0 k G aH (([] : List (S34))) 0) = some (r1, r2) := hb_ hy674 H
 have aq := Q_ hy674
 clear hy674
 obtain ⟨aT, hy677⟩ : ∃ y_ : List (S34), y_ = (([] : List (S34))) := ⟨_, rfl⟩
 replace H : (spec_l30Three.l0 k G aH aT 0) = some (r1, r2) := hb_ hy677 H
 have ar := Q_ hy677
 clear hy677
 have H' := Q_ H
 clear H
 go_enter Try.func56, Try.ntmps56
 go_wp2_with (first | ((with_reducible refine gate_dst (N := 8) rfl ?_); refine Kd.S_lit k34 _ 34 ?hg (N := 8) ?hd (xs := ([] : List (S34))) (inner := []) (ok := fun _ => True) (okp := fun _ => True) ?hr ?hp (fun _ hk => hk) trivial (Below.refl _ _) (Nat.le_refl _) (by simp) ?_; (case hd => rfl); (case hg => rfl); (case hr => first | (go_simp; done) | (go_simp; rfl)); (case hp => exact (Reps.none _ _)); intro bz w2 aE hb hg_ hnew_; clear hg_ hnew_; (first | rw [← aq.1] at aE | (simp only [Int.reduceToNat] at aE; rw [← aq.1] at aE)); have _ := Q_ (Kd.S_lower aE (below_size (pb_ HB.1))); have _ := Q_ (below_step (pb_ HB.1) hb); clear HB; rename_i P HB; clear hb aE) | ((with_reducible refine gate_dst (N := 9) rfl ?_); refine Kd.S_lit k34 _ 34 ?hg (N := 9) ?hd (xs := ([] : List (S34))) (inner := []) (ok := fun _ => True) (okp := fun _ => True) ?hr ?hp (fun _ hk => hk) trivial (Below.refl _ _) (Nat.le_refl _) (by simp) ?_; (case hd => rfl); (case hg => rfl); (case hr => first | (go_simp; done) | (go_simp; rfl)); (case hp => exact (Reps.none _ _)); intro bA w4 aj hb hg_ hnew_; clear hg_ hnew_; (first | rw [← ar.1] at aj | (simp only [Int.reduceToNat] at aj; rw [← ar.1] at aj)); have _ := Q_ (Kd.S_elder' (ps_ P.1) (Kd.S_base aj) hb); have _ := Q_ (Kd.S_lower (Kd.S_new' aj (Kd.S_lt (ps_ P.1))) (below_size (pb_ HB.1))); have _ := Q_ (below_step (pb_ HB.1) hb); clear P HB; rename_i P aX HB; clear hb aj))
 (try simp only [Act.put, s1_, s2_, s3_])
 go_loopg [4, 5, 6] k (fun kq v4 v5 v6 w' => ∃ (s : List (S34)) (m : List (S34)) (i : Int), v6 = .int .i64 i ∧ Aside0 (spec_l30Three.l0 kq G s m i = some (r1, r2)) ∧ Aside0 (kq ≤ k) ∧ Aside0 (Kd.S k34 34 w' w.heap.size (fun k_ => some k_ ≠ (v5 : Value).ownBlock) v4 s) ∧ Aside0 (Kd.S k34 34 w' w.heap.size (fun k_ => some k_ ≠ (v4 : Value).ownBlock) v5 m) ∧ Aside0 (Below w.heap.size w w'))
 case atStart => exact ⟨(aH), (aT), (0), el_, H', ⟨Nat.le_refl _⟩, ⟨ps_ (Kd.S_mono P.1 (fun _ hk => hk.2))⟩, ⟨ps_ (Kd.S_mono aX.1 (fun _ hk => hk.2))⟩, ⟨pb_ HB.1⟩⟩
 clear H'
 obtain ⟨s, m, i, rfl, HA, aI, l, d, HB⟩ := hrel
 rcases gk with _ | k1
 ·exact absurd HA.1 (by simp [spec_l30Three.l0])
 have H := HA.1
 clear HA
 simp only [spec_l30Three.l0] at H
 by_cases c6 : i < 3
 rotate_left
 ·rw [if_neg c6] at H
  have be := decide_eq_false c6
  clear c6
  simp only [Option.some.injEq, Prod.mk.injEq] at H
  obtain ⟨rfl, rfl⟩ := H
  go_wp2
  go_ret2
  exact ⟨_, _, er_, ps_ l.1, ps_ d.1, pb_ HB.1⟩
 rw [if_pos c6] at H
 have be := decide_eq_true c6
 clear c6
 obtain ⟨j, hy680⟩ : ∃ y_ : List Bool, y_ = (([false, true] : List Bool)) := ⟨_, rfl⟩
 replace H : (if ([] : List (S78)).length < 4398046511104 then ((some (([] : List (S78)) ++ [(⟨0, false, i, 1⟩ : S78)] : List (S78))).bind fun r => (if i > 0 then (if r.length < 4398046511104 then (if s.length < 2513169434916 then (if m.length < 2513169434916 then (spec_l30Three.l0 k1 G (s ++ [(⟨2, j, (r ++ [(⟨0, false, wrap64 (i - 1), 1⟩ : S78)])⟩ : S34)]) (m ++ [(⟨2, (([false, true] : List Bool)), (([(⟨0, true, wrap64 (i + G), 1⟩ : S78)] : List (S78)))⟩ : S34)]) (wrap64 (i + 1))) else (none)) else (none)) else (none)) else (if s.length < 2513169434916 then (if m.length < 2513169434916 then (spec_l30Three.l0 k1 G (s ++ [(⟨2, j, r⟩ : S34)]) (m ++ [(⟨2, (([false, true] : List Bool)), (([(⟨0, true, wrap64 (i + G), 1⟩ : S78)] : List (S78)))⟩ : S34)]) (wrap64 (i + 1))) else (none)) else (none)))) else (none)) = some (r1, r2) := hb_ hy680 H
 have au := Q_ hy680
 clear hy680
 have HS_ := Q_ H
 clear H
 go_upto_region 7 with (first | ((with_reducible refine gate_dst (N := 14) rfl ?_); refine Kd.R_lit Kd.bool _ 4 ?hg (N := 14) ?hd (xs := ([false, true] : List Bool)) (inner := [.bool false, .bool true]) (ok := fun _ => True) (okp := fun _ => True) ?hr ?hp (fun _ hk => hk) trivial (Below.refl _ _) (Nat.le_refl _) (by simp) ?_; (case hd => rfl); (case hg => rfl); (case hr => first | (go_simp; done) | (go_simp; rfl)); (case hp => exact (Reps.one (show Kd.M Kd.bool _ _ _ false [.bool false] from rfl) (Reps.one (show Kd.M Kd.bool _ _ _ true [.bool true] from rfl) (Reps.none _ _)))); intro bB w7 ah hb hg_ hnew_; clear hg_ hnew_; (first | rw [← au.1] at ah | (simp only [Int.reduceToNat] at ah; rw [← au.1] at ah)); have _ := Q_ (Kd.S_elder' (ps_ l.1) (Kd.R_base ah) hb); have _ := Q_ (Kd.S_elder' (ps_ d.1) (Kd.R_base ah) hb); have _ := Q_ (Kd.R_lower ah (below_size (pb_ HB.1))); have _ := Q_ (below_step (pb_ HB.1) hb); clear l d HB; rename_i l d q HB; clear hb ah; obtain ⟨u, x, bl⟩ := Kd.R_slice q.1; subst bl) | ((with_reducible refine gate_dst (N := 7) rfl ?_); refine bx_ 7 #[.int .i64 0, .slice none 0 0, .slice none 0 0] 34 ?_; intro c hg bt hbox hb; have _ := Q_ (Kd.S_below (Kd.S_elderB (ps_ l.1) c (Nat.le_of_eq hg.symm)) hb); have _ := Q_ (Kd.S_below (Kd.S_elderB (ps_ d.1) c (Nat.le_of_eq hg.symm)) hb); have _ := Q_ (Kd.R_below (pr_ q.1) hb); have _ := Q_ (below_step (pb_ HB.1) hb); have a := Q_ (hbox); have aW := Q_ (gw_ (w := w) hg (pb_ HB.1)); have n := aW; clear l d q HB; rename_i l d q HB; clear hb hbox hg; have bm := bc3_ a.1) | ((with_reducible refine gate_store (t := 34) (p := 7) rfl ?_); refine store_event (t := 34) (p := 7) (v := ?vo_w12) (w1 := (((bt.setCell ⟨c, 0, none⟩ (.int .i64 2)).setCell ⟨c, 1, none⟩ (.slice u j.length x)).setCell ⟨c, 2, none⟩ (.slice none 0 0))) ?hg ?ho ?hn ?hr ?_; (case ho => rfl); (case hg => rfl); (case hn => rfl); (case hr => first | (go_simp; done) | (go_simp; rfl)); intro aG hw; have n0_ : Aside0 (Kd.S k34 34 aG w.heap.size (fun k_ => some k_ ≠ (u5 : Value).ownBlock ∧ some k_ ≠ (.slice u j.length x : Value).ownBlock ∧ k_ ≠ c) u4 s) := ⟨(by rw [hw]; exact (by (with_reducible repeat (first | apply Kd.S_alloc | apply Kd.S_drewN | apply Kd.S_drew)); exact Kd.S_mono (Kd.S_far (p := ⟨c, 2, none⟩) (Kd.S_far (p := ⟨c, 1, none⟩) (Kd.S_far (p := ⟨c, 0, none⟩) (Kd.S_mono l.1 (fun k_ hk => (⟨hk, hk.2⟩ : _ ∧ k_ ≠ c))) (fun _ hk => hk.2) (.int .i64 2)) (fun _ hk => hk.2) (.slice u j.length x)) (fun _ hk => hk.2) (.slice none 0 0)) (fun _ hk => ⟨hk.1.1.1, ⟨hk.1.1.2, hk.1.2⟩⟩)))⟩; have n1_ : Aside0 (Kd.S k34 34 aG w.heap.size (fun k_ => some k_ ≠ (u4 : Value).ownBlock ∧ some k_ ≠ (.slice u j.length x : Value).ownBlock ∧ k_ ≠ c) u5 m) := ⟨(by rw [hw]; exact (by (with_reducible repeat (first | apply Kd.S_alloc | apply Kd.S_drewN | apply Kd.S_drew)); exact Kd.S_mono (Kd.S_far (p := ⟨c, 2, none⟩) (Kd.S_far (p := ⟨c, 1, none⟩) (Kd.S_far (p := ⟨c, 0, none⟩) (Kd.S_mono d.1 (fun k_ hk => (⟨hk, hk.2⟩ : _ ∧ k_ ≠ c))) (fun _ hk => hk.2) (.int .i64 2)) (fun _ hk => hk.2) (.slice u j.length x)) (fun _ hk => hk.2) (.slice none 0 0)) (fun _ hk => ⟨hk.1.1.1, ⟨hk.1.1.2, hk.1.2⟩⟩)))⟩; have n2_ : Aside0 (Kd.R Kd.bool 4 aG w.heap.size (fun _ => True) (.slice u j.length x) j) := ⟨(by rw [hw]; exact (pr_ (Kd.R_mono (rf3_ q.1 a.1) (fun _ hk => trivial))))⟩; have n3_ : Aside0 (aG.heap[c]? = some (.cells #[.int .i64 2, .slice u j.length x, .slice none 0 0] 34 (0, 0))) := ⟨(by rw [hw]; exact (pp_ a.1))⟩; have n4_ : Aside0 (Below w.heap.size w aG) := ⟨(by rw [hw]; exact (pb1_ HB.1 n.1))⟩; clear hw; clear l; clear d; clear q; clear a; clear HB; have l := n0_; have d := n1_; have q := n2_; have a := n3_; have HB := n4_; clear n0_ n1_ n2_ n3_ n4_))
 (try simp only [Act.put, s1_, s2_, s3_])
 have H := HS_.1
 clear HS_
 by_cases aJ : ([] : List (S78)).length < 4398046511104
 rotate_left
 ·rw [if_neg aJ] at H
  exact nn_ H
 rw [if_pos aJ] at H
 have a1 := Q_ aJ
 clear aJ
 obtain ⟨r, hy684⟩ : ∃ y_ : List (S78), y_ = (([] : List (S78)) ++ [(⟨0, false, i, 1⟩ : S78)]) := ⟨_, rfl⟩
 replace H : (if i > 0 then (if r.length < 4398046511104 then (if s.length < 2513169434916 then (if m.length < 2513169434916 then (spec_l30Three.l0 k1 G (s ++ [(⟨2, j, (r ++ [(⟨0, false, wrap64 (i - 1), 1⟩ : S78)])⟩ : S34)]) (m ++ [(⟨2, (([false, true] : List Bool)), (([(⟨0, true, wrap64 (i + G), 1⟩ : S78)] : List (S78)))⟩ : S34)]) (wrap64 (i + 1))) else (none)) else (none)) else (none)) else (if s.length < 2513169434916 then (if m.length < 2513169434916 then (spec_l30Three.l0 k1 G (s ++ [(⟨2, j, r⟩ : S34)]) (m ++ [(⟨2, (([false, true] : List Bool)), (([(⟨0, true, wrap64 (i + G), 1⟩ : S78)] : List (S78)))⟩ : S34)]) (wrap64 (i + 1))) else (none)) else (none))) = some (r1, r2) := hb_ hy684 H
 have a7 := Q_ hy684
 clear hy684
 have HS_ := Q_ H
 clear H
 have bn := bc3_ a.1
 go_upto_if 24 with (first | ((with_reducible refine gate_builtin (b := .append) (xs := #[.tmp 17, .tmp 20]) rfl ?_); at_builtin; refine Kd.R_append k78 (w0 := w) w.heap.size rfl (.tmp 17) (.tmp 20) 32 78 (.agg #[(.int .i64 0), (.bool false), (.int .i64 0), (.int .i64 0)]) 32 rfl Try.underlying32 info78 rfl (by decide) (by omega) (.slice none 0 0) ([] : List (S78)) (⟨0, false, i, 1⟩ : S78) [.int .i64 0, .bool false, .int .i64 i, .int .i64 1] (fun _ => True) (fun _ => False) rfl rfl ?aP (fun _ hk => hk.elim) ?aF ?aO ?aB ?aS ?aL ?_; (case aP => exact k78_mkM _ _ _ (⟨0, false, i, 1⟩ : S78)); (case aB => exact (pb1_ HB.1 n.1)); (case aF => exact (fun _ _ => trivial)); (case aO => exact ((Kd.R_nil _ _ _ _ (fun _ => True)))); (case aS => exact (below_size (pb1_ HB.1 n.1))); (case aL => have := a1.1; omega); intro bC bu ho hb hg hat; rw [← a7.1] at ho; have _ := Q_ (Kd.S_after (Kd.S_apart_nil (ps_ l.1)) hg hat); have _ := Q_ (Kd.S_after (Kd.S_apart_nil (ps_ d.1)) hg hat); have _ := Q_ (Kd.R_grown (pr_ q.1) hg (fun _ _ => by simp [Value.ownBlock])); have _ := Q_ (blk_grown (g := c) (o := .cells #[.int .i64 2, .slice u j.length x, .slice none 0 0] 34 (0, 0)) (pk_ a.1) hg (by simp [Value.ownBlock])); have _ := Q_ (hb); have _ := Q_ (ho); clear l d q a HB; rename_i l d q a HB F; clear ho hb hg hat; obtain ⟨B, C, bf⟩ := Kd.R_slice F.1; subst bf; have bo := bc3_ a.1) | ((with_reducible refine gate_store (t := 32) (p := 22) rfl ?_); refine store_event (t := 32) (p := 22) (v := ?vo_w18) (w1 := (bu.setCell ⟨c, 2, none⟩ (.slice B r.length C))) ?hg ?ho ?hn ?hr ?_; (case ho => rfl); (case hg => rfl); (case hn => rfl); (case hr => first | (go_simp; done) | (go_simp; rfl)); intro ak hw; have n0_ : Aside0 (Kd.S k34 34 ak w.heap.size (fun k_ => some k_ ≠ (u5 : Value).ownBlock ∧ some k_ ≠ (.slice u j.length x : Value).ownBlock ∧ some k_ ≠ (.slice B r.length C : Value).ownBlock ∧ k_ ≠ c) u4 s) := ⟨(by rw [hw]; exact (by (with_reducible repeat (first | apply Kd.S_alloc | apply Kd.S_drewN | apply Kd.S_drew)); exact Kd.S_mono (Kd.S_far (p := ⟨c, 2, none⟩) (Kd.S_mono l.1 (fun k_ hk => (⟨hk, hk.1.2.2⟩ : _ ∧ k_ ≠ c))) (fun _ hk => hk.2) (.slice B r.length C)) (fun _ hk => ⟨hk.1.1.1, ⟨hk.1.1.2.1, ⟨hk.1.2, hk.1.1.2.2⟩⟩⟩)))⟩; have n1_ : Aside0 (Kd.S k34 34 ak w.heap.size (fun k_ => some k_ ≠ (u4 : Value).ownBlock ∧ some k_ ≠ (.slice u j.length x : Value).ownBlock ∧ some k_ ≠ (.slice B r.length C : Value).ownBlock ∧ k_ ≠ c) u5 m) := ⟨(by rw [hw]; exact (by (with_reducible repeat (first | apply Kd.S_alloc | apply Kd.S_drewN | apply Kd.S_drew)); exact Kd.S_mono (Kd.S_far (p := ⟨c, 2, none⟩) (Kd.S_mono d.1 (fun k_ hk => (⟨hk, hk.1.2.2⟩ : _ ∧ k_ ≠ c))) (fun _ hk => hk.2) (.slice B r.length C)) (fun _ hk => ⟨hk.1.1.1, ⟨hk.1.1.2.1, ⟨hk.1.2, hk.1.1.2.2⟩⟩⟩)))⟩; have n2_ : Aside0 (Kd.R Kd.bool 4 ak w.heap.size (fun _ => True) (.slice u j.length x) j) := ⟨(by rw [hw]; exact (pr_ (Kd.R_mono (Kd.R_far (p := ⟨c, 2, none⟩) (Kd.R_types q.1 a.1 (by decide)) (fun _ hk => hk.2) (.slice B r.length C)) (fun _ hk => trivial))))⟩; have n3_ : Aside0 (Kd.R k78 78 ak w.heap.size (fun _ => True) (.slice B r.length C) r) := ⟨(by rw [hw]; exact (pr_ (Kd.R_mono (Kd.R_far (p := ⟨c, 2, none⟩) (Kd.R_types F.1 a.1 (by decide)) (fun _ hk => hk.2) (.slice B r.length C)) (fun _ hk => trivial))))⟩; have n4_ : Aside0 (ak.heap[c]? = some (.cells #[.int .i64 2, .slice u j.length x, .slice B r.length C] 34 (0, 0))) := ⟨(by rw [hw]; exact (pp_ a.1))⟩; have n5_ : Aside0 (Below w.heap.size w ak) := ⟨(by rw [hw]; exact (pb1_ HB.1 n.1))⟩; clear hw; clear l; clear d; clear q; clear F; clear a; clear HB; have l := n0_; have d := n1_; have q := n2_; have F := n3_; have a := n4_; have HB := n5_; clear n0_ n1_ n2_ n3_ n4_ n5_))
 (try simp only [Act.put, s1_, s2_, s3_])
 have H := HS_.1
 clear HS_
 by_cases ai : i > 0
 rotate_left
 ·rw [if_neg ai] at H
  have Q := decide_eq_false ai
  clear ai
  (first | rw [Q] | (simp only [i64_w, i32_w]; rw [Q]) | skip)
  by_cases aK : s.length < 2513169434916
  rotate_left
  ·rw [if_neg aK] at H
   exact nn_ H
  rw [if_pos aK] at H
  have a2 := Q_ aK
  clear aK
  obtain ⟨ag, hy702⟩ : ∃ y_ : List (S34), y_ = (s ++ [(⟨2, j, r⟩ : S34)]) := ⟨_, rfl⟩
  replace H : (if m.length < 2513169434916 then (spec_l30Three.l0 k1 G ag (m ++ [(⟨2, (([false, true] : List Bool)), (([(⟨0, true, wrap64 (i + G), 1⟩ : S78)] : List (S78)))⟩ : S34)]) (wrap64 (i + 1))) else (none)) = some (r1, r2) := hb_ hy702 H
  have bb := Q_ hy702
  clear hy702
  obtain ⟨O, hy705⟩ : ∃ y_ : List Bool, y_ = (([false, true] : List Bool)) := ⟨_, rfl⟩
  replace H : (if m.length < 2513169434916 then (spec_l30Three.l0 k1 G ag (m ++ [(⟨2, O, (([(⟨0, true, wrap64 (i + G), 1⟩ : S78)] : List (S78)))⟩ : S34)]) (wrap64 (i + 1))) else (none)) = some (r1, r2) := hb_ hy705 H
  have ax := Q_ hy705
  clear hy705
  obtain ⟨Y, hy708⟩ : ∃ y_ : List (S78), y_ = (([(⟨0, true, wrap64 (i + G), 1⟩ : S78)] : List (S78))) := ⟨_, rfl⟩
  replace H : (if m.length < 2513169434916 then (spec_l30Three.l0 k1 G ag (m ++ [(⟨2, O, Y⟩ : S34)]) (wrap64 (i + 1))) else (none)) = some (r1, r2) := hb_ hy708 H
  have ay := Q_ hy708
  clear hy708
  by_cases aM : m.length < 2513169434916
  rotate_left
  ·rw [if_neg aM] at H
   exact nn_ H
  rw [if_pos aM] at H
  have a3 := Q_ aM
  clear aM
  obtain ⟨aV, hy711⟩ : ∃ y_ : List (S34), y_ = (m ++ [(⟨2, O, Y⟩ : S34)]) := ⟨_, rfl⟩
  replace H : (spec_l30Three.l0 k1 G ag aV (wrap64 (i + 1))) = some (r1, r2) := hb_ hy711 H
  have bc := Q_ hy711
  clear hy711
  have H' := Q_ H
  clear H
  have bp := bc3_ a.1
  go_wp2_with (first | ((with_reducible refine gate_builtin (b := .append) (xs := #[.tmp 33, .tmp 35]) rfl ?_); at_builtin; refine Kd.S_append k34 (w0 := w) w.heap.size rfl (.tmp 33) (.tmp 35) 30 34 (.agg #[(.int .i64 0), (.slice none 0 0), (.slice none 0 0)]) 56 rfl Try.underlying30 info34 rfl (by decide) (by omega) u4 s (⟨2, j, r⟩ : S34) [.int .i64 2, .slice u j.length x, .slice B r.length C] (fun k_ => some k_ ≠ (u5 : Value).ownBlock ∧ k_ ≠ c) (fun k_ => some k_ = (.slice u j.length x : Value).ownBlock ∨ some k_ = (.slice B r.length C : Value).ownBlock) rfl rfl ?aP (fun k_ hk_ => hk_.elim (fun h_ => ((Kd.R_mono (ok' := fun k_ => ((fun k_ => some k_ ≠ (u5 : Value).ownBlock ∧ k_ ≠ c)) k_ ∧ some k_ ≠ (u4 : Value).ownBlock) (Kd.R_types (Kd.R_apart' (Kd.R_apart' (q.1) (Kd.S_typed d.1) (by decide)) (Kd.S_typed l.1) (by decide)) a.1 (by decide)) (fun k_ hk => ⟨⟨hk.1.1.2, hk.2⟩, hk.1.2⟩))).1 k_ h_.symm) (fun h_ => ((Kd.R_mono (ok' := fun k_ => ((fun k_ => some k_ ≠ (u5 : Value).ownBlock ∧ k_ ≠ c)) k_ ∧ some k_ ≠ (u4 : Value).ownBlock) (Kd.R_types (Kd.R_apart' (Kd.R_apart' (F.1) (Kd.S_typed d.1) (by decide)) (Kd.S_typed l.1) (by decide)) a.1 (by decide)) (fun k_ hk => ⟨⟨hk.1.1.2, hk.2⟩, hk.1.2⟩))).1 k_ h_.symm)) ?aF ?aO ?aB ?aS ?aL ?_; (case aP => exact k34_mkM _ _ _ (⟨2, j, r⟩ : S34) (Kd.R_mono (Kd.R_tight rfl (Kd.R_mono (ok' := fun k_ => ((fun k_ => some k_ ≠ (u5 : Value).ownBlock ∧ k_ ≠ c)) k_ ∧ some k_ ≠ (u4 : Value).ownBlock) (Kd.R_types (Kd.R_apart' (Kd.R_apart' (q.1) (Kd.S_typed d.1) (by decide)) (Kd.S_typed l.1) (by decide)) a.1 (by decide)) (fun k_ hk => ⟨⟨hk.1.1.2, hk.2⟩, hk.1.2⟩))) (fun _ h_ => Or.inl h_)) (Kd.R_mono (Kd.R_tight rfl (Kd.R_mono (ok' := fun k_ => ((fun k_ => some k_ ≠ (u5 : Value).ownBlock ∧ k_ ≠ c)) k_ ∧ some k_ ≠ (u4 : Value).ownBlock) (Kd.R_types (Kd.R_apart' (Kd.R_apart' (F.1) (Kd.S_typed d.1) (by decide)) (Kd.S_typed l.1) (by decide)) a.1 (by decide)) (fun k_ hk => ⟨⟨hk.1.1.2, hk.2⟩, hk.1.2⟩))) (fun _ h_ => Or.inr (h_)))); (case aB => exact (pb1_ HB.1 n.1)); (case aF => exact (fun k_ hk => ⟨Kd.fresh' (Kd.S_lt (ps_ d.1)) k_ hk, Kd.freshB (g := c) (o := .cells #[.int .i64 2, .slice u j.length x, .slice B r.length C] 34 (0, 0)) (pk_ a.1) k_ hk⟩)); (case aO => exact (by (with_reducible repeat (first | apply Kd.S_alloc | apply Kd.S_drewN | apply Kd.S_drew)); exact Kd.S_mono l.1 (fun k_ hk => ⟨⟨hk.1, hk.2.2.2⟩, fun e_ => e_.elim (fun h_ => hk.2.1 h_) (fun h_ => hk.2.2.1 h_)⟩))); (case aS => exact (below_size (pb1_ HB.1 n.1))); (case aL => have := a2.1; omega); intro ae bL ho hb hg hat; rw [← bb.1] at ho; have _ := Q_ (Kd.S_after (ok := (fun k_ => some k_ ≠ (.slice u j.length x : Value).ownBlock ∧ some k_ ≠ (.slice B r.length C : Value).ownBlock ∧ k_ ≠ c)) (by (with_reducible repeat (first | apply Kd.S_alloc | apply Kd.S_drewN | apply Kd.S_drew)); exact Kd.S_mono d.1 (fun _ hk => ⟨⟨hk.2.1, ⟨hk.2.2.1, hk.2.2.2⟩⟩, hk.1⟩)) hg hat); have _ := Q_ (blk_grown (g := c) (o := .cells #[.int .i64 2, .slice u j.length x, .slice B r.length C] 34 (0, 0)) (pk_ a.1) hg (Kd.S_away l.1 (fun _ hk => hk.2.2.2))); have _ := Q_ (hb); have A := Q_ (ho); clear d a HB l q F; rename_i d a HB; clear ho hb hg hat) | ((with_reducible refine gate_dst (N := 38) rfl ?_); refine Kd.R_lit Kd.bool _ 4 ?hg (N := 38) ?hd (xs := ([false, true] : List Bool)) (inner := [.bool false, .bool true]) (ok := fun _ => True) (okp := fun _ => True) ?hr ?hp (fun _ hk => hk) trivial (Below.refl _ _) (Nat.le_refl _) (by simp) ?_; (case hd => rfl); (case hg => rfl); (case hr => first | (go_simp; done) | (go_simp; rfl)); (case hp => exact (Reps.one (show Kd.M Kd.bool _ _ _ false [.bool false] from rfl) (Reps.one (show Kd.M Kd.bool _ _ _ true [.bool true] from rfl) (Reps.none _ _)))); intro bH bM T hb hg_ hnew_; clear hg_ hnew_; (first | rw [← ax.1] at T | (simp only [Int.reduceToNat] at T; rw [← ax.1] at T)); have _ := Q_ (Kd.S_elder' (ps_ d.1) (Kd.R_base T) hb); have _ := Q_ (Kd.S_elder' (ps_ A.1) (Kd.R_base T) hb); have _ := Q_ (Kd.R_lower T (below_size (pb1_ HB.1 n.1))); have _ := Q_ (bb_ a.1 hb); have _ := Q_ (below_step (pb1_ HB.1 n.1) hb); clear d A a HB; rename_i d A K a HB; clear hb T) | ((with_reducible refine gate_dst (N := 43) rfl ?_); refine Kd.R_lit k78 _ 78 ?hg (N := 43) ?hd (xs := ([(⟨0, true, wrap64 (i + G), 1⟩ : S78)] : List (S78))) (inner := [.int .i64 0, .bool true, .int .i64 (wrap64 (i + G)), .int .i64 1]) (ok := fun _ => True) (okp := fun _ => True) ?hr ?hp (fun _ hk => hk) trivial (Below.refl _ _) (Nat.le_refl _) (by simp) ?_; (case hd => rfl); (case hg => rfl); (case hr => first | (go_simp; done) | (go_simp; rfl)); (case hp => exact (Reps.c4 (show Kd.M k78 _ _ _ (⟨0, true, wrap64 (i + G), 1⟩ : S78) [.int .i64 0, .bool true, .int .i64 (wrap64 (i + G)), .int .i64 1] from (k78_mkM _ _ _ (⟨0, true, wrap64 (i + G), 1⟩ : S78) )) (Reps.none _ _))); intro bI bN U hb hg_ hnew_; clear hg_ hnew_; (first | rw [← ay.1] at U | (simp only [Int.reduceToNat] at U; rw [← ay.1] at U)); have _ := Q_ (Kd.S_elder' (ps_ d.1) (Kd.R_base U) hb); have _ := Q_ (Kd.S_elder' (ps_ A.1) (Kd.R_base U) hb); have _ := Q_ (Kd.R_below (pr_ K.1) hb); have _ := Q_ (Kd.R_lower U (below_size (pb1_ HB.1 n.1))); have _ := Q_ (bb_ a.1 hb); have _ := Q_ (below_step (pb1_ HB.1 n.1) hb); clear d A K a HB; rename_i d A K aa a HB; clear hb U; obtain ⟨am, az, bg⟩ := Kd.R_slice aa.1; subst bg; obtain ⟨an, aA, bh⟩ := Kd.R_slice K.1; subst bh) | ((with_reducible refine gate_builtin (b := .append) (xs := #[.tmp 37, .tmp 45]) rfl ?_); at_builtin; refine Kd.S_append k34 (w0 := w) w.heap.size rfl (.tmp 37) (.tmp 45) 30 34 (.agg #[(.int .i64 0), (.slice none 0 0), (.slice none 0 0)]) 56 rfl Try.underlying30 info34 rfl (by decide) (by omega) u5 m (⟨2, O, Y⟩ : S34) [.int .i64 2, .slice an O.length aA, .slice am Y.length az] (fun k_ => some k_ ≠ (ae : Value).ownBlock ∧ k_ ≠ c) (fun k_ => some k_ = (.slice an O.length aA : Value).ownBlock ∨ some k_ = (.slice am Y.length az : Value).ownBlock) rfl rfl ?aP (fun k_ hk_ => hk_.elim (fun h_ => ((Kd.R_mono (ok' := fun k_ => ((fun k_ => some k_ ≠ (ae : Value).ownBlock ∧ k_ ≠ c)) k_ ∧ some k_ ≠ (u5 : Value).ownBlock) (Kd.R_types (Kd.R_apart' (Kd.R_apart' (K.1) (Kd.S_typed A.1) (by decide)) (Kd.S_typed d.1) (by decide)) a.1 (by decide)) (fun k_ hk => ⟨⟨hk.1.1.2, hk.2⟩, hk.1.2⟩))).1 k_ h_.symm) (fun h_ => ((Kd.R_mono (ok' := fun k_ => ((fun k_ => some k_ ≠ (ae : Value).ownBlock ∧ k_ ≠ c)) k_ ∧ some k_ ≠ (u5 : Value).ownBlock) (Kd.R_types (Kd.R_apart' (Kd.R_apart' (aa.1) (Kd.S_typed A.1) (by decide)) (Kd.S_typed d.1) (by decide)) a.1 (by decide)) (fun k_ hk => ⟨⟨hk.1.1.2, hk.2⟩, hk.1.2⟩))).1 k_ h_.symm)) ?aF ?aO ?aB ?aS ?aL ?_; (case aP => exact k34_mkM _ _ _ (⟨2, O, Y⟩ : S34) (Kd.R_mono (Kd.R_tight rfl (Kd.R_mono (ok' := fun k_ => ((fun k_ => some k_ ≠ (ae : Value).ownBlock ∧ k_ ≠ c)) k_ ∧ some k_ ≠ (u5 : Value).ownBlock) (Kd.R_types (Kd.R_apart' (Kd.R_apart' (K.1) (Kd.S_typed A.1) (by decide)) (Kd.S_typed d.1) (by decide)) a.1 (by decide)) (fun k_ hk => ⟨⟨hk.1.1.2, hk.2⟩, hk.1.2⟩))) (fun _ h_ => Or.inl h_)) (Kd.R_mono (Kd.R_tight rfl (Kd.R_mono (ok' := fun k_ => ((fun k_ => some k_ ≠ (ae : Value).ownBlock ∧ k_ ≠ c)) k_ ∧ some k_ ≠ (u5 : Value).ownBlock) (Kd.R_types (Kd.R_apart' (Kd.R_apart' (aa.1) (Kd.S_typed A.1) (by decide)) (Kd.S_typed d.1) (by decide)) a.1 (by decide)) (fun k_ hk => ⟨⟨hk.1.1.2, hk.2⟩, hk.1.2⟩))) (fun _ h_ => Or.inr (h_)))); (case aB => exact (pb1_ HB.1 n.1)); (case aF => exact (fun k_ hk => ⟨Kd.fresh' (Kd.S_lt (ps_ A.1)) k_ hk, Kd.freshB (g := c) (o := .cells #[.int .i64 2, .slice u j.length x, .slice B r.length C] 34 (0, 0)) (pk_ a.1) k_ hk⟩)); (case aO => exact (by (with_reducible repeat (first | apply Kd.S_alloc | apply Kd.S_drewN | apply Kd.S_drew)); exact Kd.S_mono d.1 (fun k_ hk => ⟨⟨hk.1.1.2, hk.1.1.1.2.2⟩, fun e_ => e_.elim (fun h_ => hk.1.2 h_) (fun h_ => hk.2 h_)⟩))); (case aS => exact (below_size (pb1_ HB.1 n.1))); (case aL => have := a3.1; omega); intro bJ bO ho hb hg hat; rw [← bc.1] at ho; have _ := Q_ (blk_grown (g := c) (o := .cells #[.int .i64 2, .slice u j.length x, .slice B r.length C] 34 (0, 0)) (pk_ a.1) hg (Kd.S_away d.1 (fun _ hk => hk.1.1.1.2.2))); have _ := Q_ (Kd.S_after (ok := (fun k_ => some k_ ≠ (.slice an O.length aA : Value).ownBlock ∧ some k_ ≠ (.slice am Y.length az : Value).ownBlock ∧ k_ ≠ c)) (by (with_reducible repeat (first | apply Kd.S_alloc | apply Kd.S_drewN | apply Kd.S_drew)); exact Kd.S_mono A.1 (fun _ hk => ⟨⟨hk.1.2, ⟨hk.2, hk.1.1.2⟩⟩, hk.1.1.1⟩)) hg hat); have _ := Q_ (hb); have aZ := Q_ (ho); clear a A HB d K aa; rename_i a A HB; clear ho hb hg hat))
  go_roundg k1
  case measure => have := aI.1; omega
  case rel => exact ⟨(ag), (aV), (wrap64 (i + 1)), el_, H', ⟨by have := aI.1; omega⟩, ⟨ps_ (Kd.S_mono A.1 (fun _ hk => hk.2))⟩, ⟨ps_ (Kd.S_mono aZ.1 (fun _ hk => hk.1))⟩, ⟨pb1_ HB.1 n.1⟩⟩
 rw [if_pos ai] at H
 have Q := decide_eq_true ai
 clear ai
 (first | rw [Q] | (simp only [i64_w, i32_w]; rw [Q]) | skip)
 by_cases aN : r.length < 4398046511104
 rotate_left
 ·rw [if_neg aN] at H
  exact nn_ H
 rw [if_pos aN] at H
 have a4 := Q_ aN
 clear aN
 obtain ⟨y, hy687⟩ : ∃ y_ : List (S78), y_ = (r ++ [(⟨0, false, wrap64 (i - 1), 1⟩ : S78)]) := ⟨_, rfl⟩
 replace H : (if s.length < 2513169434916 then (if m.length < 2513169434916 then (spec_l30Three.l0 k1 G (s ++ [(⟨2, j, y⟩ : S34)]) (m ++ [(⟨2, (([false, true] : List Bool)), (([(⟨0, true, wrap64 (i + G), 1⟩ : S78)] : List (S78)))⟩ : S34)]) (wrap64 (i + 1))) else (none)) else (none)) = some (r1, r2) := hb_ hy687 H
 have a8 := Q_ hy687
 clear hy687
 by_cases aQ : s.length < 2513169434916
 rotate_left
 ·rw [if_neg aQ] at H
  exact nn_ H
 rw [if_pos aQ] at H
 have a5 := Q_ aQ
 clear aQ
 obtain ⟨af, hy690⟩ : ∃ y_ : List (S34), y_ = (s ++ [(⟨2, j, y⟩ : S34)]) := ⟨_, rfl⟩
 replace H : (if m.length < 2513169434916 then (spec_l30Three.l0 k1 G af (m ++ [(⟨2, (([false, true] : List Bool)), (([(⟨0, true, wrap64 (i + G), 1⟩ : S78)] : List (S78)))⟩ : S34)]) (wrap64 (i + 1))) else (none)) = some (r1, r2) := hb_ hy690 H
 have a9 := Q_ hy690
 clear hy690
 obtain ⟨L, hy693⟩ : ∃ y_ : List Bool, y_ = (([false, true] : List Bool)) := ⟨_, rfl⟩
 replace H : (if m.length < 2513169434916 then (spec_l30Three.l0 k1 G af (m ++ [(⟨2, L, (([(⟨0, true, wrap64 (i + G), 1⟩ : S78)] : List (S78)))⟩ : S34)]) (wrap64 (i + 1))) else (none)) = some (r1, r2) := hb_ hy693 H
 have av := Q_ hy693
 clear hy693
 obtain ⟨X, hy696⟩ : ∃ y_ : List (S78), y_ = (([(⟨0, true, wrap64 (i + G), 1⟩ : S78)] : List (S78))) := ⟨_, rfl⟩
 replace H : (if m.length < 2513169434916 then (spec_l30Three.l0 k1 G af (m ++ [(⟨2, L, X⟩ : S34)]) (wrap64 (i + 1))) else (none)) = some (r1, r2) := hb_ hy696 H
 have aw := Q_ hy696
 clear hy696
 by_cases aR : m.length < 2513169434916
 rotate_left
 ·rw [if_neg aR] at H
  exact nn_ H
 rw [if_pos aR] at H
 have a6 := Q_ aR
 clear aR
 obtain ⟨aU, hy699⟩ : ∃ y_ : List (S34), y_ = (m ++ [(⟨2, L, X⟩ : S34)]) := ⟨_, rfl⟩
 replace H : (spec_l30Three.l0 k1 G af aU (wrap64 (i + 1))) = some (r1, r2) := hb_ hy699 H
 have ba := Q_ hy699
 clear hy699
 have H' := Q_ H
 clear H
 have bq := bc3_ a.1
 go_wp2_with (first | ((with_reducible refine gate_builtin (b := .append) (xs := #[.tmp 26, .tmp 30]) rfl ?_); at_builtin; refine Kd.R_append k78 (w0 := w) w.heap.size rfl (.tmp 26) (.tmp 30) 32 78 (.agg #[(.int .i64 0), (.bool false), (.int .i64 0), (.int .i64 0)]) 32 rfl Try.underlying32 info78 rfl (by decide) (by omega) (.slice B r.length C) r (⟨0, false, wrap64 (i - 1), 1⟩ : S78) [.int .i64 0, .bool false, .int .i64 (wrap64 (i - 1)), .int .i64 1] (fun _ => True) (fun _ => False) rfl rfl ?aP (fun _ hk => hk.elim) ?aF ?aO ?aB ?aS ?aL ?_; (case aP => exact k78_mkM _ _ _ (⟨0, false, wrap64 (i - 1), 1⟩ : S78)); (case aB => exact (pb1_ HB.1 n.1)); (case aF => exact (fun _ _ => trivial)); (case aO => exact (pr_ F.1)); (case aS => exact (below_size (pb1_ HB.1 n.1))); (case aL => have := a4.1; omega); intro bD bv ho hb hg hat; rw [← a8.1] at ho; have _ := Q_ (Kd.S_after (ok := (fun k_ => some k_ ≠ (u5 : Value).ownBlock ∧ some k_ ≠ (.slice u j.length x : Value).ownBlock ∧ k_ ≠ c)) (by (with_reducible repeat (first | apply Kd.S_alloc | apply Kd.S_drewN | apply Kd.S_drew)); exact Kd.S_mono l.1 (fun _ hk => ⟨⟨hk.1, ⟨hk.2.1, hk.2.2.2⟩⟩, hk.2.2.1⟩)) hg hat); have _ := Q_ (Kd.S_after (ok := (fun k_ => some k_ ≠ (u4 : Value).ownBlock ∧ some k_ ≠ (.slice u j.length x : Value).ownBlock ∧ k_ ≠ c)) (by (with_reducible repeat (first | apply Kd.S_alloc | apply Kd.S_drewN | apply Kd.S_drew)); exact Kd.S_mono d.1 (fun _ hk => ⟨⟨hk.1, ⟨hk.2.1, hk.2.2.2⟩⟩, hk.2.2.1⟩)) hg hat); have _ := Q_ (Kd.R_over' (pr_ q.1) (Kd.R_typed (pr_ F.1)) (by decide) hg); have _ := Q_ (blk_grown (g := c) (o := .cells #[.int .i64 2, .slice u j.length x, .slice B r.length C] 34 (0, 0)) (pk_ a.1) hg (Kd.R_ne F.1 a.1 (by decide))); have _ := Q_ (hb); have I := Q_ (ho); clear l d q a HB F; rename_i l d q a HB; clear ho hb hg hat; obtain ⟨D, E, bi⟩ := Kd.R_slice I.1; subst bi; have br := bc3_ a.1) | ((with_reducible refine gate_store (t := 32) (p := 32) rfl ?_); refine store_event (t := 32) (p := 32) (v := ?vo_w38) (w1 := (bv.setCell ⟨c, 2, none⟩ (.slice D y.length E))) ?hg ?ho ?hn ?hr ?_; (case ho => rfl); (case hg => rfl); (case hn => rfl); (case hr => first | (go_simp; done) | (go_simp; rfl)); intro al hw; have n0_ : Aside0 (Kd.S k34 34 al w.heap.size (fun k_ => some k_ ≠ (u5 : Value).ownBlock ∧ some k_ ≠ (.slice u j.length x : Value).ownBlock ∧ some k_ ≠ (.slice D y.length E : Value).ownBlock ∧ k_ ≠ c) u4 s) := ⟨(by rw [hw]; exact (by (with_reducible repeat (first | apply Kd.S_alloc | apply Kd.S_drewN | apply Kd.S_drew)); exact Kd.S_mono (Kd.S_far (p := ⟨c, 2, none⟩) (Kd.S_mono l.1 (fun k_ hk => (⟨hk, hk.1.2.2⟩ : _ ∧ k_ ≠ c))) (fun _ hk => hk.2) (.slice D y.length E)) (fun _ hk => ⟨hk.1.1.1, ⟨hk.1.1.2.1, ⟨hk.1.2, hk.1.1.2.2⟩⟩⟩)))⟩; have n1_ : Aside0 (Kd.S k34 34 al w.heap.size (fun k_ => some k_ ≠ (u4 : Value).ownBlock ∧ some k_ ≠ (.slice u j.length x : Value).ownBlock ∧ some k_ ≠ (.slice D y.length E : Value).ownBlock ∧ k_ ≠ c) u5 m) := ⟨(by rw [hw]; exact (by (with_reducible repeat (first | apply Kd.S_alloc | apply Kd.S_drewN | apply Kd.S_drew)); exact Kd.S_mono (Kd.S_far (p := ⟨c, 2, none⟩) (Kd.S_mono d.1 (fun k_ hk => (⟨hk, hk.1.2.2⟩ : _ ∧ k_ ≠ c))) (fun _ hk => hk.2) (.slice D y.length E)) (fun _ hk => ⟨hk.1.1.1, ⟨hk.1.1.2.1, ⟨hk.1.2, hk.1.1.2.2⟩⟩⟩)))⟩; have n2_ : Aside0 (Kd.R Kd.bool 4 al w.heap.size (fun _ => True) (.slice u j.length x) j) := ⟨(by rw [hw]; exact (pr_ (Kd.R_mono (Kd.R_far (p := ⟨c, 2, none⟩) (Kd.R_types q.1 a.1 (by decide)) (fun _ hk => hk.2) (.slice D y.length E)) (fun _ hk => trivial))))⟩; have n3_ : Aside0 (Kd.R k78 78 al w.heap.size (fun _ => True) (.slice D y.length E) y) := ⟨(by rw [hw]; exact (pr_ (Kd.R_mono (Kd.R_far (p := ⟨c, 2, none⟩) (Kd.R_types I.1 a.1 (by decide)) (fun _ hk => hk.2) (.slice D y.length E)) (fun _ hk => trivial))))⟩; have n4_ : Aside0 (al.heap[c]? = some (.cells #[.int .i64 2, .slice u j.length x, .slice D y.length E] 34 (0, 0))) := ⟨(by rw [hw]; exact (pp_ a.1))⟩; have n5_ : Aside0 (Below w.heap.size w al) := ⟨(by rw [hw]; exact (pb1_ HB.1 n.1))⟩; clear hw; clear l; clear d; clear q; clear I; clear a; clear HB; have l := n0_; have d := n1_; have q := n2_; have I := n3_; have a := n4_; have HB := n5_; clear n0_ n1_ n2_ n3_ n4_ n5_; have bs := bc3_ a.1) | ((with_reducible refine gate_builtin (b := .append) (xs := #[.tmp 33, .tmp 35]) rfl ?_); at_builtin; refine Kd.S_append k34 (w0 := w) w.heap.size rfl (.tmp 33) (.tmp 35) 30 34 (.agg #[(.int .i64 0), (.slice none 0 0), (.slice none 0 0)]) 56 rfl Try.underlying30 info34 rfl (by decide) (by omega) u4 s (⟨2, j, y⟩ : S34) [.int .i64 2, .slice u j.length x, .slice D y.length E] (fun k_ => some k_ ≠ (u5 : Value).ownBlock ∧ k_ ≠ c) (fun k_ => some k_ = (.slice u j.length x : Value).ownBlock ∨ some k_ = (.slice D y.length E : Value).ownBlock) rfl rfl ?aP (fun k_ hk_ => hk_.elim (fun h_ => ((Kd.R_mono (ok' := fun k_ => ((fun k_ => some k_ ≠ (u5 : Value).ownBlock ∧ k_ ≠ c)) k_ ∧ some k_ ≠ (u4 : Value).ownBlock) (Kd.R_types (Kd.R_apart' (Kd.R_apart' (q.1) (Kd.S_typed d.1) (by decide)) (Kd.S_typed l.1) (by decide)) a.1 (by decide)) (fun k_ hk => ⟨⟨hk.1.1.2, hk.2⟩, hk.1.2⟩))).1 k_ h_.symm) (fun h_ => ((Kd.R_mono (ok' := fun k_ => ((fun k_ => some k_ ≠ (u5 : Value).ownBlock ∧ k_ ≠ c)) k_ ∧ some k_ ≠ (u4 : Value).ownBlock) (Kd.R_types (Kd.R_apart' (Kd.R_apart' (I.1) (Kd.S_typed d.1) (by decide)) (Kd.S_typed l.1) (by decide)) a.1 (by decide)) (fun k_ hk => ⟨⟨hk.1.1.2, hk.2⟩, hk.1.2⟩))).1 k_ h_.symm)) ?aF ?aO ?aB ?aS ?aL ?_; (case aP => exact k34_mkM _ _ _ (⟨2, j, y⟩ : S34) (Kd.R_mono (Kd.R_tight rfl (Kd.R_mono (ok' := fun k_ => ((fun k_ => some k_ ≠ (u5 : Value).ownBlock ∧ k_ ≠ c)) k_ ∧ some k_ ≠ (u4 : Value).ownBlock) (Kd.R_types (Kd.R_apart' (Kd.R_apart' (q.1) (Kd.S_typed d.1) (by decide)) (Kd.S_typed l.1) (by decide)) a.1 (by decide)) (fun k_ hk => ⟨⟨hk.1.1.2, hk.2⟩, hk.1.2⟩))) (fun _ h_ => Or.inl h_)) (Kd.R_mono (Kd.R_tight rfl (Kd.R_mono (ok' := fun k_ => ((fun k_ => some k_ ≠ (u5 : Value).ownBlock ∧ k_ ≠ c)) k_ ∧ some k_ ≠ (u4 : Value).ownBlock) (Kd.R_types (Kd.R_apart' (Kd.R_apart' (I.1) (Kd.S_typed d.1) (by decide)) (Kd.S_typed l.1) (by decide)) a.1 (by decide)) (fun k_ hk => ⟨⟨hk.1.1.2, hk.2⟩, hk.1.2⟩))) (fun _ h_ => Or.inr (h_)))); (case aB => exact (pb1_ HB.1 n.1)); (case aF => exact (fun k_ hk => ⟨Kd.fresh' (Kd.S_lt (ps_ d.1)) k_ hk, Kd.freshB (g := c) (o := .cells #[.int .i64 2, .slice u j.length x, .slice D y.length E] 34 (0, 0)) (pk_ a.1) k_ hk⟩)); (case aO => exact (by (with_reducible repeat (first | apply Kd.S_alloc | apply Kd.S_drewN | apply Kd.S_drew)); exact Kd.S_mono l.1 (fun k_ hk => ⟨⟨hk.1, hk.2.2.2⟩, fun e_ => e_.elim (fun h_ => hk.2.1 h_) (fun h_ => hk.2.2.1 h_)⟩))); (case aS => exact (below_size (pb1_ HB.1 n.1))); (case aL => have := a5.1; omega); intro ad bP ho hb hg hat; rw [← a9.1] at ho; have _ := Q_ (Kd.S_after (ok := (fun k_ => some k_ ≠ (.slice u j.length x : Value).ownBlock ∧ some k_ ≠ (.slice D y.length E : Value).ownBlock ∧ k_ ≠ c)) (by (with_reducible repeat (first | apply Kd.S_alloc | apply Kd.S_drewN | apply Kd.S_drew)); exact Kd.S_mono d.1 (fun _ hk => ⟨⟨hk.2.1, ⟨hk.2.2.1, hk.2.2.2⟩⟩, hk.1⟩)) hg hat); have _ := Q_ (blk_grown (g := c) (o := .cells #[.int .i64 2, .slice u j.length x, .slice D y.length E] 34 (0, 0)) (pk_ a.1) hg (Kd.S_away l.1 (fun _ hk => hk.2.2.2))); have _ := Q_ (hb); have z := Q_ (ho); clear d a HB l q I; rename_i d a HB; clear ho hb hg hat) | ((with_reducible refine gate_dst (N := 38) rfl ?_); refine Kd.R_lit Kd.bool _ 4 ?hg (N := 38) ?hd (xs := ([false, true] : List Bool)) (inner := [.bool false, .bool true]) (ok := fun _ => True) (okp := fun _ => True) ?hr ?hp (fun _ hk => hk) trivial (Below.refl _ _) (Nat.le_refl _) (by simp) ?_; (case hd => rfl); (case hg => rfl); (case hr => first | (go_simp; done) | (go_simp; rfl)); (case hp => exact (Reps.one (show Kd.M Kd.bool _ _ _ false [.bool false] from rfl) (Reps.one (show Kd.M Kd.bool _ _ _ true [.bool true] from rfl) (Reps.none _ _)))); intro bE bQ V hb hg_ hnew_; clear hg_ hnew_; (first | rw [← av.1] at V | (simp only [Int.reduceToNat] at V; rw [← av.1] at V)); have _ := Q_ (Kd.S_elder' (ps_ d.1) (Kd.R_base V) hb); have _ := Q_ (Kd.S_elder' (ps_ z.1) (Kd.R_base V) hb); have _ := Q_ (Kd.R_lower V (below_size (pb1_ HB.1 n.1))); have _ := Q_ (bb_ a.1 hb); have _ := Q_ (below_step (pb1_ HB.1 n.1) hb); clear d z a HB; rename_i d z J a HB; clear hb V) | ((with_reducible refine gate_dst (N := 43) rfl ?_); refine Kd.R_lit k78 _ 78 ?hg (N := 43) ?hd (xs := ([(⟨0, true, wrap64 (i + G), 1⟩ : S78)] : List (S78))) (inner := [.int .i64 0, .bool true, .int .i64 (wrap64 (i + G)), .int .i64 1]) (ok := fun _ => True) (okp := fun _ => True) ?hr ?hp (fun _ hk => hk) trivial (Below.refl _ _) (Nat.le_refl _) (by simp) ?_; (case hd => rfl); (case hg => rfl); (case hr => first | (go_simp; done) | (go_simp; rfl)); (case hp => exact (Reps.c4 (show Kd.M k78 _ _ _ (⟨0, true, wrap64 (i + G), 1⟩ : S78) [.int .i64 0, .bool true, .int .i64 (wrap64 (i + G)), .int .i64 1] from (k78_mkM _ _ _ (⟨0, true, wrap64 (i + G), 1⟩ : S78) )) (Reps.none _ _))); intro bF bR W hb hg_ hnew_; clear hg_ hnew_; (first | rw [← aw.1] at W | (simp only [Int.reduceToNat] at W; rw [← aw.1] at W)); have _ := Q_ (Kd.S_elder' (ps_ d.1) (Kd.R_base W) hb); have _ := Q_ (Kd.S_elder' (ps_ z.1) (Kd.R_base W) hb); have _ := Q_ (Kd.R_below (pr_ J.1) hb); have _ := Q_ (Kd.R_lower W (below_size (pb1_ HB.1 n.1))); have _ := Q_ (bb_ a.1 hb); have _ := Q_ (below_step (pb1_ HB.1 n.1) hb); clear d z J a HB; rename_i d z J Z a HB; clear hb W; obtain ⟨ao, aC, bj⟩ := Kd.R_slice Z.1; subst bj; obtain ⟨ap, aD, bk⟩ := Kd.R_slice J.1; subst bk) | ((with_reducible refine gate_builtin (b := .append) (xs := #[.tmp 37, .tmp 45]) rfl ?_); at_builtin; refine Kd.S_append k34 (w0 := w) w.heap.size rfl (.tmp 37) (.tmp 45) 30 34 (.agg #[(.int .i64 0), (.slice none 0 0), (.slice none 0 0)]) 56 rfl Try.underlying30 info34 rfl (by decide) (by omega) u5 m (⟨2, L, X⟩ : S34) [.int .i64 2, .slice ap L.length aD, .slice ao X.length aC] (fun k_ => some k_ ≠ (ad : Value).ownBlock ∧ k_ ≠ c) (fun k_ => some k_ = (.slice ap L.length aD : Value).ownBlock ∨ some k_ = (.slice ao X.length aC : Value).ownBlock) rfl rfl ?aP (fun k_ hk_ => hk_.elim (fun h_ => ((Kd.R_mono (ok' := fun k_ => ((fun k_ => some k_ ≠ (ad : Value).ownBlock ∧ k_ ≠ c)) k_ ∧ some k_ ≠ (u5 : Value).ownBlock) (Kd.R_types (Kd.R_apart' (Kd.R_apart' (J.1) (Kd.S_typed z.1) (by decide)) (Kd.S_typed d.1) (by decide)) a.1 (by decide)) (fun k_ hk => ⟨⟨hk.1.1.2, hk.2⟩, hk.1.2⟩))).1 k_ h_.symm) (fun h_ => ((Kd.R_mono (ok' := fun k_ => ((fun k_ => some k_ ≠ (ad : Value).ownBlock ∧ k_ ≠ c)) k_ ∧ some k_ ≠ (u5 : Value).ownBlock) (Kd.R_types (Kd.R_apart' (Kd.R_apart' (Z.1) (Kd.S_typed z.1) (by decide)) (Kd.S_typed d.1) (by decide)) a.1 (by decide)) (fun k_ hk => ⟨⟨hk.1.1.2, hk.2⟩, hk.1.2⟩))).1 k_ h_.symm)) ?aF ?aO ?aB ?aS ?aL ?_; (case aP => exact k34_mkM _ _ _ (⟨2, L, X⟩ : S34) (Kd.R_mono (Kd.R_tight rfl (Kd.R_mono (ok' := fun k_ => ((fun k_ => some k_ ≠ (ad : Value).ownBlock ∧ k_ ≠ c)) k_ ∧ some k_ ≠ (u5 : Value).ownBlock) (Kd.R_types (Kd.R_apart' (Kd.R_apart' (J.1) (Kd.S_typed z.1) (by decide)) (Kd.S_typed d.1) (by decide)) a.1 (by decide)) (fun k_ hk => ⟨⟨hk.1.1.2, hk.2⟩, hk.1.2⟩))) (fun _ h_ => Or.inl h_)) (Kd.R_mono (Kd.R_tight rfl (Kd.R_mono (ok' := fun k_ => ((fun k_ => some k_ ≠ (ad : Value).ownBlock ∧ k_ ≠ c)) k_ ∧ some k_ ≠ (u5 : Value).ownBlock) (Kd.R_types (Kd.R_apart' (Kd.R_apart' (Z.1) (Kd.S_typed z.1) (by decide)) (Kd.S_typed d.1) (by decide)) a.1 (by decide)) (fun k_ hk => ⟨⟨hk.1.1.2, hk.2⟩, hk.1.2⟩))) (fun _ h_ => Or.inr (h_)))); (case aB => exact (pb1_ HB.1 n.1)); (case aF => exact (fun k_ hk => ⟨Kd.fresh' (Kd.S_lt (ps_ z.1)) k_ hk, Kd.freshB (g := c) (o := .cells #[.int .i64 2, .slice u j.length x, .slice D y.length E] 34 (0, 0)) (pk_ a.1) k_ hk⟩)); (case aO => exact (by (with_reducible repeat (first | apply Kd.S_alloc | apply Kd.S_drewN | apply Kd.S_drew)); exact Kd.S_mono d.1 (fun k_ hk => ⟨⟨hk.1.1.2, hk.1.1.1.2.2⟩, fun e_ => e_.elim (fun h_ => hk.1.2 h_) (fun h_ => hk.2 h_)⟩))); (case aS => exact (below_size (pb1_ HB.1 n.1))); (case aL => have := a6.1; omega); intro bG bS ho hb hg hat; rw [← ba.1] at ho; have _ := Q_ (blk_grown (g := c) (o := .cells #[.int .i64 2, .slice u j.length x, .slice D y.length E] 34 (0, 0)) (pk_ a.1) hg (Kd.S_away d.1 (fun _ hk => hk.1.1.1.2.2))); have _ := Q_ (Kd.S_after (ok := (fun k_ => some k_ ≠ (.slice ap L.length aD : Value).ownBlock ∧ some k_ ≠ (.slice ao X.length aC : Value).ownBlock ∧ k_ ≠ c)) (by (with_reducible repeat (first | apply Kd.S_alloc | apply Kd.S_drewN | apply Kd.S_drew)); exact Kd.S_mono z.1 (fun _ hk => ⟨⟨hk.1.2, ⟨hk.2, hk.1.1.2⟩⟩, hk.1.1.1⟩)) hg hat); have _ := Q_ (hb); have aY := Q_ (ho); clear a z HB d J Z; rename_i a z HB; clear ho hb hg hat))
 go_roundg k1
 case measure => have := aI.1; omega
 case rel => exact ⟨(af), (aU), (wrap64 (i + 1)), el_, H', ⟨by have := aI.1; omega⟩, ⟨ps_ (Kd.S_mono z.1 (fun _ hk => hk.2))⟩, ⟨ps_ (Kd.S_mono aY.1 (fun _ hk => hk.1))⟩, ⟨pb1_ HB.1 n.1⟩⟩

/-! ### spec_DrawNextOnly: function 31 -/
def spec_DrawNextOnly.l0 : Nat → List (S34) → List (S34) → Int → List Int → Int → Int → Option ((List (S34)) × (List (S34)))
 | 0, _, _, _, _, _, _ => none
 | k + 1, i, l, j, a, b, c => if j < (i.length : Int) then (if 0 ≤ j then ((spec_DualOf.f k ((rd_T34 i j).f0) ((rd_T34 i j).f1) ((rd_T34 i j).f2)).bind fun d => (if l.length < 2513169434916 then (spec_DrawNextOnly.l0 k i (l ++ [(⟨d.1, d.2.1, d.2.2⟩ : S34)]) (wrap64 (j + 1)) a b c) else (none))) else (none)) else ((spec_l1Once.f a b c 3).bind fun e => (if e.1 = true then ((spec_l1Below.f a e.2.1 e.2.2 2).bind fun h => ((spec_l30Three.f k h.1).bind fun g => (some (g.1, g.2)))) else (some (i, l))))
def spec_DrawNextOnly.f (k : Nat) (c : List Int) : Option ((List (S34)) × (List (S34))) := (spec_l1New.f k c).bind fun a => ((spec_l30Line.f k a.1 a.2.1 a.2.2).bind fun b => (spec_DrawNextOnly.l0 k b.1 (([] : List (S34))) 0 a.1 b.2.1 b.2.2))
theorem spec_DrawNextOnly.mono_l : ∀ k, (∀ a b c d e f, LeO (spec_DrawNextOnly.l0 k a b c d e f) (spec_DrawNextOnly.l0 (k + 1) a b c d e f))
 | 0 => fun _ _ _ _ _ _ r h => by simp [spec_DrawNextOnly.l0] at h
 | k + 1 => by
  have ih0 := spec_DrawNextOnly.mono_l k
  ·intro a b c d e f
   unfold spec_DrawNextOnly.l0
   exact mo5_ ih0 spec_DualOf.mono spec_l1New.mono spec_l30Line.mono spec_l30Three.mono
theorem spec_DrawNextOnly.mono : ∀ a k, LeO (spec_DrawNextOnly.f k a) (spec_DrawNextOnly.f (k + 1) a) := by
 intro a k
 have ih0 := spec_DrawNextOnly.mono_l k
 unfold spec_DrawNextOnly.f
 exact mo5_ ih0 spec_DualOf.mono spec_l1New.mono spec_l30Line.mono spec_l30Three.mono
theorem spec_DrawNextOnly.calls (k : Nat) (A0 : Option Addr) (c0 : Nat) (l0 : List Int) (r1 : List (S34)) (r2 : List (S34)) (w : World) (hr0 : Kd.C (Kd.int .u8) w A0 l0.length l0) (aH : l0.length ≤ c0) (h : spec_DrawNextOnly.f k l0 = some (r1, r2)) :
  Calls Try.prog 31 #[.slice A0 l0.length c0] w fun e w' => ∃ v0_ v1_ : Value, e = .returned (.tuple #[v0_, v1_]) ∧ Kd.S k34 34 w' w.heap.size (fun k_ => some k_ ≠ (v1_ : Value).ownBlock) v0_ r1 ∧ Kd.S k34 34 w' w.heap.size (fun k_ => some k_ ≠ (v0_ : Value).ownBlock) v1_ r2 ∧ Below w.heap.size w w' := by
 have hu34 := Try.underlying34
 have aW := Q_ hr0
 have aV := Q_ aH
 clear hr0 aH
 have HB := Q_ (Below.refl w.heap.size w)
 have H : ((spec_l1New.f k l0).bind fun A => ((spec_l30Line.f k A.1 A.2.1 A.2.2).bind fun E => (spec_DrawNextOnly.l0 k E.1 (([] : List (S34))) 0 A.1 E.2.1 E.2.2))) = some (r1, r2) := h
 clear h
 obtain ⟨⟨m, af, ag⟩, A2, H⟩ := bs_ H
 (try dsimp only at H)
 obtain ⟨⟨g, p, q⟩, A3, H⟩ := bs_ H
 (try dsimp only at H)
 obtain ⟨al, hy723⟩ : ∃ y_ : List (S34), y_ = (([] : List (S34))) := ⟨_, rfl⟩
 replace H : (spec_DrawNextOnly.l0 k g al 0 m p q) = some (r1, r2) := hb_ hy723 H
 have U := Q_ hy723
 clear hy723
 have H' := Q_ H
 clear H
 go_enter Try.func31, Try.ntmps31
 go_wp2_with (first | ((with_reducible refine gate_callee (f := 49) rfl ?_); refine gl_ (some 9) Try.func49 #[.slice A0 l0.length c0] ?_; (with_reducible refine (spec_l1New.calls k _ _ l0 m af ag w _ ?side1 aW.1 aV.1 A2.1).mono ?_); (case side1 => exact qb0_ HB.1); rintro e w4 ⟨g717, rfl, hi, hb, hb2⟩; refine ⟨_, rfl, ?_⟩; have _ := Q_ (hb); have _ := Q_ (hi); clear HB; rename_i HB a; (try clear hb hb2 hi)) | ((with_reducible refine gate_callee (f := 50) rfl ?_); refine gl_ (some 11) Try.func50 #[.pointer (some ⟨g717, 0, none⟩)] ?_; (with_reducible refine (spec_l30Line.calls k g717 m af ag g p q w _ ?side1 ?side2 A3.1).mono ?_); (case side1 => exact qs87_0_ a.1); (case side2 => exact qb1_ HB.1 (IsS87.ge a.1)); rintro e w5 ⟨ak, rfl, o, hi, hb, hk⟩; refine ⟨_, rfl, ?_⟩; have _ := Q_ (Kd.S_lower o (below_size (qb1_ HB.1 (IsS87.ge a.1)))); have _ := Q_ (hb); have _ := Q_ (hi); clear HB a; rename_i t HB a; (try clear hb hk hi o)) | ((with_reducible refine gate_dst (N := 12) rfl ?_); refine Kd.S_lit k34 _ 34 ?hg (N := 12) ?hd (xs := ([] : List (S34))) (inner := []) (ok := fun _ => True) (okp := fun _ => True) ?hr ?hp (fun _ hk => hk) trivial (Below.refl _ _) (Nat.le_refl _) (by simp) ?_; (case hd => rfl); (case hg => rfl); (case hr => first | (go_simp; done) | (go_simp; rfl)); (case hp => exact (Reps.none _ _)); intro a3 w6 P hb hg_ hnew_; clear hg_ hnew_; (first | rw [← U.1] at P | (simp only [Int.reduceToNat] at P; rw [← U.1] at P)); have _ := Q_ (Kd.S_elder' (ps_ t.1) (Kd.S_base P) hb); have _ := Q_ (Kd.S_lower (Kd.S_new' P (Kd.S_lt (ps_ t.1))) (below_size (qb1_ HB.1 (IsS87.ge a.1)))); have _ := Q_ (IsS87.below (qs87_0_ a.1) hb); have _ := Q_ (below_step (qb1_ HB.1 (IsS87.ge a.1)) hb); clear t a HB; rename_i t an a HB; clear hb P))
 (try simp only [Act.put, s1_, s2_, s3_])
 go_loopg [6, 7] k (fun kq v6 v7 w' => ∃ (x : List (S34)) (i : Int), v7 = .int .i64 i ∧ Aside0 (spec_DrawNextOnly.l0 kq g x i m p q = some (r1, r2)) ∧ Aside0 (kq ≤ k) ∧ Aside0 (Kd.S k34 34 w' w.heap.size (fun k_ => some k_ ≠ (v6 : Value).ownBlock) ak g) ∧ Aside0 (Kd.S k34 34 w' w.heap.size (fun k_ => some k_ ≠ (ak : Value).ownBlock) v6 x) ∧ Aside0 (IsS87 w w' g717 m p q) ∧ Aside0 (Below w.heap.size w w'))
 case atStart => exact ⟨(al), (0), el_, H', ⟨Nat.le_refl _⟩, ⟨ps_ (Kd.S_mono t.1 (fun _ hk => hk.2))⟩, ⟨ps_ (Kd.S_mono an.1 (fun _ hk => hk.2))⟩, ⟨qs87_0_ a.1⟩, ⟨qb1_ HB.1 (IsS87.ge a.1)⟩⟩
 clear H'
 obtain ⟨x, i, rfl, HA, ay, c, d, a, HB⟩ := hrel
 rcases gk with _ | k1
 ·exact absurd HA.1 (by simp [spec_DrawNextOnly.l0])
 have H := HA.1
 clear HA
 simp only [spec_DrawNextOnly.l0] at H
 by_cases c8 : i < (g.length : Int)
 ·rw [if_pos c8] at H
  have az := decide_eq_true c8
  clear c8
  by_cases c9 : 0 ≤ i
  rotate_left
  ·rw [if_neg c9] at H
   exact nn_ H
  rw [if_pos c9] at H
  have a0 := decide_eq_true c9
  clear c9
  obtain ⟨⟨D, r, s⟩, aQ, H⟩ := bs_ H
  (try dsimp only at H)
  by_cases aa : x.length < 2513169434916
  rotate_left
  ·rw [if_neg aa] at H
   exact nn_ H
  rw [if_pos aa] at H
  have ar := Q_ aa
  clear aa
  obtain ⟨am, hy734⟩ : ∃ y_ : List (S34), y_ = (x ++ [(⟨D, r, s⟩ : S34)]) := ⟨_, rfl⟩
  replace H : (spec_DrawNextOnly.l0 k1 g am (wrap64 (i + 1)) m p q) = some (r1, r2) := hb_ hy734 H
  have au := Q_ hy734
  clear hy734
  have H' := Q_ H
  clear H
  obtain ⟨aY, u, aC⟩ := Kd.S_slice c.1
  subst aC
  have K : 0 ≤ (i : Int) := dt_
  have L : i < (g.length : Int) := dt_
  obtain ⟨n, Y, ac, Z, ad, aA, aI, V, W, Q, j, T, l⟩ := at_U34 (Kd.S_reads' c.1).2.2 i K L
  cases aA
  obtain ⟨ce726, hce726, hMe726, B⟩ := Kd.S_get c.1 z34 i K (by first | exact L | exact dt_ | (have e_ := (Kd.S_reads' c.1).1; omega))
  obtain ⟨ve726_1, ve726_2, rfl, ge726_1, ge726_2⟩ := k34_openM hMe726
  have hv726_1 := B 1 _ rfl
  rw [add_field _ _ 1 (by omega)] at hv726_1
  replace hv726_1 := Option.some.inj (hv726_1.symm.trans V)
  rw [hv726_1] at ge726_1
  have HL726_1 := Q_ (show Kd.R Kd.bool 4 _ _ _ _ ((rd_T34 g i).f1) from ge726_1)
  clear hv726_1 ge726_1
  have hv726_2 := B 2 _ rfl
  rw [add_field _ _ 2 (by omega)] at hv726_2
  replace hv726_2 := Option.some.inj (hv726_2.symm.trans W)
  rw [hv726_2] at ge726_2
  have HL726_2 := Q_ (show Kd.R k78 78 _ _ _ _ ((rd_T34 g i).f2) from ge726_2)
  clear hv726_2 ge726_2
  clear B hce726
  replace K := eq_true K
  replace L := eq_true L
  go_wp2_with (first | ((with_reducible refine gate_callee (f := 53) rfl ?_); refine gl_ (some 24) Try.func53 #[.agg #[.int .i64 ((rd_T34 g i).f0), .slice Y ((rd_T34 g i).f1).length ac, .slice Z ((rd_T34 g i).f2).length ad]] ?_; (with_reducible refine (spec_DualOf.calls k1 ((rd_T34 g i).f0) _ _ ((rd_T34 g i).f1) _ _ ((rd_T34 g i).f2) D r s _ ?side1 ?side2 ?side3 ?side4 aQ.1).mono ?_); (case side1 => repeat (first | exact (by repeat (first | (with_reducible exact j.1) | (with_reducible refine Kd.C_alloc ?_ _) | (with_reducible refine Kd.C_drewN ?_ _) | (with_reducible refine Kd.C_drew ?_) | exact j.1)) | (with_reducible refine Kd.C_alloc ?_ _) | (with_reducible refine Kd.C_drewN ?_ _) | (with_reducible refine Kd.C_drew ?_))); (case side2 => exact Q.1); (case side3 => repeat (first | exact (by repeat (first | (with_reducible exact l.1) | (with_reducible refine Kd.C_alloc ?_ _) | (with_reducible refine Kd.C_drewN ?_ _) | (with_reducible refine Kd.C_drew ?_) | exact l.1)) | (with_reducible refine Kd.C_alloc ?_ _) | (with_reducible refine Kd.C_drewN ?_ _) | (with_reducible refine Kd.C_drew ?_))); (case side4 => exact T.1); rintro e bc ⟨a4, a5, rfl, o, v, hb⟩; refine ⟨_, rfl, ?_⟩; have _ := Q_ (Kd.S_mono (Kd.S_told (Kd.S_told (Kd.S_old (ps_ c.1) hb) (Kd.R_base o)) (Kd.R_base v)) (fun _ h_ => h_.1)); have _ := Q_ (Kd.S_mono (Kd.S_told (Kd.S_told (Kd.S_old (ps_ d.1) hb) (Kd.R_base o)) (Kd.R_base v)) (fun _ h_ => h_.1)); have _ := Q_ (Kd.R_elder' (pr_ HL726_1.1) (Kd.R_base o) hb); have _ := Q_ (Kd.R_elder' (pr_ HL726_2.1) (Kd.R_base v) hb); have _ := Q_ (Kd.R_lower (Kd.R_new' o (Kd.R_lt (pr_ HL726_1.1))) (below_size (qb1_ HB.1 (IsS87.ge a.1)))); have _ := Q_ (Kd.R_lower (Kd.R_new' v (Kd.R_lt (pr_ HL726_2.1))) (below_size (qb1_ HB.1 (IsS87.ge a.1)))); have _ := Q_ (IsS87.below (qs87_0_ a.1) hb); have _ := Q_ (Kd.C_below (by repeat (first | (with_reducible exact j.1) | (with_reducible refine Kd.C_alloc ?_ _) | (with_reducible refine Kd.C_drewN ?_ _) | (with_reducible refine Kd.C_drew ?_) | exact j.1)) hb); have _ := Q_ (Kd.C_below (by repeat (first | (with_reducible exact l.1) | (with_reducible refine Kd.C_alloc ?_ _) | (with_reducible refine Kd.C_drewN ?_ _) | (with_reducible refine Kd.C_drew ?_) | exact l.1)) hb); have _ := Q_ (below_step (qb1_ HB.1 (IsS87.ge a.1)) hb); clear c d HL726_1 HL726_2 a j l HB; rename_i c d HL726_1 HL726_2 y z a j l HB; (try clear hb o v); obtain ⟨F, I, aD⟩ := Kd.R_slice y.1; subst aD; obtain ⟨G, J, aE⟩ := Kd.R_slice z.1; subst aE) | ((with_reducible refine gate_builtin (b := .append) (xs := #[.tmp 19, .tmp 25]) rfl ?_); at_builtin; refine Kd.S_append k34 (w0 := w) w.heap.size rfl (.tmp 19) (.tmp 25) 30 34 (.agg #[(.int .i64 0), (.slice none 0 0), (.slice none 0 0)]) 56 rfl Try.underlying30 info34 rfl (by decide) (by omega) u6 x (⟨D, r, s⟩ : S34) [.int .i64 D, .slice F r.length I, .slice G s.length J] (fun k_ => some k_ ≠ (.slice (some n) g.length u : Value).ownBlock) (fun k_ => some k_ = (.slice F r.length I : Value).ownBlock ∨ some k_ = (.slice G s.length J : Value).ownBlock) rfl rfl ?aP (fun k_ hk_ => hk_.elim (fun h_ => ((Kd.R_mono (ok' := fun k_ => ((fun k_ => some k_ ≠ (.slice (some n) g.length u : Value).ownBlock)) k_ ∧ some k_ ≠ (u6 : Value).ownBlock) (Kd.R_apart' (Kd.R_apart' (y.1) (Kd.S_typed c.1) (by decide)) (Kd.S_typed d.1) (by decide)) (fun k_ hk => ⟨hk.1.2, hk.2⟩))).1 k_ h_.symm) (fun h_ => ((Kd.R_mono (ok' := fun k_ => ((fun k_ => some k_ ≠ (.slice (some n) g.length u : Value).ownBlock)) k_ ∧ some k_ ≠ (u6 : Value).ownBlock) (Kd.R_apart' (Kd.R_apart' (z.1) (Kd.S_typed c.1) (by decide)) (Kd.S_typed d.1) (by decide)) (fun k_ hk => ⟨hk.1.2, hk.2⟩))).1 k_ h_.symm)) ?aF ?aO ?aB ?aS ?aL ?_; (case aP => exact k34_mkM _ _ _ (⟨D, r, s⟩ : S34) (Kd.R_mono (Kd.R_tight rfl (Kd.R_mono (ok' := fun k_ => ((fun k_ => some k_ ≠ (.slice (some n) g.length u : Value).ownBlock)) k_ ∧ some k_ ≠ (u6 : Value).ownBlock) (Kd.R_apart' (Kd.R_apart' (y.1) (Kd.S_typed c.1) (by decide)) (Kd.S_typed d.1) (by decide)) (fun k_ hk => ⟨hk.1.2, hk.2⟩))) (fun _ h_ => Or.inl h_)) (Kd.R_mono (Kd.R_tight rfl (Kd.R_mono (ok' := fun k_ => ((fun k_ => some k_ ≠ (.slice (some n) g.length u : Value).ownBlock)) k_ ∧ some k_ ≠ (u6 : Value).ownBlock) (Kd.R_apart' (Kd.R_apart' (z.1) (Kd.S_typed c.1) (by decide)) (Kd.S_typed d.1) (by decide)) (fun k_ hk => ⟨hk.1.2, hk.2⟩))) (fun _ h_ => Or.inr (h_)))); (case aB => exact (qb1_ HB.1 (IsS87.ge a.1))); (case aF => exact (fun k_ hk => Kd.fresh' (Kd.S_lt (ps_ c.1)) k_ hk)); (case aO => exact (by (with_reducible repeat (first | apply Kd.S_alloc | apply Kd.S_drewN | apply Kd.S_drew)); exact Kd.S_mono d.1 (fun k_ hk => ⟨hk.1.1, fun e_ => e_.elim (fun h_ => hk.1.2 h_) (fun h_ => hk.2 h_)⟩))); (case aS => exact (below_size (qb1_ HB.1 (IsS87.ge a.1)))); (case aL => have := ar.1; omega); intro a6 bd ho hb hg hat; rw [← au.1] at ho; have _ := Q_ (Kd.S_after (ok := (fun k_ => some k_ ≠ (.slice F r.length I : Value).ownBlock ∧ some k_ ≠ (.slice G s.length J : Value).ownBlock)) (by (with_reducible repeat (first | apply Kd.S_alloc | apply Kd.S_drewN | apply Kd.S_drew)); exact Kd.S_mono c.1 (fun _ hk => ⟨⟨hk.1.2, hk.2⟩, hk.1.1⟩)) hg hat); have _ := Q_ (IsS87.grown (qs87_0_ a.1) hg (IsS87.own_neS a.1 d.1 (by decide))); have _ := Q_ (Kd.R_after (ok := (fun k_ => some k_ ≠ (.slice (some n) g.length u : Value).ownBlock ∧ some k_ ≠ (.slice F r.length I : Value).ownBlock)) (by (with_reducible repeat (first | apply Kd.R_alloc | apply Kd.R_drewN | apply Kd.R_drew)); exact Kd.R_mono HL726_1.1 (fun _ hk => ⟨⟨hk.1.2, hk.2⟩, hk.1.1⟩)) hg hat); have _ := Q_ (Kd.R_after (ok := (fun k_ => some k_ ≠ (.slice (some n) g.length u : Value).ownBlock ∧ some k_ ≠ (.slice G s.length J : Value).ownBlock)) (by (with_reducible repeat (first | apply Kd.R_alloc | apply Kd.R_drewN | apply Kd.R_drew)); exact Kd.R_mono HL726_2.1 (fun _ hk => ⟨⟨hk.1.2, hk.2⟩, hk.1.1⟩)) hg hat); have _ := Q_ (hb); have ao := Q_ (ho); clear c a HL726_1 HL726_2 HB d y z; rename_i c a HL726_1 HL726_2 HB; clear ho hb hg hat))
  go_roundg k1
  case measure => have := ay.1; omega
  case rel => exact ⟨(am), (wrap64 (i + 1)), el_, H', ⟨by have := ay.1; omega⟩, ⟨ps_ (Kd.S_mono c.1 (fun _ hk => hk.2))⟩, ⟨ps_ ao.1⟩, ⟨qs87_0_ a.1⟩, ⟨qb1_ HB.1 (IsS87.ge a.1)⟩⟩
 rw [if_neg c8] at H
 have az := decide_eq_false c8
 clear c8
 obtain ⟨⟨ah, M, O⟩, aR, H⟩ := bs_ H
 (try dsimp only at H)
 have HS_ := Q_ H
 clear H
 obtain ⟨aZ, a1, aG⟩ := Kd.S_slice c.1
 subst aG
 go_upto_if 28 with (first | ((with_reducible refine gate_callee (f := 51) rfl ?_); refine gl_ (some 28) Try.func51 #[.pointer (some ⟨g717, 0, none⟩), .int .i64 3] ?_; (with_reducible refine (spec_l1Once.calls g717 m p q 3 ah M O w _ ?side1 ?side2 aR.1).mono ?_); (case side1 => exact qs87_0_ a.1); (case side2 => exact qb1_ HB.1 (IsS87.ge a.1)); rintro e be ⟨rfl, hi, hb, hk⟩; refine ⟨_, rfl, ?_⟩; have _ := Q_ (Kd.S_mono (Kd.S_keep (IsS87.apartS (show IsS87 w _ g717 m p q from qs87_0_ a.1) (ps_ c.1) (by decide)) hk (fun _ h => h.2)) (fun _ h => h.1)); have _ := Q_ (Kd.S_mono (Kd.S_keep (IsS87.apartS (show IsS87 w _ g717 m p q from qs87_0_ a.1) (ps_ d.1) (by decide)) hk (fun _ h => h.2)) (fun _ h => h.1)); have _ := Q_ (hb); have _ := Q_ (hi); clear c d HB a; rename_i c d HB a; (try clear hb hk hi)))
 (try simp only [Act.put, s1_, s2_, s3_])
 have H := HS_.1
 clear HS_
 by_cases ab : ah = true
 rotate_left
 ·replace ab := bf_ ab
  subst ab
  rw [if_neg ff_] at H
  simp only [Option.some.injEq, Prod.mk.injEq] at H
  obtain ⟨rfl, rfl⟩ := H
  go_wp2
  go_ret2
  exact ⟨_, _, er_, ps_ c.1, ps_ d.1, qb1_ HB.1 (IsS87.ge a.1)⟩
 subst ab
 rw [if_pos rfl] at H
 obtain ⟨⟨X, aJ, aK⟩, aT, H⟩ := bs_ H
 (try dsimp only at H)
 obtain ⟨⟨ai, aj⟩, aU, H⟩ := bs_ H
 replace H : (some (ai, aj)) = some (r1, r2) := H
 simp only [Option.some.injEq, Prod.mk.injEq] at H
 obtain ⟨rfl, rfl⟩ := H
 go_wp2_with (first | ((with_reducible refine gate_callee (f := 54) rfl ?_); refine gl_ (some 30) Try.func54 #[.pointer (some ⟨g717, 0, none⟩), .int .i64 2] ?_; (with_reducible refine (spec_l1Below.calls g717 m M O 2 X aJ aK w _ ?side1 ?side2 aT.1).mono ?_); (case side1 => exact qs87_0_ a.1); (case side2 => exact qb1_ HB.1 (IsS87.ge a.1)); rintro e bf ⟨rfl, hi, hb, hk⟩; refine ⟨_, rfl, ?_⟩; have _ := Q_ (Kd.S_mono (Kd.S_keep (IsS87.apartS (show IsS87 w _ g717 m M O from qs87_0_ a.1) (ps_ c.1) (by decide)) hk (fun _ h => h.2)) (fun _ h => h.1)); have _ := Q_ (Kd.S_mono (Kd.S_keep (IsS87.apartS (show IsS87 w _ g717 m M O from qs87_0_ a.1) (ps_ d.1) (by decide)) hk (fun _ h => h.2)) (fun _ h => h.1)); have _ := Q_ (hb); have _ := Q_ (hi); clear c d HB a; rename_i c d HB a; (try clear hb hk hi)) | ((with_reducible refine gate_callee (f := 56) rfl ?_); refine gl_ (some 31) Try.func56 #[.int .i64 X] ?_; (with_reducible refine (spec_l30Three.calls k1 X ai aj _ aU.1).mono ?_); rintro e bg ⟨a7, a8, rfl, o, v, hb⟩; refine ⟨_, rfl, ?_⟩; have _ := Q_ (Kd.S_mono (Kd.S_told (Kd.S_told (Kd.S_old (ps_ c.1) hb) (Kd.S_base o)) (Kd.S_base v)) (fun _ h_ => h_.1)); have _ := Q_ (Kd.S_mono (Kd.S_told (Kd.S_told (Kd.S_old (ps_ d.1) hb) (Kd.S_base o)) (Kd.S_base v)) (fun _ h_ => h_.1)); have _ := Q_ (Kd.S_lower (Kd.S_new' (Kd.S_new' o (Kd.S_lt (ps_ c.1))) (Kd.S_lt (ps_ d.1))) (below_size (qb1_ HB.1 (IsS87.ge a.1)))); have _ := Q_ (Kd.S_lower (Kd.S_new' (Kd.S_new' v (Kd.S_lt (ps_ c.1))) (Kd.S_lt (ps_ d.1))) (below_size (qb1_ HB.1 (IsS87.ge a.1)))); have _ := Q_ (IsS87.below (qs87_0_ a.1) hb); have _ := Q_ (below_step (qb1_ HB.1 (IsS87.ge a.1)) hb); clear c d a HB; rename_i c d ap aq a HB; (try clear hb o v)))
 go_ret2
 exact ⟨_, _, er_, ps_ (Kd.S_mono ap.1 (fun _ hk => hk.1.1)), ps_ (Kd.S_mono aq.1 (fun _ hk => hk.1.1)), qb1_ HB.1 (IsS87.ge a.1)⟩

end Go.Proofs.Ytldcchjbaglppaa.Print
