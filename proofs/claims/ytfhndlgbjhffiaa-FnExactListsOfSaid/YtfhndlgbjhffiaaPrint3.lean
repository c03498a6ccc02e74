-- Written by a program of this session (printx.py) out of the translation; Lean checks it.
import Derived.Test.YtfhndlgbjhffiaaPrint0
import Derived.Test.YtfhndlgbjhffiaaPrint2
namespace Go.Proofs.Ytfhndlgbjhffiaa.Print
open Go.RowKit Go.Proofs.YtfhndlgbjhffiaaW.PrintWords Go.Proofs.YtfhndlgbjhffiaaW.PrintLast Go.Proofs.YtfhndlgbjhffiaaW.PrintMore Go.Proofs.Ytfhndlgbjhffiaa.Short
attribute [local go_sem] max2_int min2_int max_two min_two max_three min_three max_four min_four   -- for this text's walks alone
set_option linter.unusedVariables false
set_option maxHeartbeats 8000000
set_option maxRecDepth 100000
set_option linter.unusedSimpArgs false

/-! ### laws_toRollout: function 27 -/
def laws_toRollout.f (k : Nat) (a : Int) (d : List Int) (b : Int) (c : Bool) : Option (Int × List Int × Int × Bool) := (laws_toIntS.f k d).bind fun e => (some (a, e, b, c))
theorem laws_toRollout.mono : ∀ a b c d k, LeO (laws_toRollout.f k a b c d) (laws_toRollout.f (k + 1) a b c d) := by
 intro a b c d k
 unfold laws_toRollout.f
 exact mo1_ laws_toIntS.mono
theorem laws_toRollout.calls (k : Nat) (i : Int) (y : Option Addr) (z : Nat) (d : List Int) (j : Int) (l : Bool) (T : Int) (U : List Int) (V : Int) (W : Bool) (w : World) (hr0_1 : Kd.C (Kd.int .i64) w y d.length d) (I : d.length ≤ z) (h : laws_toRollout.f k i d j l = some (T, U, V, W)) :
  Calls Try.prog 27 #[.agg #[.int .i64 i, .slice y d.length z, .int .i64 j, .bool l]] w fun e w' => ∃ v1_ : Value, e = .returned (.agg #[.int .i64 T, v1_, .int .i64 V, .bool W]) ∧ Kd.R (Kd.int .i64) 3 w' w.heap.size (fun _ => True) v1_ U ∧ Below w.heap.size w w' := by
 have hu25 := Try.underlying25
 have hu33 := Try.underlying33
 have O := Q_ hr0_1
 have M := Q_ I
 clear hr0_1 I
 have HB := Q_ (Below.refl w.heap.size w)
 have H : ((laws_toIntS.f k d).bind fun u => (some (i, u, j, l))) = some (T, U, V, W) := h
 clear h
 obtain ⟨u, A2, H⟩ := bs_ H
 replace H : (some (i, u, j, l)) = some (T, U, V, W) := H
 simp only [Option.some.injEq, Prod.mk.injEq] at H
 obtain ⟨rfl, rfl, rfl, rfl⟩ := H
 go_enter Try.func27, Try.ntmps27
 go_wp2_with (first | ((with_reducible refine gate_dst (N := 1) rfl ?_); refine bx_ 1 #[.int .i64 i, .slice y d.length z, .int .i64 j, .bool l] 25 ?_; intro P hg w3 hbox hb; have _ := Q_ (below_step (pb_ HB.1) hb); have a := Q_ (hbox); have J := Q_ (gw_ (w := w) hg (pb_ HB.1)); have c := J; clear HB; rename_i HB; clear hb hbox hg) | ((with_reducible refine gate_dst (N := 2) rfl ?_); refine bx_ 2 #[.int .i64 0, .slice none 0 0, .int .i64 0, .bool false] 33 ?_; intro q hg w4 hbox hb; have _ := Q_ (bb_ a.1 hb); have _ := Q_ (below_step (pb1_ HB.1 c.1) hb); have b := Q_ (hbox); have K := Q_ (gw_ (w := w) hg (pb1_ HB.1 c.1)); have n := K; have r := Q_ (nb_ hg a); have A := Q_ r.1.symm; clear a HB; rename_i a HB; clear hb hbox hg) | ((with_reducible refine gate_dst (N := 3) rfl ?_); refine bx_ 3 #[.int .i64 0, .slice none 0 0, .int .i64 0, .bool false] 33 ?_; intro x hg w5 hbox hb; have _ := Q_ (bb_ a.1 hb); have _ := Q_ (bb_ b.1 hb); have _ := Q_ (below_step (pb2_ HB.1 c.1 n.1) hb); have m := Q_ (hbox); have L := Q_ (gw_ (w := w) hg (pb2_ HB.1 c.1 n.1)); have v := L; have s := Q_ (nb_ hg a); have B := Q_ s.1.symm; have t := Q_ (nb_ hg b); have D := Q_ t.1.symm; clear a b HB; rename_i a b HB; clear hb hbox hg; have ac := r.1; have af := A.1; have ad := s.1; have ag := B.1; have ab := bc4_ a.1; have ae := D.1; have ah := t.1; have X := bc4_ m.1) | ((with_reducible refine gate_callee (f := 25) rfl ?_); refine gl_ (some 9) Try.func25 #[.slice y d.length z] ?_; (with_reducible refine (laws_toIntS.calls k _ _ d u _ ?side1 M.1 A2.1).mono ?_); (case side1 => exact Kd.C_below O.1 (pb3_ HB.1 c.1 n.1 v.1)); rintro e ak ⟨ai, rfl, S, hb⟩; refine ⟨_, rfl, ?_⟩; have _ := Q_ (Kd.R_lower S (below_size (pb3_ HB.1 c.1 n.1 v.1))); have _ := Q_ (blk_below (g := P) (o := .cells #[.int .i64 i, .slice y d.length z, .int .i64 j, .bool l] 25 (0, 0)) (pp_ a.1) hb); have _ := Q_ (blk_below (g := q) (o := .cells #[.int .i64 0, .slice none 0 0, .int .i64 0, .bool false] 33 (0, 0)) (pp_ b.1) hb); have _ := Q_ (blk_below (g := x) (o := .cells #[.int .i64 i, .slice none 0 0, .int .i64 0, .bool false] 33 (0, 0)) (pp_ m.1) hb); have _ := Q_ (below_step (pb3_ HB.1 c.1 n.1 v.1) hb); clear a b m HB; rename_i F a b m HB; (try clear hb S); obtain ⟨E, G, Q⟩ := Kd.R_slice F.1; subst Q; have Y := bc4_ m.1; have Z := bc4_ a.1; have aa := bc4_ b.1))
 refine bodyPost_ret (results_cell_row rfl _ _ q 33 #[.int .i64 i, .slice E u.length G, .int .i64 j, .bool l] (0, 0) _ rfl (pp_ b.1) Try.underlying33 rfl (by kernel_rfl)) rfl ?_
 exact ⟨_, er_, pr_ (Kd.R_mono (Kd.R_far (p := ⟨q, 3, none⟩) (Kd.R_far (p := ⟨q, 2, none⟩) (Kd.R_far (p := ⟨q, 1, none⟩) (Kd.R_far (p := ⟨q, 0, none⟩) (Kd.R_far (p := ⟨x, 3, none⟩) (Kd.R_far (p := ⟨x, 2, none⟩) (Kd.R_far (p := ⟨x, 1, none⟩) (Kd.R_types (Kd.R_types F.1 m.1 (by decide)) b.1 (by decide)) (fun _ hk => hk.1.2) (.slice E u.length G)) (fun _ hk => hk.1.2) (.int .i64 j)) (fun _ hk => hk.1.2) (.bool l)) (fun _ hk => hk.2) (.int .i64 i)) (fun _ hk => hk.2) (.slice E u.length G)) (fun _ hk => hk.2) (.int .i64 j)) (fun _ hk => hk.2) (.bool l)) (fun _ hk => trivial)), pb3_ HB.1 c.1 n.1 v.1⟩

/-! ### laws_toDeal: function 53 -/
def laws_toDeal.f (k : Nat) (a : Bool) (b : Int) (c : List Int) : Option (Bool × Int × List Int) := (laws_toIntS.f k c).bind fun d => (some (a, b, d))
theorem laws_toDeal.mono : ∀ a b c k, LeO (laws_toDeal.f k a b c) (laws_toDeal.f (k + 1) a b c) := by
 intro a b c k
 unfold laws_toDeal.f
 exact mo1_ laws_toIntS.mono
theorem laws_toDeal.calls (k : Nat) (i : Bool) (j : Int) (v : Option Addr) (x : Nat) (d : List Int) (S : Bool) (T : Int) (U : List Int) (w : World) (hr0_2 : Kd.C (Kd.int .i64) w v d.length d) (G : d.length ≤ x) (h : laws_toDeal.f k i j d = some (S, T, U)) :
  Calls Try.prog 53 #[.agg #[.bool i, .int .i64 j, .slice v d.length x]] w fun e w' => ∃ v2_ : Value, e = .returned (.agg #[.bool S, .int .i64 T, v2_]) ∧ Kd.R (Kd.int .i64) 3 w' w.heap.size (fun _ => True) v2_ U ∧ Below w.heap.size w w' := by
 have hu77 := Try.underlying77
 have hu84 := Try.underlying84
 have M := Q_ hr0_2
 have L := Q_ G
 clear hr0_2 G
 have HB := Q_ (Below.refl w.heap.size w)
 have H : ((laws_toIntS.f k d).bind fun t => (some (i, j, t))) = some (S, T, U) := h
 clear h
 obtain ⟨t, A2, H⟩ := bs_ H
 replace H : (some (i, j, t)) = some (S, T, U) := H
 simp only [Option.some.injEq, Prod.mk.injEq] at H
 obtain ⟨rfl, rfl, rfl⟩ := H
 go_enter Try.func53, Try.ntmps53
 go_wp2_with (first | ((with_reducible refine gate_dst (N := 1) rfl ?_); refine bx_ 1 #[.bool i, .int .i64 j, .slice v d.length x] 77 ?_; intro O hg w3 hbox hb; have _ := Q_ (below_step (pb_ HB.1) hb); have a := Q_ (hbox); have I := Q_ (gw_ (w := w) hg (pb_ HB.1)); have c := I; clear HB; rename_i HB; clear hb hbox hg) | ((with_reducible refine gate_dst (N := 2) rfl ?_); refine bx_ 2 #[.bool false, .int .i64 0, .slice none 0 0] 84 ?_; intro s hg w4 hbox hb; have _ := Q_ (bb_ a.1 hb); have _ := Q_ (below_step (pb1_ HB.1 c.1) hb); have b := Q_ (hbox); have J := Q_ (gw_ (w := w) hg (pb1_ HB.1 c.1)); have m := J; have n := Q_ (nb_ hg a); have y := Q_ n.1.symm; clear a HB; rename_i a HB; clear hb hbox hg) | ((with_reducible refine gate_dst (N := 3) rfl ?_); refine bx_ 3 #[.bool false, .int .i64 0, .slice none 0 0] 84 ?_; intro F hg w5 hbox hb; have _ := Q_ (bb_ a.1 hb); have _ := Q_ (bb_ b.1 hb); have _ := Q_ (below_step (pb2_ HB.1 c.1 m.1) hb); have l := Q_ (hbox); have K := Q_ (gw_ (w := w) hg (pb2_ HB.1 c.1 m.1)); have u := K; have q := Q_ (nb_ hg a); have z := Q_ q.1.symm; have r := Q_ (nb_ hg b); have A := Q_ r.1.symm; clear a b HB; rename_i a b HB; clear hb hbox hg; have Z := n.1; have ac := y.1; have aa := q.1; have ad := z.1; have Y := bc3_ a.1; have ab := A.1; have ae := r.1; have V := bc3_ l.1) | ((with_reducible refine gate_callee (f := 25) rfl ?_); refine gl_ (some 12) Try.func25 #[.slice v d.length x] ?_; (with_reducible refine (laws_toIntS.calls k _ _ d t _ ?side1 L.1 A2.1).mono ?_); (case side1 => exact Kd.C_below M.1 (pb3_ HB.1 c.1 m.1 u.1)); rintro e ah ⟨af, rfl, Q, hb⟩; refine ⟨_, rfl, ?_⟩; have _ := Q_ (Kd.R_lower Q (below_size (pb3_ HB.1 c.1 m.1 u.1))); have _ := Q_ (blk_below (g := O) (o := .cells #[.bool i, .int .i64 j, .slice v d.length x] 77 (0, 0)) (pp_ a.1) hb); have _ := Q_ (blk_below (g := s) (o := .cells #[.bool false, .int .i64 0, .slice none 0 0] 84 (0, 0)) (pp_ b.1) hb); have _ := Q_ (blk_below (g := F) (o := .cells #[.bool i, .int .i64 j, .slice none 0 0] 84 (0, 0)) (pp_ l.1) hb); have _ := Q_ (below_step (pb3_ HB.1 c.1 m.1 u.1) hb); clear a b l HB; rename_i D a b l HB; (try clear hb Q); obtain ⟨B, E, P⟩ := Kd.R_slice D.1; subst P; have W := bc3_ l.1; have X := bc3_ b.1))
 refine bodyPost_ret (results_cell_row rfl _ _ s 84 #[.bool i, .int .i64 j, .slice B t.length E] (0, 0) _ rfl (pp_ b.1) Try.underlying84 rfl (by kernel_rfl)) rfl ?_
 exact ⟨_, er_, pr_ (Kd.R_mono (Kd.R_far (p := ⟨s, 2, none⟩) (Kd.R_far (p := ⟨s, 1, none⟩) (Kd.R_far (p := ⟨s, 0, none⟩) (Kd.R_far (p := ⟨F, 2, none⟩) (Kd.R_types (Kd.R_types D.1 l.1 (by decide)) b.1 (by decide)) (fun _ hk => hk.1.2) (.slice B t.length E)) (fun _ hk => hk.2) (.bool i)) (fun _ hk => hk.2) (.int .i64 j)) (fun _ hk => hk.2) (.slice B t.length E)) (fun _ hk => trivial)), pb3_ HB.1 c.1 m.1 u.1⟩

/-! ### laws_toDialed: function 43 -/
def laws_toDialed.f (k : Nat) (b : Bool) (c : Int) (e : List Int) (d : Int) (g : List Int) : Option (Bool × Int × List Int × Int × List Int) := (laws_toDeal.f k b c e).bind fun a => ((laws_toIntS.f k g).bind fun h => (some (a.1, a.2.1, a.2.2, d, h)))
theorem laws_toDialed.mono : ∀ a b c d e k, LeO (laws_toDialed.f k a b c d e) (laws_toDialed.f (k + 1) a b c d e) := by
 intro a b c d e k
 unfold laws_toDialed.f
 exact mo2_ laws_toDeal.mono laws_toIntS.mono
theorem laws_toDialed.calls (k : Nat) (x : Bool) (y : Int) (D : Option Addr) (G : Nat) (m : List Int) (l : Int) (E : Option Addr) (I : Nat) (n : List Int) (r1 : Bool) (r2 : Int) (r3 : List Int) (r4 : Int) (r5 : List Int) (w : World) (hr0_2 : Kd.C (Kd.int .i64) w D m.length m) (V : m.length ≤ G) (hr0_4 : Kd.C (Kd.int .i64) w E n.length n) (W : n.length ≤ I) (h : laws_toDialed.f k x y m l n = some (r1, r2, r3, r4, r5)) :
  Calls Try.prog 43 #[.agg #[.bool x, .int .i64 y, .slice D m.length G, .int .i64 l, .slice E n.length I]] w fun e w' => ∃ v2_ v4_ : Value, e = .returned (.agg #[.bool r1, .int .i64 r2, v2_, .int .i64 r4, v4_]) ∧ Kd.R (Kd.int .i64) 3 w' w.heap.size (fun k_ => some k_ ≠ (v4_ : Value).ownBlock) v2_ r3 ∧ Kd.R (Kd.int .i64) 3 w' w.heap.size (fun k_ => some k_ ≠ (v2_ : Value).ownBlock) v4_ r5 ∧ Below w.heap.size w w' := by
 have hu79 := Try.underlying79
 have hu86 := Try.underlying86
 have hu77 := Try.underlying77
 have hu84 := Try.underlying84
 have ac := Q_ hr0_2
 have aa := Q_ V
 clear hr0_2 V
 have ad := Q_ hr0_4
 have ab := Q_ W
 clear hr0_4 W
 have HB := Q_ (Below.refl w.heap.size w)
 have H : ((laws_toDeal.f k x y m).bind fun O => ((laws_toIntS.f k n).bind fun q => (some (O.1, O.2.1, O.2.2, l, q)))) = some (r1, r2, r3, r4, r5) := h
 clear h
 obtain ⟨⟨z, A, B⟩, A2, H⟩ := bs_ H
 (try dsimp only at H)
 obtain ⟨q, A3, H⟩ := bs_ H
 replace H : (some (z, A, B, l, q)) = some (r1, r2, r3, r4, r5) := H
 simp only [Option.some.injEq, Prod.mk.injEq] at H
 obtain ⟨rfl, rfl, rfl, rfl, rfl⟩ := H
 go_enter Try.func43, Try.ntmps43
 go_wp2_with (first | ((with_reducible refine gate_dst (N := 1) rfl ?_); refine bx_ 1 #[.bool x, .int .i64 y, .slice D m.length G, .int .i64 l, .slice E n.length I] 79 ?_; intro ae hg w4 hbox hb; have _ := Q_ (below_step (pb_ HB.1) hb); have a := Q_ (hbox); have X := Q_ (gw_ (w := w) hg (pb_ HB.1)); have i := X; clear HB; rename_i HB; clear hb hbox hg) | ((with_reducible refine gate_dst (N := 2) rfl ?_); refine bx_ 2 #[.bool false, .int .i64 0, .slice none 0 0, .int .i64 0, .slice none 0 0] 86 ?_; intro d hg w5 hbox hb; have _ := Q_ (bb_ a.1 hb); have _ := Q_ (below_step (pb1_ HB.1 i.1) hb); have b := Q_ (hbox); have Y := Q_ (gw_ (w := w) hg (pb1_ HB.1 i.1)); have j := Y; have t := Q_ (nb_ hg a); have K := Q_ t.1.symm; clear a HB; rename_i a HB; clear hb hbox hg) | ((with_reducible refine gate_dst (N := 3) rfl ?_); refine bx_ 3 #[.bool false, .int .i64 0, .slice none 0 0, .int .i64 0, .slice none 0 0] 86 ?_; intro P hg w6 hbox hb; have _ := Q_ (bb_ a.1 hb); have _ := Q_ (bb_ b.1 hb); have _ := Q_ (below_step (pb2_ HB.1 i.1 j.1) hb); have c := Q_ (hbox); have Z := Q_ (gw_ (w := w) hg (pb2_ HB.1 i.1 j.1)); have r := Z; have u := Q_ (nb_ hg a); have L := Q_ u.1.symm; have v := Q_ (nb_ hg b); have M := Q_ v.1.symm; clear a b HB; rename_i a b HB; clear hb hbox hg; have av := t.1; have ax := K.1; have aw := u.1; have ay := L.1; have au := bc5_ a.1) | ((with_reducible refine gate_callee (f := 53) rfl ?_); refine gl_ (some 6) Try.func53 #[.agg #[.bool x, .int .i64 y, .slice D m.length G]] ?_; (with_reducible refine (laws_toDeal.calls k x y _ _ m z A B _ (cb_ ac HB) aa.1 A2.1).mono ?_); rintro e aD ⟨az, rfl, T, hb⟩; refine ⟨_, rfl, ?_⟩; have _ := Q_ (Kd.R_lower T (below_size (pb3_ HB.1 i.1 j.1 r.1))); have _ := Q_ (bb_ a.1 hb); have _ := Q_ (bb_ b.1 hb); have _ := Q_ (bb_ c.1 hb); have _ := Q_ (below_step (pb3_ HB.1 i.1 j.1 r.1) hb); clear a b c HB; rename_i s a b c HB; (try clear hb T); have aq := M.1; have ar := v.1; have am := bc5_ c.1; obtain ⟨Q, S, af⟩ := Kd.R_slice s.1; subst af; have an := bc5_ a.1) | ((with_reducible refine gate_callee (f := 25) rfl ?_); refine gl_ (some 13) Try.func25 #[.slice E n.length I] ?_; (with_reducible refine (laws_toIntS.calls k _ _ n q _ ?side1 ab.1 A3.1).mono ?_); (case side1 => exact Kd.C_below ad.1 (pb3_ HB.1 i.1 j.1 r.1)); rintro e aE ⟨aA, rfl, T, hb⟩; refine ⟨_, rfl, ?_⟩; have _ := Q_ (Kd.R_elder' (pr_ (rf4_ s.1 c.1)) (Kd.R_base T) hb); have _ := Q_ (Kd.R_lower (Kd.R_new' T (Kd.R_lt (pr_ (rf4_ s.1 c.1)))) (below_size (pb3_ HB.1 i.1 j.1 r.1))); have _ := Q_ (blk_below (g := ae) (o := .cells #[.bool x, .int .i64 y, .slice D m.length G, .int .i64 l, .slice E n.length I] 79 (0, 0)) (pp_ a.1) hb); have _ := Q_ (blk_below (g := d) (o := .cells #[.bool false, .int .i64 0, .slice none 0 0, .int .i64 0, .slice none 0 0] 86 (0, 0)) (pp_ b.1) hb); have _ := Q_ (blk_below (g := P) (o := .cells #[.bool z, .int .i64 A, .slice Q B.length S, .int .i64 l, .slice none 0 0] 86 (0, 0)) (pp_ c.1) hb); have _ := Q_ (below_step (pb3_ HB.1 i.1 j.1 r.1) hb); clear s a b c HB; rename_i s U a b c HB; (try clear hb T); obtain ⟨F, J, ag⟩ := Kd.R_slice U.1; subst ag; have ao := bc5_ c.1; have ap := bc5_ b.1))
 refine bodyPost_ret (results_cell_row rfl _ _ d 86 #[.bool z, .int .i64 A, .slice Q B.length S, .int .i64 l, .slice F q.length J] (0, 0) _ rfl (pp_ b.1) Try.underlying86 rfl (by kernel_rfl)) rfl ?_
 exact ⟨_, _, er_, pr_ (Kd.R_mono (Kd.R_far (p := ⟨d, 4, none⟩) (Kd.R_far (p := ⟨d, 3, none⟩) (Kd.R_far (p := ⟨d, 2, none⟩) (Kd.R_far (p := ⟨d, 1, none⟩) (Kd.R_far (p := ⟨d, 0, none⟩) (Kd.R_far (p := ⟨P, 4, none⟩) (Kd.R_types (Kd.R_types s.1 c.1 (by decide)) b.1 (by decide)) (fun _ hk => hk.1.2) (.slice F q.length J)) (fun _ hk => hk.2) (.bool z)) (fun _ hk => hk.2) (.int .i64 A)) (fun _ hk => hk.2) (.slice Q B.length S)) (fun _ hk => hk.2) (.int .i64 l)) (fun _ hk => hk.2) (.slice F q.length J)) (fun _ hk => hk.1.1.2)), pr_ (Kd.R_mono (Kd.R_far (p := ⟨d, 4, none⟩) (Kd.R_far (p := ⟨d, 3, none⟩) (Kd.R_far (p := ⟨d, 2, none⟩) (Kd.R_far (p := ⟨d, 1, none⟩) (Kd.R_far (p := ⟨d, 0, none⟩) (Kd.R_far (p := ⟨P, 4, none⟩) (Kd.R_types (Kd.R_types U.1 c.1 (by decide)) b.1 (by decide)) (fun _ hk => hk.1.2) (.slice F q.length J)) (fun _ hk => hk.2) (.bool z)) (fun _ hk => hk.2) (.int .i64 A)) (fun _ hk => hk.2) (.slice Q B.length S)) (fun _ hk => hk.2) (.int .i64 l)) (fun _ hk => hk.2) (.slice F q.length J)) (fun _ hk => hk.1.1.2)), pb3_ HB.1 i.1 j.1 r.1⟩

/-! ### laws_toDialedS: function 28 -/
def laws_toDialedS.l0 : Nat → List (S79) → List (S86) → Int → Option ((List (S86)))
 | 0, _, _, _ => none
 | k + 1, c, d, b => if b < (c.length : Int) then (if 0 ≤ b then ((laws_toDialed.f k ((rd_T79 c b).f0.f0) ((rd_T79 c b).f0.f1) ((rd_T79 c b).f0.f2) ((rd_T79 c b).f1) ((rd_T79 c b).f2)).bind fun a => (if b < (d.length : Int) then (laws_toDialedS.l0 k c (d.set (b : Int).toNat (⟨(⟨a.1, a.2.1, a.2.2.1⟩ : S84), a.2.2.2.1, a.2.2.2.2⟩ : S86)) (wrap64 (b + 1))) else (none))) else (none)) else (some d)
def laws_toDialedS.f (k : Nat) (a : List (S79)) : Option ((List (S86))) := if 0 ≤ (a.length : Int) then (if ((a.length : Int) : Int).toNat ≤ 3909374676536 then (laws_toDialedS.l0 k a (List.replicate ((a.length : Int) : Int).toNat z86) 0) else (none)) else (none)
theorem laws_toDialedS.mono_l : ∀ k, (∀ a b c, LeO (laws_toDialedS.l0 k a b c) (laws_toDialedS.l0 (k + 1) a b c))
 | 0 => fun _ _ _ r h => by simp [laws_toDialedS.l0] at h
 | k + 1 => by
  have ih0 := laws_toDialedS.mono_l k
  ·intro a b c
   unfold laws_toDialedS.l0
   exact mo2_ ih0 laws_toDialed.mono
theorem laws_toDialedS.mono : ∀ a k, LeO (laws_toDialedS.f k a) (laws_toDialedS.f (k + 1) a) := by
 intro a k
 have ih0 := laws_toDialedS.mono_l k
 unfold laws_toDialedS.f
 exact mo2_ ih0 laws_toDialed.mono
theorem laws_toDialedS.calls (k : Nat) (A0 : Option Addr) (c0 : Nat) (g : List (S79)) (r : List (S86)) (w : World) (hr0 : Kd.C k79 w A0 g.length g) (aE : g.length ≤ c0) (h : laws_toDialedS.f k g = some r) :
  Calls Try.prog 28 #[.slice A0 g.length c0] w fun e w' => ∃ v0_ : Value, e = .returned (v0_) ∧ Kd.S k86 86 w' w.heap.size (fun _ => True) v0_ r ∧ Below w.heap.size w w' := by
 have hu79 := Try.underlying79
 have hu86 := Try.underlying86
 have aS := Q_ hr0
 have a6 := Q_ aE
 clear hr0 aE
 have HB := Q_ (Below.refl w.heap.size w)
 have H : (if 0 ≤ (g.length : Int) then (if ((g.length : Int) : Int).toNat ≤ 3909374676536 then (laws_toDialedS.l0 k g (List.replicate ((g.length : Int) : Int).toNat z86) 0) else (none)) else (none)) = some r := h
 clear h
 by_cases c2 : 0 ≤ (g.length : Int)
 rotate_left
 ·rw [if_neg c2] at H
  exact nn_ H
 rw [if_pos c2] at H
 have aY := eq_true c2
 have aZ : decide (0 ≤ (g.length : Int)) = true := decide_eq_true c2
 clear c2
 by_cases c3 : ((g.length : Int) : Int).toNat ≤ 3909374676536
 rotate_left
 ·rw [if_neg c3] at H
  exact nn_ H
 rw [if_pos c3] at H
 have a0 := eq_true c3
 have a1 : decide (((g.length : Int) : Int).toNat ≤ 3909374676536) = true := decide_eq_true c3
 clear c3
 obtain ⟨an, hy209⟩ : ∃ y_ : List (S86), y_ = (List.replicate ((g.length : Int) : Int).toNat z86) := ⟨_, rfl⟩
 replace H : (laws_toDialedS.l0 k g an 0) = some r := hb_ hy209 H
 have O := Q_ hy209
 clear hy209
 have H' := Q_ H
 clear H
 go_enter Try.func28, Try.ntmps28
 go_wp2_with (first | ((with_reducible refine gate_dst (N := 7) rfl ?_); refine Kd.S_make k86 _ 86 rfl (N := 7) rfl 34 _ _ rfl (g.length : Int) rfl rfl Try.underlying34 (.agg #[(.bool false), (.int .i64 0), (.slice none 0 0), (.int .i64 0), (.slice none 0 0)]) 72 info86 rfl (by decide) (by omega) z86 (ok := fun _ => True) (okp := fun _ => True) (k86_mkM _ _ _ z86 (Kd.R_nil _ _ _ _ _) (Kd.R_nil _ _ _ _ _)) (fun _ hk => hk) trivial dt_ (Nat.le_trans (Nat.mul_le_mul_right _ (dt_ : (g.length : Int).toNat ≤ 3909374676536)) (by omega)) (Below.refl _ _) (Nat.le_refl _) ?_; intro aF w4 P hb hg_ hnew_; clear hg_ hnew_; (first | rw [← O.1] at P | (simp only [Int.reduceToNat] at P; rw [← O.1] at P)); have _ := Q_ (Kd.S_lower P (below_size (pb_ HB.1))); have _ := Q_ (below_step (pb_ HB.1) hb); clear HB; rename_i ao HB; clear hb P))
 (try simp only [Act.put, s1_, s2_, s3_])
 go_loopg [4] k (fun kq v4 w' => ∃ (d : List (S86)) (a : Int), v4 = .int .i64 a ∧ Aside0 (laws_toDialedS.l0 kq g d a = some r) ∧ Aside0 (kq ≤ k) ∧ Aside0 (Kd.S k86 86 w' w.heap.size (fun _ => True) aF d) ∧ Aside0 (Below w.heap.size w w'))
 case atStart => exact ⟨(an), (0), el_, H', ⟨Nat.le_refl _⟩, ⟨ps_ ao.1⟩, ⟨pb_ HB.1⟩⟩
 clear H'
 obtain ⟨d, a, rfl, HA, ay, c, HB⟩ := hrel
 rcases gk with _ | k1
 ·exact absurd HA.1 (by simp [laws_toDialedS.l0])
 have H := HA.1
 clear HA
 simp only [laws_toDialedS.l0] at H
 by_cases c6 : a < (g.length : Int)
 rotate_left
 ·rw [if_neg c6] at H
  have aC := decide_eq_false c6
  clear c6
  obtain rfl := Option.some.inj H
  go_wp2
  go_ret
  exact ⟨_, er_, ps_ c.1, pb_ HB.1⟩
 rw [if_pos c6] at H
 have aC := decide_eq_true c6
 clear c6
 by_cases c7 : 0 ≤ a
 rotate_left
 ·rw [if_neg c7] at H
  exact nn_ H
 rw [if_pos c7] at H
 have a2 := decide_eq_true c7
 clear c7
 obtain ⟨⟨n, o, E, q, F⟩, A8, H⟩ := bs_ H
 (try dsimp only at H)
 by_cases c9 : a < (d.length : Int)
 rotate_left
 ·rw [if_neg c9] at H
  exact nn_ H
 rw [if_pos c9] at H
 have a3 := decide_eq_true c9
 clear c9
 obtain ⟨T, hy222⟩ : ∃ y_ : List (S86), y_ = (d.set (a : Int).toNat (⟨(⟨n, o, E⟩ : S84), q, F⟩ : S86)) := ⟨_, rfl⟩
 replace H : (laws_toDialedS.l0 k1 g T (wrap64 (a + 1))) = some r := hb_ hy222 H
 have ap := Q_ hy222
 clear hy222
 have H' := Q_ H
 clear H
 have Q : 0 ≤ (a : Int) := dt_
 have R : a < (g.length : Int) := dt_
 obtain ⟨aT, U, W, V, X, aD, y, z, A, B, D, J, L, K, M⟩ := at_U79 aS.1 a Q R
 cases aD
 replace y := bt_ HB y
 replace z := bt_ HB z
 replace A := bt_ HB A
 replace B := bt_ HB B
 replace D := bt_ HB D
 replace Q := eq_true Q
 replace R := eq_true R
 go_wp2_with (first | ((with_reducible refine gate_callee (f := 43) rfl ?_); refine gl_ (some 20) Try.func43 #[.agg #[.bool ((rd_T79 g a).f0.f0), .int .i64 ((rd_T79 g a).f0.f1), .slice U ((rd_T79 g a).f0.f2).length W, .int .i64 ((rd_T79 g a).f1), .slice V ((rd_T79 g a).f2).length X]] ?_; (with_reducible refine (laws_toDialed.calls k1 ((rd_T79 g a).f0.f0) ((rd_T79 g a).f0.f1) _ _ ((rd_T79 g a).f0.f2) ((rd_T79 g a).f1) _ _ ((rd_T79 g a).f2) n o E q F _ (cb_ L HB) J.1 (cb_ M HB) K.1 A8.1).mono ?_); rintro e m ⟨G, I, rfl, aq, ar, hb⟩; refine ⟨_, rfl, ?_⟩; have _ := Q_ (Kd.S_mono (Kd.S_told (Kd.S_told (Kd.S_old (ps_ c.1) hb) (Kd.R_base aq)) (Kd.R_base ar)) (fun _ h_ => h_.1)); have _ := Q_ (Kd.R_lower aq (below_size (pb_ HB.1))); have _ := Q_ (Kd.R_lower ar (below_size (pb_ HB.1))); have _ := Q_ (below_step (pb_ HB.1) hb); clear c HB; rename_i c s u HB; (try clear hb aq ar); have au : 0 ≤ (a : Int) := dt_; have av : (a : Int) < ((d.length : Int) : Int) := dt_; obtain ⟨b, ai, aj, ak, gl10, a4, HG10⟩ := Kd.S_form c.1 (by omega); (first | cases aj | (injection aj with ea_ en_ ec_; (first | subst ea_ | (injection ea_ with ea_; subst ea_)); subst ec_; clear en_)); have x := Q_ ak; have aW := Q_ HG10; clear ak gl10 HG10; obtain ⟨_, ce10, hcl10, al, i, hfr10, _, _⟩ := Kd.S_elem c.1 z86 (a : Int) au av; obtain ⟨ve10_2, ve10_4, rfl, ge10_2, ge10_4⟩ := k86_openM al; have aN : m.cell? ⟨b, (a : Int).toNat * 5, none⟩ = some (.bool ((rd_T86 d a).f0.f0)) := i 0 _ rfl; have aO : m.cell? ⟨b, (a : Int).toNat * 5 + 1, none⟩ = some (.int .i64 ((rd_T86 d a).f0.f1)) := i 1 _ rfl; have aP : m.cell? ⟨b, (a : Int).toNat * 5 + 2, none⟩ = some (ve10_2) := i 2 _ rfl; have aQ : m.cell? ⟨b, (a : Int).toNat * 5 + 3, none⟩ = some (.int .i64 ((rd_T86 d a).f1)) := i 3 _ rfl; have aR : m.cell? ⟨b, (a : Int).toNat * 5 + 4, none⟩ = some (ve10_4) := i 4 _ rfl; have aI : m.frozen? ⟨b, (a : Int).toNat * 5, none⟩ = false := hfr10 0; have aJ : m.frozen? ⟨b, (a : Int).toNat * 5 + 1, none⟩ = false := hfr10 1; have aK : m.frozen? ⟨b, (a : Int).toNat * 5 + 2, none⟩ = false := hfr10 2; have aL : m.frozen? ⟨b, (a : Int).toNat * 5 + 3, none⟩ = false := hfr10 3; have aM : m.frozen? ⟨b, (a : Int).toNat * 5 + 4, none⟩ = false := hfr10 4; clear hcl10 i hfr10; (try clear al); replace au := eq_true au; replace av := eq_true av; have n_ := Q_ (Kd.S_mono (ok' := (fun k_ => some k_ ≠ (G : Value).ownBlock ∧ some k_ ≠ (I : Value).ownBlock)) c.1 (fun k_ hk => ⟨hk.1.2, hk.2⟩)); clear c; have c := n_; clear n_; have az := Q_ (show Kd.S k86 86 m w.heap.size (fun k_ => ((fun _ => True)) k_ ∧ ¬ ((fun k_ => some k_ = (G : Value).ownBlock ∨ some k_ = (I : Value).ownBlock)) k_) (.slice (some ⟨b, 0, none⟩) d.length ai) d from (by (with_reducible repeat (first | apply Kd.S_alloc | apply Kd.S_drewN | apply Kd.S_drew)); exact Kd.S_mono c.1 (fun k_ hk => ⟨trivial, fun e_ => e_.elim (fun h_ => hk.1 h_) (fun h_ => hk.2 h_)⟩))); obtain ⟨aU, ce12, hcl12, am, l, hfr12, hoki12, hH12⟩ := Kd.S_elem az.1 z86 (a : Int) dt_ (by have h_ : (a : Int) < ((d.length : Int) : Int) := dt_; first | exact h_ | (have e_ := (Kd.S_reads' c.1).1; omega) | simpa using h_); obtain ⟨ve12_2, ve12_4, rfl, ge12_2, ge12_4⟩ := k86_openM am; have HP12 := Kd.S_seg hH12 dt_ (by have h_ : (a : Int) < ((d.length : Int) : Int) := dt_; first | exact h_ | (have e_ := (Kd.S_reads' c.1).1; omega) | simpa using h_) (seg := [.bool n, .int .i64 o, G, .int .i64 q, I]) (j := 0) (show 5 ≤ 5 from by decide) (x' := (⟨(⟨n, o, E⟩ : S84), q, F⟩ : S86)) (k86_mkM _ _ _ (⟨(⟨n, o, E⟩ : S84), q, F⟩ : S86) (Kd.R_mono (Kd.R_tight rfl (Kd.R_mono (ok' := fun k_ => ((fun _ => True)) k_ ∧ k_ ≠ b) (Kd.R_apart' (s.1) (Kd.S_typed c.1) (by decide)) (fun k_ hk => ⟨trivial, fun e_ => (hk.2) (by rw [e_]; rfl)⟩))) (fun _ h_ => Or.inr (Or.inl h_))) (Kd.R_mono (Kd.R_tight rfl (Kd.R_mono (ok' := fun k_ => ((fun _ => True)) k_ ∧ k_ ≠ b) (Kd.R_apart' (u.1) (Kd.S_typed c.1) (by decide)) (fun k_ hk => ⟨trivial, fun e_ => (hk.2) (by rw [e_]; rfl)⟩))) (fun _ h_ => Or.inr (Or.inr (h_))))) (fun _ hk => hk) (fun k_ hk_ => hk_.elim (fun h_ => ((Kd.R_mono (ok' := fun k_ => ((fun _ => True)) k_ ∧ k_ ≠ b) (Kd.R_apart' (s.1) (Kd.S_typed c.1) (by decide)) (fun k_ hk => ⟨trivial, fun e_ => (hk.2) (by rw [e_]; rfl)⟩))).1 k_ h_.symm) (fun h_ => ((Kd.R_mono (ok' := fun k_ => ((fun _ => True)) k_ ∧ k_ ≠ b) (Kd.R_apart' (u.1) (Kd.S_typed c.1) (by decide)) (fun k_ hk => ⟨trivial, fun e_ => (hk.2) (by rw [e_]; rfl)⟩))).1 k_ h_.symm)); have ad := l 0 _ rfl; (try simp only [show (k86).sz = 5 from rfl, Nat.mul_one, Nat.add_zero] at ad); have Y := hfr12 0; (try simp only [show (k86).sz = 5 from rfl, Nat.mul_one, Nat.add_zero] at Y); have ae := l 1 _ rfl; (try simp only [show (k86).sz = 5 from rfl, Nat.mul_one, Nat.add_zero] at ae); have Z := hfr12 1; (try simp only [show (k86).sz = 5 from rfl, Nat.mul_one, Nat.add_zero] at Z); have af := l 2 _ rfl; (try simp only [show (k86).sz = 5 from rfl, Nat.mul_one, Nat.add_zero] at af); have aa := hfr12 2; (try simp only [show (k86).sz = 5 from rfl, Nat.mul_one, Nat.add_zero] at aa); have ag := l 3 _ rfl; (try simp only [show (k86).sz = 5 from rfl, Nat.mul_one, Nat.add_zero] at ag); have ab := hfr12 3; (try simp only [show (k86).sz = 5 from rfl, Nat.mul_one, Nat.add_zero] at ab); have ah := l 4 _ rfl; (try simp only [show (k86).sz = 5 from rfl, Nat.mul_one, Nat.add_zero] at ah); have ac := hfr12 4; (try simp only [show (k86).sz = 5 from rfl, Nat.mul_one, Nat.add_zero] at ac); clear hcl12 l hfr12 hoki12 hH12; (try clear am)) | ((with_reducible refine gate_store (t := 86) (p := 21) rfl ?_); refine store_event (t := 86) (p := 21) (v := ?vo_w13) (w1 := (((((m.setCell ⟨b, (a : Int).toNat * 5, none⟩ (.bool n)).setCell ⟨b, (a : Int).toNat * 5 + 1, none⟩ (.int .i64 o)).setCell ⟨b, (a : Int).toNat * 5 + 2, none⟩ (G)).setCell ⟨b, (a : Int).toNat * 5 + 3, none⟩ (.int .i64 q)).setCell ⟨b, (a : Int).toNat * 5 + 4, none⟩ (I))) ?hg ?ho ?hn ?hr ?_; (case ho => rfl); (case hg => rfl); (case hn => rfl); (case hr => first | (go_simp; done) | (go_simp; rfl) | (obtain ⟨Ae_, ce_, ee_⟩ := Kd.R_slice s.1; subst ee_; obtain ⟨Ae_, ce_, ee_⟩ := Kd.R_slice u.1; subst ee_; go_simp; first | done | rfl)); intro aw hw; have hg : m.grownBy aw (some b) := (by rw [hw]; exact HP12.2); have hp_ : Kd.S k86 86 aw w.heap.size (fun _ => True) (.slice (some ⟨b, 0, none⟩) d.length ai) T := (by rw [hw, ap.1]; exact HP12.1); clear HP12; have _ := Q_ (hp_); have _ := Q_ ((by rw [hw]; exact below_set (below_set (below_set (below_set (below_set (HB.1) x.1) x.1) x.1) x.1) x.1 : Below w.heap.size w aw)); clear c HB s u; rename_i c HB; clear hg hw hp_))
 go_roundg k1
 case measure => have := ay.1; omega
 case rel => exact ⟨(T), (wrap64 (a + 1)), el_, H', ⟨by have := ay.1; omega⟩, ⟨ps_ c.1⟩, ⟨pb_ HB.1⟩⟩

/-! ### laws_toLogged: function 44 -/
def laws_toLogged.f (k : Nat) (b : Int) (c : Int) (d : Bool) (e : Bool) (g : Int) (i : List Int) (h : Int) (j : List Int) : Option (Int × Int × Bool × Bool × Int × List Int × Int × List Int) := (laws_toDialed.f k e g i h j).bind fun a => (some (b, c, d, a.1, a.2.1, a.2.2.1, a.2.2.2.1, a.2.2.2.2))
theorem laws_toLogged.mono : ∀ a b c d e g h i k, LeO (laws_toLogged.f k a b c d e g h i) (laws_toLogged.f (k + 1) a b c d e g h i) := by
 intro a b c d e g h i k
 unfold laws_toLogged.f
 exact mo1_ laws_toDialed.mono
theorem laws_toLogged.calls (k : Nat) (q : Int) (r : Int) (s : Bool) (y : Bool) (z : Int) (J : Option Addr) (O : Nat) (l : List Int) (A : Int) (K : Option Addr) (P : Nat) (m : List Int) (r1 : Int) (r2 : Int) (r3 : Bool) (r4 : Bool) (r5 : Int) (r6 : List Int) (r7 : Int) (r8 : List Int) (w : World) (hr0_5 : Kd.C (Kd.int .i64) w J l.length l) (Y : l.length ≤ O) (hr0_7 : Kd.C (Kd.int .i64) w K m.length m) (Z : m.length ≤ P) (h : laws_toLogged.f k q r s y z l A m = some (r1, r2, r3, r4, r5, r6, r7, r8)) :
  Calls Try.prog 44 #[.agg #[.int .i64 q, .int .i64 r, .bool s, .bool y, .int .i64 z, .slice J l.length O, .int .i64 A, .slice K m.length P]] w fun e w' => ∃ v5_ v7_ : Value, e = .returned (.agg #[.int .i64 r1, .int .i64 r2, .bool r3, .bool r4, .int .i64 r5, v5_, .int .i64 r7, v7_]) ∧ Kd.R (Kd.int .i64) 3 w' w.heap.size (fun k_ => some k_ ≠ (v7_ : Value).ownBlock) v5_ r6 ∧ Kd.R (Kd.int .i64) 3 w' w.heap.size (fun k_ => some k_ ≠ (v5_ : Value).ownBlock) v7_ r8 ∧ Below w.heap.size w w' := by
 have hu82 := Try.underlying82
 have hu89 := Try.underlying89
 have hu79 := Try.underlying79
 have hu86 := Try.underlying86
 have af := Q_ hr0_5
 have ad := Q_ Y
 clear hr0_5 Y
 have ag := Q_ hr0_7
 have ae := Q_ Z
 clear hr0_7 Z
 have HB := Q_ (Below.refl w.heap.size w)
 have H : ((laws_toDialed.f k y z l A m).bind fun B => (some (q, r, s, B.1, B.2.1, B.2.2.1, B.2.2.2.1, B.2.2.2.2))) = some (r1, r2, r3, r4, r5, r6, r7, r8) := h
 clear h
 obtain ⟨⟨D, E, F, G, I⟩, A2, H⟩ := bs_ H
 (try dsimp only at H)
 simp only [Option.some.injEq, Prod.mk.injEq] at H
 obtain ⟨rfl, rfl, rfl, rfl, rfl, rfl, rfl, rfl⟩ := H
 go_enter Try.func44, Try.ntmps44
 go_wp2_with (first | ((with_reducible refine gate_dst (N := 1) rfl ?_); refine bx_ 1 #[.int .i64 q, .int .i64 r, .bool s, .bool y, .int .i64 z, .slice J l.length O, .int .i64 A, .slice K m.length P] 82 ?_; intro ah hg w3 hbox hb; have _ := Q_ (below_step (pb_ HB.1) hb); have b := Q_ (hbox); have aa := Q_ (gw_ (w := w) hg (pb_ HB.1)); have i := aa; clear HB; rename_i HB; clear hb hbox hg) | ((with_reducible refine gate_dst (N := 2) rfl ?_); refine bx_ 2 #[.int .i64 0, .int .i64 0, .bool false, .bool false, .int .i64 0, .slice none 0 0, .int .i64 0, .slice none 0 0] 89 ?_; intro a hg w4 hbox hb; have _ := Q_ (bb_ b.1 hb); have _ := Q_ (below_step (pb1_ HB.1 i.1) hb); have c := Q_ (hbox); have ab := Q_ (gw_ (w := w) hg (pb1_ HB.1 i.1)); have j := ab; have u := Q_ (nb_ hg b); have T := Q_ u.1.symm; clear b HB; rename_i b HB; clear hb hbox hg) | ((with_reducible refine gate_dst (N := 3) rfl ?_); refine bx_ 3 #[.int .i64 0, .int .i64 0, .bool false, .bool false, .int .i64 0, .slice none 0 0, .int .i64 0, .slice none 0 0] 89 ?_; intro d hg w5 hbox hb; have _ := Q_ (bb_ b.1 hb); have _ := Q_ (bb_ c.1 hb); have _ := Q_ (below_step (pb2_ HB.1 i.1 j.1) hb); have n := Q_ (hbox); have ac := Q_ (gw_ (w := w) hg (pb2_ HB.1 i.1 j.1)); have t := ac; have v := Q_ (nb_ hg b); have U := Q_ v.1.symm; have x := Q_ (nb_ hg c); have V := Q_ x.1.symm; clear b c HB; rename_i b c HB; clear hb hbox hg; have aA := u.1; have aD := T.1; have aB := v.1; have aE := U.1; have az := bc8_ b.1; have aC := V.1; have aF := x.1; have am := bc8_ n.1) | ((with_reducible refine gate_callee (f := 43) rfl ?_); refine gl_ (some 15) Try.func43 #[.agg #[.bool y, .int .i64 z, .slice J l.length O, .int .i64 A, .slice K m.length P]] ?_; (with_reducible refine (laws_toDialed.calls k y z _ _ l A _ _ m D E F G I _ ?side1 ad.1 ?side3 ae.1 A2.1).mono ?_); (case side1 => exact Kd.C_below af.1 (pb3_ HB.1 i.1 j.1 t.1)); (case side3 => exact Kd.C_below ag.1 (pb3_ HB.1 i.1 j.1 t.1)); rintro e aJ ⟨aG, aH, rfl, ak, al, hb⟩; refine ⟨_, rfl, ?_⟩; have _ := Q_ (Kd.R_lower ak (below_size (pb3_ HB.1 i.1 j.1 t.1))); have _ := Q_ (Kd.R_lower al (below_size (pb3_ HB.1 i.1 j.1 t.1))); have _ := Q_ (blk_below (g := ah) (o := .cells #[.int .i64 q, .int .i64 r, .bool s, .bool y, .int .i64 z, .slice J l.length O, .int .i64 A, .slice K m.length P] 82 (0, 0)) (pp_ b.1) hb); have _ := Q_ (blk_below (g := a) (o := .cells #[.int .i64 0, .int .i64 0, .bool false, .bool false, .int .i64 0, .slice none 0 0, .int .i64 0, .slice none 0 0] 89 (0, 0)) (pp_ c.1) hb); have _ := Q_ (blk_below (g := d) (o := .cells #[.int .i64 q, .int .i64 r, .bool s, .bool false, .int .i64 0, .slice none 0 0, .int .i64 0, .slice none 0 0] 89 (0, 0)) (pp_ n.1) hb); have _ := Q_ (below_step (pb3_ HB.1 i.1 j.1 t.1) hb); clear b c n HB; rename_i W X b c n HB; (try clear hb ak al); have an := bc8_ n.1; obtain ⟨L, Q, ai⟩ := Kd.R_slice W.1; subst ai; obtain ⟨M, S, aj⟩ := Kd.R_slice X.1; subst aj; have ao := bc8_ c.1))
 refine bodyPost_ret (results_cell_row rfl _ _ a 89 #[.int .i64 q, .int .i64 r, .bool s, .bool D, .int .i64 E, .slice L F.length Q, .int .i64 G, .slice M I.length S] (0, 0) _ rfl (pp_ c.1) Try.underlying89 rfl (by kernel_rfl)) rfl ?_
 exact ⟨_, _, er_, pr_ (Kd.R_mono (Kd.R_far (p := ⟨a, 7, none⟩) (Kd.R_far (p := ⟨a, 6, none⟩) (Kd.R_far (p := ⟨a, 5, none⟩) (Kd.R_far (p := ⟨a, 4, none⟩) (Kd.R_far (p := ⟨a, 3, none⟩) (Kd.R_far (p := ⟨a, 2, none⟩) (Kd.R_far (p := ⟨a, 1, none⟩) (Kd.R_far (p := ⟨a, 0, none⟩) (Kd.R_far (p := ⟨d, 7, none⟩) (Kd.R_far (p := ⟨d, 6, none⟩) (Kd.R_far (p := ⟨d, 5, none⟩) (Kd.R_far (p := ⟨d, 4, none⟩) (Kd.R_far (p := ⟨d, 3, none⟩) (Kd.R_types (Kd.R_types W.1 n.1 (by decide)) c.1 (by decide)) (fun _ hk => hk.1.2) (.bool D)) (fun _ hk => hk.1.2) (.int .i64 E)) (fun _ hk => hk.1.2) (.slice L F.length Q)) (fun _ hk => hk.1.2) (.int .i64 G)) (fun _ hk => hk.1.2) (.slice M I.length S)) (fun _ hk => hk.2) (.int .i64 q)) (fun _ hk => hk.2) (.int .i64 r)) (fun _ hk => hk.2) (.bool s)) (fun _ hk => hk.2) (.bool D)) (fun _ hk => hk.2) (.int .i64 E)) (fun _ hk => hk.2) (.slice L F.length Q)) (fun _ hk => hk.2) (.int .i64 G)) (fun _ hk => hk.2) (.slice M I.length S)) (fun _ hk => hk.1.1)), pr_ (Kd.R_mono (Kd.R_far (p := ⟨a, 7, none⟩) (Kd.R_far (p := ⟨a, 6, none⟩) (Kd.R_far (p := ⟨a, 5, none⟩) (Kd.R_far (p := ⟨a, 4, none⟩) (Kd.R_far (p := ⟨a, 3, none⟩) (Kd.R_far (p := ⟨a, 2, none⟩) (Kd.R_far (p := ⟨a, 1, none⟩) (Kd.R_far (p := ⟨a, 0, none⟩) (Kd.R_far (p := ⟨d, 7, none⟩) (Kd.R_far (p := ⟨d, 6, none⟩) (Kd.R_far (p := ⟨d, 5, none⟩) (Kd.R_far (p := ⟨d, 4, none⟩) (Kd.R_far (p := ⟨d, 3, none⟩) (Kd.R_types (Kd.R_types X.1 n.1 (by decide)) c.1 (by decide)) (fun _ hk => hk.1.2) (.bool D)) (fun _ hk => hk.1.2) (.int .i64 E)) (fun _ hk => hk.1.2) (.slice L F.length Q)) (fun _ hk => hk.1.2) (.int .i64 G)) (fun _ hk => hk.1.2) (.slice M I.length S)) (fun _ hk => hk.2) (.int .i64 q)) (fun _ hk => hk.2) (.int .i64 r)) (fun _ hk => hk.2) (.bool s)) (fun _ hk => hk.2) (.bool D)) (fun _ hk => hk.2) (.int .i64 E)) (fun _ hk => hk.2) (.slice L F.length Q)) (fun _ hk => hk.2) (.int .i64 G)) (fun _ hk => hk.2) (.slice M I.length S)) (fun _ hk => hk.1.1)), pb3_ HB.1 i.1 j.1 t.1⟩

/-! ### laws_toLoggedS: function 29 -/
def laws_toLoggedS.l0 : Nat → List (S82) → List (S89) → Int → Option ((List (S89)))
 | 0, _, _, _ => none
 | k + 1, c, d, b => if b < (c.length : Int) then (if 0 ≤ b then ((laws_toLogged.f k ((rd_T82 c b).f0) ((rd_T82 c b).f1) ((rd_T82 c b).f2) ((rd_T82 c b).f3.f0.f0) ((rd_T82 c b).f3.f0.f1) ((rd_T82 c b).f3.f0.f2) ((rd_T82 c b).f3.f1) ((rd_T82 c b).f3.f2)).bind fun a => (if b < (d.length : Int) then (laws_toLoggedS.l0 k c (d.set (b : Int).toNat (⟨a.1, a.2.1, a.2.2.1, (⟨(⟨a.2.2.2.1, a.2.2.2.2.1, a.2.2.2.2.2.1⟩ : S84), a.2.2.2.2.2.2.1, a.2.2.2.2.2.2.2⟩ : S86)⟩ : S89)) (wrap64 (b + 1))) else (none))) else (none)) else (some d)
def laws_toLoggedS.f (k : Nat) (a : List (S82)) : Option ((List (S89))) := if 0 ≤ (a.length : Int) then (if ((a.length : Int) : Int).toNat ≤ 2932031007402 then (laws_toLoggedS.l0 k a (List.replicate ((a.length : Int) : Int).toNat z89) 0) else (none)) else (none)
theorem laws_toLoggedS.mono_l : ∀ k, (∀ a b c, LeO (laws_toLoggedS.l0 k a b c) (laws_toLoggedS.l0 (k + 1) a b c))
 | 0 => fun _ _ _ r h => by simp [laws_toLoggedS.l0] at h
 | k + 1 => by
  have ih0 := laws_toLoggedS.mono_l k
  ·intro a b c
   unfold laws_toLoggedS.l0
   exact mo2_ ih0 laws_toLogged.mono
theorem laws_toLoggedS.mono : ∀ a k, LeO (laws_toLoggedS.f k a) (laws_toLoggedS.f (k + 1) a) := by
 intro a k
 have ih0 := laws_toLoggedS.mono_l k
 unfold laws_toLoggedS.f
 exact mo2_ ih0 laws_toLogged.mono
theorem laws_toLoggedS.calls (k : Nat) (A0 : Option Addr) (c0 : Nat) (m : List (S82)) (r : List (S89)) (w : World) (hr0 : Kd.C k82 w A0 m.length m) (aQ : m.length ≤ c0) (h : laws_toLoggedS.f k m = some r) :
  Calls Try.prog 29 #[.slice A0 m.length c0] w fun e w' => ∃ v0_ : Value, e = .returned (v0_) ∧ Kd.S k89 89 w' w.heap.size (fun _ => True) v0_ r ∧ Below w.heap.size w w' := by
 have hu82 := Try.underlying82
 have hu89 := Try.underlying89
 have ba := Q_ hr0
 have bo := Q_ aQ
 clear hr0 aQ
 have HB := Q_ (Below.refl w.heap.size w)
 have H : (if 0 ≤ (m.length : Int) then (if ((m.length : Int) : Int).toNat ≤ 2932031007402 then (laws_toLoggedS.l0 k m (List.replicate ((m.length : Int) : Int).toNat z89) 0) else (none)) else (none)) = some r := h
 clear h
 by_cases c2 : 0 ≤ (m.length : Int)
 rotate_left
 ·rw [if_neg c2] at H
  exact nn_ H
 rw [if_pos c2] at H
 have bg := eq_true c2
 have bh : decide (0 ≤ (m.length : Int)) = true := decide_eq_true c2
 clear c2
 by_cases c3 : ((m.length : Int) : Int).toNat ≤ 2932031007402
 rotate_left
 ·rw [if_neg c3] at H
  exact nn_ H
 rw [if_pos c3] at H
 have bi := eq_true c3
 have bj : decide (((m.length : Int) : Int).toNat ≤ 2932031007402) = true := decide_eq_true c3
 clear c3
 obtain ⟨aB, hy235⟩ : ∃ y_ : List (S89), y_ = (List.replicate ((m.length : Int) : Int).toNat z89) := ⟨_, rfl⟩
 replace H : (laws_toLoggedS.l0 k m aB 0) = some r := hb_ hy235 H
 have V := Q_ hy235
 clear hy235
 have H' := Q_ H
 clear H
 go_enter Try.func29, Try.ntmps29
 go_wp2_with (first | ((with_reducible refine gate_dst (N := 7) rfl ?_); refine Kd.S_make k89 _ 89 rfl (N := 7) rfl 35 _ _ rfl (m.length : Int) rfl rfl Try.underlying35 (.agg #[(.int .i64 0), (.int .i64 0), (.bool false), (.bool false), (.int .i64 0), (.slice none 0 0), (.int .i64 0), (.slice none 0 0)]) 96 info89 rfl (by decide) (by omega) z89 (ok := fun _ => True) (okp := fun _ => True) (k89_mkM _ _ _ z89 (Kd.R_nil _ _ _ _ _) (Kd.R_nil _ _ _ _ _)) (fun _ hk => hk) trivial dt_ (Nat.le_trans (Nat.mul_le_mul_right _ (dt_ : (m.length : Int).toNat ≤ 2932031007402)) (by omega)) (Below.refl _ _) (Nat.le_refl _) ?_; intro aR w4 W hb hg_ hnew_; clear hg_ hnew_; (first | rw [← V.1] at W | (simp only [Int.reduceToNat] at W; rw [← V.1] at W)); have _ := Q_ (Kd.S_lower W (below_size (pb_ HB.1))); have _ := Q_ (below_step (pb_ HB.1) hb); clear HB; rename_i aC HB; clear hb W))
 (try simp only [Act.put, s1_, s2_, s3_])
 go_loopg [4] k (fun kq v4 w' => ∃ (d : List (S89)) (a : Int), v4 = .int .i64 a ∧ Aside0 (laws_toLoggedS.l0 kq m d a = some r) ∧ Aside0 (kq ≤ k) ∧ Aside0 (Kd.S k89 89 w' w.heap.size (fun _ => True) aR d) ∧ Aside0 (Below w.heap.size w w'))
 case atStart => exact ⟨(aB), (0), el_, H', ⟨Nat.le_refl _⟩, ⟨ps_ aC.1⟩, ⟨pb_ HB.1⟩⟩
 clear H'
 obtain ⟨d, a, rfl, HA, aK, c, HB⟩ := hrel
 rcases gk with _ | k1
 ·exact absurd HA.1 (by simp [laws_toLoggedS.l0])
 have H := HA.1
 clear HA
 simp only [laws_toLoggedS.l0] at H
 by_cases c6 : a < (m.length : Int)
 rotate_left
 ·rw [if_neg c6] at H
  have aO := decide_eq_false c6
  clear c6
  obtain rfl := Option.some.inj H
  go_wp2
  go_ret
  exact ⟨_, er_, ps_ c.1, pb_ HB.1⟩
 rw [if_pos c6] at H
 have aO := decide_eq_true c6
 clear c6
 by_cases c7 : 0 ≤ a
 rotate_left
 ·rw [if_neg c7] at H
  exact nn_ H
 rw [if_pos c7] at H
 have bk := decide_eq_true c7
 clear c7
 obtain ⟨⟨o, q, s, u, x, L, y, M⟩, A8, H⟩ := bs_ H
 (try dsimp only at H)
 by_cases c9 : a < (d.length : Int)
 rotate_left
 ·rw [if_neg c9] at H
  exact nn_ H
 rw [if_pos c9] at H
 have bl := decide_eq_true c9
 clear c9
 obtain ⟨Z, hy251⟩ : ∃ y_ : List (S89), y_ = (d.set (a : Int).toNat (⟨o, q, s, (⟨(⟨u, x, L⟩ : S84), y, M⟩ : S86)⟩ : S89)) := ⟨_, rfl⟩
 replace H : (laws_toLoggedS.l0 k1 m Z (wrap64 (a + 1))) = some r := hb_ hy251 H
 have aD := Q_ hy251
 clear hy251
 have H' := Q_ H
 clear H
 have X : 0 ≤ (a : Int) := dt_
 have Y : a < (m.length : Int) := dt_
 obtain ⟨bb, aa, ac, ab, ad, aP, B, D, E, F, G, I, J, K, Q, T, R, U⟩ := at_U82 ba.1 a X Y
 cases aP
 replace B := bt_ HB B
 replace D := bt_ HB D
 replace E := bt_ HB E
 replace F := bt_ HB F
 replace G := bt_ HB G
 replace I := bt_ HB I
 replace J := bt_ HB J
 replace K := bt_ HB K
 replace X := eq_true X
 replace Y := eq_true Y
 go_wp2_with (first | ((with_reducible refine gate_callee (f := 44) rfl ?_); refine gl_ (some 20) Try.func44 #[.agg #[.int .i64 ((rd_T82 m a).f0), .int .i64 ((rd_T82 m a).f1), .bool ((rd_T82 m a).f2), .bool ((rd_T82 m a).f3.f0.f0), .int .i64 ((rd_T82 m a).f3.f0.f1), .slice aa ((rd_T82 m a).f3.f0.f2).length ac, .int .i64 ((rd_T82 m a).f3.f1), .slice ab ((rd_T82 m a).f3.f2).length ad]] ?_; (with_reducible refine (laws_toLogged.calls k1 ((rd_T82 m a).f0) ((rd_T82 m a).f1) ((rd_T82 m a).f2) ((rd_T82 m a).f3.f0.f0) ((rd_T82 m a).f3.f0.f1) _ _ ((rd_T82 m a).f3.f0.f2) ((rd_T82 m a).f3.f1) _ _ ((rd_T82 m a).f3.f2) o q s u x L y M _ (cb_ T HB) Q.1 (cb_ U HB) R.1 A8.1).mono ?_); rintro e l ⟨O, P, rfl, aE, aF, hb⟩; refine ⟨_, rfl, ?_⟩; have _ := Q_ (Kd.S_mono (Kd.S_told (Kd.S_told (Kd.S_old (ps_ c.1) hb) (Kd.R_base aE)) (Kd.R_base aF)) (fun _ h_ => h_.1)); have _ := Q_ (Kd.R_lower aE (below_size (pb_ HB.1))); have _ := Q_ (Kd.R_lower aF (below_size (pb_ HB.1))); have _ := Q_ (below_step (pb_ HB.1) hb); clear c HB; rename_i c z A HB; (try clear hb aE aF); have aG : 0 ≤ (a : Int) := dt_; have aH : (a : Int) < ((d.length : Int) : Int) := dt_; obtain ⟨b, aw, ax, ay, gl10, bm, HG10⟩ := Kd.S_form c.1 (by omega); (first | cases ax | (injection ax with ea_ en_ ec_; (first | subst ea_ | (injection ea_ with ea_; subst ea_)); subst ec_; clear en_)); have n := Q_ ay; have be := Q_ HG10; clear ay gl10 HG10; obtain ⟨_, ce10, hcl10, az, g, hfr10, _, _⟩ := Kd.S_elem c.1 z89 (a : Int) aG aH; obtain ⟨ve10_5, ve10_7, rfl, ge10_5, ge10_7⟩ := k89_openM az; have a2 : l.cell? ⟨b, (a : Int).toNat * 8, none⟩ = some (.int .i64 ((rd_T89 d a).f0)) := g 0 _ rfl; have a3 : l.cell? ⟨b, (a : Int).toNat * 8 + 1, none⟩ = some (.int .i64 ((rd_T89 d a).f1)) := g 1 _ rfl; have a4 : l.cell? ⟨b, (a : Int).toNat * 8 + 2, none⟩ = some (.bool ((rd_T89 d a).f2)) := g 2 _ rfl; have a5 : l.cell? ⟨b, (a : Int).toNat * 8 + 3, none⟩ = some (.bool ((rd_T89 d a).f3.f0.f0)) := g 3 _ rfl; have a6 : l.cell? ⟨b, (a : Int).toNat * 8 + 4, none⟩ = some (.int .i64 ((rd_T89 d a).f3.f0.f1)) := g 4 _ rfl; have a7 : l.cell? ⟨b, (a : Int).toNat * 8 + 5, none⟩ = some (ve10_5) := g 5 _ rfl; have a8 : l.cell? ⟨b, (a : Int).toNat * 8 + 6, none⟩ = some (.int .i64 ((rd_T89 d a).f3.f1)) := g 6 _ rfl; have a9 : l.cell? ⟨b, (a : Int).toNat * 8 + 7, none⟩ = some (ve10_7) := g 7 _ rfl; have aU : l.frozen? ⟨b, (a : Int).toNat * 8, none⟩ = false := hfr10 0; have aV : l.frozen? ⟨b, (a : Int).toNat * 8 + 1, none⟩ = false := hfr10 1; have aW : l.frozen? ⟨b, (a : Int).toNat * 8 + 2, none⟩ = false := hfr10 2; have aX : l.frozen? ⟨b, (a : Int).toNat * 8 + 3, none⟩ = false := hfr10 3; have aY : l.frozen? ⟨b, (a : Int).toNat * 8 + 4, none⟩ = false := hfr10 4; have aZ : l.frozen? ⟨b, (a : Int).toNat * 8 + 5, none⟩ = false := hfr10 5; have a0 : l.frozen? ⟨b, (a : Int).toNat * 8 + 6, none⟩ = false := hfr10 6; have a1 : l.frozen? ⟨b, (a : Int).toNat * 8 + 7, none⟩ = false := hfr10 7; clear hcl10 g hfr10; (try clear az); replace aG := eq_true aG; replace aH := eq_true aH; have n_ := Q_ (Kd.S_mono (ok' := (fun k_ => some k_ ≠ (O : Value).ownBlock ∧ some k_ ≠ (P : Value).ownBlock)) c.1 (fun k_ hk => ⟨hk.1.2, hk.2⟩)); clear c; have c := n_; clear n_; have aL := Q_ (show Kd.S k89 89 l w.heap.size (fun k_ => ((fun _ => True)) k_ ∧ ¬ ((fun k_ => some k_ = (O : Value).ownBlock ∨ some k_ = (P : Value).ownBlock)) k_) (.slice (some ⟨b, 0, none⟩) d.length aw) d from (by (with_reducible repeat (first | apply Kd.S_alloc | apply Kd.S_drewN | apply Kd.S_drew)); exact Kd.S_mono c.1 (fun k_ hk => ⟨trivial, fun e_ => e_.elim (fun h_ => hk.1 h_) (fun h_ => hk.2 h_)⟩))); obtain ⟨bc, ce12, hcl12, aA, i, hfr12, hoki12, hH12⟩ := Kd.S_elem aL.1 z89 (a : Int) dt_ (by have h_ : (a : Int) < ((d.length : Int) : Int) := dt_; first | exact h_ | (have e_ := (Kd.S_reads' c.1).1; omega) | simpa using h_); obtain ⟨ve12_5, ve12_7, rfl, ge12_5, ge12_7⟩ := k89_openM aA; have HP12 := Kd.S_seg hH12 dt_ (by have h_ : (a : Int) < ((d.length : Int) : Int) := dt_; first | exact h_ | (have e_ := (Kd.S_reads' c.1).1; omega) | simpa using h_) (seg := [.int .i64 o, .int .i64 q, .bool s, .bool u, .int .i64 x, O, .int .i64 y, P]) (j := 0) (show 8 ≤ 8 from by decide) (x' := (⟨o, q, s, (⟨(⟨u, x, L⟩ : S84), y, M⟩ : S86)⟩ : S89)) (k89_mkM _ _ _ (⟨o, q, s, (⟨(⟨u, x, L⟩ : S84), y, M⟩ : S86)⟩ : S89) (Kd.R_mono (Kd.R_tight rfl (Kd.R_mono (ok' := fun k_ => ((fun _ => True)) k_ ∧ k_ ≠ b) (Kd.R_apart' (z.1) (Kd.S_typed c.1) (by decide)) (fun k_ hk => ⟨trivial, fun e_ => (hk.2) (by rw [e_]; rfl)⟩))) (fun _ h_ => Or.inr (Or.inl h_))) (Kd.R_mono (Kd.R_tight rfl (Kd.R_mono (ok' := fun k_ => ((fun _ => True)) k_ ∧ k_ ≠ b) (Kd.R_apart' (A.1) (Kd.S_typed c.1) (by decide)) (fun k_ hk => ⟨trivial, fun e_ => (hk.2) (by rw [e_]; rfl)⟩))) (fun _ h_ => Or.inr (Or.inr (h_))))) (fun _ hk => hk) (fun k_ hk_ => hk_.elim (fun h_ => ((Kd.R_mono (ok' := fun k_ => ((fun _ => True)) k_ ∧ k_ ≠ b) (Kd.R_apart' (z.1) (Kd.S_typed c.1) (by decide)) (fun k_ hk => ⟨trivial, fun e_ => (hk.2) (by rw [e_]; rfl)⟩))).1 k_ h_.symm) (fun h_ => ((Kd.R_mono (ok' := fun k_ => ((fun _ => True)) k_ ∧ k_ ≠ b) (Kd.R_apart' (A.1) (Kd.S_typed c.1) (by decide)) (fun k_ hk => ⟨trivial, fun e_ => (hk.2) (by rw [e_]; rfl)⟩))).1 k_ h_.symm)); have am := i 0 _ rfl; (try simp only [show (k89).sz = 8 from rfl, Nat.mul_one, Nat.add_zero] at am); have ae := hfr12 0; (try simp only [show (k89).sz = 8 from rfl, Nat.mul_one, Nat.add_zero] at ae); have an := i 1 _ rfl; (try simp only [show (k89).sz = 8 from rfl, Nat.mul_one, Nat.add_zero] at an); have af := hfr12 1; (try simp only [show (k89).sz = 8 from rfl, Nat.mul_one, Nat.add_zero] at af); have ao := i 2 _ rfl; (try simp only [show (k89).sz = 8 from rfl, Nat.mul_one, Nat.add_zero] at ao); have ag := hfr12 2; (try simp only [show (k89).sz = 8 from rfl, Nat.mul_one, Nat.add_zero] at ag); have ap := i 3 _ rfl; (try simp only [show (k89).sz = 8 from rfl, Nat.mul_one, Nat.add_zero] at ap); have ah := hfr12 3; (try simp only [show (k89).sz = 8 from rfl, Nat.mul_one, Nat.add_zero] at ah); have aq := i 4 _ rfl; (try simp only [show (k89).sz = 8 from rfl, Nat.mul_one, Nat.add_zero] at aq); have ai := hfr12 4; (try simp only [show (k89).sz = 8 from rfl, Nat.mul_one, Nat.add_zero] at ai); have ar := i 5 _ rfl; (try simp only [show (k89).sz = 8 from rfl, Nat.mul_one, Nat.add_zero] at ar); have aj := hfr12 5; (try simp only [show (k89).sz = 8 from rfl, Nat.mul_one, Nat.add_zero] at aj); have au := i 6 _ rfl; (try simp only [show (k89).sz = 8 from rfl, Nat.mul_one, Nat.add_zero] at au); have ak := hfr12 6; (try simp only [show (k89).sz = 8 from rfl, Nat.mul_one, Nat.add_zero] at ak); have av := i 7 _ rfl; (try simp only [show (k89).sz = 8 from rfl, Nat.mul_one, Nat.add_zero] at av); have al := hfr12 7; (try simp only [show (k89).sz = 8 from rfl, Nat.mul_one, Nat.add_zero] at al); clear hcl12 i hfr12 hoki12 hH12; (try clear aA)) | ((with_reducible refine gate_store (t := 89) (p := 21) rfl ?_); refine store_event (t := 89) (p := 21) (v := ?vo_w13) (w1 := ((((((((l.setCell ⟨b, (a : Int).toNat * 8, none⟩ (.int .i64 o)).setCell ⟨b, (a : Int).toNat * 8 + 1, none⟩ (.int .i64 q)).setCell ⟨b, (a : Int).toNat * 8 + 2, none⟩ (.bool s)).setCell ⟨b, (a : Int).toNat * 8 + 3, none⟩ (.bool u)).setCell ⟨b, (a : Int).toNat * 8 + 4, none⟩ (.int .i64 x)).setCell ⟨b, (a : Int).toNat * 8 + 5, none⟩ (O)).setCell ⟨b, (a : Int).toNat * 8 + 6, none⟩ (.int .i64 y)).setCell ⟨b, (a : Int).toNat * 8 + 7, none⟩ (P))) ?hg ?ho ?hn ?hr ?_; (case ho => rfl); (case hg => rfl); (case hn => rfl); (case hr => first | (go_simp; done) | (go_simp; rfl) | (obtain ⟨Ae_, ce_, ee_⟩ := Kd.R_slice z.1; subst ee_; obtain ⟨Ae_, ce_, ee_⟩ := Kd.R_slice A.1; subst ee_; go_simp; first | done | rfl)); intro aI hw; have hg : l.grownBy aI (some b) := (by rw [hw]; exact HP12.2); have hp_ : Kd.S k89 89 aI w.heap.size (fun _ => True) (.slice (some ⟨b, 0, none⟩) d.length aw) Z := (by rw [hw, aD.1]; exact HP12.1); clear HP12; have _ := Q_ (hp_); have _ := Q_ ((by rw [hw]; exact below_set (below_set (below_set (below_set (below_set (below_set (below_set (below_set (HB.1) n.1) n.1) n.1) n.1) n.1) n.1) n.1) n.1 : Below w.heap.size w aI)); clear c HB z A; rename_i c HB; clear hg hw hp_))
 go_roundg k1
 case measure => have := aK.1; omega
 case rel => exact ⟨(Z), (wrap64 (a + 1)), el_, H', ⟨by have := aK.1; omega⟩, ⟨ps_ c.1⟩, ⟨pb_ HB.1⟩⟩

/-! ### laws_toWorld: function 7 -/
def laws_toWorld.f (k : Nat) (o : List Int) (p : List Int) (h : Int) (q : List (S74)) (i : Int) (r : List Int) (j : Int) (l : Bool) (m : Int) (n : Int) (e : List (S79)) (g : List (S82)) (b : Int) (c : Int) (d : Int) : Option (List Int × List Int × Int × (List (S56)) × Int × List Int × Int × Bool × Int × Int × (List (S86)) × (List (S89)) × Int × Int × Int) := (laws_toIntS.f k o).bind fun s => ((laws_toIntS.f k p).bind fun t => ((laws_toEndpointS.f k q).bind fun u => ((laws_toRollout.f k i r j l).bind fun a => ((laws_toDialedS.f k e).bind fun v => ((laws_toLoggedS.f k g).bind fun w => (some (s, t, h, u, a.1, a.2.1, a.2.2.1, a.2.2.2, m, n, v, w, b, c, d)))))))
theorem laws_toWorld.mono : ∀ g h i j l m n o p q a b c d e k, LeO (laws_toWorld.f k g h i j l m n o p q a b c d e) (laws_toWorld.f (k + 1) g h i j l m n o p q a b c d e) := by
 intro g h i j l m n o p q a b c d e k
 unfold laws_toWorld.f
 exact mo5_ laws_toDialedS.mono laws_toEndpointS.mono laws_toIntS.mono laws_toLoggedS.mono laws_toRollout.mono
theorem laws_toWorld.calls (k : Nat) (ao : Option Addr) (au : Nat) (X : List Int) (ap : Option Addr) (av : Nat) (Y : List Int) (x : Int) (aq : Option Addr) (aw : Nat) (Z : List (S74)) (al : Int) (ar : Option Addr) (ax : Nat) (aa : List Int) (am : Int) (an : Bool) (s : Int) (t : Int) (af : Option Addr) (ah : Nat) (y : List (S79)) (ag : Option Addr) (ai : Nat) (z : List (S82)) (m : Int) (n : Int) (q : Int) (r1 : List Int) (r2 : List Int) (r3 : Int) (r4 : List (S56)) (r5 : Int) (r6 : List Int) (r7 : Int) (r8 : Bool) (r9 : Int) (a3 : Int) (a4 : List (S86)) (a5 : List (S89)) (a6 : Int) (a7 : Int) (a8 : Int) (w : World) (hr0_0 : Kd.C (Kd.int .i64) w ao X.length X) (aK : X.length ≤ au) (hr0_1 : Kd.C (Kd.int .i64) w ap Y.length Y) (aL : Y.length ≤ av) (hr0_3 : Kd.C k74 w aq Z.length Z) (aM : Z.length ≤ aw) (hr0_5 : Kd.C (Kd.int .i64) w ar aa.length aa) (aN : aa.length ≤ ax) (hr0_10 : Kd.C k79 w af y.length y) (aH : y.length ≤ ah) (hr0_11 : Kd.C k82 w ag z.length z) (aI : z.length ≤ ai) (h : laws_toWorld.f k X Y x Z al aa am an s t y z m n q = some (r1, r2, r3, r4, r5, r6, r7, r8, r9, a3, a4, a5, a6, a7, a8)) :
  Calls Try.prog 7 #[.agg #[.slice ao X.length au, .slice ap Y.length av, .int .i64 x, .slice aq Z.length aw, .int .i64 al, .slice ar aa.length ax, .int .i64 am, .bool an, .int .i64 s, .int .i64 t, .slice af y.length ah, .slice ag z.length ai, .int .i64 m, .int .i64 n, .int .i64 q]] w fun e w' => ∃ v0_ v1_ v3_ v5_ v10_ v11_ : Value, e = .returned (.agg #[v0_, v1_, .int .i64 r3, v3_, .int .i64 r5, v5_, .int .i64 r7, .bool r8, .int .i64 r9, .int .i64 a3, v10_, v11_, .int .i64 a6, .int .i64 a7, .int .i64 a8]) ∧ Kd.R (Kd.int .i64) 3 w' w.heap.size (fun k_ => some k_ ≠ (v1_ : Value).ownBlock ∧ some k_ ≠ (v5_ : Value).ownBlock) v0_ r1 ∧ Kd.R (Kd.int .i64) 3 w' w.heap.size (fun k_ => some k_ ≠ (v0_ : Value).ownBlock ∧ some k_ ≠ (v5_ : Value).ownBlock) v1_ r2 ∧ Kd.R k56 56 w' w.heap.size (fun k_ => some k_ ≠ (v0_ : Value).ownBlock ∧ some k_ ≠ (v1_ : Value).ownBlock ∧ some k_ ≠ (v5_ : Value).ownBlock) v3_ r4 ∧ Kd.R (Kd.int .i64) 3 w' w.heap.size (fun k_ => some k_ ≠ (v0_ : Value).ownBlock ∧ some k_ ≠ (v1_ : Value).ownBlock) v5_ r6 ∧ Kd.S k86 86 w' w.heap.size (fun k_ => some k_ ≠ (v0_ : Value).ownBlock ∧ some k_ ≠ (v1_ : Value).ownBlock ∧ some k_ ≠ (v5_ : Value).ownBlock) v10_ a4 ∧ Kd.S k89 89 w' w.heap.size (fun k_ => some k_ ≠ (v0_ : Value).ownBlock ∧ some k_ ≠ (v1_ : Value).ownBlock ∧ some k_ ≠ (v5_ : Value).ownBlock) v11_ a5 ∧ Below w.heap.size w w' := by
 have hu29 := Try.underlying29
 have hu37 := Try.underlying37
 have hu25 := Try.underlying25
 have hu33 := Try.underlying33
 have aZ := Q_ hr0_0
 have aV := Q_ aK
 clear hr0_0 aK
 have a0 := Q_ hr0_1
 have aW := Q_ aL
 clear hr0_1 aL
 have a1 := Q_ hr0_3
 have aX := Q_ aM
 clear hr0_3 aM
 have a2 := Q_ hr0_5
 have aY := Q_ aN
 clear hr0_5 aN
 have aQ := Q_ hr0_10
 have aO := Q_ aH
 clear hr0_10 aH
 have aR := Q_ hr0_11
 have aP := Q_ aI
 clear hr0_11 aI
 have HB := Q_ (Below.refl w.heap.size w)
 have H : ((laws_toIntS.f k X).bind fun W => ((laws_toIntS.f k Y).bind fun B => ((laws_toEndpointS.f k Z).bind fun D => ((laws_toRollout.f k al aa am an).bind fun aD => ((laws_toDialedS.f k y).bind fun A => ((laws_toLoggedS.f k z).bind fun O => (some (W, B, x, D, aD.1, aD.2.1, aD.2.2.1, aD.2.2.2, s, t, A, O, m, n, q)))))))) = some (r1, r2, r3, r4, r5, r6, r7, r8, r9, a3, a4, a5, a6, a7, a8) := h
 clear h
 obtain ⟨W, A2, H⟩ := bs_ H
 (try dsimp only at H)
 obtain ⟨B, A3, H⟩ := bs_ H
 (try dsimp only at H)
 obtain ⟨D, A4, H⟩ := bs_ H
 (try dsimp only at H)
 obtain ⟨⟨E, F, G, I⟩, A5, H⟩ := bs_ H
 (try dsimp only at H)
 obtain ⟨A, A6, H⟩ := bs_ H
 (try dsimp only at H)
 obtain ⟨O, A7, H⟩ := bs_ H
 (try dsimp only at H)
 simp only [Option.some.injEq, Prod.mk.injEq] at H
 obtain ⟨rfl, rfl, rfl, rfl, rfl, rfl, rfl, rfl, rfl, rfl, rfl, rfl, rfl, rfl, rfl⟩ := H
 go_enter Try.func7, Try.ntmps7
 go_wp2_with (first | ((with_reducible refine gate_dst (N := 1) rfl ?_); refine bx_ 1 #[.slice ao X.length au, .slice ap Y.length av, .int .i64 x, .slice aq Z.length aw, .int .i64 al, .slice ar aa.length ax, .int .i64 am, .bool an, .int .i64 s, .int .i64 t, .slice af y.length ah, .slice ag z.length ai, .int .i64 m, .int .i64 n, .int .i64 q] 29 ?_; intro aC hg w8 hbox hb; have _ := Q_ (below_step (pb_ HB.1) hb); have d := Q_ (hbox); have aS := Q_ (gw_ (w := w) hg (pb_ HB.1)); have j := aS; clear HB; rename_i HB; clear hb hbox hg) | ((with_reducible refine gate_dst (N := 2) rfl ?_); refine bx_ 2 #[.slice none 0 0, .slice none 0 0, .int .i64 0, .slice none 0 0, .int .i64 0, .slice none 0 0, .int .i64 0, .bool false, .int .i64 0, .int .i64 0, .slice none 0 0, .slice none 0 0, .int .i64 0, .int .i64 0, .int .i64 0] 37 ?_; intro a hg w9 hbox hb; have _ := Q_ (bb_ d.1 hb); have _ := Q_ (below_step (pb1_ HB.1 j.1) hb); have i := Q_ (hbox); have aT := Q_ (gw_ (w := w) hg (pb1_ HB.1 j.1)); have r := aT; have az := Q_ (nb_ hg d); have aE := Q_ az.1.symm; clear d HB; rename_i d HB; clear hb hbox hg) | ((with_reducible refine gate_dst (N := 3) rfl ?_); refine bx_ 3 #[.slice none 0 0, .slice none 0 0, .int .i64 0, .slice none 0 0, .int .i64 0, .slice none 0 0, .int .i64 0, .bool false, .int .i64 0, .int .i64 0, .slice none 0 0, .slice none 0 0, .int .i64 0, .int .i64 0, .int .i64 0] 37 ?_; intro b hg bV hbox hb; have _ := Q_ (bb_ d.1 hb); have _ := Q_ (bb_ i.1 hb); have _ := Q_ (below_step (pb2_ HB.1 j.1 r.1) hb); have c := Q_ (hbox); have aU := Q_ (gw_ (w := w) hg (pb2_ HB.1 j.1 r.1)); have u := aU; have aA := Q_ (nb_ hg d); have aF := Q_ aA.1.symm; have aB := Q_ (nb_ hg i); have aG := Q_ aB.1.symm; clear d i HB; rename_i d i HB; clear hb hbox hg; have bt := az.1; have bw := aE.1; have bu := aA.1; have bx := aF.1; have bf := bc15_ d.1) | ((with_reducible refine gate_callee (f := 25) rfl ?_); refine gl_ (some 6) Try.func25 #[.slice ao X.length au] ?_; (with_reducible refine (laws_toIntS.calls k _ _ X W _ (cb_ aZ HB) aV.1 A2.1).mono ?_); rintro e bW ⟨bJ, rfl, ac, hb⟩; refine ⟨_, rfl, ?_⟩; have _ := Q_ (Kd.R_lower ac (below_size (pb3_ HB.1 j.1 r.1 u.1))); have _ := Q_ (bb_ d.1 hb); have _ := Q_ (bb_ i.1 hb); have _ := Q_ (bb_ c.1 hb); have _ := Q_ (below_step (pb3_ HB.1 j.1 r.1 u.1) hb); clear d i c HB; rename_i l d i c HB; (try clear hb ac); obtain ⟨aj, ak, a9⟩ := Kd.R_slice l.1; subst a9; have bv := aG.1; have bz := aB.1; have bg := bc15_ c.1; have bh := bc15_ d.1) | ((with_reducible refine gate_callee (f := 25) rfl ?_); refine gl_ (some 10) Try.func25 #[.slice ap Y.length av] ?_; (with_reducible refine (laws_toIntS.calls k _ _ Y B _ ?side1 aW.1 A3.1).mono ?_); (case side1 => exact Kd.C_below a0.1 (pb3_ HB.1 j.1 r.1 u.1)); rintro e bX ⟨bK, rfl, ac, hb⟩; refine ⟨_, rfl, ?_⟩; have _ := Q_ (Kd.R_elder' (pr_ (rf1_ l.1 c.1)) (Kd.R_base ac) hb); have _ := Q_ (Kd.R_lower (Kd.R_new' ac (Kd.R_lt (pr_ (rf1_ l.1 c.1)))) (below_size (pb3_ HB.1 j.1 r.1 u.1))); have _ := Q_ (blk_below (g := aC) (o := .cells #[.slice ao X.length au, .slice ap Y.length av, .int .i64 x, .slice aq Z.length aw, .int .i64 al, .slice ar aa.length ax, .int .i64 am, .bool an, .int .i64 s, .int .i64 t, .slice af y.length ah, .slice ag z.length ai, .int .i64 m, .int .i64 n, .int .i64 q] 29 (0, 0)) (pp_ d.1) hb); have _ := Q_ (blk_below (g := a) (o := .cells #[.slice none 0 0, .slice none 0 0, .int .i64 0, .slice none 0 0, .int .i64 0, .slice none 0 0, .int .i64 0, .bool false, .int .i64 0, .int .i64 0, .slice none 0 0, .slice none 0 0, .int .i64 0, .int .i64 0, .int .i64 0] 37 (0, 0)) (pp_ i.1) hb); have _ := Q_ (blk_below (g := b) (o := .cells #[.slice aj W.length ak, .slice none 0 0, .int .i64 0, .slice none 0 0, .int .i64 0, .slice none 0 0, .int .i64 0, .bool false, .int .i64 0, .int .i64 0, .slice none 0 0, .slice none 0 0, .int .i64 0, .int .i64 0, .int .i64 0] 37 (0, 0)) (pp_ c.1) hb); have _ := Q_ (below_step (pb3_ HB.1 j.1 r.1 u.1) hb); clear l d i c HB; rename_i l v d i c HB; (try clear hb ac); obtain ⟨P, U, ba⟩ := Kd.R_slice v.1; subst ba; have bi := bc15_ c.1; have bj := bc15_ d.1) | ((with_reducible refine gate_callee (f := 26) rfl ?_); refine gl_ (some 17) Try.func26 #[.slice aq Z.length aw] ?_; (with_reducible refine (laws_toEndpointS.calls k _ _ Z D _ ?side1 aX.1 A4.1).mono ?_); (case side1 => exact Kd.C_below a1.1 (pb3_ HB.1 j.1 r.1 u.1)); rintro e bY ⟨bL, rfl, ac, hb⟩; refine ⟨_, rfl, ?_⟩; have _ := Q_ (Kd.R_below (pr_ (Kd.R_mono (Kd.R_far (p := ⟨b, 2, none⟩) (Kd.R_far (p := ⟨b, 1, none⟩) (Kd.R_types l.1 c.1 (by decide)) (fun _ hk => hk.2) (.slice P B.length U)) (fun _ hk => hk.2) (.int .i64 x)) (fun _ h_ => h_.1))) hb); have _ := Q_ (Kd.R_below (pr_ (Kd.R_mono (Kd.R_far (p := ⟨b, 2, none⟩) (Kd.R_far (p := ⟨b, 1, none⟩) (Kd.R_types v.1 c.1 (by decide)) (fun _ hk => hk.2) (.slice P B.length U)) (fun _ hk => hk.2) (.int .i64 x)) (fun _ h_ => h_.1))) hb); have _ := Q_ (Kd.R_lower (Kd.R_new' (Kd.R_new' ac (Kd.R_lt (pr_ (Kd.R_mono (Kd.R_far (p := ⟨b, 2, none⟩) (Kd.R_far (p := ⟨b, 1, none⟩) (Kd.R_types l.1 c.1 (by decide)) (fun _ hk => hk.2) (.slice P B.length U)) (fun _ hk => hk.2) (.int .i64 x)) (fun _ h_ => h_.1))))) (Kd.R_lt (pr_ (Kd.R_mono (Kd.R_far (p := ⟨b, 2, none⟩) (Kd.R_far (p := ⟨b, 1, none⟩) (Kd.R_types v.1 c.1 (by decide)) (fun _ hk => hk.2) (.slice P B.length U)) (fun _ hk => hk.2) (.int .i64 x)) (fun _ h_ => h_.1))))) (below_size (pb3_ HB.1 j.1 r.1 u.1))); have _ := Q_ (blk_below (g := aC) (o := .cells #[.slice ao X.length au, .slice ap Y.length av, .int .i64 x, .slice aq Z.length aw, .int .i64 al, .slice ar aa.length ax, .int .i64 am, .bool an, .int .i64 s, .int .i64 t, .slice af y.length ah, .slice ag z.length ai, .int .i64 m, .int .i64 n, .int .i64 q] 29 (0, 0)) (pp_ d.1) hb); have _ := Q_ (blk_below (g := a) (o := .cells #[.slice none 0 0, .slice none 0 0, .int .i64 0, .slice none 0 0, .int .i64 0, .slice none 0 0, .int .i64 0, .bool false, .int .i64 0, .int .i64 0, .slice none 0 0, .slice none 0 0, .int .i64 0, .int .i64 0, .int .i64 0] 37 (0, 0)) (pp_ i.1) hb); have _ := Q_ (blk_below (g := b) (o := .cells #[.slice aj W.length ak, .slice P B.length U, .int .i64 x, .slice none 0 0, .int .i64 0, .slice none 0 0, .int .i64 0, .bool false, .int .i64 0, .int .i64 0, .slice none 0 0, .slice none 0 0, .int .i64 0, .int .i64 0, .int .i64 0] 37 (0, 0)) (pp_ c.1) hb); have _ := Q_ (below_step (pb3_ HB.1 j.1 r.1 u.1) hb); clear l v d i c HB; rename_i l v T d i c HB; (try clear hb ac); obtain ⟨Q, V, bb⟩ := Kd.R_slice T.1; subst bb; have bk := bc15_ c.1; have bl := bc15_ d.1) | ((with_reducible refine gate_callee (f := 27) rfl ?_); refine gl_ (some 21) Try.func27 #[.agg #[.int .i64 al, .slice ar aa.length ax, .int .i64 am, .bool an]] ?_; (with_reducible refine (laws_toRollout.calls k al _ _ aa am an E F G I _ ?side1 aY.1 A5.1).mono ?_); (case side1 => exact Kd.C_below a2.1 (pb3_ HB.1 j.1 r.1 u.1)); rintro e bZ ⟨bM, rfl, ac, hb⟩; refine ⟨_, rfl, ?_⟩; have _ := Q_ (Kd.R_elder' (pr_ (Kd.R_mono (Kd.R_far (p := ⟨b, 3, none⟩) (Kd.R_types l.1 c.1 (by decide)) (fun _ hk => hk.2) (.slice Q D.length V)) (fun _ h_ => h_.1))) (Kd.R_base ac) hb); have _ := Q_ (Kd.R_elder' (pr_ (Kd.R_mono (Kd.R_far (p := ⟨b, 3, none⟩) (Kd.R_types v.1 c.1 (by decide)) (fun _ hk => hk.2) (.slice Q D.length V)) (fun _ h_ => h_.1))) (Kd.R_base ac) hb); have _ := Q_ (Kd.R_elder' (pr_ (Kd.R_mono (Kd.R_far (p := ⟨b, 3, none⟩) (Kd.R_types T.1 c.1 (by decide)) (fun _ hk => hk.2) (.slice Q D.length V)) (fun _ h_ => h_.1))) (Kd.R_base ac) hb); have _ := Q_ (Kd.R_lower (Kd.R_new' (Kd.R_new' ac (Kd.R_lt (pr_ (Kd.R_mono (Kd.R_far (p := ⟨b, 3, none⟩) (Kd.R_types l.1 c.1 (by decide)) (fun _ hk => hk.2) (.slice Q D.length V)) (fun _ h_ => h_.1))))) (Kd.R_lt (pr_ (Kd.R_mono (Kd.R_far (p := ⟨b, 3, none⟩) (Kd.R_types v.1 c.1 (by decide)) (fun _ hk => hk.2) (.slice Q D.length V)) (fun _ h_ => h_.1))))) (below_size (pb3_ HB.1 j.1 r.1 u.1))); have _ := Q_ (blk_below (g := aC) (o := .cells #[.slice ao X.length au, .slice ap Y.length av, .int .i64 x, .slice aq Z.length aw, .int .i64 al, .slice ar aa.length ax, .int .i64 am, .bool an, .int .i64 s, .int .i64 t, .slice af y.length ah, .slice ag z.length ai, .int .i64 m, .int .i64 n, .int .i64 q] 29 (0, 0)) (pp_ d.1) hb); have _ := Q_ (blk_below (g := a) (o := .cells #[.slice none 0 0, .slice none 0 0, .int .i64 0, .slice none 0 0, .int .i64 0, .slice none 0 0, .int .i64 0, .bool false, .int .i64 0, .int .i64 0, .slice none 0 0, .slice none 0 0, .int .i64 0, .int .i64 0, .int .i64 0] 37 (0, 0)) (pp_ i.1) hb); have _ := Q_ (blk_below (g := b) (o := .cells #[.slice aj W.length ak, .slice P B.length U, .int .i64 x, .slice Q D.length V, .int .i64 0, .slice none 0 0, .int .i64 0, .bool false, .int .i64 0, .int .i64 0, .slice none 0 0, .slice none 0 0, .int .i64 0, .int .i64 0, .int .i64 0] 37 (0, 0)) (pp_ c.1) hb); have _ := Q_ (below_step (pb3_ HB.1 j.1 r.1 u.1) hb); clear l v T d i c HB; rename_i l v T ab d i c HB; (try clear hb ac); have bm := bc15_ c.1; obtain ⟨J, L, bc⟩ := Kd.R_slice ab.1; subst bc; have bn := bc15_ d.1) | ((with_reducible refine gate_callee (f := 28) rfl ?_); refine gl_ (some 31) Try.func28 #[.slice af y.length ah] ?_; (with_reducible refine (laws_toDialedS.calls k _ _ y A _ ?side1 aO.1 A6.1).mono ?_); (case side1 => exact Kd.C_below aQ.1 (pb3_ HB.1 j.1 r.1 u.1)); rintro e b0 ⟨bN, rfl, ac, hb⟩; refine ⟨_, rfl, ?_⟩; have _ := Q_ (Kd.R_below (pr_ (Kd.R_mono (Kd.R_far (p := ⟨b, 9, none⟩) (Kd.R_far (p := ⟨b, 8, none⟩) (Kd.R_far (p := ⟨b, 7, none⟩) (Kd.R_far (p := ⟨b, 6, none⟩) (Kd.R_far (p := ⟨b, 5, none⟩) (Kd.R_far (p := ⟨b, 4, none⟩) (Kd.R_types l.1 c.1 (by decide)) (fun _ hk => hk.2) (.int .i64 E)) (fun _ hk => hk.2) (.slice J F.length L)) (fun _ hk => hk.2) (.int .i64 G)) (fun _ hk => hk.2) (.bool I)) (fun _ hk => hk.2) (.int .i64 s)) (fun _ hk => hk.2) (.int .i64 t)) (fun _ h_ => h_.1))) hb); have _ := Q_ (Kd.R_below (pr_ (Kd.R_mono (Kd.R_far (p := ⟨b, 9, none⟩) (Kd.R_far (p := ⟨b, 8, none⟩) (Kd.R_far (p := ⟨b, 7, none⟩) (Kd.R_far (p := ⟨b, 6, none⟩) (Kd.R_far (p := ⟨b, 5, none⟩) (Kd.R_far (p := ⟨b, 4, none⟩) (Kd.R_types v.1 c.1 (by decide)) (fun _ hk => hk.2) (.int .i64 E)) (fun _ hk => hk.2) (.slice J F.length L)) (fun _ hk => hk.2) (.int .i64 G)) (fun _ hk => hk.2) (.bool I)) (fun _ hk => hk.2) (.int .i64 s)) (fun _ hk => hk.2) (.int .i64 t)) (fun _ h_ => h_.1))) hb); have _ := Q_ (Kd.R_below (pr_ (Kd.R_mono (Kd.R_far (p := ⟨b, 9, none⟩) (Kd.R_far (p := ⟨b, 8, none⟩) (Kd.R_far (p := ⟨b, 7, none⟩) (Kd.R_far (p := ⟨b, 6, none⟩) (Kd.R_far (p := ⟨b, 5, none⟩) (Kd.R_far (p := ⟨b, 4, none⟩) (Kd.R_types T.1 c.1 (by decide)) (fun _ hk => hk.2) (.int .i64 E)) (fun _ hk => hk.2) (.slice J F.length L)) (fun _ hk => hk.2) (.int .i64 G)) (fun _ hk => hk.2) (.bool I)) (fun _ hk => hk.2) (.int .i64 s)) (fun _ hk => hk.2) (.int .i64 t)) (fun _ h_ => h_.1))) hb); have _ := Q_ (Kd.R_below (pr_ (Kd.R_mono (Kd.R_far (p := ⟨b, 9, none⟩) (Kd.R_far (p := ⟨b, 8, none⟩) (Kd.R_far (p := ⟨b, 7, none⟩) (Kd.R_far (p := ⟨b, 6, none⟩) (Kd.R_far (p := ⟨b, 5, none⟩) (Kd.R_far (p := ⟨b, 4, none⟩) (Kd.R_types ab.1 c.1 (by decide)) (fun _ hk => hk.2) (.int .i64 E)) (fun _ hk => hk.2) (.slice J F.length L)) (fun _ hk => hk.2) (.int .i64 G)) (fun _ hk => hk.2) (.bool I)) (fun _ hk => hk.2) (.int .i64 s)) (fun _ hk => hk.2) (.int .i64 t)) (fun _ h_ => h_.1))) hb); have _ := Q_ (Kd.S_lower (Kd.S_new' (Kd.S_new' (Kd.S_new' ac (Kd.R_lt (pr_ (Kd.R_mono (Kd.R_far (p := ⟨b, 9, none⟩) (Kd.R_far (p := ⟨b, 8, none⟩) (Kd.R_far (p := ⟨b, 7, none⟩) (Kd.R_far (p := ⟨b, 6, none⟩) (Kd.R_far (p := ⟨b, 5, none⟩) (Kd.R_far (p := ⟨b, 4, none⟩) (Kd.R_types l.1 c.1 (by decide)) (fun _ hk => hk.2) (.int .i64 E)) (fun _ hk => hk.2) (.slice J F.length L)) (fun _ hk => hk.2) (.int .i64 G)) (fun _ hk => hk.2) (.bool I)) (fun _ hk => hk.2) (.int .i64 s)) (fun _ hk => hk.2) (.int .i64 t)) (fun _ h_ => h_.1))))) (Kd.R_lt (pr_ (Kd.R_mono (Kd.R_far (p := ⟨b, 9, none⟩) (Kd.R_far (p := ⟨b, 8, none⟩) (Kd.R_far (p := ⟨b, 7, none⟩) (Kd.R_far (p := ⟨b, 6, none⟩) (Kd.R_far (p := ⟨b, 5, none⟩) (Kd.R_far (p := ⟨b, 4, none⟩) (Kd.R_types v.1 c.1 (by decide)) (fun _ hk => hk.2) (.int .i64 E)) (fun _ hk => hk.2) (.slice J F.length L)) (fun _ hk => hk.2) (.int .i64 G)) (fun _ hk => hk.2) (.bool I)) (fun _ hk => hk.2) (.int .i64 s)) (fun _ hk => hk.2) (.int .i64 t)) (fun _ h_ => h_.1))))) (Kd.R_lt (pr_ (Kd.R_mono (Kd.R_far (p := ⟨b, 9, none⟩) (Kd.R_far (p := ⟨b, 8, none⟩) (Kd.R_far (p := ⟨b, 7, none⟩) (Kd.R_far (p := ⟨b, 6, none⟩) (Kd.R_far (p := ⟨b, 5, none⟩) (Kd.R_far (p := ⟨b, 4, none⟩) (Kd.R_types ab.1 c.1 (by decide)) (fun _ hk => hk.2) (.int .i64 E)) (fun _ hk => hk.2) (.slice J F.length L)) (fun _ hk => hk.2) (.int .i64 G)) (fun _ hk => hk.2) (.bool I)) (fun _ hk => hk.2) (.int .i64 s)) (fun _ hk => hk.2) (.int .i64 t)) (fun _ h_ => h_.1))))) (below_size (pb3_ HB.1 j.1 r.1 u.1))); have _ := Q_ (blk_below (g := aC) (o := .cells #[.slice ao X.length au, .slice ap Y.length av, .int .i64 x, .slice aq Z.length aw, .int .i64 al, .slice ar aa.length ax, .int .i64 am, .bool an, .int .i64 s, .int .i64 t, .slice af y.length ah, .slice ag z.length ai, .int .i64 m, .int .i64 n, .int .i64 q] 29 (0, 0)) (pp_ d.1) hb); have _ := Q_ (blk_below (g := a) (o := .cells #[.slice none 0 0, .slice none 0 0, .int .i64 0, .slice none 0 0, .int .i64 0, .slice none 0 0, .int .i64 0, .bool false, .int .i64 0, .int .i64 0, .slice none 0 0, .slice none 0 0, .int .i64 0, .int .i64 0, .int .i64 0] 37 (0, 0)) (pp_ i.1) hb); have _ := Q_ (blk_below (g := b) (o := .cells #[.slice aj W.length ak, .slice P B.length U, .int .i64 x, .slice Q D.length V, .int .i64 E, .slice J F.length L, .int .i64 G, .bool I, .int .i64 s, .int .i64 t, .slice none 0 0, .slice none 0 0, .int .i64 0, .int .i64 0, .int .i64 0] 37 (0, 0)) (pp_ c.1) hb); have _ := Q_ (below_step (pb3_ HB.1 j.1 r.1 u.1) hb); clear l v T ab d i c HB; rename_i l v T ab ay d i c HB; (try clear hb ac); obtain ⟨K, M, bd⟩ := Kd.S_slice ay.1; subst bd; have bo := bc15_ c.1; have bp := bc15_ d.1) | ((with_reducible refine gate_callee (f := 29) rfl ?_); refine gl_ (some 35) Try.func29 #[.slice ag z.length ai] ?_; (with_reducible refine (laws_toLoggedS.calls k _ _ z O _ ?side1 aP.1 A7.1).mono ?_); (case side1 => exact Kd.C_below aR.1 (pb3_ HB.1 j.1 r.1 u.1)); rintro e b1 ⟨bO, rfl, ac, hb⟩; refine ⟨_, rfl, ?_⟩; have _ := Q_ (Kd.R_below (pr_ (Kd.R_mono (Kd.R_far (p := ⟨b, 10, none⟩) (Kd.R_types l.1 c.1 (by decide)) (fun _ hk => hk.2) (.slice K A.length M)) (fun _ h_ => h_.1))) hb); have _ := Q_ (Kd.R_below (pr_ (Kd.R_mono (Kd.R_far (p := ⟨b, 10, none⟩) (Kd.R_types v.1 c.1 (by decide)) (fun _ hk => hk.2) (.slice K A.length M)) (fun _ h_ => h_.1))) hb); have _ := Q_ (Kd.R_below (pr_ (Kd.R_mono (Kd.R_far (p := ⟨b, 10, none⟩) (Kd.R_types T.1 c.1 (by decide)) (fun _ hk => hk.2) (.slice K A.length M)) (fun _ h_ => h_.1))) hb); have _ := Q_ (Kd.R_below (pr_ (Kd.R_mono (Kd.R_far (p := ⟨b, 10, none⟩) (Kd.R_types ab.1 c.1 (by decide)) (fun _ hk => hk.2) (.slice K A.length M)) (fun _ h_ => h_.1))) hb); have _ := Q_ (Kd.S_below (ps_ (Kd.S_mono (Kd.S_far (p := ⟨b, 10, none⟩) (Kd.S_types ay.1 c.1 (by decide)) (fun _ hk => hk.2) (.slice K A.length M)) (fun _ h_ => h_.1))) hb); have _ := Q_ (Kd.S_lower (Kd.S_new' (Kd.S_new' (Kd.S_new' ac (Kd.R_lt (pr_ (Kd.R_mono (Kd.R_far (p := ⟨b, 10, none⟩) (Kd.R_types l.1 c.1 (by decide)) (fun _ hk => hk.2) (.slice K A.length M)) (fun _ h_ => h_.1))))) (Kd.R_lt (pr_ (Kd.R_mono (Kd.R_far (p := ⟨b, 10, none⟩) (Kd.R_types v.1 c.1 (by decide)) (fun _ hk => hk.2) (.slice K A.length M)) (fun _ h_ => h_.1))))) (Kd.R_lt (pr_ (Kd.R_mono (Kd.R_far (p := ⟨b, 10, none⟩) (Kd.R_types ab.1 c.1 (by decide)) (fun _ hk => hk.2) (.slice K A.length M)) (fun _ h_ => h_.1))))) (below_size (pb3_ HB.1 j.1 r.1 u.1))); have _ := Q_ (blk_below (g := aC) (o := .cells #[.slice ao X.length au, .slice ap Y.length av, .int .i64 x, .slice aq Z.length aw, .int .i64 al, .slice ar aa.length ax, .int .i64 am, .bool an, .int .i64 s, .int .i64 t, .slice af y.length ah, .slice ag z.length ai, .int .i64 m, .int .i64 n, .int .i64 q] 29 (0, 0)) (pp_ d.1) hb); have _ := Q_ (blk_below (g := a) (o := .cells #[.slice none 0 0, .slice none 0 0, .int .i64 0, .slice none 0 0, .int .i64 0, .slice none 0 0, .int .i64 0, .bool false, .int .i64 0, .int .i64 0, .slice none 0 0, .slice none 0 0, .int .i64 0, .int .i64 0, .int .i64 0] 37 (0, 0)) (pp_ i.1) hb); have _ := Q_ (blk_below (g := b) (o := .cells #[.slice aj W.length ak, .slice P B.length U, .int .i64 x, .slice Q D.length V, .int .i64 E, .slice J F.length L, .int .i64 G, .bool I, .int .i64 s, .int .i64 t, .slice K A.length M, .slice none 0 0, .int .i64 0, .int .i64 0, .int .i64 0] 37 (0, 0)) (pp_ c.1) hb); have _ := Q_ (below_step (pb3_ HB.1 j.1 r.1 u.1) hb); clear l v T ab ay d i c HB; rename_i l v T ab ay aJ d i c HB; (try clear hb ac); obtain ⟨ad, ae, be⟩ := Kd.S_slice aJ.1; subst be; have bq := bc15_ c.1; have br := bc15_ d.1; have bs := bc15_ i.1))
 refine bodyPost_ret (results_cell_row rfl _ _ a 37 #[.slice aj W.length ak, .slice P B.length U, .int .i64 x, .slice Q D.length V, .int .i64 E, .slice J F.length L, .int .i64 G, .bool I, .int .i64 s, .int .i64 t, .slice K A.length M, .slice ad O.length ae, .int .i64 m, .int .i64 n, .int .i64 q] (0, 0) _ rfl (by apply Eq.trans; (with_reducible repeat (first | apply blk_set | apply blk_drewN | apply blk_drew | apply blk_alloc | apply blk_far (hp := Aside0.out (by assumption)))); exact i.1; simp only [List.setIfInBounds_toArray, List.set_cons_zero, List.set_cons_succ]) Try.underlying37 rfl (by kernel_rfl)) rfl ?_
 exact ⟨_, _, _, _, _, _, er_, by (with_reducible repeat (first | apply Kd.R_alloc | apply Kd.R_drewN | apply Kd.R_drew)); exact Kd.R_mono (Kd.R_far (p := ⟨a, 14, none⟩) (Kd.R_far (p := ⟨a, 13, none⟩) (Kd.R_far (p := ⟨a, 12, none⟩) (Kd.R_far (p := ⟨a, 11, none⟩) (Kd.R_far (p := ⟨a, 10, none⟩) (Kd.R_far (p := ⟨a, 9, none⟩) (Kd.R_far (p := ⟨a, 8, none⟩) (Kd.R_far (p := ⟨a, 7, none⟩) (Kd.R_far (p := ⟨a, 6, none⟩) (Kd.R_far (p := ⟨a, 5, none⟩) (Kd.R_far (p := ⟨a, 4, none⟩) (Kd.R_far (p := ⟨a, 3, none⟩) (Kd.R_far (p := ⟨a, 2, none⟩) (Kd.R_far (p := ⟨a, 1, none⟩) (Kd.R_far (p := ⟨a, 0, none⟩) (Kd.R_far (p := ⟨b, 14, none⟩) (Kd.R_far (p := ⟨b, 13, none⟩) (Kd.R_far (p := ⟨b, 12, none⟩) (Kd.R_far (p := ⟨b, 11, none⟩) (Kd.R_types (Kd.R_types l.1 c.1 (by decide)) i.1 (by decide)) (fun _ hk => hk.1.2) (.slice ad O.length ae)) (fun _ hk => hk.1.2) (.int .i64 m)) (fun _ hk => hk.1.2) (.int .i64 n)) (fun _ hk => hk.1.2) (.int .i64 q)) (fun _ hk => hk.2) (.slice aj W.length ak)) (fun _ hk => hk.2) (.slice P B.length U)) (fun _ hk => hk.2) (.int .i64 x)) (fun _ hk => hk.2) (.slice Q D.length V)) (fun _ hk => hk.2) (.int .i64 E)) (fun _ hk => hk.2) (.slice J F.length L)) (fun _ hk => hk.2) (.int .i64 G)) (fun _ hk => hk.2) (.bool I)) (fun _ hk => hk.2) (.int .i64 s)) (fun _ hk => hk.2) (.int .i64 t)) (fun _ hk => hk.2) (.slice K A.length M)) (fun _ hk => hk.2) (.slice ad O.length ae)) (fun _ hk => hk.2) (.int .i64 m)) (fun _ hk => hk.2) (.int .i64 n)) (fun _ hk => hk.2) (.int .i64 q)) (fun _ hk => ⟨hk.1.1.1.2, hk.1.1.2⟩), by (with_reducible repeat (first | apply Kd.R_alloc | apply Kd.R_drewN | apply Kd.R_drew)); exact Kd.R_mono (Kd.R_far (p := ⟨a, 14, none⟩) (Kd.R_far (p := ⟨a, 13, none⟩) (Kd.R_far (p := ⟨a, 12, none⟩) (Kd.R_far (p := ⟨a, 11, none⟩) (Kd.R_far (p := ⟨a, 10, none⟩) (Kd.R_far (p := ⟨a, 9, none⟩) (Kd.R_far (p := ⟨a, 8, none⟩) (Kd.R_far (p := ⟨a, 7, none⟩) (Kd.R_far (p := ⟨a, 6, none⟩) (Kd.R_far (p := ⟨a, 5, none⟩) (Kd.R_far (p := ⟨a, 4, none⟩) (Kd.R_far (p := ⟨a, 3, none⟩) (Kd.R_far (p := ⟨a, 2, none⟩) (Kd.R_far (p := ⟨a, 1, none⟩) (Kd.R_far (p := ⟨a, 0, none⟩) (Kd.R_far (p := ⟨b, 14, none⟩) (Kd.R_far (p := ⟨b, 13, none⟩) (Kd.R_far (p := ⟨b, 12, none⟩) (Kd.R_far (p := ⟨b, 11, none⟩) (Kd.R_types (Kd.R_types v.1 c.1 (by decide)) i.1 (by decide)) (fun _ hk => hk.1.2) (.slice ad O.length ae)) (fun _ hk => hk.1.2) (.int .i64 m)) (fun _ hk => hk.1.2) (.int .i64 n)) (fun _ hk => hk.1.2) (.int .i64 q)) (fun _ hk => hk.2) (.slice aj W.length ak)) (fun _ hk => hk.2) (.slice P B.length U)) (fun _ hk => hk.2) (.int .i64 x)) (fun _ hk => hk.2) (.slice Q D.length V)) (fun _ hk => hk.2) (.int .i64 E)) (fun _ hk => hk.2) (.slice J F.length L)) (fun _ hk => hk.2) (.int .i64 G)) (fun _ hk => hk.2) (.bool I)) (fun _ hk => hk.2) (.int .i64 s)) (fun _ hk => hk.2) (.int .i64 t)) (fun _ hk => hk.2) (.slice K A.length M)) (fun _ hk => hk.2) (.slice ad O.length ae)) (fun _ hk => hk.2) (.int .i64 m)) (fun _ hk => hk.2) (.int .i64 n)) (fun _ hk => hk.2) (.int .i64 q)) (fun _ hk => ⟨hk.1.1.1.2, hk.1.1.2⟩), by (with_reducible repeat (first | apply Kd.R_alloc | apply Kd.R_drewN | apply Kd.R_drew)); exact Kd.R_mono (Kd.R_far (p := ⟨a, 14, none⟩) (Kd.R_far (p := ⟨a, 13, none⟩) (Kd.R_far (p := ⟨a, 12, none⟩) (Kd.R_far (p := ⟨a, 11, none⟩) (Kd.R_far (p := ⟨a, 10, none⟩) (Kd.R_far (p := ⟨a, 9, none⟩) (Kd.R_far (p := ⟨a, 8, none⟩) (Kd.R_far (p := ⟨a, 7, none⟩) (Kd.R_far (p := ⟨a, 6, none⟩) (Kd.R_far (p := ⟨a, 5, none⟩) (Kd.R_far (p := ⟨a, 4, none⟩) (Kd.R_far (p := ⟨a, 3, none⟩) (Kd.R_far (p := ⟨a, 2, none⟩) (Kd.R_far (p := ⟨a, 1, none⟩) (Kd.R_far (p := ⟨a, 0, none⟩) (Kd.R_far (p := ⟨b, 14, none⟩) (Kd.R_far (p := ⟨b, 13, none⟩) (Kd.R_far (p := ⟨b, 12, none⟩) (Kd.R_far (p := ⟨b, 11, none⟩) (Kd.R_types (Kd.R_types T.1 c.1 (by decide)) i.1 (by decide)) (fun _ hk => hk.1.2) (.slice ad O.length ae)) (fun _ hk => hk.1.2) (.int .i64 m)) (fun _ hk => hk.1.2) (.int .i64 n)) (fun _ hk => hk.1.2) (.int .i64 q)) (fun _ hk => hk.2) (.slice aj W.length ak)) (fun _ hk => hk.2) (.slice P B.length U)) (fun _ hk => hk.2) (.int .i64 x)) (fun _ hk => hk.2) (.slice Q D.length V)) (fun _ hk => hk.2) (.int .i64 E)) (fun _ hk => hk.2) (.slice J F.length L)) (fun _ hk => hk.2) (.int .i64 G)) (fun _ hk => hk.2) (.bool I)) (fun _ hk => hk.2) (.int .i64 s)) (fun _ hk => hk.2) (.int .i64 t)) (fun _ hk => hk.2) (.slice K A.length M)) (fun _ hk => hk.2) (.slice ad O.length ae)) (fun _ hk => hk.2) (.int .i64 m)) (fun _ hk => hk.2) (.int .i64 n)) (fun _ hk => hk.2) (.int .i64 q)) (fun _ hk => ⟨hk.1.1.1.1.2, ⟨hk.1.1.1.2, hk.1.1.2⟩⟩), by (with_reducible repeat (first | apply Kd.R_alloc | apply Kd.R_drewN | apply Kd.R_drew)); exact Kd.R_mono (Kd.R_far (p := ⟨a, 14, none⟩) (Kd.R_far (p := ⟨a, 13, none⟩) (Kd.R_far (p := ⟨a, 12, none⟩) (Kd.R_far (p := ⟨a, 11, none⟩) (Kd.R_far (p := ⟨a, 10, none⟩) (Kd.R_far (p := ⟨a, 9, none⟩) (Kd.R_far (p := ⟨a, 8, none⟩) (Kd.R_far (p := ⟨a, 7, none⟩) (Kd.R_far (p := ⟨a, 6, none⟩) (Kd.R_far (p := ⟨a, 5, none⟩) (Kd.R_far (p := ⟨a, 4, none⟩) (Kd.R_far (p := ⟨a, 3, none⟩) (Kd.R_far (p := ⟨a, 2, none⟩) (Kd.R_far (p := ⟨a, 1, none⟩) (Kd.R_far (p := ⟨a, 0, none⟩) (Kd.R_far (p := ⟨b, 14, none⟩) (Kd.R_far (p := ⟨b, 13, none⟩) (Kd.R_far (p := ⟨b, 12, none⟩) (Kd.R_far (p := ⟨b, 11, none⟩) (Kd.R_types (Kd.R_types ab.1 c.1 (by decide)) i.1 (by decide)) (fun _ hk => hk.1.2) (.slice ad O.length ae)) (fun _ hk => hk.1.2) (.int .i64 m)) (fun _ hk => hk.1.2) (.int .i64 n)) (fun _ hk => hk.1.2) (.int .i64 q)) (fun _ hk => hk.2) (.slice aj W.length ak)) (fun _ hk => hk.2) (.slice P B.length U)) (fun _ hk => hk.2) (.int .i64 x)) (fun _ hk => hk.2) (.slice Q D.length V)) (fun _ hk => hk.2) (.int .i64 E)) (fun _ hk => hk.2) (.slice J F.length L)) (fun _ hk => hk.2) (.int .i64 G)) (fun _ hk => hk.2) (.bool I)) (fun _ hk => hk.2) (.int .i64 s)) (fun _ hk => hk.2) (.int .i64 t)) (fun _ hk => hk.2) (.slice K A.length M)) (fun _ hk => hk.2) (.slice ad O.length ae)) (fun _ hk => hk.2) (.int .i64 m)) (fun _ hk => hk.2) (.int .i64 n)) (fun _ hk => hk.2) (.int .i64 q)) (fun _ hk => ⟨hk.1.1.1.2, hk.1.1.2⟩), by (with_reducible repeat (first | apply Kd.S_alloc | apply Kd.S_drewN | apply Kd.S_drew)); exact Kd.S_mono (Kd.S_far (p := ⟨a, 14, none⟩) (Kd.S_far (p := ⟨a, 13, none⟩) (Kd.S_far (p := ⟨a, 12, none⟩) (Kd.S_far (p := ⟨a, 11, none⟩) (Kd.S_far (p := ⟨a, 10, none⟩) (Kd.S_far (p := ⟨a, 9, none⟩) (Kd.S_far (p := ⟨a, 8, none⟩) (Kd.S_far (p := ⟨a, 7, none⟩) (Kd.S_far (p := ⟨a, 6, none⟩) (Kd.S_far (p := ⟨a, 5, none⟩) (Kd.S_far (p := ⟨a, 4, none⟩) (Kd.S_far (p := ⟨a, 3, none⟩) (Kd.S_far (p := ⟨a, 2, none⟩) (Kd.S_far (p := ⟨a, 1, none⟩) (Kd.S_far (p := ⟨a, 0, none⟩) (Kd.S_far (p := ⟨b, 14, none⟩) (Kd.S_far (p := ⟨b, 13, none⟩) (Kd.S_far (p := ⟨b, 12, none⟩) (Kd.S_far (p := ⟨b, 11, none⟩) (Kd.S_types (Kd.S_types ay.1 c.1 (by decide)) i.1 (by decide)) (fun _ hk => hk.1.2) (.slice ad O.length ae)) (fun _ hk => hk.1.2) (.int .i64 m)) (fun _ hk => hk.1.2) (.int .i64 n)) (fun _ hk => hk.1.2) (.int .i64 q)) (fun _ hk => hk.2) (.slice aj W.length ak)) (fun _ hk => hk.2) (.slice P B.length U)) (fun _ hk => hk.2) (.int .i64 x)) (fun _ hk => hk.2) (.slice Q D.length V)) (fun _ hk => hk.2) (.int .i64 E)) (fun _ hk => hk.2) (.slice J F.length L)) (fun _ hk => hk.2) (.int .i64 G)) (fun _ hk => hk.2) (.bool I)) (fun _ hk => hk.2) (.int .i64 s)) (fun _ hk => hk.2) (.int .i64 t)) (fun _ hk => hk.2) (.slice K A.length M)) (fun _ hk => hk.2) (.slice ad O.length ae)) (fun _ hk => hk.2) (.int .i64 m)) (fun _ hk => hk.2) (.int .i64 n)) (fun _ hk => hk.2) (.int .i64 q)) (fun _ hk => ⟨hk.1.1.1.1.2, ⟨hk.1.1.1.2, hk.1.1.2⟩⟩), by (with_reducible repeat (first | apply Kd.S_alloc | apply Kd.S_drewN | apply Kd.S_drew)); exact Kd.S_mono (Kd.S_far (p := ⟨a, 14, none⟩) (Kd.S_far (p := ⟨a, 13, none⟩) (Kd.S_far (p := ⟨a, 12, none⟩) (Kd.S_far (p := ⟨a, 11, none⟩) (Kd.S_far (p := ⟨a, 10, none⟩) (Kd.S_far (p := ⟨a, 9, none⟩) (Kd.S_far (p := ⟨a, 8, none⟩) (Kd.S_far (p := ⟨a, 7, none⟩) (Kd.S_far (p := ⟨a, 6, none⟩) (Kd.S_far (p := ⟨a, 5, none⟩) (Kd.S_far (p := ⟨a, 4, none⟩) (Kd.S_far (p := ⟨a, 3, none⟩) (Kd.S_far (p := ⟨a, 2, none⟩) (Kd.S_far (p := ⟨a, 1, none⟩) (Kd.S_far (p := ⟨a, 0, none⟩) (Kd.S_far (p := ⟨b, 14, none⟩) (Kd.S_far (p := ⟨b, 13, none⟩) (Kd.S_far (p := ⟨b, 12, none⟩) (Kd.S_far (p := ⟨b, 11, none⟩) (Kd.S_types (Kd.S_types aJ.1 c.1 (by decide)) i.1 (by decide)) (fun _ hk => hk.1.2) (.slice ad O.length ae)) (fun _ hk => hk.1.2) (.int .i64 m)) (fun _ hk => hk.1.2) (.int .i64 n)) (fun _ hk => hk.1.2) (.int .i64 q)) (fun _ hk => hk.2) (.slice aj W.length ak)) (fun _ hk => hk.2) (.slice P B.length U)) (fun _ hk => hk.2) (.int .i64 x)) (fun _ hk => hk.2) (.slice Q D.length V)) (fun _ hk => hk.2) (.int .i64 E)) (fun _ hk => hk.2) (.slice J F.length L)) (fun _ hk => hk.2) (.int .i64 G)) (fun _ hk => hk.2) (.bool I)) (fun _ hk => hk.2) (.int .i64 s)) (fun _ hk => hk.2) (.int .i64 t)) (fun _ hk => hk.2) (.slice K A.length M)) (fun _ hk => hk.2) (.slice ad O.length ae)) (fun _ hk => hk.2) (.int .i64 m)) (fun _ hk => hk.2) (.int .i64 n)) (fun _ hk => hk.2) (.int .i64 q)) (fun _ hk => ⟨hk.1.1.1.1.2, ⟨hk.1.1.1.2, hk.1.1.2⟩⟩), pb3_ HB.1 j.1 r.1 u.1⟩

/-! ### laws_eqIntS: function 9 -/
def laws_eqIntS.l0 : Nat → List Int → List Int → Int → Option (Bool)
 | 0, _, _, _ => none
 | k + 1, b, c, a => if a < (b.length : Int) then (if 0 ≤ a then (if a < (c.length : Int) then (if (rd b a) = (rd c a) then (laws_eqIntS.l0 k b c (wrap64 (a + 1))) else (some false)) else (none)) else (none)) else (some true)
def laws_eqIntS.f (k : Nat) (a : List Int) (b : List Int) : Option (Bool) := if (a.length : Int) = (b.length : Int) then (laws_eqIntS.l0 k a b 0) else (some false)
theorem laws_eqIntS.mono_l : ∀ k, (∀ a b c, LeO (laws_eqIntS.l0 k a b c) (laws_eqIntS.l0 (k + 1) a b c))
 | 0 => fun _ _ _ r h => by simp [laws_eqIntS.l0] at h
 | k + 1 => by
  have ih0 := laws_eqIntS.mono_l k
  ·intro a b c
   unfold laws_eqIntS.l0
   exact mo1_ ih0
theorem laws_eqIntS.mono : ∀ a b k, LeO (laws_eqIntS.f k a b) (laws_eqIntS.f (k + 1) a b) := by
 intro a b k
 have ih0 := laws_eqIntS.mono_l k
 unfold laws_eqIntS.f
 exact mo1_ ih0
theorem laws_eqIntS.calls (k : Nat) (L : Option Addr) (N : Nat) (b : List Int) (M : Option Addr) (O : Nat) (c : List Int) (r : Bool) (w : World) (hr0 : Kd.C (Kd.int .i64) w L b.length b) (G : b.length ≤ N) (hr1 : Kd.C (Kd.int .i64) w M c.length c) (I : c.length ≤ O) (h : laws_eqIntS.f k b c = some r) :
  Calls Try.prog 9 #[.slice L b.length N, .slice M c.length O] w fun e w' => e = .returned (.bool r) ∧ Drawn0 w w' := by
 have x := Q_ hr0
 have R := Q_ G
 clear hr0 G
 have y := Q_ hr1
 have S := Q_ I
 clear hr1 I
 have H : (if (b.length : Int) = (c.length : Int) then (laws_eqIntS.l0 k b c 0) else (some false)) = some r := h
 clear h
 by_cases l : (b.length : Int) = (c.length : Int)
 rotate_left
 ·rw [if_neg l] at H
  have z : ((b.length : Int) == (c.length : Int)) = false := beq_eq_false_iff_ne.mpr l
  have A : ((b.length : Int) != (c.length : Int)) = true := bne_iff_ne.mpr l
  have B : (b.length == c.length) = false := by first | simpa using l | (simp at l ⊢; omega)
  obtain rfl := Option.some.inj H
  go_enter Try.func9, Try.ntmps9
  go_wp2
  repeat (go_quiet (fail); try go_wp2)
  go_ret
  exact ⟨by first | rfl | (simp; done) | (simp [*]; done), by repeat (first | exact Drawn0.refl _ | apply Drawn0.step)⟩
 rw [if_pos l] at H
 have z : ((b.length : Int) == (c.length : Int)) = true := beq_iff_eq.mpr l
 have A : ((b.length : Int) != (c.length : Int)) = false := bne_eq_false_iff_eq.mpr l
 have B : (b.length == c.length) = true := by first | simpa using l | (simp at l ⊢; omega)
 clear l
 have H' := Q_ H
 clear H
 go_enter Try.func9, Try.ntmps9
 go_wp2
 repeat (go_quiet (fail); try go_wp2)
 go_loopg [5] k (fun kq T w' => ∃ (a : Int), T = .int .i64 a ∧ Aside0 (laws_eqIntS.l0 kq b c a = some r) ∧ Aside0 (kq ≤ k) ∧ Drawn0 w w')
 case atStart => exact ⟨(0), el_, H', ⟨Nat.le_refl _⟩, by repeat (first | exact Drawn0.refl _ | apply Drawn0.step)⟩
 clear H'
 obtain ⟨a, rfl, HA, v, ⟨m1, rfl⟩⟩ := hrel
 rcases gk with _ | k1
 ·exact absurd HA.1 (by simp [laws_eqIntS.l0])
 have H := HA.1
 clear HA
 simp only [laws_eqIntS.l0] at H
 by_cases u : a < (b.length : Int)
 rotate_left
 ·rw [if_neg u] at H
  have D := decide_eq_false u
  clear u
  obtain rfl := Option.some.inj H
  go_wp2
  repeat (go_quiet (fail); try go_wp2)
  go_ret
  exact ⟨by first | rfl | (simp; done) | (simp [*]; done), by repeat (first | exact Drawn0.refl _ | apply Drawn0.step)⟩
 rw [if_pos u] at H
 have D := decide_eq_true u
 clear u
 by_cases J : 0 ≤ a
 rotate_left
 ·rw [if_neg J] at H
  exact nn_ H
 rw [if_pos J] at H
 have P := decide_eq_true J
 clear J
 by_cases K : a < (c.length : Int)
 rotate_left
 ·rw [if_neg K] at H
  exact nn_ H
 rw [if_pos K] at H
 have Q := decide_eq_true K
 clear K
 by_cases t : (rd b a) = (rd c a)
 rotate_left
 ·rw [if_neg t] at H
  have E : ((rd b a) == (rd c a)) = false := beq_eq_false_iff_ne.mpr t
  have F : ((rd b a) != (rd c a)) = true := bne_iff_ne.mpr t
  obtain rfl := Option.some.inj H
  have d : 0 ≤ (a : Int) := dt_
  have i : a < (b.length : Int) := dt_
  obtain ⟨q, m, o⟩ := Kd.at_int x.1 a d i
  cases m
  replace d := eq_true d
  replace i := eq_true i
  have g : 0 ≤ (a : Int) := dt_
  have j : a < (c.length : Int) := dt_
  obtain ⟨s, n, p⟩ := Kd.at_int y.1 a g j
  cases n
  replace g := eq_true g
  replace j := eq_true j
  go_wp2
  repeat (go_quiet (fail); try go_wp2)
  go_ret
  exact ⟨by first | rfl | (simp; done) | (simp [*]; done), by repeat (first | exact Drawn0.refl _ | apply Drawn0.step)⟩
 rw [if_pos t] at H
 have E : ((rd b a) == (rd c a)) = true := beq_iff_eq.mpr t
 have F : ((rd b a) != (rd c a)) = false := bne_eq_false_iff_eq.mpr t
 clear t
 have H' := Q_ H
 clear H
 have d : 0 ≤ (a : Int) := dt_
 have i : a < (b.length : Int) := dt_
 obtain ⟨q, m, o⟩ := Kd.at_int x.1 a d i
 cases m
 replace d := eq_true d
 replace i := eq_true i
 have g : 0 ≤ (a : Int) := dt_
 have j : a < (c.length : Int) := dt_
 obtain ⟨s, n, p⟩ := Kd.at_int y.1 a g j
 cases n
 replace g := eq_true g
 replace j := eq_true j
 go_wp2
 repeat (go_quiet (fail); try go_wp2)
 go_roundg k1
 case measure => have := v.1; omega
 case rel => exact ⟨(wrap64 (a + 1)), el_, H', ⟨by have := v.1; omega⟩, by repeat (first | exact Drawn0.refl _ | apply Drawn0.step)⟩

/-! ### laws_eqBox: function 58 -/
def laws_eqBox.f (k : Nat) (b : Int) (e : List Int) (g : List Int) (c : Bool) (d : Int) (h : List Int) (i : List Int) (a : Bool) : Option (Bool) := if b = d then ((laws_eqIntS.f k e h).bind fun j => (if j = true then ((laws_eqIntS.f k g i).bind fun l => (if l = true then (if c = true then (if a = true then (some true) else (some false)) else (if a = true then (some false) else (some true))) else (some false))) else (some false))) else (some false)
theorem laws_eqBox.mono : ∀ a b c d e g h i k, LeO (laws_eqBox.f k a b c d e g h i) (laws_eqBox.f (k + 1) a b c d e g h i) := by
 intro a b c d e g h i k
 unfold laws_eqBox.f
 exact mo1_ laws_eqIntS.mono
theorem laws_eqBox.calls (k : Nat) (j : Int) (v : Option Addr) (A : Nat) (m : List Int) (x : Option Addr) (B : Nat) (n : List Int) (s : Bool) (l : Int) (y : Option Addr) (D : Nat) (o : List Int) (z : Option Addr) (E : Nat) (p : List Int) (q : Bool) (r : Bool) (w : World) (hr0_1 : Kd.C (Kd.int .i64) w v m.length m) (I : m.length ≤ A) (hr0_2 : Kd.C (Kd.int .i64) w x n.length n) (J : n.length ≤ B) (hr1_1 : Kd.C (Kd.int .i64) w y o.length o) (K : o.length ≤ D) (hr1_2 : Kd.C (Kd.int .i64) w z p.length p) (L : p.length ≤ E) (h : laws_eqBox.f k j m n s l o p q = some r) :
  Calls Try.prog 58 #[.agg #[.int .i64 j, .slice v m.length A, .slice x n.length B, .bool s], .agg #[.int .i64 l, .slice y o.length D, .slice z p.length E, .bool q]] w fun e w' => e = .returned (.bool r) ∧ Below w.heap.size w w' := by
 have hu102 := Try.underlying102
 have Y := Q_ hr0_1
 have U := Q_ I
 clear hr0_1 I
 have Z := Q_ hr0_2
 have V := Q_ J
 clear hr0_2 J
 have aa := Q_ hr1_1
 have W := Q_ K
 clear hr1_1 K
 have ab := Q_ hr1_2
 have X := Q_ L
 clear hr1_2 L
 have HB := Q_ (Below.refl w.heap.size w)
 have H : (if j = l then ((laws_eqIntS.f k m o).bind fun F => (if F = true then ((laws_eqIntS.f k n p).bind fun G => (if G = true then (if s = true then (if q = true then (some true) else (some false)) else (if q = true then (some false) else (some true))) else (some false))) else (some false))) else (some false)) = some r := h
 clear h
 have HS_ := Q_ H
 clear H
 go_enter Try.func58, Try.ntmps58
 go_upto_region 1 with (first | ((with_reducible refine gate_dst (N := 2) rfl ?_); refine bx_ 2 #[.int .i64 j, .slice v m.length A, .slice x n.length B, .bool s] 102 ?_; intro ae hg w3 hbox hb; have _ := Q_ (below_step (pb_ HB.1) hb); have c := Q_ (hbox); have S := Q_ (gw_ (w := w) hg (pb_ HB.1)); have d := S; clear HB; rename_i HB; clear hb hbox hg) | ((with_reducible refine gate_dst (N := 3) rfl ?_); refine bx_ 3 #[.int .i64 l, .slice y o.length D, .slice z p.length E, .bool q] 102 ?_; intro af hg w4 hbox hb; have _ := Q_ (bb_ c.1 hb); have _ := Q_ (below_step (pb1_ HB.1 d.1) hb); have i := Q_ (hbox); have T := Q_ (gw_ (w := w) hg (pb1_ HB.1 d.1)); have g := T; have a := Q_ (nb_ hg c); have b := Q_ a.1.symm; clear c HB; rename_i c HB; clear hb hbox hg))
 (try simp only [Act.put, s1_, s2_, s3_])
 have H := HS_.1
 clear HS_
 by_cases c5 : j = l
 rotate_left
 ·rw [if_neg c5] at H
  have t : (j == l) = false := beq_eq_false_iff_ne.mpr c5
  have u : (j != l) = true := bne_iff_ne.mpr c5
  (first | rw [t] | (simp only [i64_w, i32_w]; rw [t]) | rw [u] | (have c_ := u; rw [bne] at c_; rw [c_]; clear c_) | skip)
  obtain rfl := Option.some.inj H
  have aI := a.1
  have aJ := b.1
  have aG := bc4_ c.1
  have aH := bc4_ i.1
  go_wp2
  go_ret
  exact ⟨er_, pb2_ HB.1 d.1 g.1⟩
 rw [if_pos c5] at H
 have t : (j == l) = true := beq_iff_eq.mpr c5
 have u : (j != l) = false := bne_eq_false_iff_eq.mpr c5
 clear c5
 (first | rw [t] | (simp only [i64_w, i32_w]; rw [t]) | rw [u] | (have c_ := u; rw [bne] at c_; rw [c_]; clear c_) | skip)
 obtain ⟨F, A9, H⟩ := bs_ H
 (try dsimp only at H)
 have HS_ := Q_ H
 clear H
 have au := a.1
 have aA := b.1
 have ag := bc4_ c.1
 have ah := bc4_ i.1
 go_upto_if 15 with (first | ((with_reducible refine gate_callee (f := 9) rfl ?_); refine gl_ (some 14) Try.func9 #[.slice v m.length A, .slice y o.length D] ?_; (with_reducible refine (laws_eqIntS.calls k _ _ m _ _ o F _ (cb_ Y HB) U.1 (cb_ aa HB) W.1 A9.1).mono ?_); rintro e w' ⟨rfl, ⟨nd, rfl⟩⟩; refine ⟨_, rfl, ?_⟩))
 (try simp only [Act.put, s1_, s2_, s3_])
 have H := HS_.1
 clear HS_
 by_cases M : F = true
 rotate_left
 ·replace M := bf_ M
  subst M
  rw [if_neg ff_] at H
  obtain rfl := Option.some.inj H
  go_wp2
  go_ret
  exact ⟨er_, pb2_ HB.1 d.1 g.1⟩
 subst M
 rw [if_pos rfl] at H
 obtain ⟨G, ad, H⟩ := bs_ H
 (try dsimp only at H)
 have HS_ := Q_ H
 clear H
 have av := a.1
 have aB := b.1
 have ai := bc4_ c.1
 have aj := bc4_ i.1
 go_upto_if 21 with (first | ((with_reducible refine gate_callee (f := 9) rfl ?_); refine gl_ (some 20) Try.func9 #[.slice x n.length B, .slice z p.length E] ?_; (with_reducible refine (laws_eqIntS.calls k _ _ n _ _ p G _ ?side1 V.1 ?side3 X.1 ad.1).mono ?_); (case side1 => exact pc_ (Kd.C_below Z.1 (pb2_ HB.1 d.1 g.1))); (case side3 => exact pc_ (Kd.C_below ab.1 (pb2_ HB.1 d.1 g.1))); rintro e w' ⟨rfl, ⟨nd, rfl⟩⟩; refine ⟨_, rfl, ?_⟩))
 (try simp only [Act.put, s1_, s2_, s3_])
 have H := HS_.1
 clear HS_
 by_cases O : G = true
 rotate_left
 ·replace O := bf_ O
  subst O
  rw [if_neg ff_] at H
  obtain rfl := Option.some.inj H
  go_wp2
  go_ret
  exact ⟨er_, pb2_ HB.1 d.1 g.1⟩
 subst O
 rw [if_pos rfl] at H
 by_cases P : s = true
 rotate_left
 ·replace P := bf_ P
  subst P
  rw [if_neg ff_] at H
  by_cases Q : q = true
  rotate_left
  ·replace Q := bf_ Q
   subst Q
   rw [if_neg ff_] at H
   obtain rfl := Option.some.inj H
   have aw := a.1
   have aC := b.1
   have ak := bc4_ c.1
   have al := bc4_ i.1
   go_wp2
   go_ret
   exact ⟨er_, pb2_ HB.1 d.1 g.1⟩
  subst Q
  rw [if_pos rfl] at H
  obtain rfl := Option.some.inj H
  have ax := a.1
  have aD := b.1
  have am := bc4_ c.1
  have an := bc4_ i.1
  go_wp2
  go_ret
  exact ⟨er_, pb2_ HB.1 d.1 g.1⟩
 subst P
 rw [if_pos rfl] at H
 by_cases R : q = true
 rotate_left
 ·replace R := bf_ R
  subst R
  rw [if_neg ff_] at H
  obtain rfl := Option.some.inj H
  have ay := a.1
  have aE := b.1
  have ao := bc4_ c.1
  have ap := bc4_ i.1
  go_wp2
  go_ret
  exact ⟨er_, pb2_ HB.1 d.1 g.1⟩
 subst R
 rw [if_pos rfl] at H
 obtain rfl := Option.some.inj H
 have az := a.1
 have aF := b.1
 have aq := bc4_ c.1
 have ar := bc4_ i.1
 go_wp2
 go_ret
 exact ⟨er_, pb2_ HB.1 d.1 g.1⟩

end Go.Proofs.Ytfhndlgbjhffiaa.Print
