/- What is written into rows is a number where a number was, a Bool where a Bool was: rows keep their lengths. No condition. -/
import Derived.Test.YtibmehnippjakaaShort
namespace Go.Proofs.Ytibmehnippjakaa.Short
open Go.RowKit Go.Proofs.YtibmehnippjakaaW.PrintWords Go.Proofs.YtibmehnippjakaaW.PrintLast Go.Proofs.YtibmehnippjakaaW.PrintMore

/-- A number for a number, a Bool for a Bool, all else as it was. -/
def Like (u v : Value) : Prop := v = u ∨ (∃ k x y, u = .int k x ∧ v = .int k y) ∨ ∃ x y, u = .bool x ∧ v = .bool y
theorem Like.refl (u : Value) : Like u u := .inl rfl
theorem Like.trans {u v z : Value} (h : Like u v) (h' : Like v z) : Like u z := by
  rcases h with rfl | ⟨k, x, y, rfl, rfl⟩ | ⟨x, y, rfl, rfl⟩
  · exact h'
  · rcases h' with rfl | ⟨k', x', y', e, rfl⟩ | ⟨x', y', e, rfl⟩
    · exact .inr (.inl ⟨k, x, y, rfl, rfl⟩)
    · injection e with e1 e2
      subst e1
      exact .inr (.inl ⟨k, x, y', rfl, rfl⟩)
    · cases e
  · rcases h' with rfl | ⟨k', x', y', e, rfl⟩ | ⟨x', y', e, rfl⟩
    · exact .inr (.inr ⟨x, y, rfl, rfl⟩)
    · cases e
    · exact .inr (.inr ⟨x, y', rfl, rfl⟩)
theorem Like.slice {u v : Value} {A : Option Addr} {n c : Nat} (h : Like u v) (e : u = .slice A n c) : v = u := by
  rcases h with h | ⟨k, x, y, rfl, rfl⟩ | ⟨x, y, rfl, rfl⟩
  · exact h
  · cases e
  · cases e
/-- The same, cell by cell. -/
def LikeL (a b : List Value) : Prop := b.length = a.length ∧ ∀ (i : Nat) (u : Value), a[i]? = some u → ∃ v : Value, b[i]? = some v ∧ Like u v
theorem LikeL.drop {a b : List Value} (h : LikeL a b) (n : Nat) : LikeL (a.drop n) (b.drop n) :=
  ⟨by rw [List.length_drop, List.length_drop, h.1], fun i u hu => by
    rw [List.getElem?_drop] at hu ⊢
    exact h.2 _ u hu⟩
theorem LikeL.take {a b : List Value} (h : LikeL a b) (n : Nat) : LikeL (a.take n) (b.take n) :=
  ⟨by rw [List.length_take, List.length_take, h.1], fun i u hu => by
    rw [List.getElem?_take] at hu ⊢
    split at hu
    · rename_i hi
      rw [if_pos hi]
      exact h.2 _ u hu
    · cases hu⟩
theorem LikeL.one {u : Value} {b : List Value} (h : LikeL [u] b) : ∃ v, b = [v] ∧ Like u v := by
  obtain ⟨v, hv, hl⟩ := h.2 0 u rfl
  have := h.1
  cases b with
  | nil => cases hv
  | cons x b =>
    cases b with
    | nil =>
      simp only [List.getElem?_cons_zero, Option.some.injEq] at hv
      exact ⟨x, rfl, hv ▸ hl⟩
    | cons y b => simp at this
/-- Blocks that there were have the same types and sizes; their cells are the same but for numbers and Bools. -/
structure Marked (w w' : World) : Prop where
  size : w.heap.size ≤ w'.heap.size
  blk : ∀ {g : Nat} {cs : Array Value} {t : TypeId}, w.heap[g]? = some (.cells cs t (0, 0)) → ∃ cs' : Array Value, w'.heap[g]? = some (.cells cs' t (0, 0)) ∧ cs'.size = cs.size ∧ ∀ (i : Nat) (u : Value), cs[i]? = some u → ∃ v : Value, cs'[i]? = some v ∧ Like u v
theorem Marked.of_below {w w' : World} (h : Below w.heap.size w w') : Marked w w' :=
  ⟨h.size, fun hg => ⟨_, (h.block _ (blk_lt hg)).trans hg, rfl, fun _ u hu => ⟨u, hu, .refl u⟩⟩⟩
theorem Marked.refl (w : World) : Marked w w := .of_below (Below.refl _ _)
theorem Marked.trans {w w1 w2 : World} (h : Marked w w1) (h' : Marked w1 w2) : Marked w w2 :=
  ⟨Nat.le_trans h.size h'.size, fun hg => by
    obtain ⟨c1, h1, s1, f1⟩ := h.blk hg
    obtain ⟨c2, h2, s2, f2⟩ := h'.blk h1
    refine ⟨c2, h2, s2.trans s1, fun i u hu => ?_⟩
    obtain ⟨v, hv, l1⟩ := f1 i u hu
    obtain ⟨z, hz, l2⟩ := f2 i v hv
    exact ⟨z, hz, l1.trans l2⟩⟩
theorem Marked.below {w w1 w2 : World} (h : Marked w w1) (hb : Below w1.heap.size w1 w2) : Marked w w2 := h.trans (.of_below hb)
theorem Marked.alloc {w w1 : World} (h : Marked w w1) (o : Obj) : Marked w (w1.alloc o) := h.below (below_alloc (Below.refl _ _) o)
theorem Marked.drew {w w1 : World} (h : Marked w w1) : Marked w w1.drew := h.below (below_drew (Below.refl _ _))
theorem Marked.drewN {w w1 : World} (h : Marked w w1) (m : Nat) : Marked w (w1.drewN m) := h.below (pw_below_drewN (Below.refl _ _) m)
theorem Marked.set {w : World} {g j : Nat} {u v : Value} (hc : w.cell? ⟨g, j, none⟩ = some u) (hl : Like u v) : Marked w (w.setCell ⟨g, j, none⟩ v) :=
  ⟨by simp [World.setCell], fun {g'} {cs} {t} hg => by
    by_cases e : g' = g
    · subst e
      have hj : cs[j]? = some u := by simpa [World.cell?, hg] using hc
      refine ⟨_, blk_set hg j v, by simp, fun i x hx => ?_⟩
      by_cases ei : j = i
      · subst ei
        rw [hj] at hx
        injection hx with hx
        subst hx
        have := (Array.getElem?_eq_some_iff.1 hj).1
        exact ⟨v, by simp [this], hl⟩
      · exact ⟨x, by rw [Array.getElem?_setIfInBounds_ne ei]; exact hx, .refl x⟩
    · exact ⟨cs, blk_far hg e v, rfl, fun _ x hx => ⟨x, hx, .refl x⟩⟩⟩
/-- A kind whose values keep their shape where marks are written. -/
def Sh {α : Type} (d : Kd α) (sh : α → α → Prop) : Prop := ∀ {w w' : World} {base : Nat} {ok : Nat → Prop} {x : α} {cs cs' : List Value}, Marked w w' → d.M w base ok x cs → LikeL cs cs' → ∃ y, d.M w' base ok y cs' ∧ sh x y
/-- Two rows of one length, of one shape one by one. -/
def RowsS {α : Type} (sh : α → α → Prop) (xs ys : List α) : Prop := ys.length = xs.length ∧ ∀ (i : Nat) (x : α), xs[i]? = some x → ∃ y, ys[i]? = some y ∧ sh x y
theorem Sh.imp {α : Type} {d : Kd α} {s s' : α → α → Prop} (h : Sh d s) (hs : ∀ x y, s x y → s' x y) : Sh d s' := fun hm hx hl => by
  obtain ⟨y, hy, hh⟩ := h hm hx hl
  exact ⟨y, hy, hs _ _ hh⟩
theorem Sh.int (k : IntKind) : Sh (Kd.int k) (fun _ _ => True) := fun {_ _ _ _ x _ _} _ hx hl => by
  obtain rfl := hx
  obtain ⟨v, rfl, h⟩ := hl.one
  rcases h with rfl | ⟨k', x', y, e, rfl⟩ | ⟨x', y, e, rfl⟩
  · exact ⟨x, rfl, trivial⟩
  · injection e with e1 e2
    subst e1
    exact ⟨y, rfl, trivial⟩
  · cases e
theorem Sh.bool : Sh Kd.bool (fun _ _ => True) := fun {_ _ _ _ x _ _} _ hx hl => by
  obtain rfl := hx
  obtain ⟨v, rfl, h⟩ := hl.one
  rcases h with rfl | ⟨k', x', y, e, rfl⟩ | ⟨x', y, e, rfl⟩
  · exact ⟨x, rfl, trivial⟩
  · cases e
  · exact ⟨y, rfl, trivial⟩
theorem R_like {α : Type} {d : Kd α} {sh : α → α → Prop} {e : Nat} {w w' : World} {base : Nat} {ok : Nat → Prop} {v : Value} {xs : List α} (hd : Sh d sh) (hm : Marked w w') (h : d.R e w base ok v xs) : ∃ ys, d.R e w' base ok v ys ∧ RowsS sh xs ys := by
  obtain ⟨h0, inner, ⟨hlen, ho⟩, hr⟩ := h
  rcases ho with ⟨rfl, hn⟩ | ⟨g, cap, cur, rfl, hg, hh, hc1, hc2, hcs, htk⟩
  · obtain rfl : xs = [] := List.length_eq_zero_iff.1 hn
    exact ⟨[], Kd.R_nil _ _ _ _ _, rfl, fun i x hx => by simp at hx⟩
  · obtain ⟨cur', hh', hsz, hlike⟩ := hm.blk hh
    have hL : LikeL cur.toList cur'.toList := ⟨by simpa using hsz, fun i u hu => by
      rw [Array.getElem?_toList] at hu ⊢
      exact hlike i u hu⟩
    have hI : LikeL inner (cur'.toList.take (xs.length * d.sz)) := htk ▸ hL.take _
    have hel : ∀ i : Fin xs.length, ∃ y, d.M w' base (fun k => ok k ∧ some k ≠ (Value.slice (some ⟨g, 0, none⟩) xs.length cap).ownBlock) y (((cur'.toList.take (xs.length * d.sz)).drop (i.1 * d.sz)).take d.sz) ∧ sh xs[i.1] y := fun i =>
      hd hm (hr.2 i.1 _ (List.getElem?_eq_getElem i.2)) ((hI.drop _).take _)
    refine ⟨List.ofFn fun i => Classical.choose (hel i), ⟨?_, _, ⟨?_, .inr ⟨g, cap, cur', by rw [List.length_ofFn], hg, hh', by rw [List.length_ofFn]; exact hc1, hc2, hsz.trans hcs, by rw [List.length_ofFn]⟩⟩, ?_, ?_⟩, by rw [List.length_ofFn], ?_⟩
    · exact h0
    · rw [List.length_ofFn, hI.1, hlen]
    · rw [List.length_ofFn, hI.1, hlen]
    · intro j p hp
      obtain ⟨hj, rfl⟩ := List.getElem?_eq_some_iff.1 hp
      rw [List.length_ofFn] at hj
      rw [List.getElem_ofFn]
      exact (Classical.choose_spec (hel ⟨j, hj⟩)).1
    · intro i x hx
      obtain ⟨hi, rfl⟩ := List.getElem?_eq_some_iff.1 hx
      exact ⟨_, by rw [List.getElem?_ofFn, dif_pos hi], (Classical.choose_spec (hel ⟨i, hi⟩)).2⟩
theorem Sh.slice {α : Type} {d : Kd α} {sh : α → α → Prop} (hd : Sh d sh) (e : Nat) : Sh (Kd.slice e d) (RowsS sh) := fun hm hx hl => by
  obtain ⟨v, rfl, hR⟩ := hx
  obtain ⟨v', rfl, h⟩ := hl.one
  obtain ⟨A, c, hv⟩ := Kd.R_slice hR
  obtain rfl := h.slice hv
  obtain ⟨ys, hy, hs⟩ := R_like hd hm hR
  exact ⟨ys, ⟨_, rfl, hy⟩, hs⟩
theorem Sh.pair {α β : Type} {a : Kd α} {b : Kd β} {sa : α → α → Prop} {sb : β → β → Prop} (ha : Sh a sa) (hb : Sh b sb) : Sh (Kd.pair a b) (fun x y => sa x.1 y.1 ∧ sb x.2 y.2) := fun {_ _ _ _ _ _ cs'} hm hx hl => by
  obtain ⟨c0, c1, rfl, h0, h1⟩ := hx
  have l0 : LikeL c0 (cs'.take c0.length) := by
    have := hl.take c0.length
    rwa [List.take_left] at this
  have l1 : LikeL c1 (cs'.drop c0.length) := by
    have := hl.drop c0.length
    rwa [List.drop_left] at this
  obtain ⟨y0, m0, s0⟩ := ha hm h0 l0
  obtain ⟨y1, m1, s1⟩ := hb hm h1 l1
  exact ⟨(y0, y1), ⟨_, _, (List.take_append_drop _ _).symm, m0, m1⟩, s0, s1⟩
theorem Sh.iso {α β : Type} {d : Kd α} {sh : α → α → Prop} (hd : Sh d sh) (f : β → α) (g : α → β) (hf : ∀ y, f (g y) = y) : Sh (Kd.iso d f) (fun x y => sh (f x) (f y)) := fun hm hx hl => by
  obtain ⟨y, hy, hs⟩ := hd hm hx hl
  exact ⟨g y, by show d.M _ _ _ (f (g y)) _; rw [hf]; exact hy, by show sh _ (f (g y)); rw [hf]; exact hs⟩
theorem Sh.tag {α : Type} {d : Kd α} {sh : α → α → Prop} (hd : Sh d sh) (f : Nat → Nat) : Sh (Kd.tag f d) (fun x y => sh x.1 y.1 ∧ y.2 = x.2) := fun {_ _ _ _ x _ _} hm hx hl => by
  obtain ⟨y, hy, hs⟩ := hd hm hx hl
  exact ⟨(y, x.2), hy, hs, rfl⟩
theorem S_like {α : Type} {d : Kd α} {sh : α → α → Prop} {e : Nat} {w w' : World} {base : Nat} {ok : Nat → Prop} {v : Value} {xs : List α} (hd : Sh d sh) (hm : Marked w w') (h : Kd.S d e w base ok v xs) : ∃ ys, Kd.S d e w' base ok v ys ∧ RowsS sh xs ys := by
  obtain ⟨f, h⟩ := h
  obtain ⟨zs, hz, hl, hs⟩ := R_like (hd.tag f) hm h
  have e1 : (zs.map (·.1)).zipIdx = zs := by
    apply List.ext_getElem?
    intro i
    rw [List.getElem?_zipIdx, List.getElem?_map, Nat.zero_add]
    cases hi : zs[i]? with
    | none => rfl
    | some z =>
      have hi2 : i < xs.zipIdx.length := by
        rw [← hl]
        exact (List.getElem?_eq_some_iff.1 hi).1
      obtain ⟨y, hy, hs1⟩ := hs i _ (List.getElem?_eq_getElem hi2)
      rw [hi] at hy
      injection hy with hy
      subst hy
      have := hs1.2
      rw [List.getElem_zipIdx] at this
      simp only [Option.map_some, Option.some.injEq]
      ext <;> simp_all
  refine ⟨zs.map (·.1), ⟨f, by rw [e1]; exact hz⟩, by rw [List.length_map, hl, List.length_zipIdx], fun i x hx => ?_⟩
  obtain ⟨y, hy, h1, _⟩ := hs i (x, i) (Kd.zip_at hx)
  exact ⟨y.1, by rw [List.getElem?_map, hy]; rfl, h1⟩
theorem RowsS.refl {α : Type} {sh : α → α → Prop} (h : ∀ x, sh x x) (xs : List α) : RowsS sh xs xs := ⟨rfl, fun _ x hx => ⟨x, hx, h x⟩⟩
theorem RowsS.trans {α : Type} {sh : α → α → Prop} (h : ∀ x y z, sh x y → sh y z → sh x z) {xs ys zs : List α} (a : RowsS sh xs ys) (b : RowsS sh ys zs) : RowsS sh xs zs := ⟨b.1.trans a.1, fun i x hx => by
  obtain ⟨y, hy, s⟩ := a.2 i x hx
  obtain ⟨z, hz, s'⟩ := b.2 i y hy
  exact ⟨z, hz, h _ _ _ s s'⟩⟩
theorem RowsS.drop {α : Type} {sh : α → α → Prop} {xs ys : List α} (a : RowsS sh xs ys) (n : Nat) : RowsS sh (xs.drop n) (ys.drop n) := ⟨by rw [List.length_drop, List.length_drop, a.1], fun i x hx => by
  rw [List.getElem?_drop] at hx ⊢
  exact a.2 _ x hx⟩
/-- The number behind n marks. -/
def cnt : Nat → Int → Int
  | 0, k => k
  | n + 1, k => cnt n (wrap64 (k + 1))
theorem qm_ {p q : Prop} (h : p) (e : p → q := by intro h_; repeat (first | (with_reducible first | exact h_ | apply Kept.alloc | apply Kept.drewN | apply Kept.drew) | exact h_)) : q := e h
theorem qn_ {p q : Prop} (h : p) (e : p → q := by intro h_; repeat (first | (with_reducible first | exact h_ | apply Marked.alloc | apply Marked.drewN | apply Marked.drew) | exact h_)) : q := e h
theorem RowsS.at {α : Type} {sh : α → α → Prop} {xs ys : List α} (h : RowsS sh xs ys) (z : α) {i : Nat} (hi : i < xs.length) : sh (xs.getD i z) (ys.getD i z) := by
  obtain ⟨y, hy, hs⟩ := h.2 i _ (List.getElem?_eq_getElem hi)
  rw [List.getD_eq_getElem?_getD, List.getD_eq_getElem?_getD, List.getElem?_eq_getElem hi, hy]
  exact hs
theorem getD_cons_drop {α : Type} (z : α) {xs : List α} {i : Nat} (hi : i < xs.length) : xs.drop i = xs.getD i z :: xs.drop (i + 1) := by
  rw [List.getD_eq_getElem?_getD, List.getElem?_eq_getElem hi, List.drop_eq_getElem_cons hi]
  rfl
theorem R_long {α : Type} {d : Kd α} {e : Nat} {w : World} {base : Nat} {ok : Nat → Prop} {v : Value} {xs : List α} (h : d.R e w base ok v xs) : xs.length ≤ 9223372036854775807 := by
  obtain ⟨_, _, _, _, hC⟩ := Kd.R_reads h
  exact hC.2.1
theorem wi_ {i n : Nat} {x : Int} (h : x = (i : Int)) (hi : i < n) (hn : n ≤ 9223372036854775807) : wrap64 (x + 1) = ((i + 1 : Nat) : Int) := by
  subst h
  unfold wrap64
  omega
end Go.Proofs.Ytibmehnippjakaa.Short
