import Derived.Test.YtibmehnippjakaaGreatInsK
import Derived.Test.YtibmehnippjakaaGreatRepK
set_option linter.unusedVariables false
set_option maxRecDepth 100000
set_option linter.unusedSimpArgs false
namespace Go.Proofs.YtibmehnippjakaaGreat.GreaseK
open Go.RowKit Go.Lib Go.Proofs.YtibmehnippjakaaGreatW.PrintWords
variable {α : Type} {d : Kd α} {w : World} {A : Option Addr} {c : Nat} {xs out : List α} {seed t : Int}
set_option maxHeartbeats 4000000 in
theorem Vk (hC : Kd.C d w A xs.length xs) (hlc : xs.length ≤ c) (hl6 : True)
 (h47 : Calls Tryz.prog 86 #[.slice A xs.length c] w fun e w' => ∃ v : Value, e = .returned v ∧ Kd.S d 81 w' w.heap.size (fun _ => True) v out ∧ Below w.heap.size w w')
 (h48 : ∀ w, Calls Tryz.prog 87 #[.int .i64 seed] w fun e w' => e = .returned (.int .i64 t) ∧ Below w.heap.size w w')
 (h49 : ∀ w, Kd.C d w A xs.length xs → Calls Tryz.prog 57 #[.slice A xs.length c] w fun e w' => e = .returned (.bool false) ∧ Below w.heap.size w w') :
 Calls Tryz.prog 56 #[.slice A xs.length c, .int .i64 seed] w fun e w' => ∃ v : Value, e = .returned v ∧ Kd.S d 81 w' w.heap.size (fun _ => True) v out ∧ Below w.heap.size w w' := by
 go_enter Tryz.func56, Tryz.ntmps56
 go_wp2_with (fail)
 refine h47.mono ?_
 rintro e w1 ⟨v, rfl, hS, hB⟩
 go_wp2_with (fail)
 refine (h48 _).mono ?_
 rintro e w2 ⟨rfl, hb⟩
 have hB := GY hB hB.size hb
 have hS := Kd.FB hS hb
 clear hb
 go_wp2_with (fail)
 refine (h49 _ (Kd.Ec hC hB)).mono ?_
 rintro e w3 ⟨rfl, hb⟩
 have hB := GY hB hB.size hb
 have hS := Kd.FB hS hb
 clear hb
 go_wp2_with (fail)
 go_ret
 exact ⟨_, rfl, hS, hB⟩
set_option maxHeartbeats 4000000 in
theorem VH (hC : Kd.C d w A xs.length xs) (hlc : xs.length ≤ c) (hl6 : xs.length = 6)
 (h47 : Calls Tryz.prog 86 #[.slice A xs.length c] w fun e w' => ∃ v : Value, e = .returned v ∧ Kd.S d 81 w' w.heap.size (fun _ => True) v out ∧ Below w.heap.size w w')
 (h48 : ∀ w, Calls Tryz.prog 87 #[.int .i64 seed] w fun e w' => e = .returned (.int .i64 t) ∧ Below w.heap.size w w')
 (h49 : ∀ w, Kd.C d w A xs.length xs → Calls Tryz.prog 57 #[.slice A xs.length c] w fun e w' => e = .returned (.bool true) ∧ Below w.heap.size w w') :
 Calls Tryz.prog 56 #[.slice A xs.length c, .int .i64 seed] w fun e w' => ∃ v : Value, e = .returned v ∧ Kd.S d 81 w' w.heap.size (fun _ => True) v out ∧ Below w.heap.size w w' := by
 rw [hl6] at hC h47 h49 ⊢
 go_enter Tryz.func56, Tryz.ntmps56
 go_wp2_with (fail)
 refine h47.mono ?_
 rintro e w1 ⟨v, rfl, hS, hB⟩
 go_wp2_with (fail)
 refine (h48 _).mono ?_
 rintro e w2 ⟨rfl, hb⟩
 have hB := GY hB hB.size hb
 have hS := Kd.FB hS hb
 clear hb
 go_wp2_with (fail)
 refine (h49 _ (Kd.Ec hC hB)).mono ?_
 rintro e w3 ⟨rfl, hb⟩
 have hB := GY hB hB.size hb
 have hS := Kd.FB hS hb
 clear hb
 go_wp2_with (fail)
 go_ret
 exact ⟨_, rfl, hS, hB⟩
set_option maxHeartbeats 4000000 in
theorem VB (hC : Kd.C d w A xs.length xs) (hlc : xs.length ≤ c) (hl6 : ¬ (xs.length = 6))
 (h47 : Calls Tryz.prog 86 #[.slice A xs.length c] w fun e w' => ∃ v : Value, e = .returned v ∧ Kd.S d 81 w' w.heap.size (fun _ => True) v out ∧ Below w.heap.size w w')
 (h48 : ∀ w, Calls Tryz.prog 87 #[.int .i64 seed] w fun e w' => e = .returned (.int .i64 t) ∧ Below w.heap.size w w')
 (h49 : ∀ w, Kd.C d w A xs.length xs → Calls Tryz.prog 57 #[.slice A xs.length c] w fun e w' => e = .returned (.bool true) ∧ Below w.heap.size w w')
 (e : Int) (he : 0 ≤ e) (h50 : ∀ w, Kd.C d w A xs.length xs → Calls Tryz.prog 88 #[.slice A xs.length c, .int .i64 t] w fun e' w' => e' = .returned (.int .i64 e) ∧ Below w.heap.size w w') :
 Calls Tryz.prog 56 #[.slice A xs.length c, .int .i64 seed] w fun e w' => ∃ v : Value, e = .returned v ∧ Kd.S d 81 w' w.heap.size (fun _ => True) v out ∧ Below w.heap.size w w' := by
 go_enter Tryz.func56, Tryz.ntmps56
 go_wp2_with (fail)
 refine h47.mono ?_
 rintro e w1 ⟨v, rfl, hS, hB⟩
 go_wp2_with (fail)
 refine (h48 _).mono ?_
 rintro e w2 ⟨rfl, hb⟩
 have hB := GY hB hB.size hb
 have hS := Kd.FB hS hb
 clear hb
 go_wp2_with (fail)
 refine (h49 _ (Kd.Ec hC hB)).mono ?_
 rintro e w3 ⟨rfl, hb⟩
 have hB := GY hB hB.size hb
 have hS := Kd.FB hS hb
 clear hb
 go_wp2_with (fail)
 refine (h50 _ (Kd.Ec hC hB)).mono ?_
 rintro e' w4 ⟨rfl, hb⟩
 have hB := GY hB hB.size hb
 have hS := Kd.FB hS hb
 clear hb
 go_wp2_with (fail)
 go_ret
 exact ⟨_, rfl, hS, hB⟩
set_option maxHeartbeats 4000000 in
theorem Vr (hC : Kd.C d w A xs.length xs) (hlc : xs.length ≤ c) (hl6 : ¬ (xs.length = 6))
 (h47 : Calls Tryz.prog 86 #[.slice A xs.length c] w fun e w' => ∃ v : Value, e = .returned v ∧ Kd.S d 81 w' w.heap.size (fun _ => True) v out ∧ Below w.heap.size w w')
 (h48 : ∀ w, Calls Tryz.prog 87 #[.int .i64 seed] w fun e w' => e = .returned (.int .i64 t) ∧ Below w.heap.size w w')
 (h49 : ∀ w, Kd.C d w A xs.length xs → Calls Tryz.prog 57 #[.slice A xs.length c] w fun e w' => e = .returned (.bool true) ∧ Below w.heap.size w w')
 (e : Int) (he : ¬ (0 ≤ e)) (h50 : ∀ w, Kd.C d w A xs.length xs → Calls Tryz.prog 88 #[.slice A xs.length c, .int .i64 t] w fun e' w' => e' = .returned (.int .i64 e) ∧ Below w.heap.size w w')
 (hd : d.sz = 2) (mk : Int → List Int → α) (hM : ∀ w base ok t v ps, Kd.R (Kd.int .i64) 3 w base ok v ps → d.M w base ok (mk t ps) [.int .i64 t, v])
 (p : Int) (cnt i : Nat) (hcnt : cnt ≤ 2) (hi : i ≤ out.length) (hbig : out.length ≤ 1000000)
 (h52a : ∀ w, Calls Tryz.prog 90 #[.int .i64 seed, .int .i64 3, .int .i64 256] w fun e w' => e = .returned (.int .i64 p) ∧ Below w.heap.size w w')
 (h52b : ∀ w, Calls Tryz.prog 90 #[.int .i64 seed, .int .i64 2, .int .i64 3] w fun e w' => e = .returned (.int .i64 cnt) ∧ Below w.heap.size w w')
 (h52c : ∀ w, Calls Tryz.prog 90 #[.int .i64 seed, .int .i64 1, .int .i64 (wrap64 ((xs.length : Int) + 1))] w fun e w' => e = .returned (.int .i64 i) ∧ Below w.heap.size w w')
 (hm : ∀ w, Calls Tryz.prog 126 #[.int .u64 1, .int .u64 cnt] w fun e w' => e = .returned (.tuple #[.int .u64 0, .int .u64 cnt]) ∧ C' w w') :
 Calls Tryz.prog 56 #[.slice A xs.length c, .int .i64 seed] w fun e w' => ∃ v : Value, e = .returned v ∧ Kd.S d 81 w' w.heap.size (fun _ => True) v (out.take i ++ mk t (List.replicate cnt p) :: out.drop i) ∧ Below w.heap.size w w' := by
 have h6b : ((xs.length : Int) == 6) = false := by rw [beq_eq_false_iff_ne]; omega
 have heb : decide (0 ≤ e) = false := decide_eq_false he
 go_enter Tryz.func56, Tryz.ntmps56
 go_wp2_with (fail)
 refine h47.mono ?_
 rintro e w1 ⟨v, rfl, hS, hB⟩
 go_wp2_with (fail)
 refine (h48 _).mono ?_
 rintro e w2 ⟨rfl, hb⟩
 have hB := GY hB hB.size hb
 have hS := Kd.FB hS hb
 clear hb
 go_wp2_with (fail)
 refine (h49 _ (Kd.Ec hC hB)).mono ?_
 rintro e w3 ⟨rfl, hb⟩
 have hB := GY hB hB.size hb
 have hS := Kd.FB hS hb
 clear hb
 go_wp2_with (fail)
 refine (h50 _ (Kd.Ec hC hB)).mono ?_
 rintro e' w4 ⟨rfl, hb⟩
 have hB := GY hB hB.size hb
 have hS := Kd.FB hS hb
 clear hb
 go_wp2_with (fail)
 refine (h52a _).mono ?_
 rintro e' w5 ⟨rfl, hb⟩
 have hB := GY hB hB.size hb
 have hS := Kd.FB hS hb
 clear hb
 go_wp2_with (fail)
 refine (h52b _).mono ?_
 rintro e' w6 ⟨rfl, hb⟩
 have hsz : (w5.alloc (.cells #[.int .i64 p] 3)).heap.size = w5.heap.size + 1 := Array.size_push _
 have hbox : w6.heap[w5.heap.size]? = some (.cells #[.int .i64 p] 3 (0, 0)) := (hb.block _ (by rw [hsz]; omega)).trans Array.getElem?_push_size
 have hB := GY (Ez hB _) (Ez hB _).size hb
 have hS := Kd.FB (Kd.Gq hS _) hb
 clear hb hsz
 go_wp2_with (fail)
 refine (RepK.ZO w6 w5.heap.size cnt hcnt p hbox hm).mono ?_
 rintro e' w7 ⟨bv, rfl, hR, hb⟩
 have hS := Kd.RF hS hb
 have hR := Kd.BV (Kd.Ax (ok' := fun k => w6.heap.size ≤ k) (Kd.IE hR) (fun _ hk => hk.2.1)) hB.size
 have hB := GY hB hB.size hb
 clear hb hbox
 obtain ⟨Av, cv, rfl⟩ := Kd.Gv hS
 obtain ⟨Ab, cb, rfl⟩ := Kd.Bo hR
 go_wp2_with (fail)
 refine (h52c _).mono ?_
 rintro e' w8 ⟨rfl, hb⟩
 have hB := GY hB hB.size hb
 have hS := Kd.FB hS hb
 have hR := Kd.Bv hR hb
 clear hb
 go_wp2_with (fail)
 rw [List.length_replicate] at hR
 have hok : ∀ k, (Value.slice Av out.length cv).ownBlock = some k → k < w6.heap.size := fun k hk => ((Kd.S_R hS).1 k hk).2
 have hlt := Kd.Uf hS
 have hs9 : (w8.alloc (.cells #[.int .i64 t, .slice Ab cnt cb] 81)).heap.size = w8.heap.size + 1 := Array.size_push _
 have hbox9 : (w8.alloc (.cells #[.int .i64 t, .slice Ab cnt cb] 81)).heap[w8.heap.size]? = some (.cells #[.int .i64 t, .slice Ab cnt cb] 81 (0, 0)) := Array.getElem?_push_size
 refine (InsK.YY d hd w _ w.heap.size cv w8.heap.size i Av out (mk t (List.replicate cnt p)) (.int .i64 t) (.slice Ab cnt cb) (fun _ => True) (fun k => w6.heap.size ≤ k) hi
  (Kd.Gq (Kd.Ea hS (fun k hk => ⟨trivial, fun h => absurd hk.2 (by omega)⟩)) _) hbig hbox9 (fun h => absurd (hlt _ h.symm) (by omega)) (hM _ _ _ _ _ _ (Kd.Ef hR _)) (fun k hk => ⟨trivial, fun h => absurd (hok k h.symm) (by omega)⟩) (fun _ _ => trivial) (Ez hB _) (by rw [hs9]; have := hB.size; omega) ⟨rfl, rfl⟩).mono ?_
 rintro e' w10 ⟨v, rfl, hS, hB⟩
 go_wp2
 go_ret
 exact ⟨_, rfl, hS, hB⟩
end Go.Proofs.YtibmehnippjakaaGreat.GreaseK
