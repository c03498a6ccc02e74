/- FnExactMostBad: whatever the two numbers, the program's MostBad and the reference's MostBad return the same. No condition. -/
import Derived.Test.YtaggmlokldaclaaPrint8
namespace Go.Proofs.Ytaggmlokldaclaa.Pure
open Go.RowKit Go.Proofs.Ytaggmlokldaclaa.Print Go.Proofs.YtaggmlokldaclaaW.PrintWords Go.Proofs.YtaggmlokldaclaaW.PrintLast

theorem in_same (a b c : Int) : spec_l1In.f a b c = impl_InRange.f a b c := rfl

theorem in_some (a b c : Int) : ∃ r, impl_InRange.f a b c = some r := by
  unfold impl_InRange.f
  split <;> exact ⟨_, rfl⟩

theorem FnExactMostBad : laws_FnExactMostBad.Pure := by
  intro a b _ _
  have h : spec_MostBad.f a b = impl_MostBad.f a b := by
    unfold spec_MostBad.f impl_MostBad.f
    simp only [in_same]
  have hs : ∃ r, impl_MostBad.f a b = some r := by
    unfold impl_MostBad.f
    obtain ⟨r1, h1⟩ := in_some a 1 10000
    obtain ⟨r2, h2⟩ := in_some b 0 100
    rw [h1, h2]
    simp only [Option.bind_some]
    split
    · split <;> exact ⟨_, rfl⟩
    · exact ⟨_, rfl⟩
  obtain ⟨r, hr⟩ := hs
  unfold laws_FnExactMostBad.f
  rw [h, hr]
  simp

end Go.Proofs.Ytaggmlokldaclaa.Pure
