/- FnExactSignalName: whatever the code, the program's SignalName and the reference's SignalName return the same. No condition. -/
import Derived.Test.YtaggmlokldaclaaRange
import Derived.Test.YtaggmlokldaclaaPrint2
import Derived.Test.YtaggmlokldaclaaPrint1
set_option linter.unusedSimpArgs false
set_option linter.unusedVariables false
namespace Go.Proofs.Ytaggmlokldaclaa.Pure
open Go.RowKit Go.Proofs.YtaggmlokldaclaaW.PrintWords Go.Proofs.Ytaggmlokldaclaa.Base Go.Proofs.Ytaggmlokldaclaa.Print Go.Proofs.Ytaggmlokldaclaa.Plain

theorem FnExactSignalName : laws_FnExactSignalName.Pure := by
  intro a0 _
  unfold laws_FnExactSignalName.f spec_SignalName.f impl_SignalName.f
  rw [l1In_f, inRange_f]
  simp only [Option.bind_some]
  cases h : inR 0 2 a0 with
  | false => simp
  | true =>
    have := inR_true.mp h
    have h3 : a0 = 0 ∨ a0 = 1 ∨ a0 = 2 := by omega
    rcases h3 with rfl | rfl | rfl <;> simp [rdOf]
end Go.Proofs.Ytaggmlokldaclaa.Pure
