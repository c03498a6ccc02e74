/- The quotient rounded up, of the reference. No condition. -/
import Derived.Test.YtlcmkgbabffmeaaCDiv
import Derived.Test.YtlcmkgbabffmeaaPrint1
set_option linter.unusedSimpArgs false
set_option linter.unusedVariables false
namespace Go.Proofs.Ytlcmkgbabffmeaa.Plain
open Go.RowKit Go.Proofs.YtlcmkgbabffmeaaW.PrintWords Go.Proofs.Ytlcmkgbabffmeaa.Base Go.Proofs.Ytlcmkgbabffmeaa.Print

theorem specCeilDiv_f (a b : Int) : spec_CeilDiv.f a b = some (cdiv a b) := by
  unfold spec_CeilDiv.f cdiv
  rw [l1In_f, l1In_f]
  simp only [Option.bind_some]
  cases inR 0 1000000000000 a with
  | false => simp
  | true =>
    cases h : inR 1 1000000000000 b with
    | false => simp
    | true =>
      have := inR_true.mp h
      rw [if_pos rfl, if_pos rfl, if_neg (by omega)]
      simp
end Go.Proofs.Ytlcmkgbabffmeaa.Plain
