/- The quotient rounded up, of the program. No condition. -/
import Derived.Test.YtlcmkgbabffmeaaRange
import Derived.Test.YtlcmkgbabffmeaaPrint1
set_option linter.unusedSimpArgs false
set_option linter.unusedVariables false
namespace Go.Proofs.Ytlcmkgbabffmeaa.Plain
open Go.RowKit Go.Proofs.YtlcmkgbabffmeaaW.PrintWords Go.Proofs.Ytlcmkgbabffmeaa.Base Go.Proofs.Ytlcmkgbabffmeaa.Print

/-- A quotient, rounded up. -/
def cdiv (a b : Int) : Int := if inR 0 1000000000000 a && inR 1 1000000000000 b then wrap64 (Int.tdiv (wrap64 (wrap64 (a + b) - 1)) b) else 0
theorem implCeilDiv_f (a b : Int) : impl_CeilDiv.f a b = some (cdiv a b) := by
  unfold impl_CeilDiv.f cdiv
  rw [inRange_f, inRange_f]
  simp only [Option.bind_some]
  cases inR 0 1000000000000 a with
  | false => simp
  | true =>
    cases h : inR 1 1000000000000 b with
    | false => simp
    | true =>
      have := inR_true.mp h
      rw [if_pos rfl, if_pos rfl, if_neg (by omega)]
      simp
end Go.Proofs.Ytlcmkgbabffmeaa.Plain
