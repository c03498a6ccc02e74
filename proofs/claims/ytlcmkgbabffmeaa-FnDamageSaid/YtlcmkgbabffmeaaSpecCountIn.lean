/- CountIn, of the reference. Condition: the stages are at most 10 to the 12. -/
import Derived.Test.YtlcmkgbabffmeaaCountIn
import Derived.Test.YtlcmkgbabffmeaaSpecCDiv
import Derived.Test.YtlcmkgbabffmeaaLim1
set_option linter.unusedSimpArgs false
set_option linter.unusedVariables false
namespace Go.Proofs.Ytlcmkgbabffmeaa.Plain
open Go.RowKit Go.Proofs.YtlcmkgbabffmeaaW.PrintWords Go.Proofs.Ytlcmkgbabffmeaa.Base Go.Proofs.Ytlcmkgbabffmeaa.Print

theorem specCountIn_v (v : Int) (l : List Int) (t : Int) (f : Bool) (n : Int) (hl : l.length ≤ 1000000000000) : spec_CountIn.fv v l t f n = some (cnt v l t f n) := by
  rw [spec_CountIn.fv_eq, specIsR_v v l t f hl, l1In_f, specCeilDiv_f]
  simp only [Option.bind_some, cnt]
  cases h : isR v l t with
  | false => simp
  | true =>
    have := isR_facts h
    rw [if_pos (show (0 : Int) ≤ t by omega), if_pos (show t < (l.length : Int) by omega)]
    cases f <;> cases inR 0 10000 n <;> simp
end Go.Proofs.Ytlcmkgbabffmeaa.Plain
