-- Written by a program of this session (printx.py) out of the translation; Lean checks it.
import Derived.Test.YtaggmlokldaclaaProg
import Derived.Below
import Derived.Deep.Draws
import Derived.Deep.AppendLies
import Derived.Maps.AppendAt
import Derived.OwnWalk
import Derived.Laws.BytesArg
import Derived.Laws.MakeOwn
import Derived.Laws.OwnMore
import Derived.Deep.OwnRows
import Derived.Tactics
import Derived.Lib.ConvBytes
import Derived.Laws.Slices
import Derived.WalkKit
import Derived.KernelRfl
import Derived.RowKit3
import Derived.Deep.LoopGhost
import Derived.Deep.QuietTactic
import Derived.BigQuiet
import Derived.WideLaws
import Derived.Deep.DeepCutAuto
import Derived.Deep.CutBlock
import Derived.Deep.RegionHeld3
import Derived.Laws.Rows
import Derived.Lib.AppendStr
import Derived.ArgAppend
import Derived.Laws.IdiomCopy
import Derived.OrdersHeld
import Derived.Laws.BitsLemmas
import Derived.RowKit
import Derived.Lib.SliceRun
import Derived.Test.YtaggmlokldaclaaShort
import Derived.Test.YtaggmlokldaclaaWWords
import Derived.Test.YtaggmlokldaclaaWLast
import Derived.Test.YtaggmlokldaclaaWTab
import Derived.Test.YtaggmlokldaclaaWFour
import Derived.Test.YtaggmlokldaclaaWQPut
import Derived.Test.YtaggmlokldaclaaWApart
import Derived.Test.YtaggmlokldaclaaWArr
import Derived.Test.YtaggmlokldaclaaWZeros
import Derived.Test.YtaggmlokldaclaaWFoot
import Derived.Test.YtaggmlokldaclaaWKept
import Derived.Test.YtaggmlokldaclaaWShare
import Derived.Test.YtaggmlokldaclaaWN
import Derived.Test.YtaggmlokldaclaaWFootNe
import Derived.Test.YtaggmlokldaclaaWAt
import Derived.Test.YtaggmlokldaclaaWEqStruct
import Derived.Test.YtaggmlokldaclaaWRepsOne
import Derived.Test.YtaggmlokldaclaaWInv
import Derived.Test.YtaggmlokldaclaaWInvWords
import Derived.Test.YtaggmlokldaclaaWGuard
import Derived.Test.YtaggmlokldaclaaWNEv
import Derived.Test.YtaggmlokldaclaaWMore
namespace Go.Proofs.Ytaggmlokldaclaa.Print
open Go.RowKit Go.Proofs.YtaggmlokldaclaaW.PrintWords Go.Proofs.YtaggmlokldaclaaW.PrintLast Go.Proofs.YtaggmlokldaclaaW.PrintMore Go.Proofs.Ytaggmlokldaclaa.Short
attribute [local go_sem] max2_int min2_int max_two min_two max_three min_three max_four min_four   -- for this text's walks alone
set_option linter.unusedVariables false
set_option linter.unusedSimpArgs false



def errW : Option Int → Value
  | none => .nilIface
  | some c => .iface 0 (.int .i64 c)
theorem errW_none : errW none = .nilIface := rfl
theorem errW_some (c : Int) : errW (some c) = .iface 0 (.int .i64 c) := rfl

theorem info9 : (Try.prog.info? 9).map (fun i => (i.zero, i.size, i.bytes)) = some (some (.string ⟨#[]⟩), 1, 16) := by kernel_rfl
-- the values' own types

end Go.Proofs.Ytaggmlokldaclaa.Print
