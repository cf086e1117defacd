/- Written by a program of this session out of the print of the loaded functions: each Go function as a plain function, and that its call comes to it; for a law, the row out of its plain statement. -/
import Derived.Test.YtkfnbnfdcfcfpaaProg
import Derived.Below
import Derived.Deep.Draws
import Derived.Deep.AppendLies
import Derived.Maps.AppendAt
import Derived.OwnWalk
import Derived.Laws.BytesArg
import Derived.Laws.MakeOwn
import Derived.Laws.OwnMore
import Derived.Deep.OwnRows
import Derived.Tactics
import Derived.Lib.ConvBytes
import Derived.Laws.Slices
import Derived.WalkKit
import Derived.KernelRfl
import Derived.RowKit3
import Derived.Deep.LoopGhost
import Derived.Deep.QuietTactic
import Derived.BigQuiet
import Derived.WideLaws
import Derived.Deep.DeepCutAuto
import Derived.Deep.CutBlock
import Derived.Deep.RegionHeld3
import Derived.Laws.Rows
import Derived.Lib.AppendStr
import Derived.ArgAppend
import Derived.Laws.IdiomCopy
import Derived.OrdersHeld
import Derived.Laws.BitsLemmas
import Derived.RowKit
import Derived.Test.YtkfnbnfdcfcfpaaWWords
import Derived.Test.YtkfnbnfdcfcfpaaWLast
import Derived.Test.YtkfnbnfdcfcfpaaWTab
import Derived.Test.YtkfnbnfdcfcfpaaWFour
import Derived.Test.YtkfnbnfdcfcfpaaWQPut
import Derived.Test.YtkfnbnfdcfcfpaaWApart
import Derived.Test.YtkfnbnfdcfcfpaaWArr
import Derived.Test.YtkfnbnfdcfcfpaaWZeros
import Derived.Test.YtkfnbnfdcfcfpaaWFoot
import Derived.Test.YtkfnbnfdcfcfpaaWKept
import Derived.Test.YtkfnbnfdcfcfpaaWShare
import Derived.Test.YtkfnbnfdcfcfpaaWN
import Derived.Test.YtkfnbnfdcfcfpaaWFootNe
import Derived.Test.YtkfnbnfdcfcfpaaWAt
import Derived.Test.YtkfnbnfdcfcfpaaWEqStruct
import Derived.Test.YtkfnbnfdcfcfpaaWRepsOne
import Derived.Test.YtkfnbnfdcfcfpaaWInv
import Derived.Test.YtkfnbnfdcfcfpaaWInvWords
import Derived.Test.YtkfnbnfdcfcfpaaWGuard
import Derived.Test.YtkfnbnfdcfcfpaaWNEv
import Derived.Test.YtkfnbnfdcfcfpaaWMore
namespace Go.Proofs.Ytkfnbnfdcfcfpaa.Q9a
open Go.RowKit Go.Proofs.YtkfnbnfdcfcfpaaW.PrintWords Go.Proofs.YtkfnbnfdcfcfpaaW.PrintLast Go.Proofs.YtkfnbnfdcfcfpaaW.PrintMore
attribute [local go_sem] max2_int min2_int max_two min_two max_three min_three max_four min_four   -- for this text's walks alone
set_option linter.unusedVariables false
set_option linter.unusedSimpArgs false



def errW : Option Int → Value
  | none => .nilIface
  | some c => .iface 0 (.int .i64 c)
theorem errW_none : errW none = .nilIface := rfl
theorem errW_some (c : Int) : errW (some c) = .iface 0 (.int .i64 c) := rfl

theorem info3 : (Try.prog.info? 3).map (fun i => (i.zero, i.size, i.bytes)) = some (some (.int .i64 0), 1, 8) := by kernel_rfl
theorem info5 : (Try.prog.info? 5).map (fun i => (i.zero, i.size, i.bytes)) = some (some (.int .u8 0), 1, 1) := by kernel_rfl
-- the values' own types

end Go.Proofs.Ytkfnbnfdcfcfpaa.Q9a
