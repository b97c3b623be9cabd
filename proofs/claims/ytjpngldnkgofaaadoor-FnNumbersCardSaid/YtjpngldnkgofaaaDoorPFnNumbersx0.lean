-- Written for this claim by a program of mine (a turned copy of the kit's print): functions as plain Lean, and their contracts. Lean checks it.
import Derived.Test.YtjpngldnkgofaaaDoorProg
import Derived.Below
import Derived.Deep.Draws
import Derived.Deep.AppendLies
import Derived.Maps.AppendAt
import Derived.OwnWalk
import Derived.Laws.BytesArg
import Derived.Laws.MakeOwn
import Derived.Laws.OwnMore
import Derived.Deep.OwnRows
import Derived.Tactics
import Derived.Lib.ConvBytes
import Derived.Laws.Slices
import Derived.WalkKit
import Derived.KernelRfl
import Derived.RowKit3
import Derived.Deep.LoopGhost
import Derived.Deep.QuietTactic
import Derived.BigQuiet
import Derived.WideLaws
import Derived.Deep.DeepCutAuto
import Derived.Deep.CutBlock
import Derived.Deep.RegionHeld3
import Derived.Laws.Rows
import Derived.Lib.AppendStr
import Derived.ArgAppend
import Derived.Laws.IdiomCopy
import Derived.OrdersHeld
import Derived.Laws.BitsLemmas
import Derived.RowKit
import Derived.Test.YtjpngldnkgofaaaDoorTabs
import Derived.Test.YtjpngldnkgofaaaDoorLaidD
import Derived.Test.YtjpngldnkgofaaaDoorLaidB
import Derived.WalkSmall
import Derived.Test.YtjpngldnkgofaaaDoorWWords
import Derived.Test.YtjpngldnkgofaaaDoorWLast
import Derived.Test.YtjpngldnkgofaaaDoorWTab
import Derived.Test.YtjpngldnkgofaaaDoorWFour
import Derived.Test.YtjpngldnkgofaaaDoorWQPut
import Derived.Test.YtjpngldnkgofaaaDoorWApart
import Derived.Test.YtjpngldnkgofaaaDoorWArr
import Derived.Test.YtjpngldnkgofaaaDoorWZeros
import Derived.Test.YtjpngldnkgofaaaDoorWFoot
import Derived.Test.YtjpngldnkgofaaaDoorWKept
import Derived.Test.YtjpngldnkgofaaaDoorWShare
import Derived.Test.YtjpngldnkgofaaaDoorWN
import Derived.Test.YtjpngldnkgofaaaDoorWFootNe
import Derived.Test.YtjpngldnkgofaaaDoorWAt
import Derived.Test.YtjpngldnkgofaaaDoorWEqStruct
import Derived.Test.YtjpngldnkgofaaaDoorWRepsOne
import Derived.Test.YtjpngldnkgofaaaDoorWInv
import Derived.Test.YtjpngldnkgofaaaDoorWInvWords
import Derived.Test.YtjpngldnkgofaaaDoorWGuard
import Derived.Test.YtjpngldnkgofaaaDoorWNEv
import Derived.Test.YtjpngldnkgofaaaDoorWMore
namespace Go.Proofs.YtjpngldnkgofaaaDoor.PFnNumbers
open Go.RowKit Go.Proofs.YtjpngldnkgofaaaDoorW.PrintWords Go.Proofs.YtjpngldnkgofaaaDoorW.PrintLast Go.Proofs.YtjpngldnkgofaaaDoorW.PrintMore
attribute [local go_sem] max2_int min2_int max_two min_two max_three min_three max_four min_four   -- for this text's walks alone
set_option linter.unusedVariables false
set_option linter.unusedSimpArgs false



def errW : Option Int → Value
  | none => .nilIface
  | some c => .iface 68 (.int .i64 c)
theorem errW_none : errW none = .nilIface := rfl
theorem errW_some (c : Int) : errW (some c) = .iface 68 (.int .i64 c) := rfl

theorem info3 : (Tryd.prog.info? 3).map (fun i => (i.zero, i.size, i.bytes)) = some (some (.int .i64 0), 1, 8) := by kernel_rfl
theorem info5 : (Tryd.prog.info? 5).map (fun i => (i.zero, i.size, i.bytes)) = some (some (.int .u8 0), 1, 1) := by kernel_rfl
-- the values' own types

end Go.Proofs.YtjpngldnkgofaaaDoor.PFnNumbers
