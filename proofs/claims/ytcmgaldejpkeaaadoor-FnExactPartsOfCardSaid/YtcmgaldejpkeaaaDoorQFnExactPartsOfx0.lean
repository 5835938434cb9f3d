/- Lean functions for the Go functions that the law FnExactPartsOf reaches, and that each Go function comes to just its Lean function's answer; by a program of this session. -/
import Derived.Test.YtcmgaldejpkeaaaDoorProg
import Derived.Below
import Derived.Deep.Draws
import Derived.Deep.AppendLies
import Derived.Maps.AppendAt
import Derived.OwnWalk
import Derived.Laws.BytesArg
import Derived.Laws.MakeOwn
import Derived.Laws.OwnMore
import Derived.Deep.OwnRows
import Derived.Tactics
import Derived.Lib.ConvBytes
import Derived.Laws.Slices
import Derived.WalkKit
import Derived.KernelRfl
import Derived.RowKit3
import Derived.Deep.LoopGhost
import Derived.Deep.QuietTactic
import Derived.BigQuiet
import Derived.WideLaws
import Derived.Deep.DeepCutAuto
import Derived.Deep.CutBlock
import Derived.Deep.RegionHeld3
import Derived.Laws.Rows
import Derived.Lib.AppendStr
import Derived.ArgAppend
import Derived.Laws.IdiomCopy
import Derived.OrdersHeld
import Derived.Laws.BitsLemmas
import Derived.RowKit
import Derived.WalkLawsBesides
import Derived.Lib.Bytealg
import Derived.Lib.Strings
import Derived.Lib.Walk
import Derived.Test.YtcmgaldejpkeaaaDoorWWords
import Derived.Test.YtcmgaldejpkeaaaDoorWLast
import Derived.Test.YtcmgaldejpkeaaaDoorWTab
import Derived.Test.YtcmgaldejpkeaaaDoorWFour
import Derived.Test.YtcmgaldejpkeaaaDoorWQPut
import Derived.Test.YtcmgaldejpkeaaaDoorWApart
import Derived.Test.YtcmgaldejpkeaaaDoorWArr
import Derived.Test.YtcmgaldejpkeaaaDoorWZeros
import Derived.Test.YtcmgaldejpkeaaaDoorWFoot
import Derived.Test.YtcmgaldejpkeaaaDoorWKept
import Derived.Test.YtcmgaldejpkeaaaDoorWShare
import Derived.Test.YtcmgaldejpkeaaaDoorWN
import Derived.Test.YtcmgaldejpkeaaaDoorWFootNe
import Derived.Test.YtcmgaldejpkeaaaDoorWAt
import Derived.Test.YtcmgaldejpkeaaaDoorWEqStruct
import Derived.Test.YtcmgaldejpkeaaaDoorWRepsOne
import Derived.Test.YtcmgaldejpkeaaaDoorWInv
import Derived.Test.YtcmgaldejpkeaaaDoorWInvWords
import Derived.Test.YtcmgaldejpkeaaaDoorWGuard
import Derived.Test.YtcmgaldejpkeaaaDoorWNEv
import Derived.Test.YtcmgaldejpkeaaaDoorWMore
namespace Go.Proofs.YtcmgaldejpkeaaaDoor.QFnExactPartsOf
open Go.RowKit Go.Proofs.YtcmgaldejpkeaaaDoorW.PrintWords Go.Proofs.YtcmgaldejpkeaaaDoorW.PrintLast Go.Proofs.YtcmgaldejpkeaaaDoorW.PrintMore
attribute [local go_sem] max2_int min2_int max_two min_two max_three min_three max_four min_four   -- for this text's walks alone
set_option linter.unusedVariables false
set_option linter.unusedSimpArgs false



def errW : Option Int → Value
  | none => .nilIface
  | some c => .iface 0 (.int .i64 c)
theorem errW_none : errW none = .nilIface := rfl
theorem errW_some (c : Int) : errW (some c) = .iface 0 (.int .i64 c) := rfl

theorem info5 : (Tryd.prog.info? 5).map (fun i => (i.zero, i.size, i.bytes)) = some (some (.int .u8 0), 1, 1) := by kernel_rfl
theorem info9 : (Tryd.prog.info? 9).map (fun i => (i.zero, i.size, i.bytes)) = some (some (.string ⟨#[]⟩), 1, 16) := by kernel_rfl
-- the values' own types

end Go.Proofs.YtcmgaldejpkeaaaDoor.QFnExactPartsOf
