/- Lean functions for the Go functions that the law FnExactUnhex reaches, and that each Go function comes to just its Lean function's answer; by a program of this session. -/
import Derived.Test.YtdhjnfnadcfohaaProg
import Derived.Below
import Derived.Deep.Draws
import Derived.Deep.AppendLies
import Derived.Maps.AppendAt
import Derived.OwnWalk
import Derived.Laws.BytesArg
import Derived.Laws.MakeOwn
import Derived.Laws.OwnMore
import Derived.Deep.OwnRows
import Derived.Tactics
import Derived.Lib.ConvBytes
import Derived.Laws.Slices
import Derived.WalkKit
import Derived.KernelRfl
import Derived.RowKit3
import Derived.Deep.LoopGhost
import Derived.Deep.QuietTactic
import Derived.BigQuiet
import Derived.WideLaws
import Derived.Deep.DeepCutAuto
import Derived.Deep.CutBlock
import Derived.Deep.RegionHeld3
import Derived.Laws.Rows
import Derived.Lib.AppendStr
import Derived.ArgAppend
import Derived.Laws.IdiomCopy
import Derived.OrdersHeld
import Derived.Laws.BitsLemmas
import Derived.RowKit
import Derived.WalkLawsBesides
import Derived.Lib.Bytealg
import Derived.Lib.Strings
import Derived.Lib.Walk
import Derived.Test.YtdhjnfnadcfohaaWWords
import Derived.Test.YtdhjnfnadcfohaaWLast
import Derived.Test.YtdhjnfnadcfohaaWTab
import Derived.Test.YtdhjnfnadcfohaaWFour
import Derived.Test.YtdhjnfnadcfohaaWQPut
import Derived.Test.YtdhjnfnadcfohaaWApart
import Derived.Test.YtdhjnfnadcfohaaWArr
import Derived.Test.YtdhjnfnadcfohaaWZeros
import Derived.Test.YtdhjnfnadcfohaaWFoot
import Derived.Test.YtdhjnfnadcfohaaWKept
import Derived.Test.YtdhjnfnadcfohaaWShare
import Derived.Test.YtdhjnfnadcfohaaWN
import Derived.Test.YtdhjnfnadcfohaaWFootNe
import Derived.Test.YtdhjnfnadcfohaaWAt
import Derived.Test.YtdhjnfnadcfohaaWEqStruct
import Derived.Test.YtdhjnfnadcfohaaWRepsOne
import Derived.Test.YtdhjnfnadcfohaaWInv
import Derived.Test.YtdhjnfnadcfohaaWInvWords
import Derived.Test.YtdhjnfnadcfohaaWGuard
import Derived.Test.YtdhjnfnadcfohaaWNEv
import Derived.Test.YtdhjnfnadcfohaaWMore
namespace Go.Proofs.Ytdhjnfnadcfohaa.QFnExactUnhex
open Go.RowKit Go.Proofs.YtdhjnfnadcfohaaW.PrintWords Go.Proofs.YtdhjnfnadcfohaaW.PrintLast Go.Proofs.YtdhjnfnadcfohaaW.PrintMore
attribute [local go_sem] max2_int min2_int max_two min_two max_three min_three max_four min_four   -- for this text's walks alone
set_option linter.unusedVariables false
set_option linter.unusedSimpArgs false



def errW : Option Int → Value
  | none => .nilIface
  | some c => .iface 0 (.int .i64 c)
theorem errW_none : errW none = .nilIface := rfl
theorem errW_some (c : Int) : errW (some c) = .iface 0 (.int .i64 c) := rfl

theorem info5 : (Try.prog.info? 5).map (fun i => (i.zero, i.size, i.bytes)) = some (some (.int .u8 0), 1, 1) := by kernel_rfl
-- the values' own types

end Go.Proofs.Ytdhjnfnadcfohaa.QFnExactUnhex
