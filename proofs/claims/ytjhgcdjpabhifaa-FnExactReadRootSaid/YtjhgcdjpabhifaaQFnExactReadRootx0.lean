/- Lean functions for the Go functions that the law FnExactReadRoot reaches, and that each Go function comes to just its Lean function's answer; by a program of this session. -/
import Derived.Test.YtjhgcdjpabhifaaProg
import Derived.Below
import Derived.Deep.Draws
import Derived.Deep.AppendLies
import Derived.Maps.AppendAt
import Derived.OwnWalk
import Derived.Laws.BytesArg
import Derived.Laws.MakeOwn
import Derived.Laws.OwnMore
import Derived.Deep.OwnRows
import Derived.Tactics
import Derived.Lib.ConvBytes
import Derived.Laws.Slices
import Derived.WalkKit
import Derived.KernelRfl
import Derived.RowKit3
import Derived.Deep.LoopGhost
import Derived.Deep.QuietTactic
import Derived.BigQuiet
import Derived.WideLaws
import Derived.Deep.DeepCutAuto
import Derived.Deep.CutBlock
import Derived.Deep.RegionHeld3
import Derived.Laws.Rows
import Derived.Lib.AppendStr
import Derived.ArgAppend
import Derived.Laws.IdiomCopy
import Derived.OrdersHeld
import Derived.Laws.BitsLemmas
import Derived.RowKit
import Derived.WalkLawsBesides
import Derived.Test.YtjhgcdjpabhifaaWWords
import Derived.Test.YtjhgcdjpabhifaaWLast
import Derived.Test.YtjhgcdjpabhifaaWTab
import Derived.Test.YtjhgcdjpabhifaaWFour
import Derived.Test.YtjhgcdjpabhifaaWQPut
import Derived.Test.YtjhgcdjpabhifaaWApart
import Derived.Test.YtjhgcdjpabhifaaWArr
import Derived.Test.YtjhgcdjpabhifaaWZeros
import Derived.Test.YtjhgcdjpabhifaaWFoot
import Derived.Test.YtjhgcdjpabhifaaWKept
import Derived.Test.YtjhgcdjpabhifaaWShare
import Derived.Test.YtjhgcdjpabhifaaWN
import Derived.Test.YtjhgcdjpabhifaaWFootNe
import Derived.Test.YtjhgcdjpabhifaaWAt
import Derived.Test.YtjhgcdjpabhifaaWEqStruct
import Derived.Test.YtjhgcdjpabhifaaWRepsOne
import Derived.Test.YtjhgcdjpabhifaaWInv
import Derived.Test.YtjhgcdjpabhifaaWInvWords
import Derived.Test.YtjhgcdjpabhifaaWGuard
import Derived.Test.YtjhgcdjpabhifaaWNEv
import Derived.Test.YtjhgcdjpabhifaaWMore
namespace Go.Proofs.Ytjhgcdjpabhifaa.QFnExactReadRoot
open Go.RowKit Go.Proofs.YtjhgcdjpabhifaaW.PrintWords Go.Proofs.YtjhgcdjpabhifaaW.PrintLast Go.Proofs.YtjhgcdjpabhifaaW.PrintMore
attribute [local go_sem] max2_int min2_int max_two min_two max_three min_three max_four min_four   -- for this text's walks alone
set_option linter.unusedVariables false
set_option linter.unusedSimpArgs false



def errW : Option Int → Value
  | none => .nilIface
  | some c => .iface 0 (.int .i64 c)
theorem errW_none : errW none = .nilIface := rfl
theorem errW_some (c : Int) : errW (some c) = .iface 0 (.int .i64 c) := rfl

theorem info5 : (Try.prog.info? 5).map (fun i => (i.zero, i.size, i.bytes)) = some (some (.int .u8 0), 1, 1) := by kernel_rfl
-- the values' own types

end Go.Proofs.Ytjhgcdjpabhifaa.QFnExactReadRoot
