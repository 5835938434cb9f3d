/- Lean functions for the Go functions that the law FnTurned reaches, and that each Go function comes to just its Lean function's answer; by a program of this session. -/
import Derived.Test.YtfmemcffbfahhaaProg
import Derived.Below
import Derived.Deep.Draws
import Derived.Deep.AppendLies
import Derived.Maps.AppendAt
import Derived.OwnWalk
import Derived.Laws.BytesArg
import Derived.Laws.MakeOwn
import Derived.Laws.OwnMore
import Derived.Deep.OwnRows
import Derived.Tactics
import Derived.Lib.ConvBytes
import Derived.Laws.Slices
import Derived.WalkKit
import Derived.KernelRfl
import Derived.RowKit3
import Derived.Deep.LoopGhost
import Derived.Deep.QuietTactic
import Derived.BigQuiet
import Derived.WideLaws
import Derived.Deep.DeepCutAuto
import Derived.Deep.CutBlock
import Derived.Deep.RegionHeld3
import Derived.Laws.Rows
import Derived.Lib.AppendStr
import Derived.ArgAppend
import Derived.Laws.IdiomCopy
import Derived.OrdersHeld
import Derived.Laws.BitsLemmas
import Derived.RowKit
import Derived.WalkLawsBesides
import Derived.Lib.Bytealg
import Derived.Lib.Strings
import Derived.Lib.Walk
import Derived.Test.YtfmemcffbfahhaaWWords
import Derived.Test.YtfmemcffbfahhaaWLast
import Derived.Test.YtfmemcffbfahhaaWTab
import Derived.Test.YtfmemcffbfahhaaWFour
import Derived.Test.YtfmemcffbfahhaaWQPut
import Derived.Test.YtfmemcffbfahhaaWApart
import Derived.Test.YtfmemcffbfahhaaWArr
import Derived.Test.YtfmemcffbfahhaaWZeros
import Derived.Test.YtfmemcffbfahhaaWFoot
import Derived.Test.YtfmemcffbfahhaaWKept
import Derived.Test.YtfmemcffbfahhaaWShare
import Derived.Test.YtfmemcffbfahhaaWN
import Derived.Test.YtfmemcffbfahhaaWFootNe
import Derived.Test.YtfmemcffbfahhaaWAt
import Derived.Test.YtfmemcffbfahhaaWEqStruct
import Derived.Test.YtfmemcffbfahhaaWRepsOne
import Derived.Test.YtfmemcffbfahhaaWInv
import Derived.Test.YtfmemcffbfahhaaWInvWords
import Derived.Test.YtfmemcffbfahhaaWGuard
import Derived.Test.YtfmemcffbfahhaaWNEv
import Derived.Test.YtfmemcffbfahhaaWMore
namespace Go.Proofs.Ytfmemcffbfahhaa.QFnTurned
open Go.RowKit Go.Proofs.YtfmemcffbfahhaaW.PrintWords Go.Proofs.YtfmemcffbfahhaaW.PrintLast Go.Proofs.YtfmemcffbfahhaaW.PrintMore
attribute [local go_sem] max2_int min2_int max_two min_two max_three min_three max_four min_four   -- for this text's walks alone
set_option linter.unusedVariables false
set_option linter.unusedSimpArgs false



def errW : Option Int → Value
  | none => .nilIface
  | some c => .iface 0 (.int .i64 c)
theorem errW_none : errW none = .nilIface := rfl
theorem errW_some (c : Int) : errW (some c) = .iface 0 (.int .i64 c) := rfl

theorem info3 : (Try.prog.info? 3).map (fun i => (i.zero, i.size, i.bytes)) = some (some (.int .i64 0), 1, 8) := by kernel_rfl
theorem info5 : (Try.prog.info? 5).map (fun i => (i.zero, i.size, i.bytes)) = some (some (.int .u8 0), 1, 1) := by kernel_rfl
-- the values' own types

end Go.Proofs.Ytfmemcffbfahhaa.QFnTurned
