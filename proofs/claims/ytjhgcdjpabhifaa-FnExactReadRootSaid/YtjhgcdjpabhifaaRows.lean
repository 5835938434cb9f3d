/-
  No cell of these rows narrows 'for every input' (looked for: loops, veiled, ifaces, maps, wideKeys, modest, calm, conditions, laid).
  DERIVED. THE GIVEN ROWS OF THIS SEAT. 12 by the template 'for every input the law returns true; each argument reads behind the call as it read before'; 0 by the template 'total and deterministic' (their statements: YtjhgcdjpabhifaaTotals.lean).
  GIVEN WITH THE SEED: the statements are not yours to turn. If you find one false, say at which input.
  Laid BY PROGRAM, IN A SANDBOX (cutbox-rows.mjs): the forced cells as the released guide's own fill.sh prints them over the translation 2de106954d033e83… (all of the seat's roots in one cut). By AI agents, Wed Nov 11 2026. No macro, syntax, notation, axiom, sorry.
-/
import Derived.Test.YtjhgcdjpabhifaaChecked
import GoSem.Claim
import GoSem.ClaimJoined
import GoSem.ClaimMapViews
import Derived.JoinedTies
import Derived.KernelRfl
namespace Go.Proofs.Ytjhgcdjpabhifaa
/- THE CELL 'sum', in the pinned program and in every row, IS THE sha256 OF THE DUMP (.gsa) THAT YtjhgcdjpabhifaaProg.lean LOADS. Nothing in Lean hashes anything: it is a label: what it is worth is what the hold of that sum in a sandbox is worth. -/
noncomputable def Try.pinned : Pinned := { name := "ytjhgcdjpabhifaa", sum := "2de106954d033e83f8a2e856bc818954bf5cf6d3a5208f2f710646e5319a2dc8", checked := Try.checked }
namespace Rows
def none {H : Type} : Left H := { results := [], args := [] }

/-- 'laws.FnExactUnsealed': WHATEVER THE INPUT: true; the input reads as it did. -/
def fnExactUnsealedSpec : ChangeSpec := { name := "fnExactUnsealed", fn := fun _ => fun
  | [d] => { results := [.lit (.bool true)], args := [d] }
  | _ => none }
def fnExactUnsealedRow : OpenClaim := { program := "ytjhgcdjpabhifaa", sum := "2de106954d033e83f8a2e856bc818954bf5cf6d3a5208f2f710646e5319a2dc8", func := "loop.example/g00105/laws.FnExactUnsealed", spec := "fnExactUnsealed", apart := false }
def FnExactUnsealedSaid : Prop := fnExactUnsealedRow.holds Try.pinned (OpenSpec.ofChange fnExactUnsealedSpec)

/-- ITS FALSE NEIGHBOUR: 'it returns false'. Refute it at one input. -/
def fnExactUnsealedWrong : ChangeSpec := { name := "fnExactUnsealed", fn := fun _ => fun
  | [d] => { results := [.lit (.bool false)], args := [d] }
  | _ => none }
def FnExactUnsealedWrongFalsely : Prop := fnExactUnsealedRow.holds Try.pinned (OpenSpec.ofChange fnExactUnsealedWrong)

/-- 'laws.FnExactReadShort': WHATEVER THE INPUT: true; the input reads as it did. -/
def fnExactReadShortSpec : ChangeSpec := { name := "fnExactReadShort", fn := fun _ => fun
  | [d1, d2] => { results := [.lit (.bool true)], args := [d1, d2] }
  | _ => none }
def fnExactReadShortRow : OpenClaim := { program := "ytjhgcdjpabhifaa", sum := "2de106954d033e83f8a2e856bc818954bf5cf6d3a5208f2f710646e5319a2dc8", func := "loop.example/g00105/laws.FnExactReadShort", spec := "fnExactReadShort", apart := false }
def FnExactReadShortSaid : Prop := fnExactReadShortRow.holds Try.pinned (OpenSpec.ofChange fnExactReadShortSpec)

/-- ITS FALSE NEIGHBOUR: 'it returns false'. Refute it at one input. -/
def fnExactReadShortWrong : ChangeSpec := { name := "fnExactReadShort", fn := fun _ => fun
  | [d1, d2] => { results := [.lit (.bool false)], args := [d1, d2] }
  | _ => none }
def FnExactReadShortWrongFalsely : Prop := fnExactReadShortRow.holds Try.pinned (OpenSpec.ofChange fnExactReadShortWrong)

/-- 'laws.FnExactRootText': WHATEVER THE INPUT: true; the input reads as it did. -/
def fnExactRootTextSpec : ChangeSpec := { name := "fnExactRootText", fn := fun _ => fun
  | [d] => { results := [.lit (.bool true)], args := [d] }
  | _ => none }
def fnExactRootTextRow : OpenClaim := { program := "ytjhgcdjpabhifaa", sum := "2de106954d033e83f8a2e856bc818954bf5cf6d3a5208f2f710646e5319a2dc8", func := "loop.example/g00105/laws.FnExactRootText", spec := "fnExactRootText", apart := false }
def FnExactRootTextSaid : Prop := fnExactRootTextRow.holds Try.pinned (OpenSpec.ofChange fnExactRootTextSpec)

/-- ITS FALSE NEIGHBOUR: 'it returns false'. Refute it at one input. -/
def fnExactRootTextWrong : ChangeSpec := { name := "fnExactRootText", fn := fun _ => fun
  | [d] => { results := [.lit (.bool false)], args := [d] }
  | _ => none }
def FnExactRootTextWrongFalsely : Prop := fnExactRootTextRow.holds Try.pinned (OpenSpec.ofChange fnExactRootTextWrong)

/-- 'laws.FnExactMapOk': WHATEVER THE INPUT: true; the input reads as it did. -/
def fnExactMapOkSpec : ChangeSpec := { name := "fnExactMapOk", fn := fun _ => fun
  | [d] => { results := [.lit (.bool true)], args := [d] }
  | _ => none }
def fnExactMapOkRow : OpenClaim := { program := "ytjhgcdjpabhifaa", sum := "2de106954d033e83f8a2e856bc818954bf5cf6d3a5208f2f710646e5319a2dc8", func := "loop.example/g00105/laws.FnExactMapOk", spec := "fnExactMapOk", apart := false }
def FnExactMapOkSaid : Prop := fnExactMapOkRow.holds Try.pinned (OpenSpec.ofChange fnExactMapOkSpec)

/-- ITS FALSE NEIGHBOUR: 'it returns false'. Refute it at one input. -/
def fnExactMapOkWrong : ChangeSpec := { name := "fnExactMapOk", fn := fun _ => fun
  | [d] => { results := [.lit (.bool false)], args := [d] }
  | _ => none }
def FnExactMapOkWrongFalsely : Prop := fnExactMapOkRow.holds Try.pinned (OpenSpec.ofChange fnExactMapOkWrong)

/-- 'laws.FnTurned': WHATEVER THE INPUT: true; the input reads as it did. -/
def fnTurnedSpec : ChangeSpec := { name := "fnTurned", fn := fun _ => fun
  | [d] => { results := [.lit (.bool true)], args := [d] }
  | _ => none }
def fnTurnedRow : OpenClaim := { program := "ytjhgcdjpabhifaa", sum := "2de106954d033e83f8a2e856bc818954bf5cf6d3a5208f2f710646e5319a2dc8", func := "loop.example/g00105/laws.FnTurned", spec := "fnTurned", apart := false }
def FnTurnedSaid : Prop := fnTurnedRow.holds Try.pinned (OpenSpec.ofChange fnTurnedSpec)

/-- ITS FALSE NEIGHBOUR: 'it returns false'. Refute it at one input. -/
def fnTurnedWrong : ChangeSpec := { name := "fnTurned", fn := fun _ => fun
  | [d] => { results := [.lit (.bool false)], args := [d] }
  | _ => none }
def FnTurnedWrongFalsely : Prop := fnTurnedRow.holds Try.pinned (OpenSpec.ofChange fnTurnedWrong)

/-- 'laws.FnExactGraphOk': WHATEVER THE INPUT: true; the input reads as it did. -/
def fnExactGraphOkSpec : ChangeSpec := { name := "fnExactGraphOk", fn := fun _ => fun
  | [d] => { results := [.lit (.bool true)], args := [d] }
  | _ => none }
def fnExactGraphOkRow : OpenClaim := { program := "ytjhgcdjpabhifaa", sum := "2de106954d033e83f8a2e856bc818954bf5cf6d3a5208f2f710646e5319a2dc8", func := "loop.example/g00105/laws.FnExactGraphOk", spec := "fnExactGraphOk", apart := false }
def FnExactGraphOkSaid : Prop := fnExactGraphOkRow.holds Try.pinned (OpenSpec.ofChange fnExactGraphOkSpec)

/-- ITS FALSE NEIGHBOUR: 'it returns false'. Refute it at one input. -/
def fnExactGraphOkWrong : ChangeSpec := { name := "fnExactGraphOk", fn := fun _ => fun
  | [d] => { results := [.lit (.bool false)], args := [d] }
  | _ => none }
def FnExactGraphOkWrongFalsely : Prop := fnExactGraphOkRow.holds Try.pinned (OpenSpec.ofChange fnExactGraphOkWrong)

/-- 'laws.FnInduced': WHATEVER THE INPUT: true; the input reads as it did. -/
def fnInducedSpec : ChangeSpec := { name := "fnInduced", fn := fun _ => fun
  | [d] => { results := [.lit (.bool true)], args := [d] }
  | _ => none }
def fnInducedRow : OpenClaim := { program := "ytjhgcdjpabhifaa", sum := "2de106954d033e83f8a2e856bc818954bf5cf6d3a5208f2f710646e5319a2dc8", func := "loop.example/g00105/laws.FnInduced", spec := "fnInduced", apart := false }
def FnInducedSaid : Prop := fnInducedRow.holds Try.pinned (OpenSpec.ofChange fnInducedSpec)

/-- ITS FALSE NEIGHBOUR: 'it returns false'. Refute it at one input. -/
def fnInducedWrong : ChangeSpec := { name := "fnInduced", fn := fun _ => fun
  | [d] => { results := [.lit (.bool false)], args := [d] }
  | _ => none }
def FnInducedWrongFalsely : Prop := fnInducedRow.holds Try.pinned (OpenSpec.ofChange fnInducedWrong)

/-- 'laws.FnExactReadRoot': WHATEVER THE INPUT: true; the input reads as it did. -/
def fnExactReadRootSpec : ChangeSpec := { name := "fnExactReadRoot", fn := fun _ => fun
  | [d] => { results := [.lit (.bool true)], args := [d] }
  | _ => none }
def fnExactReadRootRow : OpenClaim := { program := "ytjhgcdjpabhifaa", sum := "2de106954d033e83f8a2e856bc818954bf5cf6d3a5208f2f710646e5319a2dc8", func := "loop.example/g00105/laws.FnExactReadRoot", spec := "fnExactReadRoot", apart := false }
def FnExactReadRootSaid : Prop := fnExactReadRootRow.holds Try.pinned (OpenSpec.ofChange fnExactReadRootSpec)

/-- ITS FALSE NEIGHBOUR: 'it returns false'. Refute it at one input. -/
def fnExactReadRootWrong : ChangeSpec := { name := "fnExactReadRoot", fn := fun _ => fun
  | [d] => { results := [.lit (.bool false)], args := [d] }
  | _ => none }
def FnExactReadRootWrongFalsely : Prop := fnExactReadRootRow.holds Try.pinned (OpenSpec.ofChange fnExactReadRootWrong)

/-- 'laws.FnExactDeviceNew': WHATEVER THE INPUT: true; the input reads as it did. -/
def fnExactDeviceNewSpec : ChangeSpec := { name := "fnExactDeviceNew", fn := fun _ => fun
  | [d] => { results := [.lit (.bool true)], args := [d] }
  | _ => none }
def fnExactDeviceNewRow : OpenClaim := { program := "ytjhgcdjpabhifaa", sum := "2de106954d033e83f8a2e856bc818954bf5cf6d3a5208f2f710646e5319a2dc8", func := "loop.example/g00105/laws.FnExactDeviceNew", spec := "fnExactDeviceNew", apart := false }
def FnExactDeviceNewSaid : Prop := fnExactDeviceNewRow.holds Try.pinned (OpenSpec.ofChange fnExactDeviceNewSpec)

/-- ITS FALSE NEIGHBOUR: 'it returns false'. Refute it at one input. -/
def fnExactDeviceNewWrong : ChangeSpec := { name := "fnExactDeviceNew", fn := fun _ => fun
  | [d] => { results := [.lit (.bool false)], args := [d] }
  | _ => none }
def FnExactDeviceNewWrongFalsely : Prop := fnExactDeviceNewRow.holds Try.pinned (OpenSpec.ofChange fnExactDeviceNewWrong)

/-- 'laws.FnDevices': WHATEVER THE INPUT: true; the input reads as it did. -/
def fnDevicesSpec : ChangeSpec := { name := "fnDevices", fn := fun _ => fun
  | [d] => { results := [.lit (.bool true)], args := [d] }
  | _ => none }
def fnDevicesRow : OpenClaim := { program := "ytjhgcdjpabhifaa", sum := "2de106954d033e83f8a2e856bc818954bf5cf6d3a5208f2f710646e5319a2dc8", func := "loop.example/g00105/laws.FnDevices", spec := "fnDevices", apart := false }
def FnDevicesSaid : Prop := fnDevicesRow.holds Try.pinned (OpenSpec.ofChange fnDevicesSpec)

/-- ITS FALSE NEIGHBOUR: 'it returns false'. Refute it at one input. -/
def fnDevicesWrong : ChangeSpec := { name := "fnDevices", fn := fun _ => fun
  | [d] => { results := [.lit (.bool false)], args := [d] }
  | _ => none }
def FnDevicesWrongFalsely : Prop := fnDevicesRow.holds Try.pinned (OpenSpec.ofChange fnDevicesWrong)

/-- 'laws.FnExactEdgeAt': WHATEVER THE INPUT: true; the input reads as it did. -/
def fnExactEdgeAtSpec : ChangeSpec := { name := "fnExactEdgeAt", fn := fun _ => fun
  | [d1, d2, d3] => { results := [.lit (.bool true)], args := [d1, d2, d3] }
  | _ => none }
def fnExactEdgeAtRow : OpenClaim := { program := "ytjhgcdjpabhifaa", sum := "2de106954d033e83f8a2e856bc818954bf5cf6d3a5208f2f710646e5319a2dc8", func := "loop.example/g00105/laws.FnExactEdgeAt", spec := "fnExactEdgeAt", apart := false }
def FnExactEdgeAtSaid : Prop := fnExactEdgeAtRow.holds Try.pinned (OpenSpec.ofChange fnExactEdgeAtSpec)

/-- ITS FALSE NEIGHBOUR: 'it returns false'. Refute it at one input. -/
def fnExactEdgeAtWrong : ChangeSpec := { name := "fnExactEdgeAt", fn := fun _ => fun
  | [d1, d2, d3] => { results := [.lit (.bool false)], args := [d1, d2, d3] }
  | _ => none }
def FnExactEdgeAtWrongFalsely : Prop := fnExactEdgeAtRow.holds Try.pinned (OpenSpec.ofChange fnExactEdgeAtWrong)

/-- 'laws.FnExactDeviceOk': WHATEVER THE INPUT: true; the input reads as it did. -/
def fnExactDeviceOkSpec : ChangeSpec := { name := "fnExactDeviceOk", fn := fun _ => fun
  | [d] => { results := [.lit (.bool true)], args := [d] }
  | _ => none }
def fnExactDeviceOkRow : OpenClaim := { program := "ytjhgcdjpabhifaa", sum := "2de106954d033e83f8a2e856bc818954bf5cf6d3a5208f2f710646e5319a2dc8", func := "loop.example/g00105/laws.FnExactDeviceOk", spec := "fnExactDeviceOk", apart := false }
def FnExactDeviceOkSaid : Prop := fnExactDeviceOkRow.holds Try.pinned (OpenSpec.ofChange fnExactDeviceOkSpec)

/-- ITS FALSE NEIGHBOUR: 'it returns false'. Refute it at one input. -/
def fnExactDeviceOkWrong : ChangeSpec := { name := "fnExactDeviceOk", fn := fun _ => fun
  | [d] => { results := [.lit (.bool false)], args := [d] }
  | _ => none }
def FnExactDeviceOkWrongFalsely : Prop := fnExactDeviceOkRow.holds Try.pinned (OpenSpec.ofChange fnExactDeviceOkWrong)

/- THE SECOND FORM. 'bulk': how many values and letters a reading holds, each counted each time it is reached (what is shared counts as often as it is met; a slice's spare places count too). A statement '..UptoSaid' is the law's where the arguments, and the package variables that the reading takes, are together of bulk at most 1048576: NARROWER than '..Said'. Prove '..Said' where nothing that the law and all that it calls make is longer than what came in: it says more and counts as full. Else prove '..UptoSaid'. A law counts once. -/
mutual
def uptoBulk {H : Type} : DataW H → Nat
  | .lit (.string bytes) => bytes.length + 1
  | .lit _ => 1
  | .nil => 1
  | .ptr d => uptoBulk d + 1
  | .slice elems spare => uptoBulkAll elems + uptoBulkAll spare + 1
  | .agg parts => uptoBulkAll parts + 1
  | .iface _ d => uptoBulk d + 1
  | .map entries => uptoBulkEntries entries + 1
  | .held _ => 1
def uptoBulkAll {H : Type} : List (DataW H) → Nat
  | [] => 0
  | d :: r => uptoBulk d + uptoBulkAll r
def uptoBulkEntries {H : Type} : List (Lit × DataW H) → Nat
  | [] => 0
  | x :: r => uptoBulkEntry x + uptoBulkEntries r
def uptoBulkEntry {H : Type} : Lit × DataW H → Nat
  | (.string bytes, d) => bytes.length + uptoBulk d + 1
  | (_, d) => uptoBulk d + 1
 end
def uptoSmall : (H : Type) → List (DataW H) → Bool := fun _ ds => decide (uptoBulkAll ds ≤ 1048576)
def OpenSpec.upto (s : _root_.Go.ChangeSpec) : _root_.Go.OpenSpec := { _root_.Go.OpenSpec.ofChange s with cond := some uptoSmall }

/-- 'laws.FnExactUnsealed', WHERE WHAT IT READS IS OF BULK AT MOST 1048576: true; the input reads as it did. -/
def fnExactUnsealedUptoRow : OpenClaim := { program := "ytjhgcdjpabhifaa", sum := "2de106954d033e83f8a2e856bc818954bf5cf6d3a5208f2f710646e5319a2dc8", func := "loop.example/g00105/laws.FnExactUnsealed", spec := "fnExactUnsealed", apart := false, narrowed := true }
def FnExactUnsealedUptoSaid : Prop := fnExactUnsealedUptoRow.holds Try.pinned (OpenSpec.upto fnExactUnsealedSpec)

/-- 'laws.FnExactReadShort', WHERE WHAT IT READS IS OF BULK AT MOST 1048576: true; the input reads as it did. -/
def fnExactReadShortUptoRow : OpenClaim := { program := "ytjhgcdjpabhifaa", sum := "2de106954d033e83f8a2e856bc818954bf5cf6d3a5208f2f710646e5319a2dc8", func := "loop.example/g00105/laws.FnExactReadShort", spec := "fnExactReadShort", apart := false, narrowed := true }
def FnExactReadShortUptoSaid : Prop := fnExactReadShortUptoRow.holds Try.pinned (OpenSpec.upto fnExactReadShortSpec)

/-- 'laws.FnExactRootText', WHERE WHAT IT READS IS OF BULK AT MOST 1048576: true; the input reads as it did. -/
def fnExactRootTextUptoRow : OpenClaim := { program := "ytjhgcdjpabhifaa", sum := "2de106954d033e83f8a2e856bc818954bf5cf6d3a5208f2f710646e5319a2dc8", func := "loop.example/g00105/laws.FnExactRootText", spec := "fnExactRootText", apart := false, narrowed := true }
def FnExactRootTextUptoSaid : Prop := fnExactRootTextUptoRow.holds Try.pinned (OpenSpec.upto fnExactRootTextSpec)

/-- 'laws.FnExactMapOk', WHERE WHAT IT READS IS OF BULK AT MOST 1048576: true; the input reads as it did. -/
def fnExactMapOkUptoRow : OpenClaim := { program := "ytjhgcdjpabhifaa", sum := "2de106954d033e83f8a2e856bc818954bf5cf6d3a5208f2f710646e5319a2dc8", func := "loop.example/g00105/laws.FnExactMapOk", spec := "fnExactMapOk", apart := false, narrowed := true }
def FnExactMapOkUptoSaid : Prop := fnExactMapOkUptoRow.holds Try.pinned (OpenSpec.upto fnExactMapOkSpec)

/-- 'laws.FnTurned', WHERE WHAT IT READS IS OF BULK AT MOST 1048576: true; the input reads as it did. -/
def fnTurnedUptoRow : OpenClaim := { program := "ytjhgcdjpabhifaa", sum := "2de106954d033e83f8a2e856bc818954bf5cf6d3a5208f2f710646e5319a2dc8", func := "loop.example/g00105/laws.FnTurned", spec := "fnTurned", apart := false, narrowed := true }
def FnTurnedUptoSaid : Prop := fnTurnedUptoRow.holds Try.pinned (OpenSpec.upto fnTurnedSpec)

/-- 'laws.FnExactGraphOk', WHERE WHAT IT READS IS OF BULK AT MOST 1048576: true; the input reads as it did. -/
def fnExactGraphOkUptoRow : OpenClaim := { program := "ytjhgcdjpabhifaa", sum := "2de106954d033e83f8a2e856bc818954bf5cf6d3a5208f2f710646e5319a2dc8", func := "loop.example/g00105/laws.FnExactGraphOk", spec := "fnExactGraphOk", apart := false, narrowed := true }
def FnExactGraphOkUptoSaid : Prop := fnExactGraphOkUptoRow.holds Try.pinned (OpenSpec.upto fnExactGraphOkSpec)

/-- 'laws.FnInduced', WHERE WHAT IT READS IS OF BULK AT MOST 1048576: true; the input reads as it did. -/
def fnInducedUptoRow : OpenClaim := { program := "ytjhgcdjpabhifaa", sum := "2de106954d033e83f8a2e856bc818954bf5cf6d3a5208f2f710646e5319a2dc8", func := "loop.example/g00105/laws.FnInduced", spec := "fnInduced", apart := false, narrowed := true }
def FnInducedUptoSaid : Prop := fnInducedUptoRow.holds Try.pinned (OpenSpec.upto fnInducedSpec)

/-- 'laws.FnExactReadRoot', WHERE WHAT IT READS IS OF BULK AT MOST 1048576: true; the input reads as it did. -/
def fnExactReadRootUptoRow : OpenClaim := { program := "ytjhgcdjpabhifaa", sum := "2de106954d033e83f8a2e856bc818954bf5cf6d3a5208f2f710646e5319a2dc8", func := "loop.example/g00105/laws.FnExactReadRoot", spec := "fnExactReadRoot", apart := false, narrowed := true }
def FnExactReadRootUptoSaid : Prop := fnExactReadRootUptoRow.holds Try.pinned (OpenSpec.upto fnExactReadRootSpec)

/-- 'laws.FnExactDeviceNew', WHERE WHAT IT READS IS OF BULK AT MOST 1048576: true; the input reads as it did. -/
def fnExactDeviceNewUptoRow : OpenClaim := { program := "ytjhgcdjpabhifaa", sum := "2de106954d033e83f8a2e856bc818954bf5cf6d3a5208f2f710646e5319a2dc8", func := "loop.example/g00105/laws.FnExactDeviceNew", spec := "fnExactDeviceNew", apart := false, narrowed := true }
def FnExactDeviceNewUptoSaid : Prop := fnExactDeviceNewUptoRow.holds Try.pinned (OpenSpec.upto fnExactDeviceNewSpec)

/-- 'laws.FnDevices', WHERE WHAT IT READS IS OF BULK AT MOST 1048576: true; the input reads as it did. -/
def fnDevicesUptoRow : OpenClaim := { program := "ytjhgcdjpabhifaa", sum := "2de106954d033e83f8a2e856bc818954bf5cf6d3a5208f2f710646e5319a2dc8", func := "loop.example/g00105/laws.FnDevices", spec := "fnDevices", apart := false, narrowed := true }
def FnDevicesUptoSaid : Prop := fnDevicesUptoRow.holds Try.pinned (OpenSpec.upto fnDevicesSpec)

/-- 'laws.FnExactEdgeAt', WHERE WHAT IT READS IS OF BULK AT MOST 1048576: true; the input reads as it did. -/
def fnExactEdgeAtUptoRow : OpenClaim := { program := "ytjhgcdjpabhifaa", sum := "2de106954d033e83f8a2e856bc818954bf5cf6d3a5208f2f710646e5319a2dc8", func := "loop.example/g00105/laws.FnExactEdgeAt", spec := "fnExactEdgeAt", apart := false, narrowed := true }
def FnExactEdgeAtUptoSaid : Prop := fnExactEdgeAtUptoRow.holds Try.pinned (OpenSpec.upto fnExactEdgeAtSpec)

/-- 'laws.FnExactDeviceOk', WHERE WHAT IT READS IS OF BULK AT MOST 1048576: true; the input reads as it did. -/
def fnExactDeviceOkUptoRow : OpenClaim := { program := "ytjhgcdjpabhifaa", sum := "2de106954d033e83f8a2e856bc818954bf5cf6d3a5208f2f710646e5319a2dc8", func := "loop.example/g00105/laws.FnExactDeviceOk", spec := "fnExactDeviceOk", apart := false, narrowed := true }
def FnExactDeviceOkUptoSaid : Prop := fnExactDeviceOkUptoRow.holds Try.pinned (OpenSpec.upto fnExactDeviceOkSpec)

end Rows
end Go.Proofs.Ytjhgcdjpabhifaa
