/-
  No cell of these rows narrows 'for every input' (looked for: loops, veiled, ifaces, maps, wideKeys, modest, calm, conditions, laid).
  DERIVED. THE GIVEN ROWS OF THIS SEAT. 12 by the template 'for every input the law returns true; each argument reads behind the call as it read before'; 0 by the template 'total and deterministic' (their statements: YtbonjmnpcklciaaTotals.lean).
  GIVEN WITH THE SEED: the statements are not yours to turn. If you find one false, say at which input.
  Laid BY PROGRAM, IN A SANDBOX (cutbox-rows.mjs): the forced cells as the released guide's own fill.sh prints them over the translation 3a5db2ec81d0edac… (all of the seat's roots in one cut). By AI agents, Wed Nov 11 2026. No macro, syntax, notation, axiom, sorry.
-/
import Derived.Test.YtbonjmnpcklciaaChecked
import GoSem.Claim
import GoSem.ClaimJoined
import GoSem.ClaimMapViews
import Derived.JoinedTies
import Derived.KernelRfl
namespace Go.Proofs.Ytbonjmnpcklciaa
/- THE CELL 'sum', in the pinned program and in every row, IS THE sha256 OF THE DUMP (.gsa) THAT YtbonjmnpcklciaaProg.lean LOADS. Nothing in Lean hashes anything: it is a label: what it is worth is what the hold of that sum in a sandbox is worth. -/
noncomputable def Try.pinned : Pinned := { name := "ytbonjmnpcklciaa", sum := "3a5db2ec81d0edac222cfbaf5efbb2c3db4d6461a31b57ec19860ad608d6d650", checked := Try.checked }
namespace Rows
def none {H : Type} : Left H := { results := [], args := [] }

/-- 'laws.FnExactReadSector': WHATEVER THE INPUT: true; the input reads as it did. -/
def fnExactReadSectorSpec : ChangeSpec := { name := "fnExactReadSector", fn := fun _ => fun
  | [d1, d2] => { results := [.lit (.bool true)], args := [d1, d2] }
  | _ => none }
def fnExactReadSectorRow : OpenClaim := { program := "ytbonjmnpcklciaa", sum := "3a5db2ec81d0edac222cfbaf5efbb2c3db4d6461a31b57ec19860ad608d6d650", func := "loop.example/g00105/laws.FnExactReadSector", spec := "fnExactReadSector", apart := false }
def FnExactReadSectorSaid : Prop := fnExactReadSectorRow.holds Try.pinned (OpenSpec.ofChange fnExactReadSectorSpec)

/-- ITS FALSE NEIGHBOUR: 'it returns false'. Refute it at one input. -/
def fnExactReadSectorWrong : ChangeSpec := { name := "fnExactReadSector", fn := fun _ => fun
  | [d1, d2] => { results := [.lit (.bool false)], args := [d1, d2] }
  | _ => none }
def FnExactReadSectorWrongFalsely : Prop := fnExactReadSectorRow.holds Try.pinned (OpenSpec.ofChange fnExactReadSectorWrong)

/-- 'laws.FnRoots': WHATEVER THE INPUT: true; the input reads as it did. -/
def fnRootsSpec : ChangeSpec := { name := "fnRoots", fn := fun _ => fun
  | [d] => { results := [.lit (.bool true)], args := [d] }
  | _ => none }
def fnRootsRow : OpenClaim := { program := "ytbonjmnpcklciaa", sum := "3a5db2ec81d0edac222cfbaf5efbb2c3db4d6461a31b57ec19860ad608d6d650", func := "loop.example/g00105/laws.FnRoots", spec := "fnRoots", apart := false }
def FnRootsSaid : Prop := fnRootsRow.holds Try.pinned (OpenSpec.ofChange fnRootsSpec)

/-- ITS FALSE NEIGHBOUR: 'it returns false'. Refute it at one input. -/
def fnRootsWrong : ChangeSpec := { name := "fnRoots", fn := fun _ => fun
  | [d] => { results := [.lit (.bool false)], args := [d] }
  | _ => none }
def FnRootsWrongFalsely : Prop := fnRootsRow.holds Try.pinned (OpenSpec.ofChange fnRootsWrong)

/-- 'laws.FnExactMatchOk': WHATEVER THE INPUT: true; the input reads as it did. -/
def fnExactMatchOkSpec : ChangeSpec := { name := "fnExactMatchOk", fn := fun _ => fun
  | [d1, d2] => { results := [.lit (.bool true)], args := [d1, d2] }
  | _ => none }
def fnExactMatchOkRow : OpenClaim := { program := "ytbonjmnpcklciaa", sum := "3a5db2ec81d0edac222cfbaf5efbb2c3db4d6461a31b57ec19860ad608d6d650", func := "loop.example/g00105/laws.FnExactMatchOk", spec := "fnExactMatchOk", apart := false }
def FnExactMatchOkSaid : Prop := fnExactMatchOkRow.holds Try.pinned (OpenSpec.ofChange fnExactMatchOkSpec)

/-- ITS FALSE NEIGHBOUR: 'it returns false'. Refute it at one input. -/
def fnExactMatchOkWrong : ChangeSpec := { name := "fnExactMatchOk", fn := fun _ => fun
  | [d1, d2] => { results := [.lit (.bool false)], args := [d1, d2] }
  | _ => none }
def FnExactMatchOkWrongFalsely : Prop := fnExactMatchOkRow.holds Try.pinned (OpenSpec.ofChange fnExactMatchOkWrong)

/-- 'laws.FnExactWriteSector': WHATEVER THE INPUT: true; the input reads as it did. -/
def fnExactWriteSectorSpec : ChangeSpec := { name := "fnExactWriteSector", fn := fun _ => fun
  | [d1, d2, d3] => { results := [.lit (.bool true)], args := [d1, d2, d3] }
  | _ => none }
def fnExactWriteSectorRow : OpenClaim := { program := "ytbonjmnpcklciaa", sum := "3a5db2ec81d0edac222cfbaf5efbb2c3db4d6461a31b57ec19860ad608d6d650", func := "loop.example/g00105/laws.FnExactWriteSector", spec := "fnExactWriteSector", apart := false }
def FnExactWriteSectorSaid : Prop := fnExactWriteSectorRow.holds Try.pinned (OpenSpec.ofChange fnExactWriteSectorSpec)

/-- ITS FALSE NEIGHBOUR: 'it returns false'. Refute it at one input. -/
def fnExactWriteSectorWrong : ChangeSpec := { name := "fnExactWriteSector", fn := fun _ => fun
  | [d1, d2, d3] => { results := [.lit (.bool false)], args := [d1, d2, d3] }
  | _ => none }
def FnExactWriteSectorWrongFalsely : Prop := fnExactWriteSectorRow.holds Try.pinned (OpenSpec.ofChange fnExactWriteSectorWrong)

/-- 'laws.FnExactFlushDevice': WHATEVER THE INPUT: true; the input reads as it did. -/
def fnExactFlushDeviceSpec : ChangeSpec := { name := "fnExactFlushDevice", fn := fun _ => fun
  | [d] => { results := [.lit (.bool true)], args := [d] }
  | _ => none }
def fnExactFlushDeviceRow : OpenClaim := { program := "ytbonjmnpcklciaa", sum := "3a5db2ec81d0edac222cfbaf5efbb2c3db4d6461a31b57ec19860ad608d6d650", func := "loop.example/g00105/laws.FnExactFlushDevice", spec := "fnExactFlushDevice", apart := false }
def FnExactFlushDeviceSaid : Prop := fnExactFlushDeviceRow.holds Try.pinned (OpenSpec.ofChange fnExactFlushDeviceSpec)

/-- ITS FALSE NEIGHBOUR: 'it returns false'. Refute it at one input. -/
def fnExactFlushDeviceWrong : ChangeSpec := { name := "fnExactFlushDevice", fn := fun _ => fun
  | [d] => { results := [.lit (.bool false)], args := [d] }
  | _ => none }
def FnExactFlushDeviceWrongFalsely : Prop := fnExactFlushDeviceRow.holds Try.pinned (OpenSpec.ofChange fnExactFlushDeviceWrong)

/-- 'laws.FnExactInduced': WHATEVER THE INPUT: true; the input reads as it did. -/
def fnExactInducedSpec : ChangeSpec := { name := "fnExactInduced", fn := fun _ => fun
  | [d1, d2] => { results := [.lit (.bool true)], args := [d1, d2] }
  | _ => none }
def fnExactInducedRow : OpenClaim := { program := "ytbonjmnpcklciaa", sum := "3a5db2ec81d0edac222cfbaf5efbb2c3db4d6461a31b57ec19860ad608d6d650", func := "loop.example/g00105/laws.FnExactInduced", spec := "fnExactInduced", apart := false }
def FnExactInducedSaid : Prop := fnExactInducedRow.holds Try.pinned (OpenSpec.ofChange fnExactInducedSpec)

/-- ITS FALSE NEIGHBOUR: 'it returns false'. Refute it at one input. -/
def fnExactInducedWrong : ChangeSpec := { name := "fnExactInduced", fn := fun _ => fun
  | [d1, d2] => { results := [.lit (.bool false)], args := [d1, d2] }
  | _ => none }
def FnExactInducedWrongFalsely : Prop := fnExactInducedRow.holds Try.pinned (OpenSpec.ofChange fnExactInducedWrong)

/-- 'laws.FnExactSumsOf': WHATEVER THE INPUT: true; the input reads as it did. -/
def fnExactSumsOfSpec : ChangeSpec := { name := "fnExactSumsOf", fn := fun _ => fun
  | [d1, d2] => { results := [.lit (.bool true)], args := [d1, d2] }
  | _ => none }
def fnExactSumsOfRow : OpenClaim := { program := "ytbonjmnpcklciaa", sum := "3a5db2ec81d0edac222cfbaf5efbb2c3db4d6461a31b57ec19860ad608d6d650", func := "loop.example/g00105/laws.FnExactSumsOf", spec := "fnExactSumsOf", apart := false }
def FnExactSumsOfSaid : Prop := fnExactSumsOfRow.holds Try.pinned (OpenSpec.ofChange fnExactSumsOfSpec)

/-- ITS FALSE NEIGHBOUR: 'it returns false'. Refute it at one input. -/
def fnExactSumsOfWrong : ChangeSpec := { name := "fnExactSumsOf", fn := fun _ => fun
  | [d1, d2] => { results := [.lit (.bool false)], args := [d1, d2] }
  | _ => none }
def FnExactSumsOfWrongFalsely : Prop := fnExactSumsOfRow.holds Try.pinned (OpenSpec.ofChange fnExactSumsOfWrong)

/-- 'laws.FnExactPageText': WHATEVER THE INPUT: true; the input reads as it did. -/
def fnExactPageTextSpec : ChangeSpec := { name := "fnExactPageText", fn := fun _ => fun
  | [d] => { results := [.lit (.bool true)], args := [d] }
  | _ => none }
def fnExactPageTextRow : OpenClaim := { program := "ytbonjmnpcklciaa", sum := "3a5db2ec81d0edac222cfbaf5efbb2c3db4d6461a31b57ec19860ad608d6d650", func := "loop.example/g00105/laws.FnExactPageText", spec := "fnExactPageText", apart := false }
def FnExactPageTextSaid : Prop := fnExactPageTextRow.holds Try.pinned (OpenSpec.ofChange fnExactPageTextSpec)

/-- ITS FALSE NEIGHBOUR: 'it returns false'. Refute it at one input. -/
def fnExactPageTextWrong : ChangeSpec := { name := "fnExactPageText", fn := fun _ => fun
  | [d] => { results := [.lit (.bool false)], args := [d] }
  | _ => none }
def FnExactPageTextWrongFalsely : Prop := fnExactPageTextRow.holds Try.pinned (OpenSpec.ofChange fnExactPageTextWrong)

/-- 'laws.FnExactFreeOf': WHATEVER THE INPUT: true; the input reads as it did. -/
def fnExactFreeOfSpec : ChangeSpec := { name := "fnExactFreeOf", fn := fun _ => fun
  | [d1, d2] => { results := [.lit (.bool true)], args := [d1, d2] }
  | _ => none }
def fnExactFreeOfRow : OpenClaim := { program := "ytbonjmnpcklciaa", sum := "3a5db2ec81d0edac222cfbaf5efbb2c3db4d6461a31b57ec19860ad608d6d650", func := "loop.example/g00105/laws.FnExactFreeOf", spec := "fnExactFreeOf", apart := false }
def FnExactFreeOfSaid : Prop := fnExactFreeOfRow.holds Try.pinned (OpenSpec.ofChange fnExactFreeOfSpec)

/-- ITS FALSE NEIGHBOUR: 'it returns false'. Refute it at one input. -/
def fnExactFreeOfWrong : ChangeSpec := { name := "fnExactFreeOf", fn := fun _ => fun
  | [d1, d2] => { results := [.lit (.bool false)], args := [d1, d2] }
  | _ => none }
def FnExactFreeOfWrongFalsely : Prop := fnExactFreeOfRow.holds Try.pinned (OpenSpec.ofChange fnExactFreeOfWrong)

/-- 'laws.FnExactFormatStore': WHATEVER THE INPUT: true; the input reads as it did. -/
def fnExactFormatStoreSpec : ChangeSpec := { name := "fnExactFormatStore", fn := fun _ => fun
  | [d] => { results := [.lit (.bool true)], args := [d] }
  | _ => none }
def fnExactFormatStoreRow : OpenClaim := { program := "ytbonjmnpcklciaa", sum := "3a5db2ec81d0edac222cfbaf5efbb2c3db4d6461a31b57ec19860ad608d6d650", func := "loop.example/g00105/laws.FnExactFormatStore", spec := "fnExactFormatStore", apart := false }
def FnExactFormatStoreSaid : Prop := fnExactFormatStoreRow.holds Try.pinned (OpenSpec.ofChange fnExactFormatStoreSpec)

/-- ITS FALSE NEIGHBOUR: 'it returns false'. Refute it at one input. -/
def fnExactFormatStoreWrong : ChangeSpec := { name := "fnExactFormatStore", fn := fun _ => fun
  | [d] => { results := [.lit (.bool false)], args := [d] }
  | _ => none }
def FnExactFormatStoreWrongFalsely : Prop := fnExactFormatStoreRow.holds Try.pinned (OpenSpec.ofChange fnExactFormatStoreWrong)

/-- 'laws.FnExactLastRoot': WHATEVER THE INPUT: true; the input reads as it did. -/
def fnExactLastRootSpec : ChangeSpec := { name := "fnExactLastRoot", fn := fun _ => fun
  | [d] => { results := [.lit (.bool true)], args := [d] }
  | _ => none }
def fnExactLastRootRow : OpenClaim := { program := "ytbonjmnpcklciaa", sum := "3a5db2ec81d0edac222cfbaf5efbb2c3db4d6461a31b57ec19860ad608d6d650", func := "loop.example/g00105/laws.FnExactLastRoot", spec := "fnExactLastRoot", apart := false }
def FnExactLastRootSaid : Prop := fnExactLastRootRow.holds Try.pinned (OpenSpec.ofChange fnExactLastRootSpec)

/-- ITS FALSE NEIGHBOUR: 'it returns false'. Refute it at one input. -/
def fnExactLastRootWrong : ChangeSpec := { name := "fnExactLastRoot", fn := fun _ => fun
  | [d] => { results := [.lit (.bool false)], args := [d] }
  | _ => none }
def FnExactLastRootWrongFalsely : Prop := fnExactLastRootRow.holds Try.pinned (OpenSpec.ofChange fnExactLastRootWrong)

/-- 'laws.FnExactProofOk': WHATEVER THE INPUT: true; the input reads as it did. -/
def fnExactProofOkSpec : ChangeSpec := { name := "fnExactProofOk", fn := fun _ => fun
  | [d1, d2] => { results := [.lit (.bool true)], args := [d1, d2] }
  | _ => none }
def fnExactProofOkRow : OpenClaim := { program := "ytbonjmnpcklciaa", sum := "3a5db2ec81d0edac222cfbaf5efbb2c3db4d6461a31b57ec19860ad608d6d650", func := "loop.example/g00105/laws.FnExactProofOk", spec := "fnExactProofOk", apart := false }
def FnExactProofOkSaid : Prop := fnExactProofOkRow.holds Try.pinned (OpenSpec.ofChange fnExactProofOkSpec)

/-- ITS FALSE NEIGHBOUR: 'it returns false'. Refute it at one input. -/
def fnExactProofOkWrong : ChangeSpec := { name := "fnExactProofOk", fn := fun _ => fun
  | [d1, d2] => { results := [.lit (.bool false)], args := [d1, d2] }
  | _ => none }
def FnExactProofOkWrongFalsely : Prop := fnExactProofOkRow.holds Try.pinned (OpenSpec.ofChange fnExactProofOkWrong)

/- THE SECOND FORM. 'bulk': how many values and letters a reading holds, each counted each time it is reached (what is shared counts as often as it is met; a slice's spare places count too). A statement '..UptoSaid' is the law's where the arguments, and the package variables that the reading takes, are together of bulk at most 1048576: NARROWER than '..Said'. Prove '..Said' where nothing that the law and all that it calls make is longer than what came in: it says more and counts as full. Else prove '..UptoSaid'. A law counts once. -/
mutual
def uptoBulk {H : Type} : DataW H → Nat
  | .lit (.string bytes) => bytes.length + 1
  | .lit _ => 1
  | .nil => 1
  | .ptr d => uptoBulk d + 1
  | .slice elems spare => uptoBulkAll elems + uptoBulkAll spare + 1
  | .agg parts => uptoBulkAll parts + 1
  | .iface _ d => uptoBulk d + 1
  | .map entries => uptoBulkEntries entries + 1
  | .held _ => 1
def uptoBulkAll {H : Type} : List (DataW H) → Nat
  | [] => 0
  | d :: r => uptoBulk d + uptoBulkAll r
def uptoBulkEntries {H : Type} : List (Lit × DataW H) → Nat
  | [] => 0
  | x :: r => uptoBulkEntry x + uptoBulkEntries r
def uptoBulkEntry {H : Type} : Lit × DataW H → Nat
  | (.string bytes, d) => bytes.length + uptoBulk d + 1
  | (_, d) => uptoBulk d + 1
 end
def uptoSmall : (H : Type) → List (DataW H) → Bool := fun _ ds => decide (uptoBulkAll ds ≤ 1048576)
def OpenSpec.upto (s : _root_.Go.ChangeSpec) : _root_.Go.OpenSpec := { _root_.Go.OpenSpec.ofChange s with cond := some uptoSmall }

/-- 'laws.FnExactReadSector', WHERE WHAT IT READS IS OF BULK AT MOST 1048576: true; the input reads as it did. -/
def fnExactReadSectorUptoRow : OpenClaim := { program := "ytbonjmnpcklciaa", sum := "3a5db2ec81d0edac222cfbaf5efbb2c3db4d6461a31b57ec19860ad608d6d650", func := "loop.example/g00105/laws.FnExactReadSector", spec := "fnExactReadSector", apart := false, narrowed := true }
def FnExactReadSectorUptoSaid : Prop := fnExactReadSectorUptoRow.holds Try.pinned (OpenSpec.upto fnExactReadSectorSpec)

/-- 'laws.FnRoots', WHERE WHAT IT READS IS OF BULK AT MOST 1048576: true; the input reads as it did. -/
def fnRootsUptoRow : OpenClaim := { program := "ytbonjmnpcklciaa", sum := "3a5db2ec81d0edac222cfbaf5efbb2c3db4d6461a31b57ec19860ad608d6d650", func := "loop.example/g00105/laws.FnRoots", spec := "fnRoots", apart := false, narrowed := true }
def FnRootsUptoSaid : Prop := fnRootsUptoRow.holds Try.pinned (OpenSpec.upto fnRootsSpec)

/-- 'laws.FnExactMatchOk', WHERE WHAT IT READS IS OF BULK AT MOST 1048576: true; the input reads as it did. -/
def fnExactMatchOkUptoRow : OpenClaim := { program := "ytbonjmnpcklciaa", sum := "3a5db2ec81d0edac222cfbaf5efbb2c3db4d6461a31b57ec19860ad608d6d650", func := "loop.example/g00105/laws.FnExactMatchOk", spec := "fnExactMatchOk", apart := false, narrowed := true }
def FnExactMatchOkUptoSaid : Prop := fnExactMatchOkUptoRow.holds Try.pinned (OpenSpec.upto fnExactMatchOkSpec)

/-- 'laws.FnExactWriteSector', WHERE WHAT IT READS IS OF BULK AT MOST 1048576: true; the input reads as it did. -/
def fnExactWriteSectorUptoRow : OpenClaim := { program := "ytbonjmnpcklciaa", sum := "3a5db2ec81d0edac222cfbaf5efbb2c3db4d6461a31b57ec19860ad608d6d650", func := "loop.example/g00105/laws.FnExactWriteSector", spec := "fnExactWriteSector", apart := false, narrowed := true }
def FnExactWriteSectorUptoSaid : Prop := fnExactWriteSectorUptoRow.holds Try.pinned (OpenSpec.upto fnExactWriteSectorSpec)

/-- 'laws.FnExactFlushDevice', WHERE WHAT IT READS IS OF BULK AT MOST 1048576: true; the input reads as it did. -/
def fnExactFlushDeviceUptoRow : OpenClaim := { program := "ytbonjmnpcklciaa", sum := "3a5db2ec81d0edac222cfbaf5efbb2c3db4d6461a31b57ec19860ad608d6d650", func := "loop.example/g00105/laws.FnExactFlushDevice", spec := "fnExactFlushDevice", apart := false, narrowed := true }
def FnExactFlushDeviceUptoSaid : Prop := fnExactFlushDeviceUptoRow.holds Try.pinned (OpenSpec.upto fnExactFlushDeviceSpec)

/-- 'laws.FnExactInduced', WHERE WHAT IT READS IS OF BULK AT MOST 1048576: true; the input reads as it did. -/
def fnExactInducedUptoRow : OpenClaim := { program := "ytbonjmnpcklciaa", sum := "3a5db2ec81d0edac222cfbaf5efbb2c3db4d6461a31b57ec19860ad608d6d650", func := "loop.example/g00105/laws.FnExactInduced", spec := "fnExactInduced", apart := false, narrowed := true }
def FnExactInducedUptoSaid : Prop := fnExactInducedUptoRow.holds Try.pinned (OpenSpec.upto fnExactInducedSpec)

/-- 'laws.FnExactSumsOf', WHERE WHAT IT READS IS OF BULK AT MOST 1048576: true; the input reads as it did. -/
def fnExactSumsOfUptoRow : OpenClaim := { program := "ytbonjmnpcklciaa", sum := "3a5db2ec81d0edac222cfbaf5efbb2c3db4d6461a31b57ec19860ad608d6d650", func := "loop.example/g00105/laws.FnExactSumsOf", spec := "fnExactSumsOf", apart := false, narrowed := true }
def FnExactSumsOfUptoSaid : Prop := fnExactSumsOfUptoRow.holds Try.pinned (OpenSpec.upto fnExactSumsOfSpec)

/-- 'laws.FnExactPageText', WHERE WHAT IT READS IS OF BULK AT MOST 1048576: true; the input reads as it did. -/
def fnExactPageTextUptoRow : OpenClaim := { program := "ytbonjmnpcklciaa", sum := "3a5db2ec81d0edac222cfbaf5efbb2c3db4d6461a31b57ec19860ad608d6d650", func := "loop.example/g00105/laws.FnExactPageText", spec := "fnExactPageText", apart := false, narrowed := true }
def FnExactPageTextUptoSaid : Prop := fnExactPageTextUptoRow.holds Try.pinned (OpenSpec.upto fnExactPageTextSpec)

/-- 'laws.FnExactFreeOf', WHERE WHAT IT READS IS OF BULK AT MOST 1048576: true; the input reads as it did. -/
def fnExactFreeOfUptoRow : OpenClaim := { program := "ytbonjmnpcklciaa", sum := "3a5db2ec81d0edac222cfbaf5efbb2c3db4d6461a31b57ec19860ad608d6d650", func := "loop.example/g00105/laws.FnExactFreeOf", spec := "fnExactFreeOf", apart := false, narrowed := true }
def FnExactFreeOfUptoSaid : Prop := fnExactFreeOfUptoRow.holds Try.pinned (OpenSpec.upto fnExactFreeOfSpec)

/-- 'laws.FnExactFormatStore', WHERE WHAT IT READS IS OF BULK AT MOST 1048576: true; the input reads as it did. -/
def fnExactFormatStoreUptoRow : OpenClaim := { program := "ytbonjmnpcklciaa", sum := "3a5db2ec81d0edac222cfbaf5efbb2c3db4d6461a31b57ec19860ad608d6d650", func := "loop.example/g00105/laws.FnExactFormatStore", spec := "fnExactFormatStore", apart := false, narrowed := true }
def FnExactFormatStoreUptoSaid : Prop := fnExactFormatStoreUptoRow.holds Try.pinned (OpenSpec.upto fnExactFormatStoreSpec)

/-- 'laws.FnExactLastRoot', WHERE WHAT IT READS IS OF BULK AT MOST 1048576: true; the input reads as it did. -/
def fnExactLastRootUptoRow : OpenClaim := { program := "ytbonjmnpcklciaa", sum := "3a5db2ec81d0edac222cfbaf5efbb2c3db4d6461a31b57ec19860ad608d6d650", func := "loop.example/g00105/laws.FnExactLastRoot", spec := "fnExactLastRoot", apart := false, narrowed := true }
def FnExactLastRootUptoSaid : Prop := fnExactLastRootUptoRow.holds Try.pinned (OpenSpec.upto fnExactLastRootSpec)

/-- 'laws.FnExactProofOk', WHERE WHAT IT READS IS OF BULK AT MOST 1048576: true; the input reads as it did. -/
def fnExactProofOkUptoRow : OpenClaim := { program := "ytbonjmnpcklciaa", sum := "3a5db2ec81d0edac222cfbaf5efbb2c3db4d6461a31b57ec19860ad608d6d650", func := "loop.example/g00105/laws.FnExactProofOk", spec := "fnExactProofOk", apart := false, narrowed := true }
def FnExactProofOkUptoSaid : Prop := fnExactProofOkUptoRow.holds Try.pinned (OpenSpec.upto fnExactProofOkSpec)

end Rows
end Go.Proofs.Ytbonjmnpcklciaa
