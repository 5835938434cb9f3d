/-
  No cell of these rows narrows 'for every input' (looked for: loops, veiled, ifaces, maps, wideKeys, modest, calm, conditions, laid).
  DERIVED. THE GIVEN ROWS OF THIS SEAT. 9 by the template 'for every input the law returns true; each argument reads behind the call as it read before'; 0 by the template 'total and deterministic' (their statements: YtfmemcffbfahhaaTotals.lean).
  GIVEN WITH THE SEED: the statements are not yours to turn. If you find one false, say at which input.
  Laid BY PROGRAM, IN A SANDBOX (cutbox-rows.mjs): the forced cells as the released guide's own fill.sh prints them over the translation d73ed2c772b0346d… (all of the seat's roots in one cut). By AI agents, Wed Nov 11 2026. No macro, syntax, notation, axiom, sorry.
-/
import Derived.Test.YtfmemcffbfahhaaChecked
import GoSem.Claim
import GoSem.ClaimJoined
import GoSem.ClaimMapViews
import Derived.JoinedTies
import Derived.KernelRfl
namespace Go.Proofs.Ytfmemcffbfahhaa
/- THE CELL 'sum', in the pinned program and in every row, IS THE sha256 OF THE DUMP (.gsa) THAT YtfmemcffbfahhaaProg.lean LOADS. Nothing in Lean hashes anything: it is a label: what it is worth is what the hold of that sum in a sandbox is worth. -/
noncomputable def Try.pinned : Pinned := { name := "ytfmemcffbfahhaa", sum := "d73ed2c772b0346d2293f3656f03fe5c1c1de998ebe746ec67387cc2f872de19", checked := Try.checked }
namespace Rows
def none {H : Type} : Left H := { results := [], args := [] }

/-- 'laws.FnInduced': WHATEVER THE INPUT: true; the input reads as it did. -/
def fnInducedSpec : ChangeSpec := { name := "fnInduced", fn := fun _ => fun
  | [d] => { results := [.lit (.bool true)], args := [d] }
  | _ => none }
def fnInducedRow : OpenClaim := { program := "ytfmemcffbfahhaa", sum := "d73ed2c772b0346d2293f3656f03fe5c1c1de998ebe746ec67387cc2f872de19", func := "loop.example/g00105/laws.FnInduced", spec := "fnInduced", apart := false }
def FnInducedSaid : Prop := fnInducedRow.holds Try.pinned (OpenSpec.ofChange fnInducedSpec)

/-- ITS FALSE NEIGHBOUR: 'it returns false'. Refute it at one input. -/
def fnInducedWrong : ChangeSpec := { name := "fnInduced", fn := fun _ => fun
  | [d] => { results := [.lit (.bool false)], args := [d] }
  | _ => none }
def FnInducedWrongFalsely : Prop := fnInducedRow.holds Try.pinned (OpenSpec.ofChange fnInducedWrong)

/-- 'laws.FnDevices': WHATEVER THE INPUT: true; the input reads as it did. -/
def fnDevicesSpec : ChangeSpec := { name := "fnDevices", fn := fun _ => fun
  | [d] => { results := [.lit (.bool true)], args := [d] }
  | _ => none }
def fnDevicesRow : OpenClaim := { program := "ytfmemcffbfahhaa", sum := "d73ed2c772b0346d2293f3656f03fe5c1c1de998ebe746ec67387cc2f872de19", func := "loop.example/g00105/laws.FnDevices", spec := "fnDevices", apart := false }
def FnDevicesSaid : Prop := fnDevicesRow.holds Try.pinned (OpenSpec.ofChange fnDevicesSpec)

/-- ITS FALSE NEIGHBOUR: 'it returns false'. Refute it at one input. -/
def fnDevicesWrong : ChangeSpec := { name := "fnDevices", fn := fun _ => fun
  | [d] => { results := [.lit (.bool false)], args := [d] }
  | _ => none }
def FnDevicesWrongFalsely : Prop := fnDevicesRow.holds Try.pinned (OpenSpec.ofChange fnDevicesWrong)

/-- 'laws.FnExactReadPage': WHATEVER THE INPUT: true; the input reads as it did. -/
def fnExactReadPageSpec : ChangeSpec := { name := "fnExactReadPage", fn := fun _ => fun
  | [d] => { results := [.lit (.bool true)], args := [d] }
  | _ => none }
def fnExactReadPageRow : OpenClaim := { program := "ytfmemcffbfahhaa", sum := "d73ed2c772b0346d2293f3656f03fe5c1c1de998ebe746ec67387cc2f872de19", func := "loop.example/g00105/laws.FnExactReadPage", spec := "fnExactReadPage", apart := false }
def FnExactReadPageSaid : Prop := fnExactReadPageRow.holds Try.pinned (OpenSpec.ofChange fnExactReadPageSpec)

/-- ITS FALSE NEIGHBOUR: 'it returns false'. Refute it at one input. -/
def fnExactReadPageWrong : ChangeSpec := { name := "fnExactReadPage", fn := fun _ => fun
  | [d] => { results := [.lit (.bool false)], args := [d] }
  | _ => none }
def FnExactReadPageWrongFalsely : Prop := fnExactReadPageRow.holds Try.pinned (OpenSpec.ofChange fnExactReadPageWrong)

/-- 'laws.FnCuts': WHATEVER THE INPUT: true; the input reads as it did. -/
def fnCutsSpec : ChangeSpec := { name := "fnCuts", fn := fun _ => fun
  | [d] => { results := [.lit (.bool true)], args := [d] }
  | _ => none }
def fnCutsRow : OpenClaim := { program := "ytfmemcffbfahhaa", sum := "d73ed2c772b0346d2293f3656f03fe5c1c1de998ebe746ec67387cc2f872de19", func := "loop.example/g00105/laws.FnCuts", spec := "fnCuts", apart := false }
def FnCutsSaid : Prop := fnCutsRow.holds Try.pinned (OpenSpec.ofChange fnCutsSpec)

/-- ITS FALSE NEIGHBOUR: 'it returns false'. Refute it at one input. -/
def fnCutsWrong : ChangeSpec := { name := "fnCuts", fn := fun _ => fun
  | [d] => { results := [.lit (.bool false)], args := [d] }
  | _ => none }
def FnCutsWrongFalsely : Prop := fnCutsRow.holds Try.pinned (OpenSpec.ofChange fnCutsWrong)

/-- 'laws.FnExactCountMatches': WHATEVER THE INPUT: true; the input reads as it did. -/
def fnExactCountMatchesSpec : ChangeSpec := { name := "fnExactCountMatches", fn := fun _ => fun
  | [d] => { results := [.lit (.bool true)], args := [d] }
  | _ => none }
def fnExactCountMatchesRow : OpenClaim := { program := "ytfmemcffbfahhaa", sum := "d73ed2c772b0346d2293f3656f03fe5c1c1de998ebe746ec67387cc2f872de19", func := "loop.example/g00105/laws.FnExactCountMatches", spec := "fnExactCountMatches", unfollowed := true, recurses := true, apart := false }
def FnExactCountMatchesSaid : Prop := fnExactCountMatchesRow.holds Try.pinned (OpenSpec.ofChange fnExactCountMatchesSpec)

/-- ITS FALSE NEIGHBOUR: 'it returns false'. Refute it at one input. -/
def fnExactCountMatchesWrong : ChangeSpec := { name := "fnExactCountMatches", fn := fun _ => fun
  | [d] => { results := [.lit (.bool false)], args := [d] }
  | _ => none }
def FnExactCountMatchesWrongFalsely : Prop := fnExactCountMatchesRow.holds Try.pinned (OpenSpec.ofChange fnExactCountMatchesWrong)

/-- 'laws.FnExactBestSums': WHATEVER THE INPUT: true; the input reads as it did. -/
def fnExactBestSumsSpec : ChangeSpec := { name := "fnExactBestSums", fn := fun _ => fun
  | [d] => { results := [.lit (.bool true)], args := [d] }
  | _ => none }
def fnExactBestSumsRow : OpenClaim := { program := "ytfmemcffbfahhaa", sum := "d73ed2c772b0346d2293f3656f03fe5c1c1de998ebe746ec67387cc2f872de19", func := "loop.example/g00105/laws.FnExactBestSums", spec := "fnExactBestSums", unfollowed := true, recurses := true, apart := false }
def FnExactBestSumsSaid : Prop := fnExactBestSumsRow.holds Try.pinned (OpenSpec.ofChange fnExactBestSumsSpec)

/-- ITS FALSE NEIGHBOUR: 'it returns false'. Refute it at one input. -/
def fnExactBestSumsWrong : ChangeSpec := { name := "fnExactBestSums", fn := fun _ => fun
  | [d] => { results := [.lit (.bool false)], args := [d] }
  | _ => none }
def FnExactBestSumsWrongFalsely : Prop := fnExactBestSumsRow.holds Try.pinned (OpenSpec.ofChange fnExactBestSumsWrong)

/-- 'laws.FnBest': WHATEVER THE INPUT: true; the input reads as it did. -/
def fnBestSpec : ChangeSpec := { name := "fnBest", fn := fun _ => fun
  | [d] => { results := [.lit (.bool true)], args := [d] }
  | _ => none }
def fnBestRow : OpenClaim := { program := "ytfmemcffbfahhaa", sum := "d73ed2c772b0346d2293f3656f03fe5c1c1de998ebe746ec67387cc2f872de19", func := "loop.example/g00105/laws.FnBest", spec := "fnBest", unfollowed := true, recurses := true, apart := false }
def FnBestSaid : Prop := fnBestRow.holds Try.pinned (OpenSpec.ofChange fnBestSpec)

/-- ITS FALSE NEIGHBOUR: 'it returns false'. Refute it at one input. -/
def fnBestWrong : ChangeSpec := { name := "fnBest", fn := fun _ => fun
  | [d] => { results := [.lit (.bool false)], args := [d] }
  | _ => none }
def FnBestWrongFalsely : Prop := fnBestRow.holds Try.pinned (OpenSpec.ofChange fnBestWrong)

/-- 'laws.FnTurned': WHATEVER THE INPUT: true; the input reads as it did. -/
def fnTurnedSpec : ChangeSpec := { name := "fnTurned", fn := fun _ => fun
  | [d] => { results := [.lit (.bool true)], args := [d] }
  | _ => none }
def fnTurnedRow : OpenClaim := { program := "ytfmemcffbfahhaa", sum := "d73ed2c772b0346d2293f3656f03fe5c1c1de998ebe746ec67387cc2f872de19", func := "loop.example/g00105/laws.FnTurned", spec := "fnTurned", apart := false }
def FnTurnedSaid : Prop := fnTurnedRow.holds Try.pinned (OpenSpec.ofChange fnTurnedSpec)

/-- ITS FALSE NEIGHBOUR: 'it returns false'. Refute it at one input. -/
def fnTurnedWrong : ChangeSpec := { name := "fnTurned", fn := fun _ => fun
  | [d] => { results := [.lit (.bool false)], args := [d] }
  | _ => none }
def FnTurnedWrongFalsely : Prop := fnTurnedRow.holds Try.pinned (OpenSpec.ofChange fnTurnedWrong)

/-- 'laws.FnPages': WHATEVER THE INPUT: true; the input reads as it did. -/
def fnPagesSpec : ChangeSpec := { name := "fnPages", fn := fun _ => fun
  | [d] => { results := [.lit (.bool true)], args := [d] }
  | _ => none }
def fnPagesRow : OpenClaim := { program := "ytfmemcffbfahhaa", sum := "d73ed2c772b0346d2293f3656f03fe5c1c1de998ebe746ec67387cc2f872de19", func := "loop.example/g00105/laws.FnPages", spec := "fnPages", apart := false }
def FnPagesSaid : Prop := fnPagesRow.holds Try.pinned (OpenSpec.ofChange fnPagesSpec)

/-- ITS FALSE NEIGHBOUR: 'it returns false'. Refute it at one input. -/
def fnPagesWrong : ChangeSpec := { name := "fnPages", fn := fun _ => fun
  | [d] => { results := [.lit (.bool false)], args := [d] }
  | _ => none }
def FnPagesWrongFalsely : Prop := fnPagesRow.holds Try.pinned (OpenSpec.ofChange fnPagesWrong)

/- THE SECOND FORM. 'bulk': how many values and letters a reading holds, each counted each time it is reached (what is shared counts as often as it is met; a slice's spare places count too). A statement '..UptoSaid' is the law's where the arguments, and the package variables that the reading takes, are together of bulk at most 1048576: NARROWER than '..Said'. Prove '..Said' where nothing that the law and all that it calls make is longer than what came in: it says more and counts as full. Else prove '..UptoSaid'. A law counts once. -/
mutual
def uptoBulk {H : Type} : DataW H → Nat
  | .lit (.string bytes) => bytes.length + 1
  | .lit _ => 1
  | .nil => 1
  | .ptr d => uptoBulk d + 1
  | .slice elems spare => uptoBulkAll elems + uptoBulkAll spare + 1
  | .agg parts => uptoBulkAll parts + 1
  | .iface _ d => uptoBulk d + 1
  | .map entries => uptoBulkEntries entries + 1
  | .held _ => 1
def uptoBulkAll {H : Type} : List (DataW H) → Nat
  | [] => 0
  | d :: r => uptoBulk d + uptoBulkAll r
def uptoBulkEntries {H : Type} : List (Lit × DataW H) → Nat
  | [] => 0
  | x :: r => uptoBulkEntry x + uptoBulkEntries r
def uptoBulkEntry {H : Type} : Lit × DataW H → Nat
  | (.string bytes, d) => bytes.length + uptoBulk d + 1
  | (_, d) => uptoBulk d + 1
 end
def uptoSmall : (H : Type) → List (DataW H) → Bool := fun _ ds => decide (uptoBulkAll ds ≤ 1048576)
def OpenSpec.upto (s : _root_.Go.ChangeSpec) : _root_.Go.OpenSpec := { _root_.Go.OpenSpec.ofChange s with cond := some uptoSmall }

/-- 'laws.FnInduced', WHERE WHAT IT READS IS OF BULK AT MOST 1048576: true; the input reads as it did. -/
def fnInducedUptoRow : OpenClaim := { program := "ytfmemcffbfahhaa", sum := "d73ed2c772b0346d2293f3656f03fe5c1c1de998ebe746ec67387cc2f872de19", func := "loop.example/g00105/laws.FnInduced", spec := "fnInduced", apart := false, narrowed := true }
def FnInducedUptoSaid : Prop := fnInducedUptoRow.holds Try.pinned (OpenSpec.upto fnInducedSpec)

/-- 'laws.FnDevices', WHERE WHAT IT READS IS OF BULK AT MOST 1048576: true; the input reads as it did. -/
def fnDevicesUptoRow : OpenClaim := { program := "ytfmemcffbfahhaa", sum := "d73ed2c772b0346d2293f3656f03fe5c1c1de998ebe746ec67387cc2f872de19", func := "loop.example/g00105/laws.FnDevices", spec := "fnDevices", apart := false, narrowed := true }
def FnDevicesUptoSaid : Prop := fnDevicesUptoRow.holds Try.pinned (OpenSpec.upto fnDevicesSpec)

/-- 'laws.FnExactReadPage', WHERE WHAT IT READS IS OF BULK AT MOST 1048576: true; the input reads as it did. -/
def fnExactReadPageUptoRow : OpenClaim := { program := "ytfmemcffbfahhaa", sum := "d73ed2c772b0346d2293f3656f03fe5c1c1de998ebe746ec67387cc2f872de19", func := "loop.example/g00105/laws.FnExactReadPage", spec := "fnExactReadPage", apart := false, narrowed := true }
def FnExactReadPageUptoSaid : Prop := fnExactReadPageUptoRow.holds Try.pinned (OpenSpec.upto fnExactReadPageSpec)

/-- 'laws.FnCuts', WHERE WHAT IT READS IS OF BULK AT MOST 1048576: true; the input reads as it did. -/
def fnCutsUptoRow : OpenClaim := { program := "ytfmemcffbfahhaa", sum := "d73ed2c772b0346d2293f3656f03fe5c1c1de998ebe746ec67387cc2f872de19", func := "loop.example/g00105/laws.FnCuts", spec := "fnCuts", apart := false, narrowed := true }
def FnCutsUptoSaid : Prop := fnCutsUptoRow.holds Try.pinned (OpenSpec.upto fnCutsSpec)

/-- 'laws.FnExactCountMatches', WHERE WHAT IT READS IS OF BULK AT MOST 1048576: true; the input reads as it did. -/
def fnExactCountMatchesUptoRow : OpenClaim := { program := "ytfmemcffbfahhaa", sum := "d73ed2c772b0346d2293f3656f03fe5c1c1de998ebe746ec67387cc2f872de19", func := "loop.example/g00105/laws.FnExactCountMatches", spec := "fnExactCountMatches", unfollowed := true, recurses := true, apart := false, narrowed := true }
def FnExactCountMatchesUptoSaid : Prop := fnExactCountMatchesUptoRow.holds Try.pinned (OpenSpec.upto fnExactCountMatchesSpec)

/-- 'laws.FnExactBestSums', WHERE WHAT IT READS IS OF BULK AT MOST 1048576: true; the input reads as it did. -/
def fnExactBestSumsUptoRow : OpenClaim := { program := "ytfmemcffbfahhaa", sum := "d73ed2c772b0346d2293f3656f03fe5c1c1de998ebe746ec67387cc2f872de19", func := "loop.example/g00105/laws.FnExactBestSums", spec := "fnExactBestSums", unfollowed := true, recurses := true, apart := false, narrowed := true }
def FnExactBestSumsUptoSaid : Prop := fnExactBestSumsUptoRow.holds Try.pinned (OpenSpec.upto fnExactBestSumsSpec)

/-- 'laws.FnBest', WHERE WHAT IT READS IS OF BULK AT MOST 1048576: true; the input reads as it did. -/
def fnBestUptoRow : OpenClaim := { program := "ytfmemcffbfahhaa", sum := "d73ed2c772b0346d2293f3656f03fe5c1c1de998ebe746ec67387cc2f872de19", func := "loop.example/g00105/laws.FnBest", spec := "fnBest", unfollowed := true, recurses := true, apart := false, narrowed := true }
def FnBestUptoSaid : Prop := fnBestUptoRow.holds Try.pinned (OpenSpec.upto fnBestSpec)

/-- 'laws.FnTurned', WHERE WHAT IT READS IS OF BULK AT MOST 1048576: true; the input reads as it did. -/
def fnTurnedUptoRow : OpenClaim := { program := "ytfmemcffbfahhaa", sum := "d73ed2c772b0346d2293f3656f03fe5c1c1de998ebe746ec67387cc2f872de19", func := "loop.example/g00105/laws.FnTurned", spec := "fnTurned", apart := false, narrowed := true }
def FnTurnedUptoSaid : Prop := fnTurnedUptoRow.holds Try.pinned (OpenSpec.upto fnTurnedSpec)

/-- 'laws.FnPages', WHERE WHAT IT READS IS OF BULK AT MOST 1048576: true; the input reads as it did. -/
def fnPagesUptoRow : OpenClaim := { program := "ytfmemcffbfahhaa", sum := "d73ed2c772b0346d2293f3656f03fe5c1c1de998ebe746ec67387cc2f872de19", func := "loop.example/g00105/laws.FnPages", spec := "fnPages", apart := false, narrowed := true }
def FnPagesUptoSaid : Prop := fnPagesUptoRow.holds Try.pinned (OpenSpec.upto fnPagesSpec)

end Rows
end Go.Proofs.Ytfmemcffbfahhaa
