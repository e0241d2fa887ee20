/-
  No cell of these rows narrows 'for every input' (looked for: loops, veiled, ifaces, maps, wideKeys, modest, calm, conditions, laid).
  DERIVED. THE GIVEN ROWS OF THIS SEAT. 11 by the template 'for every input the law returns true; each argument reads behind the call as it read before'; 0 by the template 'total and deterministic' (their statements: YtomfcmpdjfdnhaaTotals.lean).
  GIVEN WITH THE SEED: the statements are not yours to turn. If you find one false, say at which input.
  Laid BY PROGRAM, IN A SANDBOX (cutbox-rows.mjs): the forced cells as the released guide's own fill.sh prints them over the translation 66b4c2196b6cef1f… (all of the seat's roots in one cut). By AI agents, Wed Nov 11 2026. No macro, syntax, notation, axiom, sorry.
-/
import Derived.Test.YtomfcmpdjfdnhaaChecked
import GoSem.Claim
import GoSem.ClaimJoined
import GoSem.ClaimMapViews
import Derived.JoinedTies
import Derived.KernelRfl
namespace Go.Proofs.Ytomfcmpdjfdnhaa
/- THE CELL 'sum', in the pinned program and in every row, IS THE sha256 OF THE DUMP (.gsa) THAT YtomfcmpdjfdnhaaProg.lean LOADS. Nothing in Lean hashes anything: it is a label: what it is worth is what the hold of that sum in a sandbox is worth. -/
noncomputable def Try.pinned : Pinned := { name := "ytomfcmpdjfdnhaa", sum := "66b4c2196b6cef1ff351c2d228d4846a3ae37f60ac60c323330b79ca7319807b", checked := Try.checked }
namespace Rows
def none {H : Type} : Left H := { results := [], args := [] }

/-- 'laws.FnExactCountProofs': WHATEVER THE INPUT: true; the input reads as it did. -/
def fnExactCountProofsSpec : ChangeSpec := { name := "fnExactCountProofs", fn := fun _ => fun
  | [d1, d2, d3] => { results := [.lit (.bool true)], args := [d1, d2, d3] }
  | _ => none }
def fnExactCountProofsRow : OpenClaim := { program := "ytomfcmpdjfdnhaa", sum := "66b4c2196b6cef1ff351c2d228d4846a3ae37f60ac60c323330b79ca7319807b", func := "loop.example/g03002/laws.FnExactCountProofs", spec := "fnExactCountProofs", apart := false }
def FnExactCountProofsSaid : Prop := fnExactCountProofsRow.holds Try.pinned (OpenSpec.ofChange fnExactCountProofsSpec)

/-- ITS FALSE NEIGHBOUR: 'it returns false'. Refute it at one input. -/
def fnExactCountProofsWrong : ChangeSpec := { name := "fnExactCountProofs", fn := fun _ => fun
  | [d1, d2, d3] => { results := [.lit (.bool false)], args := [d1, d2, d3] }
  | _ => none }
def FnExactCountProofsWrongFalsely : Prop := fnExactCountProofsRow.holds Try.pinned (OpenSpec.ofChange fnExactCountProofsWrong)

/-- 'laws.FnExactFirstHidden': WHATEVER THE INPUT: true; the input reads as it did. -/
def fnExactFirstHiddenSpec : ChangeSpec := { name := "fnExactFirstHidden", fn := fun _ => fun
  | [d1, d2] => { results := [.lit (.bool true)], args := [d1, d2] }
  | _ => none }
def fnExactFirstHiddenRow : OpenClaim := { program := "ytomfcmpdjfdnhaa", sum := "66b4c2196b6cef1ff351c2d228d4846a3ae37f60ac60c323330b79ca7319807b", func := "loop.example/g03002/laws.FnExactFirstHidden", spec := "fnExactFirstHidden", apart := false }
def FnExactFirstHiddenSaid : Prop := fnExactFirstHiddenRow.holds Try.pinned (OpenSpec.ofChange fnExactFirstHiddenSpec)

/-- ITS FALSE NEIGHBOUR: 'it returns false'. Refute it at one input. -/
def fnExactFirstHiddenWrong : ChangeSpec := { name := "fnExactFirstHidden", fn := fun _ => fun
  | [d1, d2] => { results := [.lit (.bool false)], args := [d1, d2] }
  | _ => none }
def FnExactFirstHiddenWrongFalsely : Prop := fnExactFirstHiddenRow.holds Try.pinned (OpenSpec.ofChange fnExactFirstHiddenWrong)

/-- 'laws.FnPossession': WHATEVER THE INPUT: true; the input reads as it did. -/
def fnPossessionSpec : ChangeSpec := { name := "fnPossession", fn := fun _ => fun
  | [d] => { results := [.lit (.bool true)], args := [d] }
  | _ => none }
def fnPossessionRow : OpenClaim := { program := "ytomfcmpdjfdnhaa", sum := "66b4c2196b6cef1ff351c2d228d4846a3ae37f60ac60c323330b79ca7319807b", func := "loop.example/g03002/laws.FnPossession", spec := "fnPossession", apart := false }
def FnPossessionSaid : Prop := fnPossessionRow.holds Try.pinned (OpenSpec.ofChange fnPossessionSpec)

/-- ITS FALSE NEIGHBOUR: 'it returns false'. Refute it at one input. -/
def fnPossessionWrong : ChangeSpec := { name := "fnPossession", fn := fun _ => fun
  | [d] => { results := [.lit (.bool false)], args := [d] }
  | _ => none }
def FnPossessionWrongFalsely : Prop := fnPossessionRow.holds Try.pinned (OpenSpec.ofChange fnPossessionWrong)

/-- 'laws.FnExcluded': WHATEVER THE INPUT: true; the input reads as it did. -/
def fnExcludedSpec : ChangeSpec := { name := "fnExcluded", fn := fun _ => fun
  | [d] => { results := [.lit (.bool true)], args := [d] }
  | _ => none }
def fnExcludedRow : OpenClaim := { program := "ytomfcmpdjfdnhaa", sum := "66b4c2196b6cef1ff351c2d228d4846a3ae37f60ac60c323330b79ca7319807b", func := "loop.example/g03002/laws.FnExcluded", spec := "fnExcluded", unfollowed := true, recurses := true, apart := false }
def FnExcludedSaid : Prop := fnExcludedRow.holds Try.pinned (OpenSpec.ofChange fnExcludedSpec)

/-- ITS FALSE NEIGHBOUR: 'it returns false'. Refute it at one input. -/
def fnExcludedWrong : ChangeSpec := { name := "fnExcluded", fn := fun _ => fun
  | [d] => { results := [.lit (.bool false)], args := [d] }
  | _ => none }
def FnExcludedWrongFalsely : Prop := fnExcludedRow.holds Try.pinned (OpenSpec.ofChange fnExcludedWrong)

/-- 'laws.FnExactFirstSeen': WHATEVER THE INPUT: true; the input reads as it did. -/
def fnExactFirstSeenSpec : ChangeSpec := { name := "fnExactFirstSeen", fn := fun _ => fun
  | [d1, d2, d3] => { results := [.lit (.bool true)], args := [d1, d2, d3] }
  | _ => none }
def fnExactFirstSeenRow : OpenClaim := { program := "ytomfcmpdjfdnhaa", sum := "66b4c2196b6cef1ff351c2d228d4846a3ae37f60ac60c323330b79ca7319807b", func := "loop.example/g03002/laws.FnExactFirstSeen", spec := "fnExactFirstSeen", apart := false }
def FnExactFirstSeenSaid : Prop := fnExactFirstSeenRow.holds Try.pinned (OpenSpec.ofChange fnExactFirstSeenSpec)

/-- ITS FALSE NEIGHBOUR: 'it returns false'. Refute it at one input. -/
def fnExactFirstSeenWrong : ChangeSpec := { name := "fnExactFirstSeen", fn := fun _ => fun
  | [d1, d2, d3] => { results := [.lit (.bool false)], args := [d1, d2, d3] }
  | _ => none }
def FnExactFirstSeenWrongFalsely : Prop := fnExactFirstSeenRow.holds Try.pinned (OpenSpec.ofChange fnExactFirstSeenWrong)

/-- 'laws.FnExactEqualEditions': WHATEVER THE INPUT: true; the input reads as it did. -/
def fnExactEqualEditionsSpec : ChangeSpec := { name := "fnExactEqualEditions", fn := fun _ => fun
  | [d1, d2] => { results := [.lit (.bool true)], args := [d1, d2] }
  | _ => none }
def fnExactEqualEditionsRow : OpenClaim := { program := "ytomfcmpdjfdnhaa", sum := "66b4c2196b6cef1ff351c2d228d4846a3ae37f60ac60c323330b79ca7319807b", func := "loop.example/g03002/laws.FnExactEqualEditions", spec := "fnExactEqualEditions", unfollowed := true, recurses := true, apart := false }
def FnExactEqualEditionsSaid : Prop := fnExactEqualEditionsRow.holds Try.pinned (OpenSpec.ofChange fnExactEqualEditionsSpec)

/-- ITS FALSE NEIGHBOUR: 'it returns false'. Refute it at one input. -/
def fnExactEqualEditionsWrong : ChangeSpec := { name := "fnExactEqualEditions", fn := fun _ => fun
  | [d1, d2] => { results := [.lit (.bool false)], args := [d1, d2] }
  | _ => none }
def FnExactEqualEditionsWrongFalsely : Prop := fnExactEqualEditionsRow.holds Try.pinned (OpenSpec.ofChange fnExactEqualEditionsWrong)

/-- 'laws.FnRedacted': WHATEVER THE INPUT: true; the input reads as it did. -/
def fnRedactedSpec : ChangeSpec := { name := "fnRedacted", fn := fun _ => fun
  | [d] => { results := [.lit (.bool true)], args := [d] }
  | _ => none }
def fnRedactedRow : OpenClaim := { program := "ytomfcmpdjfdnhaa", sum := "66b4c2196b6cef1ff351c2d228d4846a3ae37f60ac60c323330b79ca7319807b", func := "loop.example/g03002/laws.FnRedacted", spec := "fnRedacted", unfollowed := true, recurses := true, apart := false }
def FnRedactedSaid : Prop := fnRedactedRow.holds Try.pinned (OpenSpec.ofChange fnRedactedSpec)

/-- ITS FALSE NEIGHBOUR: 'it returns false'. Refute it at one input. -/
def fnRedactedWrong : ChangeSpec := { name := "fnRedacted", fn := fun _ => fun
  | [d] => { results := [.lit (.bool false)], args := [d] }
  | _ => none }
def FnRedactedWrongFalsely : Prop := fnRedactedRow.holds Try.pinned (OpenSpec.ofChange fnRedactedWrong)

/-- 'laws.FnExactEditionInts': WHATEVER THE INPUT: true; the input reads as it did. -/
def fnExactEditionIntsSpec : ChangeSpec := { name := "fnExactEditionInts", fn := fun _ => fun
  | [d] => { results := [.lit (.bool true)], args := [d] }
  | _ => none }
def fnExactEditionIntsRow : OpenClaim := { program := "ytomfcmpdjfdnhaa", sum := "66b4c2196b6cef1ff351c2d228d4846a3ae37f60ac60c323330b79ca7319807b", func := "loop.example/g03002/laws.FnExactEditionInts", spec := "fnExactEditionInts", apart := false }
def FnExactEditionIntsSaid : Prop := fnExactEditionIntsRow.holds Try.pinned (OpenSpec.ofChange fnExactEditionIntsSpec)

/-- ITS FALSE NEIGHBOUR: 'it returns false'. Refute it at one input. -/
def fnExactEditionIntsWrong : ChangeSpec := { name := "fnExactEditionInts", fn := fun _ => fun
  | [d] => { results := [.lit (.bool false)], args := [d] }
  | _ => none }
def FnExactEditionIntsWrongFalsely : Prop := fnExactEditionIntsRow.holds Try.pinned (OpenSpec.ofChange fnExactEditionIntsWrong)

/-- 'laws.FnExactHiddenCount': WHATEVER THE INPUT: true; the input reads as it did. -/
def fnExactHiddenCountSpec : ChangeSpec := { name := "fnExactHiddenCount", fn := fun _ => fun
  | [d1, d2, d3] => { results := [.lit (.bool true)], args := [d1, d2, d3] }
  | _ => none }
def fnExactHiddenCountRow : OpenClaim := { program := "ytomfcmpdjfdnhaa", sum := "66b4c2196b6cef1ff351c2d228d4846a3ae37f60ac60c323330b79ca7319807b", func := "loop.example/g03002/laws.FnExactHiddenCount", spec := "fnExactHiddenCount", unfollowed := true, recurses := true, apart := false }
def FnExactHiddenCountSaid : Prop := fnExactHiddenCountRow.holds Try.pinned (OpenSpec.ofChange fnExactHiddenCountSpec)

/-- ITS FALSE NEIGHBOUR: 'it returns false'. Refute it at one input. -/
def fnExactHiddenCountWrong : ChangeSpec := { name := "fnExactHiddenCount", fn := fun _ => fun
  | [d1, d2, d3] => { results := [.lit (.bool false)], args := [d1, d2, d3] }
  | _ => none }
def FnExactHiddenCountWrongFalsely : Prop := fnExactHiddenCountRow.holds Try.pinned (OpenSpec.ofChange fnExactHiddenCountWrong)

/-- 'laws.FnExactAgreeOutside': WHATEVER THE INPUT: true; the input reads as it did. -/
def fnExactAgreeOutsideSpec : ChangeSpec := { name := "fnExactAgreeOutside", fn := fun _ => fun
  | [d1, d2, d3] => { results := [.lit (.bool true)], args := [d1, d2, d3] }
  | _ => none }
def fnExactAgreeOutsideRow : OpenClaim := { program := "ytomfcmpdjfdnhaa", sum := "66b4c2196b6cef1ff351c2d228d4846a3ae37f60ac60c323330b79ca7319807b", func := "loop.example/g03002/laws.FnExactAgreeOutside", spec := "fnExactAgreeOutside", unfollowed := true, recurses := true, apart := false }
def FnExactAgreeOutsideSaid : Prop := fnExactAgreeOutsideRow.holds Try.pinned (OpenSpec.ofChange fnExactAgreeOutsideSpec)

/-- ITS FALSE NEIGHBOUR: 'it returns false'. Refute it at one input. -/
def fnExactAgreeOutsideWrong : ChangeSpec := { name := "fnExactAgreeOutside", fn := fun _ => fun
  | [d1, d2, d3] => { results := [.lit (.bool false)], args := [d1, d2, d3] }
  | _ => none }
def FnExactAgreeOutsideWrongFalsely : Prop := fnExactAgreeOutsideRow.holds Try.pinned (OpenSpec.ofChange fnExactAgreeOutsideWrong)

/-- 'laws.FnExactIsEdition': WHATEVER THE INPUT: true; the input reads as it did. -/
def fnExactIsEditionSpec : ChangeSpec := { name := "fnExactIsEdition", fn := fun _ => fun
  | [d] => { results := [.lit (.bool true)], args := [d] }
  | _ => none }
def fnExactIsEditionRow : OpenClaim := { program := "ytomfcmpdjfdnhaa", sum := "66b4c2196b6cef1ff351c2d228d4846a3ae37f60ac60c323330b79ca7319807b", func := "loop.example/g03002/laws.FnExactIsEdition", spec := "fnExactIsEdition", unfollowed := true, recurses := true, apart := false }
def FnExactIsEditionSaid : Prop := fnExactIsEditionRow.holds Try.pinned (OpenSpec.ofChange fnExactIsEditionSpec)

/-- ITS FALSE NEIGHBOUR: 'it returns false'. Refute it at one input. -/
def fnExactIsEditionWrong : ChangeSpec := { name := "fnExactIsEdition", fn := fun _ => fun
  | [d] => { results := [.lit (.bool false)], args := [d] }
  | _ => none }
def FnExactIsEditionWrongFalsely : Prop := fnExactIsEditionRow.holds Try.pinned (OpenSpec.ofChange fnExactIsEditionWrong)

/- THE SECOND FORM. 'bulk': how many values and letters a reading holds, each counted each time it is reached (what is shared counts as often as it is met; a slice's spare places count too). A statement '..UptoSaid' is the law's where the arguments, and the package variables that the reading takes, are together of bulk at most 1048576: NARROWER than '..Said'. Prove '..Said' where nothing that the law and all that it calls make is longer than what came in: it says more and counts as full. Else prove '..UptoSaid'. A law counts once. -/
mutual
def uptoBulk {H : Type} : DataW H → Nat
  | .lit (.string bytes) => bytes.length + 1
  | .lit _ => 1
  | .nil => 1
  | .ptr d => uptoBulk d + 1
  | .slice elems spare => uptoBulkAll elems + uptoBulkAll spare + 1
  | .agg parts => uptoBulkAll parts + 1
  | .iface _ d => uptoBulk d + 1
  | .map entries => uptoBulkEntries entries + 1
  | .held _ => 1
def uptoBulkAll {H : Type} : List (DataW H) → Nat
  | [] => 0
  | d :: r => uptoBulk d + uptoBulkAll r
def uptoBulkEntries {H : Type} : List (Lit × DataW H) → Nat
  | [] => 0
  | x :: r => uptoBulkEntry x + uptoBulkEntries r
def uptoBulkEntry {H : Type} : Lit × DataW H → Nat
  | (.string bytes, d) => bytes.length + uptoBulk d + 1
  | (_, d) => uptoBulk d + 1
 end
def uptoSmall : (H : Type) → List (DataW H) → Bool := fun _ ds => decide (uptoBulkAll ds ≤ 1048576)
def OpenSpec.upto (s : _root_.Go.ChangeSpec) : _root_.Go.OpenSpec := { _root_.Go.OpenSpec.ofChange s with cond := some uptoSmall }

/-- 'laws.FnExactCountProofs', WHERE WHAT IT READS IS OF BULK AT MOST 1048576: true; the input reads as it did. -/
def fnExactCountProofsUptoRow : OpenClaim := { program := "ytomfcmpdjfdnhaa", sum := "66b4c2196b6cef1ff351c2d228d4846a3ae37f60ac60c323330b79ca7319807b", func := "loop.example/g03002/laws.FnExactCountProofs", spec := "fnExactCountProofs", apart := false, narrowed := true }
def FnExactCountProofsUptoSaid : Prop := fnExactCountProofsUptoRow.holds Try.pinned (OpenSpec.upto fnExactCountProofsSpec)

/-- 'laws.FnExactFirstHidden', WHERE WHAT IT READS IS OF BULK AT MOST 1048576: true; the input reads as it did. -/
def fnExactFirstHiddenUptoRow : OpenClaim := { program := "ytomfcmpdjfdnhaa", sum := "66b4c2196b6cef1ff351c2d228d4846a3ae37f60ac60c323330b79ca7319807b", func := "loop.example/g03002/laws.FnExactFirstHidden", spec := "fnExactFirstHidden", apart := false, narrowed := true }
def FnExactFirstHiddenUptoSaid : Prop := fnExactFirstHiddenUptoRow.holds Try.pinned (OpenSpec.upto fnExactFirstHiddenSpec)

/-- 'laws.FnPossession', WHERE WHAT IT READS IS OF BULK AT MOST 1048576: true; the input reads as it did. -/
def fnPossessionUptoRow : OpenClaim := { program := "ytomfcmpdjfdnhaa", sum := "66b4c2196b6cef1ff351c2d228d4846a3ae37f60ac60c323330b79ca7319807b", func := "loop.example/g03002/laws.FnPossession", spec := "fnPossession", apart := false, narrowed := true }
def FnPossessionUptoSaid : Prop := fnPossessionUptoRow.holds Try.pinned (OpenSpec.upto fnPossessionSpec)

/-- 'laws.FnExcluded', WHERE WHAT IT READS IS OF BULK AT MOST 1048576: true; the input reads as it did. -/
def fnExcludedUptoRow : OpenClaim := { program := "ytomfcmpdjfdnhaa", sum := "66b4c2196b6cef1ff351c2d228d4846a3ae37f60ac60c323330b79ca7319807b", func := "loop.example/g03002/laws.FnExcluded", spec := "fnExcluded", unfollowed := true, recurses := true, apart := false, narrowed := true }
def FnExcludedUptoSaid : Prop := fnExcludedUptoRow.holds Try.pinned (OpenSpec.upto fnExcludedSpec)

/-- 'laws.FnExactFirstSeen', WHERE WHAT IT READS IS OF BULK AT MOST 1048576: true; the input reads as it did. -/
def fnExactFirstSeenUptoRow : OpenClaim := { program := "ytomfcmpdjfdnhaa", sum := "66b4c2196b6cef1ff351c2d228d4846a3ae37f60ac60c323330b79ca7319807b", func := "loop.example/g03002/laws.FnExactFirstSeen", spec := "fnExactFirstSeen", apart := false, narrowed := true }
def FnExactFirstSeenUptoSaid : Prop := fnExactFirstSeenUptoRow.holds Try.pinned (OpenSpec.upto fnExactFirstSeenSpec)

/-- 'laws.FnExactEqualEditions', WHERE WHAT IT READS IS OF BULK AT MOST 1048576: true; the input reads as it did. -/
def fnExactEqualEditionsUptoRow : OpenClaim := { program := "ytomfcmpdjfdnhaa", sum := "66b4c2196b6cef1ff351c2d228d4846a3ae37f60ac60c323330b79ca7319807b", func := "loop.example/g03002/laws.FnExactEqualEditions", spec := "fnExactEqualEditions", unfollowed := true, recurses := true, apart := false, narrowed := true }
def FnExactEqualEditionsUptoSaid : Prop := fnExactEqualEditionsUptoRow.holds Try.pinned (OpenSpec.upto fnExactEqualEditionsSpec)

/-- 'laws.FnRedacted', WHERE WHAT IT READS IS OF BULK AT MOST 1048576: true; the input reads as it did. -/
def fnRedactedUptoRow : OpenClaim := { program := "ytomfcmpdjfdnhaa", sum := "66b4c2196b6cef1ff351c2d228d4846a3ae37f60ac60c323330b79ca7319807b", func := "loop.example/g03002/laws.FnRedacted", spec := "fnRedacted", unfollowed := true, recurses := true, apart := false, narrowed := true }
def FnRedactedUptoSaid : Prop := fnRedactedUptoRow.holds Try.pinned (OpenSpec.upto fnRedactedSpec)

/-- 'laws.FnExactEditionInts', WHERE WHAT IT READS IS OF BULK AT MOST 1048576: true; the input reads as it did. -/
def fnExactEditionIntsUptoRow : OpenClaim := { program := "ytomfcmpdjfdnhaa", sum := "66b4c2196b6cef1ff351c2d228d4846a3ae37f60ac60c323330b79ca7319807b", func := "loop.example/g03002/laws.FnExactEditionInts", spec := "fnExactEditionInts", apart := false, narrowed := true }
def FnExactEditionIntsUptoSaid : Prop := fnExactEditionIntsUptoRow.holds Try.pinned (OpenSpec.upto fnExactEditionIntsSpec)

/-- 'laws.FnExactHiddenCount', WHERE WHAT IT READS IS OF BULK AT MOST 1048576: true; the input reads as it did. -/
def fnExactHiddenCountUptoRow : OpenClaim := { program := "ytomfcmpdjfdnhaa", sum := "66b4c2196b6cef1ff351c2d228d4846a3ae37f60ac60c323330b79ca7319807b", func := "loop.example/g03002/laws.FnExactHiddenCount", spec := "fnExactHiddenCount", unfollowed := true, recurses := true, apart := false, narrowed := true }
def FnExactHiddenCountUptoSaid : Prop := fnExactHiddenCountUptoRow.holds Try.pinned (OpenSpec.upto fnExactHiddenCountSpec)

/-- 'laws.FnExactAgreeOutside', WHERE WHAT IT READS IS OF BULK AT MOST 1048576: true; the input reads as it did. -/
def fnExactAgreeOutsideUptoRow : OpenClaim := { program := "ytomfcmpdjfdnhaa", sum := "66b4c2196b6cef1ff351c2d228d4846a3ae37f60ac60c323330b79ca7319807b", func := "loop.example/g03002/laws.FnExactAgreeOutside", spec := "fnExactAgreeOutside", unfollowed := true, recurses := true, apart := false, narrowed := true }
def FnExactAgreeOutsideUptoSaid : Prop := fnExactAgreeOutsideUptoRow.holds Try.pinned (OpenSpec.upto fnExactAgreeOutsideSpec)

/-- 'laws.FnExactIsEdition', WHERE WHAT IT READS IS OF BULK AT MOST 1048576: true; the input reads as it did. -/
def fnExactIsEditionUptoRow : OpenClaim := { program := "ytomfcmpdjfdnhaa", sum := "66b4c2196b6cef1ff351c2d228d4846a3ae37f60ac60c323330b79ca7319807b", func := "loop.example/g03002/laws.FnExactIsEdition", spec := "fnExactIsEdition", unfollowed := true, recurses := true, apart := false, narrowed := true }
def FnExactIsEditionUptoSaid : Prop := fnExactIsEditionUptoRow.holds Try.pinned (OpenSpec.upto fnExactIsEditionSpec)

end Rows
end Go.Proofs.Ytomfcmpdjfdnhaa
