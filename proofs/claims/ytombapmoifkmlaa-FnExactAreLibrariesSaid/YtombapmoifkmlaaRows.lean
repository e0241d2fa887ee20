/-
  No cell of these rows narrows 'for every input' (looked for: loops, veiled, ifaces, maps, wideKeys, modest, calm, conditions, laid).
  DERIVED. THE GIVEN ROWS OF THIS SEAT. 5 by the template 'for every input the law returns true; each argument reads behind the call as it read before'; 0 by the template 'total and deterministic' (their statements: YtombapmoifkmlaaTotals.lean).
  GIVEN WITH THE SEED: the statements are not yours to turn. If you find one false, say at which input.
  Laid BY PROGRAM, IN A SANDBOX (cutbox-rows.mjs): the forced cells as the released guide's own fill.sh prints them over the translation 9a1a2012bb92ac4b… (all of the seat's roots in one cut). By AI agents, Wed Nov 11 2026. No macro, syntax, notation, axiom, sorry.
-/
import Derived.Test.YtombapmoifkmlaaChecked
import GoSem.Claim
import GoSem.ClaimJoined
import GoSem.ClaimMapViews
import Derived.JoinedTies
import Derived.KernelRfl
namespace Go.Proofs.Ytombapmoifkmlaa
/- THE CELL 'sum', in the pinned program and in every row, IS THE sha256 OF THE DUMP (.gsa) THAT YtombapmoifkmlaaProg.lean LOADS. Nothing in Lean hashes anything: it is a label: what it is worth is what the hold of that sum in a sandbox is worth. -/
noncomputable def Try.pinned : Pinned := { name := "ytombapmoifkmlaa", sum := "9a1a2012bb92ac4b23304714b6fcc626da3715990bba34988e71141ea379baca", checked := Try.checked }
namespace Rows
def none {H : Type} : Left H := { results := [], args := [] }

/-- 'laws.FnExactFirstSeen': WHATEVER THE INPUT: true; the input reads as it did. -/
def fnExactFirstSeenSpec : ChangeSpec := { name := "fnExactFirstSeen", fn := fun _ => fun
  | [d1, d2, d3] => { results := [.lit (.bool true)], args := [d1, d2, d3] }
  | _ => none }
def fnExactFirstSeenRow : OpenClaim := { program := "ytombapmoifkmlaa", sum := "9a1a2012bb92ac4b23304714b6fcc626da3715990bba34988e71141ea379baca", func := "loop.example/g03002/laws.FnExactFirstSeen", spec := "fnExactFirstSeen", apart := false }
def FnExactFirstSeenSaid : Prop := fnExactFirstSeenRow.holds Try.pinned (OpenSpec.ofChange fnExactFirstSeenSpec)

/-- ITS FALSE NEIGHBOUR: 'it returns false'. Refute it at one input. -/
def fnExactFirstSeenWrong : ChangeSpec := { name := "fnExactFirstSeen", fn := fun _ => fun
  | [d1, d2, d3] => { results := [.lit (.bool false)], args := [d1, d2, d3] }
  | _ => none }
def FnExactFirstSeenWrongFalsely : Prop := fnExactFirstSeenRow.holds Try.pinned (OpenSpec.ofChange fnExactFirstSeenWrong)

/-- 'laws.FnExactAreLibraries': WHATEVER THE INPUT: true; the input reads as it did. -/
def fnExactAreLibrariesSpec : ChangeSpec := { name := "fnExactAreLibraries", fn := fun _ => fun
  | [d] => { results := [.lit (.bool true)], args := [d] }
  | _ => none }
def fnExactAreLibrariesRow : OpenClaim := { program := "ytombapmoifkmlaa", sum := "9a1a2012bb92ac4b23304714b6fcc626da3715990bba34988e71141ea379baca", func := "loop.example/g03002/laws.FnExactAreLibraries", spec := "fnExactAreLibraries", recurses := true, apart := false }
def FnExactAreLibrariesSaid : Prop := fnExactAreLibrariesRow.holds Try.pinned (OpenSpec.ofChange fnExactAreLibrariesSpec)

/-- ITS FALSE NEIGHBOUR: 'it returns false'. Refute it at one input. -/
def fnExactAreLibrariesWrong : ChangeSpec := { name := "fnExactAreLibraries", fn := fun _ => fun
  | [d] => { results := [.lit (.bool false)], args := [d] }
  | _ => none }
def FnExactAreLibrariesWrongFalsely : Prop := fnExactAreLibrariesRow.holds Try.pinned (OpenSpec.ofChange fnExactAreLibrariesWrong)

/-- 'laws.FnExactProvenBy': WHATEVER THE INPUT: true; the input reads as it did. -/
def fnExactProvenBySpec : ChangeSpec := { name := "fnExactProvenBy", fn := fun _ => fun
  | [d1, d2, d3, d4] => { results := [.lit (.bool true)], args := [d1, d2, d3, d4] }
  | _ => none }
def fnExactProvenByRow : OpenClaim := { program := "ytombapmoifkmlaa", sum := "9a1a2012bb92ac4b23304714b6fcc626da3715990bba34988e71141ea379baca", func := "loop.example/g03002/laws.FnExactProvenBy", spec := "fnExactProvenBy", unfollowed := true, recurses := true, apart := false }
def FnExactProvenBySaid : Prop := fnExactProvenByRow.holds Try.pinned (OpenSpec.ofChange fnExactProvenBySpec)

/-- ITS FALSE NEIGHBOUR: 'it returns false'. Refute it at one input. -/
def fnExactProvenByWrong : ChangeSpec := { name := "fnExactProvenBy", fn := fun _ => fun
  | [d1, d2, d3, d4] => { results := [.lit (.bool false)], args := [d1, d2, d3, d4] }
  | _ => none }
def FnExactProvenByWrongFalsely : Prop := fnExactProvenByRow.holds Try.pinned (OpenSpec.ofChange fnExactProvenByWrong)

/-- 'laws.FnPossession': WHATEVER THE INPUT: true; the input reads as it did. -/
def fnPossessionSpec : ChangeSpec := { name := "fnPossession", fn := fun _ => fun
  | [d] => { results := [.lit (.bool true)], args := [d] }
  | _ => none }
def fnPossessionRow : OpenClaim := { program := "ytombapmoifkmlaa", sum := "9a1a2012bb92ac4b23304714b6fcc626da3715990bba34988e71141ea379baca", func := "loop.example/g03002/laws.FnPossession", spec := "fnPossession", apart := false }
def FnPossessionSaid : Prop := fnPossessionRow.holds Try.pinned (OpenSpec.ofChange fnPossessionSpec)

/-- ITS FALSE NEIGHBOUR: 'it returns false'. Refute it at one input. -/
def fnPossessionWrong : ChangeSpec := { name := "fnPossession", fn := fun _ => fun
  | [d] => { results := [.lit (.bool false)], args := [d] }
  | _ => none }
def FnPossessionWrongFalsely : Prop := fnPossessionRow.holds Try.pinned (OpenSpec.ofChange fnPossessionWrong)

/-- 'laws.FnProven': WHATEVER THE INPUT: true; the input reads as it did. -/
def fnProvenSpec : ChangeSpec := { name := "fnProven", fn := fun _ => fun
  | [d] => { results := [.lit (.bool true)], args := [d] }
  | _ => none }
def fnProvenRow : OpenClaim := { program := "ytombapmoifkmlaa", sum := "9a1a2012bb92ac4b23304714b6fcc626da3715990bba34988e71141ea379baca", func := "loop.example/g03002/laws.FnProven", spec := "fnProven", unfollowed := true, recurses := true, apart := false }
def FnProvenSaid : Prop := fnProvenRow.holds Try.pinned (OpenSpec.ofChange fnProvenSpec)

/-- ITS FALSE NEIGHBOUR: 'it returns false'. Refute it at one input. -/
def fnProvenWrong : ChangeSpec := { name := "fnProven", fn := fun _ => fun
  | [d] => { results := [.lit (.bool false)], args := [d] }
  | _ => none }
def FnProvenWrongFalsely : Prop := fnProvenRow.holds Try.pinned (OpenSpec.ofChange fnProvenWrong)

/- THE SECOND FORM. 'bulk': how many values and letters a reading holds, each counted each time it is reached (what is shared counts as often as it is met; a slice's spare places count too). A statement '..UptoSaid' is the law's where the arguments, and the package variables that the reading takes, are together of bulk at most 1048576: NARROWER than '..Said'. Prove '..Said' where nothing that the law and all that it calls make is longer than what came in: it says more and counts as full. Else prove '..UptoSaid'. A law counts once. -/
mutual
def uptoBulk {H : Type} : DataW H → Nat
  | .lit (.string bytes) => bytes.length + 1
  | .lit _ => 1
  | .nil => 1
  | .ptr d => uptoBulk d + 1
  | .slice elems spare => uptoBulkAll elems + uptoBulkAll spare + 1
  | .agg parts => uptoBulkAll parts + 1
  | .iface _ d => uptoBulk d + 1
  | .map entries => uptoBulkEntries entries + 1
  | .held _ => 1
def uptoBulkAll {H : Type} : List (DataW H) → Nat
  | [] => 0
  | d :: r => uptoBulk d + uptoBulkAll r
def uptoBulkEntries {H : Type} : List (Lit × DataW H) → Nat
  | [] => 0
  | x :: r => uptoBulkEntry x + uptoBulkEntries r
def uptoBulkEntry {H : Type} : Lit × DataW H → Nat
  | (.string bytes, d) => bytes.length + uptoBulk d + 1
  | (_, d) => uptoBulk d + 1
 end
def uptoSmall : (H : Type) → List (DataW H) → Bool := fun _ ds => decide (uptoBulkAll ds ≤ 1048576)
def OpenSpec.upto (s : _root_.Go.ChangeSpec) : _root_.Go.OpenSpec := { _root_.Go.OpenSpec.ofChange s with cond := some uptoSmall }

/-- 'laws.FnExactFirstSeen', WHERE WHAT IT READS IS OF BULK AT MOST 1048576: true; the input reads as it did. -/
def fnExactFirstSeenUptoRow : OpenClaim := { program := "ytombapmoifkmlaa", sum := "9a1a2012bb92ac4b23304714b6fcc626da3715990bba34988e71141ea379baca", func := "loop.example/g03002/laws.FnExactFirstSeen", spec := "fnExactFirstSeen", apart := false, narrowed := true }
def FnExactFirstSeenUptoSaid : Prop := fnExactFirstSeenUptoRow.holds Try.pinned (OpenSpec.upto fnExactFirstSeenSpec)

/-- 'laws.FnExactAreLibraries', WHERE WHAT IT READS IS OF BULK AT MOST 1048576: true; the input reads as it did. -/
def fnExactAreLibrariesUptoRow : OpenClaim := { program := "ytombapmoifkmlaa", sum := "9a1a2012bb92ac4b23304714b6fcc626da3715990bba34988e71141ea379baca", func := "loop.example/g03002/laws.FnExactAreLibraries", spec := "fnExactAreLibraries", recurses := true, apart := false, narrowed := true }
def FnExactAreLibrariesUptoSaid : Prop := fnExactAreLibrariesUptoRow.holds Try.pinned (OpenSpec.upto fnExactAreLibrariesSpec)

/-- 'laws.FnExactProvenBy', WHERE WHAT IT READS IS OF BULK AT MOST 1048576: true; the input reads as it did. -/
def fnExactProvenByUptoRow : OpenClaim := { program := "ytombapmoifkmlaa", sum := "9a1a2012bb92ac4b23304714b6fcc626da3715990bba34988e71141ea379baca", func := "loop.example/g03002/laws.FnExactProvenBy", spec := "fnExactProvenBy", unfollowed := true, recurses := true, apart := false, narrowed := true }
def FnExactProvenByUptoSaid : Prop := fnExactProvenByUptoRow.holds Try.pinned (OpenSpec.upto fnExactProvenBySpec)

/-- 'laws.FnPossession', WHERE WHAT IT READS IS OF BULK AT MOST 1048576: true; the input reads as it did. -/
def fnPossessionUptoRow : OpenClaim := { program := "ytombapmoifkmlaa", sum := "9a1a2012bb92ac4b23304714b6fcc626da3715990bba34988e71141ea379baca", func := "loop.example/g03002/laws.FnPossession", spec := "fnPossession", apart := false, narrowed := true }
def FnPossessionUptoSaid : Prop := fnPossessionUptoRow.holds Try.pinned (OpenSpec.upto fnPossessionSpec)

/-- 'laws.FnProven', WHERE WHAT IT READS IS OF BULK AT MOST 1048576: true; the input reads as it did. -/
def fnProvenUptoRow : OpenClaim := { program := "ytombapmoifkmlaa", sum := "9a1a2012bb92ac4b23304714b6fcc626da3715990bba34988e71141ea379baca", func := "loop.example/g03002/laws.FnProven", spec := "fnProven", unfollowed := true, recurses := true, apart := false, narrowed := true }
def FnProvenUptoSaid : Prop := fnProvenUptoRow.holds Try.pinned (OpenSpec.upto fnProvenSpec)

end Rows
end Go.Proofs.Ytombapmoifkmlaa
