/-
  No cell of these rows narrows 'for every input' (looked for: loops, veiled, ifaces, maps, wideKeys, modest, calm, conditions, laid).
  DERIVED. THE GIVEN ROWS OF THIS SEAT. 6 by the template 'for every input the law returns true; each argument reads behind the call as it read before'; 0 by the template 'total and deterministic' (their statements: YtekclbjiifiahaaTotals.lean).
  GIVEN WITH THE SEED: the statements are not yours to turn. If you find one false, say at which input.
  Laid BY PROGRAM, IN A SANDBOX (cutbox-rows.mjs): the forced cells as the released guide's own fill.sh prints them over the translation 9795cdd6e00db8db… (all of the seat's roots in one cut). By AI agents, Wed Nov 11 2026. No macro, syntax, notation, axiom, sorry.
-/
import Derived.Test.YtekclbjiifiahaaChecked
import GoSem.Claim
import GoSem.ClaimJoined
import GoSem.ClaimMapViews
import Derived.JoinedTies
import Derived.KernelRfl
namespace Go.Proofs.Ytekclbjiifiahaa
/- THE CELL 'sum', in the pinned program and in every row, IS THE sha256 OF THE DUMP (.gsa) THAT YtekclbjiifiahaaProg.lean LOADS. Nothing in Lean hashes anything: it is a label: what it is worth is what the hold of that sum in a sandbox is worth. -/
noncomputable def Try.pinned : Pinned := { name := "ytekclbjiifiahaa", sum := "9795cdd6e00db8db598b59f85356b968575b23b53749e16a2d6289082140a878", checked := Try.checked }
namespace Rows
def none {H : Type} : Left H := { results := [], args := [] }

/-- 'laws.FnExactProvenBy': WHATEVER THE INPUT: true; the input reads as it did. -/
def fnExactProvenBySpec : ChangeSpec := { name := "fnExactProvenBy", fn := fun _ => fun
  | [d1, d2, d3, d4] => { results := [.lit (.bool true)], args := [d1, d2, d3, d4] }
  | _ => none }
def fnExactProvenByRow : OpenClaim := { program := "ytekclbjiifiahaa", sum := "9795cdd6e00db8db598b59f85356b968575b23b53749e16a2d6289082140a878", func := "loop.example/g03002/laws.FnExactProvenBy", spec := "fnExactProvenBy", unfollowed := true, recurses := true, apart := false }
def FnExactProvenBySaid : Prop := fnExactProvenByRow.holds Try.pinned (OpenSpec.ofChange fnExactProvenBySpec)

/-- ITS FALSE NEIGHBOUR: 'it returns false'. Refute it at one input. -/
def fnExactProvenByWrong : ChangeSpec := { name := "fnExactProvenBy", fn := fun _ => fun
  | [d1, d2, d3, d4] => { results := [.lit (.bool false)], args := [d1, d2, d3, d4] }
  | _ => none }
def FnExactProvenByWrongFalsely : Prop := fnExactProvenByRow.holds Try.pinned (OpenSpec.ofChange fnExactProvenByWrong)

/-- 'laws.FnProven': WHATEVER THE INPUT: true; the input reads as it did. -/
def fnProvenSpec : ChangeSpec := { name := "fnProven", fn := fun _ => fun
  | [d] => { results := [.lit (.bool true)], args := [d] }
  | _ => none }
def fnProvenRow : OpenClaim := { program := "ytekclbjiifiahaa", sum := "9795cdd6e00db8db598b59f85356b968575b23b53749e16a2d6289082140a878", func := "loop.example/g03002/laws.FnProven", spec := "fnProven", unfollowed := true, recurses := true, apart := false }
def FnProvenSaid : Prop := fnProvenRow.holds Try.pinned (OpenSpec.ofChange fnProvenSpec)

/-- ITS FALSE NEIGHBOUR: 'it returns false'. Refute it at one input. -/
def fnProvenWrong : ChangeSpec := { name := "fnProven", fn := fun _ => fun
  | [d] => { results := [.lit (.bool false)], args := [d] }
  | _ => none }
def FnProvenWrongFalsely : Prop := fnProvenRow.holds Try.pinned (OpenSpec.ofChange fnProvenWrong)

/-- 'laws.FnExactOrderFor': WHATEVER THE INPUT: true; the input reads as it did. -/
def fnExactOrderForSpec : ChangeSpec := { name := "fnExactOrderFor", fn := fun _ => fun
  | [d1, d2] => { results := [.lit (.bool true)], args := [d1, d2] }
  | _ => none }
def fnExactOrderForRow : OpenClaim := { program := "ytekclbjiifiahaa", sum := "9795cdd6e00db8db598b59f85356b968575b23b53749e16a2d6289082140a878", func := "loop.example/g03002/laws.FnExactOrderFor", spec := "fnExactOrderFor", unfollowed := true, recurses := true, apart := false }
def FnExactOrderForSaid : Prop := fnExactOrderForRow.holds Try.pinned (OpenSpec.ofChange fnExactOrderForSpec)

/-- ITS FALSE NEIGHBOUR: 'it returns false'. Refute it at one input. -/
def fnExactOrderForWrong : ChangeSpec := { name := "fnExactOrderFor", fn := fun _ => fun
  | [d1, d2] => { results := [.lit (.bool false)], args := [d1, d2] }
  | _ => none }
def FnExactOrderForWrongFalsely : Prop := fnExactOrderForRow.holds Try.pinned (OpenSpec.ofChange fnExactOrderForWrong)

/-- 'laws.FnPlaced': WHATEVER THE INPUT: true; the input reads as it did. -/
def fnPlacedSpec : ChangeSpec := { name := "fnPlaced", fn := fun _ => fun
  | [d] => { results := [.lit (.bool true)], args := [d] }
  | _ => none }
def fnPlacedRow : OpenClaim := { program := "ytekclbjiifiahaa", sum := "9795cdd6e00db8db598b59f85356b968575b23b53749e16a2d6289082140a878", func := "loop.example/g03002/laws.FnPlaced", spec := "fnPlaced", unfollowed := true, recurses := true, apart := false }
def FnPlacedSaid : Prop := fnPlacedRow.holds Try.pinned (OpenSpec.ofChange fnPlacedSpec)

/-- ITS FALSE NEIGHBOUR: 'it returns false'. Refute it at one input. -/
def fnPlacedWrong : ChangeSpec := { name := "fnPlaced", fn := fun _ => fun
  | [d] => { results := [.lit (.bool false)], args := [d] }
  | _ => none }
def FnPlacedWrongFalsely : Prop := fnPlacedRow.holds Try.pinned (OpenSpec.ofChange fnPlacedWrong)

/-- 'laws.FnExactPlaceCopies': WHATEVER THE INPUT: true; the input reads as it did. -/
def fnExactPlaceCopiesSpec : ChangeSpec := { name := "fnExactPlaceCopies", fn := fun _ => fun
  | [d1, d2, d3] => { results := [.lit (.bool true)], args := [d1, d2, d3] }
  | _ => none }
def fnExactPlaceCopiesRow : OpenClaim := { program := "ytekclbjiifiahaa", sum := "9795cdd6e00db8db598b59f85356b968575b23b53749e16a2d6289082140a878", func := "loop.example/g03002/laws.FnExactPlaceCopies", spec := "fnExactPlaceCopies", unfollowed := true, recurses := true, apart := false }
def FnExactPlaceCopiesSaid : Prop := fnExactPlaceCopiesRow.holds Try.pinned (OpenSpec.ofChange fnExactPlaceCopiesSpec)

/-- ITS FALSE NEIGHBOUR: 'it returns false'. Refute it at one input. -/
def fnExactPlaceCopiesWrong : ChangeSpec := { name := "fnExactPlaceCopies", fn := fun _ => fun
  | [d1, d2, d3] => { results := [.lit (.bool false)], args := [d1, d2, d3] }
  | _ => none }
def FnExactPlaceCopiesWrongFalsely : Prop := fnExactPlaceCopiesRow.holds Try.pinned (OpenSpec.ofChange fnExactPlaceCopiesWrong)

/-- 'laws.FnExactMovedBy': WHATEVER THE INPUT: true; the input reads as it did. -/
def fnExactMovedBySpec : ChangeSpec := { name := "fnExactMovedBy", fn := fun _ => fun
  | [d1, d2, d3, d4] => { results := [.lit (.bool true)], args := [d1, d2, d3, d4] }
  | _ => none }
def fnExactMovedByRow : OpenClaim := { program := "ytekclbjiifiahaa", sum := "9795cdd6e00db8db598b59f85356b968575b23b53749e16a2d6289082140a878", func := "loop.example/g03002/laws.FnExactMovedBy", spec := "fnExactMovedBy", unfollowed := true, recurses := true, apart := false }
def FnExactMovedBySaid : Prop := fnExactMovedByRow.holds Try.pinned (OpenSpec.ofChange fnExactMovedBySpec)

/-- ITS FALSE NEIGHBOUR: 'it returns false'. Refute it at one input. -/
def fnExactMovedByWrong : ChangeSpec := { name := "fnExactMovedBy", fn := fun _ => fun
  | [d1, d2, d3, d4] => { results := [.lit (.bool false)], args := [d1, d2, d3, d4] }
  | _ => none }
def FnExactMovedByWrongFalsely : Prop := fnExactMovedByRow.holds Try.pinned (OpenSpec.ofChange fnExactMovedByWrong)

/- THE SECOND FORM. 'bulk': how many values and letters a reading holds, each counted each time it is reached (what is shared counts as often as it is met; a slice's spare places count too). A statement '..UptoSaid' is the law's where the arguments, and the package variables that the reading takes, are together of bulk at most 1048576: NARROWER than '..Said'. Prove '..Said' where nothing that the law and all that it calls make is longer than what came in: it says more and counts as full. Else prove '..UptoSaid'. A law counts once. -/
mutual
def uptoBulk {H : Type} : DataW H → Nat
  | .lit (.string bytes) => bytes.length + 1
  | .lit _ => 1
  | .nil => 1
  | .ptr d => uptoBulk d + 1
  | .slice elems spare => uptoBulkAll elems + uptoBulkAll spare + 1
  | .agg parts => uptoBulkAll parts + 1
  | .iface _ d => uptoBulk d + 1
  | .map entries => uptoBulkEntries entries + 1
  | .held _ => 1
def uptoBulkAll {H : Type} : List (DataW H) → Nat
  | [] => 0
  | d :: r => uptoBulk d + uptoBulkAll r
def uptoBulkEntries {H : Type} : List (Lit × DataW H) → Nat
  | [] => 0
  | x :: r => uptoBulkEntry x + uptoBulkEntries r
def uptoBulkEntry {H : Type} : Lit × DataW H → Nat
  | (.string bytes, d) => bytes.length + uptoBulk d + 1
  | (_, d) => uptoBulk d + 1
 end
def uptoSmall : (H : Type) → List (DataW H) → Bool := fun _ ds => decide (uptoBulkAll ds ≤ 1048576)
def OpenSpec.upto (s : _root_.Go.ChangeSpec) : _root_.Go.OpenSpec := { _root_.Go.OpenSpec.ofChange s with cond := some uptoSmall }

/-- 'laws.FnExactProvenBy', WHERE WHAT IT READS IS OF BULK AT MOST 1048576: true; the input reads as it did. -/
def fnExactProvenByUptoRow : OpenClaim := { program := "ytekclbjiifiahaa", sum := "9795cdd6e00db8db598b59f85356b968575b23b53749e16a2d6289082140a878", func := "loop.example/g03002/laws.FnExactProvenBy", spec := "fnExactProvenBy", unfollowed := true, recurses := true, apart := false, narrowed := true }
def FnExactProvenByUptoSaid : Prop := fnExactProvenByUptoRow.holds Try.pinned (OpenSpec.upto fnExactProvenBySpec)

/-- 'laws.FnProven', WHERE WHAT IT READS IS OF BULK AT MOST 1048576: true; the input reads as it did. -/
def fnProvenUptoRow : OpenClaim := { program := "ytekclbjiifiahaa", sum := "9795cdd6e00db8db598b59f85356b968575b23b53749e16a2d6289082140a878", func := "loop.example/g03002/laws.FnProven", spec := "fnProven", unfollowed := true, recurses := true, apart := false, narrowed := true }
def FnProvenUptoSaid : Prop := fnProvenUptoRow.holds Try.pinned (OpenSpec.upto fnProvenSpec)

/-- 'laws.FnExactOrderFor', WHERE WHAT IT READS IS OF BULK AT MOST 1048576: true; the input reads as it did. -/
def fnExactOrderForUptoRow : OpenClaim := { program := "ytekclbjiifiahaa", sum := "9795cdd6e00db8db598b59f85356b968575b23b53749e16a2d6289082140a878", func := "loop.example/g03002/laws.FnExactOrderFor", spec := "fnExactOrderFor", unfollowed := true, recurses := true, apart := false, narrowed := true }
def FnExactOrderForUptoSaid : Prop := fnExactOrderForUptoRow.holds Try.pinned (OpenSpec.upto fnExactOrderForSpec)

/-- 'laws.FnPlaced', WHERE WHAT IT READS IS OF BULK AT MOST 1048576: true; the input reads as it did. -/
def fnPlacedUptoRow : OpenClaim := { program := "ytekclbjiifiahaa", sum := "9795cdd6e00db8db598b59f85356b968575b23b53749e16a2d6289082140a878", func := "loop.example/g03002/laws.FnPlaced", spec := "fnPlaced", unfollowed := true, recurses := true, apart := false, narrowed := true }
def FnPlacedUptoSaid : Prop := fnPlacedUptoRow.holds Try.pinned (OpenSpec.upto fnPlacedSpec)

/-- 'laws.FnExactPlaceCopies', WHERE WHAT IT READS IS OF BULK AT MOST 1048576: true; the input reads as it did. -/
def fnExactPlaceCopiesUptoRow : OpenClaim := { program := "ytekclbjiifiahaa", sum := "9795cdd6e00db8db598b59f85356b968575b23b53749e16a2d6289082140a878", func := "loop.example/g03002/laws.FnExactPlaceCopies", spec := "fnExactPlaceCopies", unfollowed := true, recurses := true, apart := false, narrowed := true }
def FnExactPlaceCopiesUptoSaid : Prop := fnExactPlaceCopiesUptoRow.holds Try.pinned (OpenSpec.upto fnExactPlaceCopiesSpec)

/-- 'laws.FnExactMovedBy', WHERE WHAT IT READS IS OF BULK AT MOST 1048576: true; the input reads as it did. -/
def fnExactMovedByUptoRow : OpenClaim := { program := "ytekclbjiifiahaa", sum := "9795cdd6e00db8db598b59f85356b968575b23b53749e16a2d6289082140a878", func := "loop.example/g03002/laws.FnExactMovedBy", spec := "fnExactMovedBy", unfollowed := true, recurses := true, apart := false, narrowed := true }
def FnExactMovedByUptoSaid : Prop := fnExactMovedByUptoRow.holds Try.pinned (OpenSpec.upto fnExactMovedBySpec)

end Rows
end Go.Proofs.Ytekclbjiifiahaa
