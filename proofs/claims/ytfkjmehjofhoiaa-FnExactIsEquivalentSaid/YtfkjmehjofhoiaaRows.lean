/-
  No cell of these rows narrows 'for every input' (looked for: loops, veiled, ifaces, maps, wideKeys, modest, calm, conditions, laid).
  DERIVED. THE GIVEN ROWS OF THIS SEAT. 7 by the template 'for every input the law returns true; each argument reads behind the call as it read before'; 0 by the template 'total and deterministic' (their statements: YtfkjmehjofhoiaaTotals.lean).
  GIVEN WITH THE SEED: the statements are not yours to turn. If you find one false, say at which input.
  Laid BY PROGRAM, IN A SANDBOX (cutbox-rows.mjs): the forced cells as the released guide's own fill.sh prints them over the translation f34f19517a515e21… (all of the seat's roots in one cut). By AI agents, Wed Nov 11 2026. No macro, syntax, notation, axiom, sorry.
-/
import Derived.Test.YtfkjmehjofhoiaaChecked
import GoSem.Claim
import GoSem.ClaimJoined
import GoSem.ClaimMapViews
import Derived.JoinedTies
import Derived.KernelRfl
namespace Go.Proofs.Ytfkjmehjofhoiaa
/- THE CELL 'sum', in the pinned program and in every row, IS THE sha256 OF THE DUMP (.gsa) THAT YtfkjmehjofhoiaaProg.lean LOADS. Nothing in Lean hashes anything: it is a label: what it is worth is what the hold of that sum in a sandbox is worth. -/
noncomputable def Try.pinned : Pinned := { name := "ytfkjmehjofhoiaa", sum := "f34f19517a515e21560b1f4602c462565929b6000954b0c8b7901a3577bfc8d8", checked := Try.checked }
namespace Rows
def none {H : Type} : Left H := { results := [], args := [] }

/-- 'laws.FnExactEqualContainers': WHATEVER THE INPUT: true; the input reads as it did. -/
def fnExactEqualContainersSpec : ChangeSpec := { name := "fnExactEqualContainers", fn := fun _ => fun
  | [d1, d2] => { results := [.lit (.bool true)], args := [d1, d2] }
  | _ => none }
def fnExactEqualContainersRow : OpenClaim := { program := "ytfkjmehjofhoiaa", sum := "f34f19517a515e21560b1f4602c462565929b6000954b0c8b7901a3577bfc8d8", func := "loop.example/g03002/laws.FnExactEqualContainers", spec := "fnExactEqualContainers", unfollowed := true, recurses := true, apart := false }
def FnExactEqualContainersSaid : Prop := fnExactEqualContainersRow.holds Try.pinned (OpenSpec.ofChange fnExactEqualContainersSpec)

/-- ITS FALSE NEIGHBOUR: 'it returns false'. Refute it at one input. -/
def fnExactEqualContainersWrong : ChangeSpec := { name := "fnExactEqualContainers", fn := fun _ => fun
  | [d1, d2] => { results := [.lit (.bool false)], args := [d1, d2] }
  | _ => none }
def FnExactEqualContainersWrongFalsely : Prop := fnExactEqualContainersRow.holds Try.pinned (OpenSpec.ofChange fnExactEqualContainersWrong)

/-- 'laws.FnExactVisibleAt': WHATEVER THE INPUT: true; the input reads as it did. -/
def fnExactVisibleAtSpec : ChangeSpec := { name := "fnExactVisibleAt", fn := fun _ => fun
  | [d1, d2, d3] => { results := [.lit (.bool true)], args := [d1, d2, d3] }
  | _ => none }
def fnExactVisibleAtRow : OpenClaim := { program := "ytfkjmehjofhoiaa", sum := "f34f19517a515e21560b1f4602c462565929b6000954b0c8b7901a3577bfc8d8", func := "loop.example/g03002/laws.FnExactVisibleAt", spec := "fnExactVisibleAt", unfollowed := true, recurses := true, apart := false }
def FnExactVisibleAtSaid : Prop := fnExactVisibleAtRow.holds Try.pinned (OpenSpec.ofChange fnExactVisibleAtSpec)

/-- ITS FALSE NEIGHBOUR: 'it returns false'. Refute it at one input. -/
def fnExactVisibleAtWrong : ChangeSpec := { name := "fnExactVisibleAt", fn := fun _ => fun
  | [d1, d2, d3] => { results := [.lit (.bool false)], args := [d1, d2, d3] }
  | _ => none }
def FnExactVisibleAtWrongFalsely : Prop := fnExactVisibleAtRow.holds Try.pinned (OpenSpec.ofChange fnExactVisibleAtWrong)

/-- 'laws.FnEditions': WHATEVER THE INPUT: true; the input reads as it did. -/
def fnEditionsSpec : ChangeSpec := { name := "fnEditions", fn := fun _ => fun
  | [d] => { results := [.lit (.bool true)], args := [d] }
  | _ => none }
def fnEditionsRow : OpenClaim := { program := "ytfkjmehjofhoiaa", sum := "f34f19517a515e21560b1f4602c462565929b6000954b0c8b7901a3577bfc8d8", func := "loop.example/g03002/laws.FnEditions", spec := "fnEditions", unfollowed := true, recurses := true, apart := false }
def FnEditionsSaid : Prop := fnEditionsRow.holds Try.pinned (OpenSpec.ofChange fnEditionsSpec)

/-- ITS FALSE NEIGHBOUR: 'it returns false'. Refute it at one input. -/
def fnEditionsWrong : ChangeSpec := { name := "fnEditions", fn := fun _ => fun
  | [d] => { results := [.lit (.bool false)], args := [d] }
  | _ => none }
def FnEditionsWrongFalsely : Prop := fnEditionsRow.holds Try.pinned (OpenSpec.ofChange fnEditionsWrong)

/-- 'laws.FnExactIsEquivalent': WHATEVER THE INPUT: true; the input reads as it did. -/
def fnExactIsEquivalentSpec : ChangeSpec := { name := "fnExactIsEquivalent", fn := fun _ => fun
  | [d1, d2, d3] => { results := [.lit (.bool true)], args := [d1, d2, d3] }
  | _ => none }
def fnExactIsEquivalentRow : OpenClaim := { program := "ytfkjmehjofhoiaa", sum := "f34f19517a515e21560b1f4602c462565929b6000954b0c8b7901a3577bfc8d8", func := "loop.example/g03002/laws.FnExactIsEquivalent", spec := "fnExactIsEquivalent", unfollowed := true, recurses := true, apart := false }
def FnExactIsEquivalentSaid : Prop := fnExactIsEquivalentRow.holds Try.pinned (OpenSpec.ofChange fnExactIsEquivalentSpec)

/-- ITS FALSE NEIGHBOUR: 'it returns false'. Refute it at one input. -/
def fnExactIsEquivalentWrong : ChangeSpec := { name := "fnExactIsEquivalent", fn := fun _ => fun
  | [d1, d2, d3] => { results := [.lit (.bool false)], args := [d1, d2, d3] }
  | _ => none }
def FnExactIsEquivalentWrongFalsely : Prop := fnExactIsEquivalentRow.holds Try.pinned (OpenSpec.ofChange fnExactIsEquivalentWrong)

/-- 'laws.FnExactMigrate': WHATEVER THE INPUT: true; the input reads as it did. -/
def fnExactMigrateSpec : ChangeSpec := { name := "fnExactMigrate", fn := fun _ => fun
  | [d1, d2] => { results := [.lit (.bool true)], args := [d1, d2] }
  | _ => none }
def fnExactMigrateRow : OpenClaim := { program := "ytfkjmehjofhoiaa", sum := "f34f19517a515e21560b1f4602c462565929b6000954b0c8b7901a3577bfc8d8", func := "loop.example/g03002/laws.FnExactMigrate", spec := "fnExactMigrate", unfollowed := true, recurses := true, apart := false }
def FnExactMigrateSaid : Prop := fnExactMigrateRow.holds Try.pinned (OpenSpec.ofChange fnExactMigrateSpec)

/-- ITS FALSE NEIGHBOUR: 'it returns false'. Refute it at one input. -/
def fnExactMigrateWrong : ChangeSpec := { name := "fnExactMigrate", fn := fun _ => fun
  | [d1, d2] => { results := [.lit (.bool false)], args := [d1, d2] }
  | _ => none }
def FnExactMigrateWrongFalsely : Prop := fnExactMigrateRow.holds Try.pinned (OpenSpec.ofChange fnExactMigrateWrong)

/-- 'laws.FnExactAreLibraries': WHATEVER THE INPUT: true; the input reads as it did. -/
def fnExactAreLibrariesSpec : ChangeSpec := { name := "fnExactAreLibraries", fn := fun _ => fun
  | [d] => { results := [.lit (.bool true)], args := [d] }
  | _ => none }
def fnExactAreLibrariesRow : OpenClaim := { program := "ytfkjmehjofhoiaa", sum := "f34f19517a515e21560b1f4602c462565929b6000954b0c8b7901a3577bfc8d8", func := "loop.example/g03002/laws.FnExactAreLibraries", spec := "fnExactAreLibraries", recurses := true, apart := false }
def FnExactAreLibrariesSaid : Prop := fnExactAreLibrariesRow.holds Try.pinned (OpenSpec.ofChange fnExactAreLibrariesSpec)

/-- ITS FALSE NEIGHBOUR: 'it returns false'. Refute it at one input. -/
def fnExactAreLibrariesWrong : ChangeSpec := { name := "fnExactAreLibraries", fn := fun _ => fun
  | [d] => { results := [.lit (.bool false)], args := [d] }
  | _ => none }
def FnExactAreLibrariesWrongFalsely : Prop := fnExactAreLibrariesRow.holds Try.pinned (OpenSpec.ofChange fnExactAreLibrariesWrong)

/-- 'laws.FnExactLookUp': WHATEVER THE INPUT: true; the input reads as it did. -/
def fnExactLookUpSpec : ChangeSpec := { name := "fnExactLookUp", fn := fun _ => fun
  | [d1, d2] => { results := [.lit (.bool true)], args := [d1, d2] }
  | _ => none }
def fnExactLookUpRow : OpenClaim := { program := "ytfkjmehjofhoiaa", sum := "f34f19517a515e21560b1f4602c462565929b6000954b0c8b7901a3577bfc8d8", func := "loop.example/g03002/laws.FnExactLookUp", spec := "fnExactLookUp", apart := false }
def FnExactLookUpSaid : Prop := fnExactLookUpRow.holds Try.pinned (OpenSpec.ofChange fnExactLookUpSpec)

/-- ITS FALSE NEIGHBOUR: 'it returns false'. Refute it at one input. -/
def fnExactLookUpWrong : ChangeSpec := { name := "fnExactLookUp", fn := fun _ => fun
  | [d1, d2] => { results := [.lit (.bool false)], args := [d1, d2] }
  | _ => none }
def FnExactLookUpWrongFalsely : Prop := fnExactLookUpRow.holds Try.pinned (OpenSpec.ofChange fnExactLookUpWrong)

/- THE SECOND FORM. 'bulk': how many values and letters a reading holds, each counted each time it is reached (what is shared counts as often as it is met; a slice's spare places count too). A statement '..UptoSaid' is the law's where the arguments, and the package variables that the reading takes, are together of bulk at most 1048576: NARROWER than '..Said'. Prove '..Said' where nothing that the law and all that it calls make is longer than what came in: it says more and counts as full. Else prove '..UptoSaid'. A law counts once. -/
mutual
def uptoBulk {H : Type} : DataW H → Nat
  | .lit (.string bytes) => bytes.length + 1
  | .lit _ => 1
  | .nil => 1
  | .ptr d => uptoBulk d + 1
  | .slice elems spare => uptoBulkAll elems + uptoBulkAll spare + 1
  | .agg parts => uptoBulkAll parts + 1
  | .iface _ d => uptoBulk d + 1
  | .map entries => uptoBulkEntries entries + 1
  | .held _ => 1
def uptoBulkAll {H : Type} : List (DataW H) → Nat
  | [] => 0
  | d :: r => uptoBulk d + uptoBulkAll r
def uptoBulkEntries {H : Type} : List (Lit × DataW H) → Nat
  | [] => 0
  | x :: r => uptoBulkEntry x + uptoBulkEntries r
def uptoBulkEntry {H : Type} : Lit × DataW H → Nat
  | (.string bytes, d) => bytes.length + uptoBulk d + 1
  | (_, d) => uptoBulk d + 1
 end
def uptoSmall : (H : Type) → List (DataW H) → Bool := fun _ ds => decide (uptoBulkAll ds ≤ 1048576)
def OpenSpec.upto (s : _root_.Go.ChangeSpec) : _root_.Go.OpenSpec := { _root_.Go.OpenSpec.ofChange s with cond := some uptoSmall }

/-- 'laws.FnExactEqualContainers', WHERE WHAT IT READS IS OF BULK AT MOST 1048576: true; the input reads as it did. -/
def fnExactEqualContainersUptoRow : OpenClaim := { program := "ytfkjmehjofhoiaa", sum := "f34f19517a515e21560b1f4602c462565929b6000954b0c8b7901a3577bfc8d8", func := "loop.example/g03002/laws.FnExactEqualContainers", spec := "fnExactEqualContainers", unfollowed := true, recurses := true, apart := false, narrowed := true }
def FnExactEqualContainersUptoSaid : Prop := fnExactEqualContainersUptoRow.holds Try.pinned (OpenSpec.upto fnExactEqualContainersSpec)

/-- 'laws.FnExactVisibleAt', WHERE WHAT IT READS IS OF BULK AT MOST 1048576: true; the input reads as it did. -/
def fnExactVisibleAtUptoRow : OpenClaim := { program := "ytfkjmehjofhoiaa", sum := "f34f19517a515e21560b1f4602c462565929b6000954b0c8b7901a3577bfc8d8", func := "loop.example/g03002/laws.FnExactVisibleAt", spec := "fnExactVisibleAt", unfollowed := true, recurses := true, apart := false, narrowed := true }
def FnExactVisibleAtUptoSaid : Prop := fnExactVisibleAtUptoRow.holds Try.pinned (OpenSpec.upto fnExactVisibleAtSpec)

/-- 'laws.FnEditions', WHERE WHAT IT READS IS OF BULK AT MOST 1048576: true; the input reads as it did. -/
def fnEditionsUptoRow : OpenClaim := { program := "ytfkjmehjofhoiaa", sum := "f34f19517a515e21560b1f4602c462565929b6000954b0c8b7901a3577bfc8d8", func := "loop.example/g03002/laws.FnEditions", spec := "fnEditions", unfollowed := true, recurses := true, apart := false, narrowed := true }
def FnEditionsUptoSaid : Prop := fnEditionsUptoRow.holds Try.pinned (OpenSpec.upto fnEditionsSpec)

/-- 'laws.FnExactIsEquivalent', WHERE WHAT IT READS IS OF BULK AT MOST 1048576: true; the input reads as it did. -/
def fnExactIsEquivalentUptoRow : OpenClaim := { program := "ytfkjmehjofhoiaa", sum := "f34f19517a515e21560b1f4602c462565929b6000954b0c8b7901a3577bfc8d8", func := "loop.example/g03002/laws.FnExactIsEquivalent", spec := "fnExactIsEquivalent", unfollowed := true, recurses := true, apart := false, narrowed := true }
def FnExactIsEquivalentUptoSaid : Prop := fnExactIsEquivalentUptoRow.holds Try.pinned (OpenSpec.upto fnExactIsEquivalentSpec)

/-- 'laws.FnExactMigrate', WHERE WHAT IT READS IS OF BULK AT MOST 1048576: true; the input reads as it did. -/
def fnExactMigrateUptoRow : OpenClaim := { program := "ytfkjmehjofhoiaa", sum := "f34f19517a515e21560b1f4602c462565929b6000954b0c8b7901a3577bfc8d8", func := "loop.example/g03002/laws.FnExactMigrate", spec := "fnExactMigrate", unfollowed := true, recurses := true, apart := false, narrowed := true }
def FnExactMigrateUptoSaid : Prop := fnExactMigrateUptoRow.holds Try.pinned (OpenSpec.upto fnExactMigrateSpec)

/-- 'laws.FnExactAreLibraries', WHERE WHAT IT READS IS OF BULK AT MOST 1048576: true; the input reads as it did. -/
def fnExactAreLibrariesUptoRow : OpenClaim := { program := "ytfkjmehjofhoiaa", sum := "f34f19517a515e21560b1f4602c462565929b6000954b0c8b7901a3577bfc8d8", func := "loop.example/g03002/laws.FnExactAreLibraries", spec := "fnExactAreLibraries", recurses := true, apart := false, narrowed := true }
def FnExactAreLibrariesUptoSaid : Prop := fnExactAreLibrariesUptoRow.holds Try.pinned (OpenSpec.upto fnExactAreLibrariesSpec)

/-- 'laws.FnExactLookUp', WHERE WHAT IT READS IS OF BULK AT MOST 1048576: true; the input reads as it did. -/
def fnExactLookUpUptoRow : OpenClaim := { program := "ytfkjmehjofhoiaa", sum := "f34f19517a515e21560b1f4602c462565929b6000954b0c8b7901a3577bfc8d8", func := "loop.example/g03002/laws.FnExactLookUp", spec := "fnExactLookUp", apart := false, narrowed := true }
def FnExactLookUpUptoSaid : Prop := fnExactLookUpUptoRow.holds Try.pinned (OpenSpec.upto fnExactLookUpSpec)

end Rows
end Go.Proofs.Ytfkjmehjofhoiaa
