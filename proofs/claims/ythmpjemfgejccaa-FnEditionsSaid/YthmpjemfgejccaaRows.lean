/-
  No cell of these rows narrows 'for every input' (looked for: loops, veiled, ifaces, maps, wideKeys, modest, calm, conditions, laid).
  DERIVED. THE GIVEN ROWS OF THIS SEAT. 10 by the template 'for every input the law returns true; each argument reads behind the call as it read before'; 0 by the template 'total and deterministic' (their statements: YthmpjemfgejccaaTotals.lean).
  GIVEN WITH THE SEED: the statements are not yours to turn. If you find one false, say at which input.
  Laid BY PROGRAM, IN A SANDBOX (cutbox-rows.mjs): the forced cells as the released guide's own fill.sh prints them over the translation 7dc6e42987606d5b… (all of the seat's roots in one cut). By AI agents, Wed Nov 11 2026. No macro, syntax, notation, axiom, sorry.
-/
import Derived.Test.YthmpjemfgejccaaChecked
import GoSem.Claim
import GoSem.ClaimJoined
import GoSem.ClaimMapViews
import Derived.JoinedTies
import Derived.KernelRfl
namespace Go.Proofs.Ythmpjemfgejccaa
/- THE CELL 'sum', in the pinned program and in every row, IS THE sha256 OF THE DUMP (.gsa) THAT YthmpjemfgejccaaProg.lean LOADS. Nothing in Lean hashes anything: it is a label: what it is worth is what the hold of that sum in a sandbox is worth. -/
noncomputable def Try.pinned : Pinned := { name := "ythmpjemfgejccaa", sum := "7dc6e42987606d5bda55b2329cbabb93214fba195e4ba268077dfeb41c6fea38", checked := Try.checked }
namespace Rows
def none {H : Type} : Left H := { results := [], args := [] }

/-- 'laws.FnExactHoldersOf': WHATEVER THE INPUT: true; the input reads as it did. -/
def fnExactHoldersOfSpec : ChangeSpec := { name := "fnExactHoldersOf", fn := fun _ => fun
  | [d1, d2] => { results := [.lit (.bool true)], args := [d1, d2] }
  | _ => none }
def fnExactHoldersOfRow : OpenClaim := { program := "ythmpjemfgejccaa", sum := "7dc6e42987606d5bda55b2329cbabb93214fba195e4ba268077dfeb41c6fea38", func := "loop.example/g03002/laws.FnExactHoldersOf", spec := "fnExactHoldersOf", apart := false }
def FnExactHoldersOfSaid : Prop := fnExactHoldersOfRow.holds Try.pinned (OpenSpec.ofChange fnExactHoldersOfSpec)

/-- ITS FALSE NEIGHBOUR: 'it returns false'. Refute it at one input. -/
def fnExactHoldersOfWrong : ChangeSpec := { name := "fnExactHoldersOf", fn := fun _ => fun
  | [d1, d2] => { results := [.lit (.bool false)], args := [d1, d2] }
  | _ => none }
def FnExactHoldersOfWrongFalsely : Prop := fnExactHoldersOfRow.holds Try.pinned (OpenSpec.ofChange fnExactHoldersOfWrong)

/-- 'laws.FnExactMigrate': WHATEVER THE INPUT: true; the input reads as it did. -/
def fnExactMigrateSpec : ChangeSpec := { name := "fnExactMigrate", fn := fun _ => fun
  | [d1, d2] => { results := [.lit (.bool true)], args := [d1, d2] }
  | _ => none }
def fnExactMigrateRow : OpenClaim := { program := "ythmpjemfgejccaa", sum := "7dc6e42987606d5bda55b2329cbabb93214fba195e4ba268077dfeb41c6fea38", func := "loop.example/g03002/laws.FnExactMigrate", spec := "fnExactMigrate", unfollowed := true, recurses := true, apart := false }
def FnExactMigrateSaid : Prop := fnExactMigrateRow.holds Try.pinned (OpenSpec.ofChange fnExactMigrateSpec)

/-- ITS FALSE NEIGHBOUR: 'it returns false'. Refute it at one input. -/
def fnExactMigrateWrong : ChangeSpec := { name := "fnExactMigrate", fn := fun _ => fun
  | [d1, d2] => { results := [.lit (.bool false)], args := [d1, d2] }
  | _ => none }
def FnExactMigrateWrongFalsely : Prop := fnExactMigrateRow.holds Try.pinned (OpenSpec.ofChange fnExactMigrateWrong)

/-- 'laws.FnExactToOld': WHATEVER THE INPUT: true; the input reads as it did. -/
def fnExactToOldSpec : ChangeSpec := { name := "fnExactToOld", fn := fun _ => fun
  | [d] => { results := [.lit (.bool true)], args := [d] }
  | _ => none }
def fnExactToOldRow : OpenClaim := { program := "ythmpjemfgejccaa", sum := "7dc6e42987606d5bda55b2329cbabb93214fba195e4ba268077dfeb41c6fea38", func := "loop.example/g03002/laws.FnExactToOld", spec := "fnExactToOld", apart := false }
def FnExactToOldSaid : Prop := fnExactToOldRow.holds Try.pinned (OpenSpec.ofChange fnExactToOldSpec)

/-- ITS FALSE NEIGHBOUR: 'it returns false'. Refute it at one input. -/
def fnExactToOldWrong : ChangeSpec := { name := "fnExactToOld", fn := fun _ => fun
  | [d] => { results := [.lit (.bool false)], args := [d] }
  | _ => none }
def FnExactToOldWrongFalsely : Prop := fnExactToOldRow.holds Try.pinned (OpenSpec.ofChange fnExactToOldWrong)

/-- 'laws.FnExactVisibleAt': WHATEVER THE INPUT: true; the input reads as it did. -/
def fnExactVisibleAtSpec : ChangeSpec := { name := "fnExactVisibleAt", fn := fun _ => fun
  | [d1, d2, d3] => { results := [.lit (.bool true)], args := [d1, d2, d3] }
  | _ => none }
def fnExactVisibleAtRow : OpenClaim := { program := "ythmpjemfgejccaa", sum := "7dc6e42987606d5bda55b2329cbabb93214fba195e4ba268077dfeb41c6fea38", func := "loop.example/g03002/laws.FnExactVisibleAt", spec := "fnExactVisibleAt", unfollowed := true, recurses := true, apart := false }
def FnExactVisibleAtSaid : Prop := fnExactVisibleAtRow.holds Try.pinned (OpenSpec.ofChange fnExactVisibleAtSpec)

/-- ITS FALSE NEIGHBOUR: 'it returns false'. Refute it at one input. -/
def fnExactVisibleAtWrong : ChangeSpec := { name := "fnExactVisibleAt", fn := fun _ => fun
  | [d1, d2, d3] => { results := [.lit (.bool false)], args := [d1, d2, d3] }
  | _ => none }
def FnExactVisibleAtWrongFalsely : Prop := fnExactVisibleAtRow.holds Try.pinned (OpenSpec.ofChange fnExactVisibleAtWrong)

/-- 'laws.FnExactEditionInts': WHATEVER THE INPUT: true; the input reads as it did. -/
def fnExactEditionIntsSpec : ChangeSpec := { name := "fnExactEditionInts", fn := fun _ => fun
  | [d] => { results := [.lit (.bool true)], args := [d] }
  | _ => none }
def fnExactEditionIntsRow : OpenClaim := { program := "ythmpjemfgejccaa", sum := "7dc6e42987606d5bda55b2329cbabb93214fba195e4ba268077dfeb41c6fea38", func := "loop.example/g03002/laws.FnExactEditionInts", spec := "fnExactEditionInts", apart := false }
def FnExactEditionIntsSaid : Prop := fnExactEditionIntsRow.holds Try.pinned (OpenSpec.ofChange fnExactEditionIntsSpec)

/-- ITS FALSE NEIGHBOUR: 'it returns false'. Refute it at one input. -/
def fnExactEditionIntsWrong : ChangeSpec := { name := "fnExactEditionInts", fn := fun _ => fun
  | [d] => { results := [.lit (.bool false)], args := [d] }
  | _ => none }
def FnExactEditionIntsWrongFalsely : Prop := fnExactEditionIntsRow.holds Try.pinned (OpenSpec.ofChange fnExactEditionIntsWrong)

/-- 'laws.FnExactLookUp': WHATEVER THE INPUT: true; the input reads as it did. -/
def fnExactLookUpSpec : ChangeSpec := { name := "fnExactLookUp", fn := fun _ => fun
  | [d1, d2] => { results := [.lit (.bool true)], args := [d1, d2] }
  | _ => none }
def fnExactLookUpRow : OpenClaim := { program := "ythmpjemfgejccaa", sum := "7dc6e42987606d5bda55b2329cbabb93214fba195e4ba268077dfeb41c6fea38", func := "loop.example/g03002/laws.FnExactLookUp", spec := "fnExactLookUp", apart := false }
def FnExactLookUpSaid : Prop := fnExactLookUpRow.holds Try.pinned (OpenSpec.ofChange fnExactLookUpSpec)

/-- ITS FALSE NEIGHBOUR: 'it returns false'. Refute it at one input. -/
def fnExactLookUpWrong : ChangeSpec := { name := "fnExactLookUp", fn := fun _ => fun
  | [d1, d2] => { results := [.lit (.bool false)], args := [d1, d2] }
  | _ => none }
def FnExactLookUpWrongFalsely : Prop := fnExactLookUpRow.holds Try.pinned (OpenSpec.ofChange fnExactLookUpWrong)

/-- 'laws.FnExactSealContainer': WHATEVER THE INPUT: true; the input reads as it did. -/
def fnExactSealContainerSpec : ChangeSpec := { name := "fnExactSealContainer", fn := fun _ => fun
  | [d1, d2, d3] => { results := [.lit (.bool true)], args := [d1, d2, d3] }
  | _ => none }
def fnExactSealContainerRow : OpenClaim := { program := "ythmpjemfgejccaa", sum := "7dc6e42987606d5bda55b2329cbabb93214fba195e4ba268077dfeb41c6fea38", func := "loop.example/g03002/laws.FnExactSealContainer", spec := "fnExactSealContainer", recurses := true, apart := false }
def FnExactSealContainerSaid : Prop := fnExactSealContainerRow.holds Try.pinned (OpenSpec.ofChange fnExactSealContainerSpec)

/-- ITS FALSE NEIGHBOUR: 'it returns false'. Refute it at one input. -/
def fnExactSealContainerWrong : ChangeSpec := { name := "fnExactSealContainer", fn := fun _ => fun
  | [d1, d2, d3] => { results := [.lit (.bool false)], args := [d1, d2, d3] }
  | _ => none }
def FnExactSealContainerWrongFalsely : Prop := fnExactSealContainerRow.holds Try.pinned (OpenSpec.ofChange fnExactSealContainerWrong)

/-- 'laws.FnExactMakeEdition': WHATEVER THE INPUT: true; the input reads as it did. -/
def fnExactMakeEditionSpec : ChangeSpec := { name := "fnExactMakeEdition", fn := fun _ => fun
  | [d1, d2, d3, d4] => { results := [.lit (.bool true)], args := [d1, d2, d3, d4] }
  | _ => none }
def fnExactMakeEditionRow : OpenClaim := { program := "ythmpjemfgejccaa", sum := "7dc6e42987606d5bda55b2329cbabb93214fba195e4ba268077dfeb41c6fea38", func := "loop.example/g03002/laws.FnExactMakeEdition", spec := "fnExactMakeEdition", unfollowed := true, recurses := true, apart := false }
def FnExactMakeEditionSaid : Prop := fnExactMakeEditionRow.holds Try.pinned (OpenSpec.ofChange fnExactMakeEditionSpec)

/-- ITS FALSE NEIGHBOUR: 'it returns false'. Refute it at one input. -/
def fnExactMakeEditionWrong : ChangeSpec := { name := "fnExactMakeEdition", fn := fun _ => fun
  | [d1, d2, d3, d4] => { results := [.lit (.bool false)], args := [d1, d2, d3, d4] }
  | _ => none }
def FnExactMakeEditionWrongFalsely : Prop := fnExactMakeEditionRow.holds Try.pinned (OpenSpec.ofChange fnExactMakeEditionWrong)

/-- 'laws.FnExactPlayContainer': WHATEVER THE INPUT: true; the input reads as it did. -/
def fnExactPlayContainerSpec : ChangeSpec := { name := "fnExactPlayContainer", fn := fun _ => fun
  | [d] => { results := [.lit (.bool true)], args := [d] }
  | _ => none }
def fnExactPlayContainerRow : OpenClaim := { program := "ythmpjemfgejccaa", sum := "7dc6e42987606d5bda55b2329cbabb93214fba195e4ba268077dfeb41c6fea38", func := "loop.example/g03002/laws.FnExactPlayContainer", spec := "fnExactPlayContainer", unfollowed := true, recurses := true, apart := false }
def FnExactPlayContainerSaid : Prop := fnExactPlayContainerRow.holds Try.pinned (OpenSpec.ofChange fnExactPlayContainerSpec)

/-- ITS FALSE NEIGHBOUR: 'it returns false'. Refute it at one input. -/
def fnExactPlayContainerWrong : ChangeSpec := { name := "fnExactPlayContainer", fn := fun _ => fun
  | [d] => { results := [.lit (.bool false)], args := [d] }
  | _ => none }
def FnExactPlayContainerWrongFalsely : Prop := fnExactPlayContainerRow.holds Try.pinned (OpenSpec.ofChange fnExactPlayContainerWrong)

/-- 'laws.FnEditions': WHATEVER THE INPUT: true; the input reads as it did. -/
def fnEditionsSpec : ChangeSpec := { name := "fnEditions", fn := fun _ => fun
  | [d] => { results := [.lit (.bool true)], args := [d] }
  | _ => none }
def fnEditionsRow : OpenClaim := { program := "ythmpjemfgejccaa", sum := "7dc6e42987606d5bda55b2329cbabb93214fba195e4ba268077dfeb41c6fea38", func := "loop.example/g03002/laws.FnEditions", spec := "fnEditions", unfollowed := true, recurses := true, apart := false }
def FnEditionsSaid : Prop := fnEditionsRow.holds Try.pinned (OpenSpec.ofChange fnEditionsSpec)

/-- ITS FALSE NEIGHBOUR: 'it returns false'. Refute it at one input. -/
def fnEditionsWrong : ChangeSpec := { name := "fnEditions", fn := fun _ => fun
  | [d] => { results := [.lit (.bool false)], args := [d] }
  | _ => none }
def FnEditionsWrongFalsely : Prop := fnEditionsRow.holds Try.pinned (OpenSpec.ofChange fnEditionsWrong)

/- THE SECOND FORM. 'bulk': how many values and letters a reading holds, each counted each time it is reached (what is shared counts as often as it is met; a slice's spare places count too). A statement '..UptoSaid' is the law's where the arguments, and the package variables that the reading takes, are together of bulk at most 1048576: NARROWER than '..Said'. Prove '..Said' where nothing that the law and all that it calls make is longer than what came in: it says more and counts as full. Else prove '..UptoSaid'. A law counts once. -/
mutual
def uptoBulk {H : Type} : DataW H → Nat
  | .lit (.string bytes) => bytes.length + 1
  | .lit _ => 1
  | .nil => 1
  | .ptr d => uptoBulk d + 1
  | .slice elems spare => uptoBulkAll elems + uptoBulkAll spare + 1
  | .agg parts => uptoBulkAll parts + 1
  | .iface _ d => uptoBulk d + 1
  | .map entries => uptoBulkEntries entries + 1
  | .held _ => 1
def uptoBulkAll {H : Type} : List (DataW H) → Nat
  | [] => 0
  | d :: r => uptoBulk d + uptoBulkAll r
def uptoBulkEntries {H : Type} : List (Lit × DataW H) → Nat
  | [] => 0
  | x :: r => uptoBulkEntry x + uptoBulkEntries r
def uptoBulkEntry {H : Type} : Lit × DataW H → Nat
  | (.string bytes, d) => bytes.length + uptoBulk d + 1
  | (_, d) => uptoBulk d + 1
 end
def uptoSmall : (H : Type) → List (DataW H) → Bool := fun _ ds => decide (uptoBulkAll ds ≤ 1048576)
def OpenSpec.upto (s : _root_.Go.ChangeSpec) : _root_.Go.OpenSpec := { _root_.Go.OpenSpec.ofChange s with cond := some uptoSmall }

/-- 'laws.FnExactHoldersOf', WHERE WHAT IT READS IS OF BULK AT MOST 1048576: true; the input reads as it did. -/
def fnExactHoldersOfUptoRow : OpenClaim := { program := "ythmpjemfgejccaa", sum := "7dc6e42987606d5bda55b2329cbabb93214fba195e4ba268077dfeb41c6fea38", func := "loop.example/g03002/laws.FnExactHoldersOf", spec := "fnExactHoldersOf", apart := false, narrowed := true }
def FnExactHoldersOfUptoSaid : Prop := fnExactHoldersOfUptoRow.holds Try.pinned (OpenSpec.upto fnExactHoldersOfSpec)

/-- 'laws.FnExactMigrate', WHERE WHAT IT READS IS OF BULK AT MOST 1048576: true; the input reads as it did. -/
def fnExactMigrateUptoRow : OpenClaim := { program := "ythmpjemfgejccaa", sum := "7dc6e42987606d5bda55b2329cbabb93214fba195e4ba268077dfeb41c6fea38", func := "loop.example/g03002/laws.FnExactMigrate", spec := "fnExactMigrate", unfollowed := true, recurses := true, apart := false, narrowed := true }
def FnExactMigrateUptoSaid : Prop := fnExactMigrateUptoRow.holds Try.pinned (OpenSpec.upto fnExactMigrateSpec)

/-- 'laws.FnExactToOld', WHERE WHAT IT READS IS OF BULK AT MOST 1048576: true; the input reads as it did. -/
def fnExactToOldUptoRow : OpenClaim := { program := "ythmpjemfgejccaa", sum := "7dc6e42987606d5bda55b2329cbabb93214fba195e4ba268077dfeb41c6fea38", func := "loop.example/g03002/laws.FnExactToOld", spec := "fnExactToOld", apart := false, narrowed := true }
def FnExactToOldUptoSaid : Prop := fnExactToOldUptoRow.holds Try.pinned (OpenSpec.upto fnExactToOldSpec)

/-- 'laws.FnExactVisibleAt', WHERE WHAT IT READS IS OF BULK AT MOST 1048576: true; the input reads as it did. -/
def fnExactVisibleAtUptoRow : OpenClaim := { program := "ythmpjemfgejccaa", sum := "7dc6e42987606d5bda55b2329cbabb93214fba195e4ba268077dfeb41c6fea38", func := "loop.example/g03002/laws.FnExactVisibleAt", spec := "fnExactVisibleAt", unfollowed := true, recurses := true, apart := false, narrowed := true }
def FnExactVisibleAtUptoSaid : Prop := fnExactVisibleAtUptoRow.holds Try.pinned (OpenSpec.upto fnExactVisibleAtSpec)

/-- 'laws.FnExactEditionInts', WHERE WHAT IT READS IS OF BULK AT MOST 1048576: true; the input reads as it did. -/
def fnExactEditionIntsUptoRow : OpenClaim := { program := "ythmpjemfgejccaa", sum := "7dc6e42987606d5bda55b2329cbabb93214fba195e4ba268077dfeb41c6fea38", func := "loop.example/g03002/laws.FnExactEditionInts", spec := "fnExactEditionInts", apart := false, narrowed := true }
def FnExactEditionIntsUptoSaid : Prop := fnExactEditionIntsUptoRow.holds Try.pinned (OpenSpec.upto fnExactEditionIntsSpec)

/-- 'laws.FnExactLookUp', WHERE WHAT IT READS IS OF BULK AT MOST 1048576: true; the input reads as it did. -/
def fnExactLookUpUptoRow : OpenClaim := { program := "ythmpjemfgejccaa", sum := "7dc6e42987606d5bda55b2329cbabb93214fba195e4ba268077dfeb41c6fea38", func := "loop.example/g03002/laws.FnExactLookUp", spec := "fnExactLookUp", apart := false, narrowed := true }
def FnExactLookUpUptoSaid : Prop := fnExactLookUpUptoRow.holds Try.pinned (OpenSpec.upto fnExactLookUpSpec)

/-- 'laws.FnExactSealContainer', WHERE WHAT IT READS IS OF BULK AT MOST 1048576: true; the input reads as it did. -/
def fnExactSealContainerUptoRow : OpenClaim := { program := "ythmpjemfgejccaa", sum := "7dc6e42987606d5bda55b2329cbabb93214fba195e4ba268077dfeb41c6fea38", func := "loop.example/g03002/laws.FnExactSealContainer", spec := "fnExactSealContainer", recurses := true, apart := false, narrowed := true }
def FnExactSealContainerUptoSaid : Prop := fnExactSealContainerUptoRow.holds Try.pinned (OpenSpec.upto fnExactSealContainerSpec)

/-- 'laws.FnExactMakeEdition', WHERE WHAT IT READS IS OF BULK AT MOST 1048576: true; the input reads as it did. -/
def fnExactMakeEditionUptoRow : OpenClaim := { program := "ythmpjemfgejccaa", sum := "7dc6e42987606d5bda55b2329cbabb93214fba195e4ba268077dfeb41c6fea38", func := "loop.example/g03002/laws.FnExactMakeEdition", spec := "fnExactMakeEdition", unfollowed := true, recurses := true, apart := false, narrowed := true }
def FnExactMakeEditionUptoSaid : Prop := fnExactMakeEditionUptoRow.holds Try.pinned (OpenSpec.upto fnExactMakeEditionSpec)

/-- 'laws.FnExactPlayContainer', WHERE WHAT IT READS IS OF BULK AT MOST 1048576: true; the input reads as it did. -/
def fnExactPlayContainerUptoRow : OpenClaim := { program := "ythmpjemfgejccaa", sum := "7dc6e42987606d5bda55b2329cbabb93214fba195e4ba268077dfeb41c6fea38", func := "loop.example/g03002/laws.FnExactPlayContainer", spec := "fnExactPlayContainer", unfollowed := true, recurses := true, apart := false, narrowed := true }
def FnExactPlayContainerUptoSaid : Prop := fnExactPlayContainerUptoRow.holds Try.pinned (OpenSpec.upto fnExactPlayContainerSpec)

/-- 'laws.FnEditions', WHERE WHAT IT READS IS OF BULK AT MOST 1048576: true; the input reads as it did. -/
def fnEditionsUptoRow : OpenClaim := { program := "ythmpjemfgejccaa", sum := "7dc6e42987606d5bda55b2329cbabb93214fba195e4ba268077dfeb41c6fea38", func := "loop.example/g03002/laws.FnEditions", spec := "fnEditions", unfollowed := true, recurses := true, apart := false, narrowed := true }
def FnEditionsUptoSaid : Prop := fnEditionsUptoRow.holds Try.pinned (OpenSpec.upto fnEditionsSpec)

end Rows
end Go.Proofs.Ythmpjemfgejccaa
