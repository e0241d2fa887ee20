/-
  No cell of these rows narrows 'for every input' (looked for: loops, veiled, ifaces, maps, wideKeys, modest, calm, conditions, laid).
  DERIVED. THE GIVEN ROWS OF THIS SEAT. 6 by the template 'for every input the law returns true; each argument reads behind the call as it read before'; 0 by the template 'total and deterministic' (their statements: YtggclcocablccaaTotals.lean).
  GIVEN WITH THE SEED: the statements are not yours to turn. If you find one false, say at which input.
  Laid BY PROGRAM, IN A SANDBOX (cutbox-rows.mjs): the forced cells as the released guide's own fill.sh prints them over the translation b6eabd162a1b10f6… (all of the seat's roots in one cut). By AI agents, Wed Nov 11 2026. No macro, syntax, notation, axiom, sorry.
-/
import Derived.Test.YtggclcocablccaaChecked
import GoSem.Claim
import GoSem.ClaimJoined
import GoSem.ClaimMapViews
import Derived.JoinedTies
import Derived.KernelRfl
namespace Go.Proofs.Ytggclcocablccaa
/- THE CELL 'sum', in the pinned program and in every row, IS THE sha256 OF THE DUMP (.gsa) THAT YtggclcocablccaaProg.lean LOADS. Nothing in Lean hashes anything: it is a label: what it is worth is what the hold of that sum in a sandbox is worth. -/
noncomputable def Try.pinned : Pinned := { name := "ytggclcocablccaa", sum := "b6eabd162a1b10f6be25df8214d26b316c10b9b9cfbb27de6d72fbc29db2529c", checked := Try.checked }
namespace Rows
def none {H : Type} : Left H := { results := [], args := [] }

/-- 'laws.FnExactIsExclusion': WHATEVER THE INPUT: true; the input reads as it did. -/
def fnExactIsExclusionSpec : ChangeSpec := { name := "fnExactIsExclusion", fn := fun _ => fun
  | [d] => { results := [.lit (.bool true)], args := [d] }
  | _ => none }
def fnExactIsExclusionRow : OpenClaim := { program := "ytggclcocablccaa", sum := "b6eabd162a1b10f6be25df8214d26b316c10b9b9cfbb27de6d72fbc29db2529c", func := "loop.example/g03002/laws.FnExactIsExclusion", spec := "fnExactIsExclusion", apart := false }
def FnExactIsExclusionSaid : Prop := fnExactIsExclusionRow.holds Try.pinned (OpenSpec.ofChange fnExactIsExclusionSpec)

/-- ITS FALSE NEIGHBOUR: 'it returns false'. Refute it at one input. -/
def fnExactIsExclusionWrong : ChangeSpec := { name := "fnExactIsExclusion", fn := fun _ => fun
  | [d] => { results := [.lit (.bool false)], args := [d] }
  | _ => none }
def FnExactIsExclusionWrongFalsely : Prop := fnExactIsExclusionRow.holds Try.pinned (OpenSpec.ofChange fnExactIsExclusionWrong)

/-- 'laws.FnExactRankOf': WHATEVER THE INPUT: true; the input reads as it did. -/
def fnExactRankOfSpec : ChangeSpec := { name := "fnExactRankOf", fn := fun _ => fun
  | [d1, d2] => { results := [.lit (.bool true)], args := [d1, d2] }
  | _ => none }
def fnExactRankOfRow : OpenClaim := { program := "ytggclcocablccaa", sum := "b6eabd162a1b10f6be25df8214d26b316c10b9b9cfbb27de6d72fbc29db2529c", func := "loop.example/g03002/laws.FnExactRankOf", spec := "fnExactRankOf", apart := false }
def FnExactRankOfSaid : Prop := fnExactRankOfRow.holds Try.pinned (OpenSpec.ofChange fnExactRankOfSpec)

/-- ITS FALSE NEIGHBOUR: 'it returns false'. Refute it at one input. -/
def fnExactRankOfWrong : ChangeSpec := { name := "fnExactRankOf", fn := fun _ => fun
  | [d1, d2] => { results := [.lit (.bool false)], args := [d1, d2] }
  | _ => none }
def FnExactRankOfWrongFalsely : Prop := fnExactRankOfRow.holds Try.pinned (OpenSpec.ofChange fnExactRankOfWrong)

/-- 'laws.FnExactNonceFor': WHATEVER THE INPUT: true; the input reads as it did. -/
def fnExactNonceForSpec : ChangeSpec := { name := "fnExactNonceFor", fn := fun _ => fun
  | [d1, d2, d3] => { results := [.lit (.bool true)], args := [d1, d2, d3] }
  | _ => none }
def fnExactNonceForRow : OpenClaim := { program := "ytggclcocablccaa", sum := "b6eabd162a1b10f6be25df8214d26b316c10b9b9cfbb27de6d72fbc29db2529c", func := "loop.example/g03002/laws.FnExactNonceFor", spec := "fnExactNonceFor", apart := false }
def FnExactNonceForSaid : Prop := fnExactNonceForRow.holds Try.pinned (OpenSpec.ofChange fnExactNonceForSpec)

/-- ITS FALSE NEIGHBOUR: 'it returns false'. Refute it at one input. -/
def fnExactNonceForWrong : ChangeSpec := { name := "fnExactNonceFor", fn := fun _ => fun
  | [d1, d2, d3] => { results := [.lit (.bool false)], args := [d1, d2, d3] }
  | _ => none }
def FnExactNonceForWrongFalsely : Prop := fnExactNonceForRow.holds Try.pinned (OpenSpec.ofChange fnExactNonceForWrong)

/-- 'laws.FnExactSealStatement': WHATEVER THE INPUT: true; the input reads as it did. -/
def fnExactSealStatementSpec : ChangeSpec := { name := "fnExactSealStatement", fn := fun _ => fun
  | [d1, d2] => { results := [.lit (.bool true)], args := [d1, d2] }
  | _ => none }
def fnExactSealStatementRow : OpenClaim := { program := "ytggclcocablccaa", sum := "b6eabd162a1b10f6be25df8214d26b316c10b9b9cfbb27de6d72fbc29db2529c", func := "loop.example/g03002/laws.FnExactSealStatement", spec := "fnExactSealStatement", apart := false }
def FnExactSealStatementSaid : Prop := fnExactSealStatementRow.holds Try.pinned (OpenSpec.ofChange fnExactSealStatementSpec)

/-- ITS FALSE NEIGHBOUR: 'it returns false'. Refute it at one input. -/
def fnExactSealStatementWrong : ChangeSpec := { name := "fnExactSealStatement", fn := fun _ => fun
  | [d1, d2] => { results := [.lit (.bool false)], args := [d1, d2] }
  | _ => none }
def FnExactSealStatementWrongFalsely : Prop := fnExactSealStatementRow.holds Try.pinned (OpenSpec.ofChange fnExactSealStatementWrong)

/-- 'laws.FnExactIsStatement': WHATEVER THE INPUT: true; the input reads as it did. -/
def fnExactIsStatementSpec : ChangeSpec := { name := "fnExactIsStatement", fn := fun _ => fun
  | [d1, d2] => { results := [.lit (.bool true)], args := [d1, d2] }
  | _ => none }
def fnExactIsStatementRow : OpenClaim := { program := "ytggclcocablccaa", sum := "b6eabd162a1b10f6be25df8214d26b316c10b9b9cfbb27de6d72fbc29db2529c", func := "loop.example/g03002/laws.FnExactIsStatement", spec := "fnExactIsStatement", apart := false }
def FnExactIsStatementSaid : Prop := fnExactIsStatementRow.holds Try.pinned (OpenSpec.ofChange fnExactIsStatementSpec)

/-- ITS FALSE NEIGHBOUR: 'it returns false'. Refute it at one input. -/
def fnExactIsStatementWrong : ChangeSpec := { name := "fnExactIsStatement", fn := fun _ => fun
  | [d1, d2] => { results := [.lit (.bool false)], args := [d1, d2] }
  | _ => none }
def FnExactIsStatementWrongFalsely : Prop := fnExactIsStatementRow.holds Try.pinned (OpenSpec.ofChange fnExactIsStatementWrong)

/-- 'laws.FnExactAreLeaves': WHATEVER THE INPUT: true; the input reads as it did. -/
def fnExactAreLeavesSpec : ChangeSpec := { name := "fnExactAreLeaves", fn := fun _ => fun
  | [d] => { results := [.lit (.bool true)], args := [d] }
  | _ => none }
def fnExactAreLeavesRow : OpenClaim := { program := "ytggclcocablccaa", sum := "b6eabd162a1b10f6be25df8214d26b316c10b9b9cfbb27de6d72fbc29db2529c", func := "loop.example/g03002/laws.FnExactAreLeaves", spec := "fnExactAreLeaves", unfollowed := true, recurses := true, apart := false }
def FnExactAreLeavesSaid : Prop := fnExactAreLeavesRow.holds Try.pinned (OpenSpec.ofChange fnExactAreLeavesSpec)

/-- ITS FALSE NEIGHBOUR: 'it returns false'. Refute it at one input. -/
def fnExactAreLeavesWrong : ChangeSpec := { name := "fnExactAreLeaves", fn := fun _ => fun
  | [d] => { results := [.lit (.bool false)], args := [d] }
  | _ => none }
def FnExactAreLeavesWrongFalsely : Prop := fnExactAreLeavesRow.holds Try.pinned (OpenSpec.ofChange fnExactAreLeavesWrong)

/- THE SECOND FORM. 'bulk': how many values and letters a reading holds, each counted each time it is reached (what is shared counts as often as it is met; a slice's spare places count too). A statement '..UptoSaid' is the law's where the arguments, and the package variables that the reading takes, are together of bulk at most 1048576: NARROWER than '..Said'. Prove '..Said' where nothing that the law and all that it calls make is longer than what came in: it says more and counts as full. Else prove '..UptoSaid'. A law counts once. -/
mutual
def uptoBulk {H : Type} : DataW H → Nat
  | .lit (.string bytes) => bytes.length + 1
  | .lit _ => 1
  | .nil => 1
  | .ptr d => uptoBulk d + 1
  | .slice elems spare => uptoBulkAll elems + uptoBulkAll spare + 1
  | .agg parts => uptoBulkAll parts + 1
  | .iface _ d => uptoBulk d + 1
  | .map entries => uptoBulkEntries entries + 1
  | .held _ => 1
def uptoBulkAll {H : Type} : List (DataW H) → Nat
  | [] => 0
  | d :: r => uptoBulk d + uptoBulkAll r
def uptoBulkEntries {H : Type} : List (Lit × DataW H) → Nat
  | [] => 0
  | x :: r => uptoBulkEntry x + uptoBulkEntries r
def uptoBulkEntry {H : Type} : Lit × DataW H → Nat
  | (.string bytes, d) => bytes.length + uptoBulk d + 1
  | (_, d) => uptoBulk d + 1
 end
def uptoSmall : (H : Type) → List (DataW H) → Bool := fun _ ds => decide (uptoBulkAll ds ≤ 1048576)
def OpenSpec.upto (s : _root_.Go.ChangeSpec) : _root_.Go.OpenSpec := { _root_.Go.OpenSpec.ofChange s with cond := some uptoSmall }

/-- 'laws.FnExactIsExclusion', WHERE WHAT IT READS IS OF BULK AT MOST 1048576: true; the input reads as it did. -/
def fnExactIsExclusionUptoRow : OpenClaim := { program := "ytggclcocablccaa", sum := "b6eabd162a1b10f6be25df8214d26b316c10b9b9cfbb27de6d72fbc29db2529c", func := "loop.example/g03002/laws.FnExactIsExclusion", spec := "fnExactIsExclusion", apart := false, narrowed := true }
def FnExactIsExclusionUptoSaid : Prop := fnExactIsExclusionUptoRow.holds Try.pinned (OpenSpec.upto fnExactIsExclusionSpec)

/-- 'laws.FnExactRankOf', WHERE WHAT IT READS IS OF BULK AT MOST 1048576: true; the input reads as it did. -/
def fnExactRankOfUptoRow : OpenClaim := { program := "ytggclcocablccaa", sum := "b6eabd162a1b10f6be25df8214d26b316c10b9b9cfbb27de6d72fbc29db2529c", func := "loop.example/g03002/laws.FnExactRankOf", spec := "fnExactRankOf", apart := false, narrowed := true }
def FnExactRankOfUptoSaid : Prop := fnExactRankOfUptoRow.holds Try.pinned (OpenSpec.upto fnExactRankOfSpec)

/-- 'laws.FnExactNonceFor', WHERE WHAT IT READS IS OF BULK AT MOST 1048576: true; the input reads as it did. -/
def fnExactNonceForUptoRow : OpenClaim := { program := "ytggclcocablccaa", sum := "b6eabd162a1b10f6be25df8214d26b316c10b9b9cfbb27de6d72fbc29db2529c", func := "loop.example/g03002/laws.FnExactNonceFor", spec := "fnExactNonceFor", apart := false, narrowed := true }
def FnExactNonceForUptoSaid : Prop := fnExactNonceForUptoRow.holds Try.pinned (OpenSpec.upto fnExactNonceForSpec)

/-- 'laws.FnExactSealStatement', WHERE WHAT IT READS IS OF BULK AT MOST 1048576: true; the input reads as it did. -/
def fnExactSealStatementUptoRow : OpenClaim := { program := "ytggclcocablccaa", sum := "b6eabd162a1b10f6be25df8214d26b316c10b9b9cfbb27de6d72fbc29db2529c", func := "loop.example/g03002/laws.FnExactSealStatement", spec := "fnExactSealStatement", apart := false, narrowed := true }
def FnExactSealStatementUptoSaid : Prop := fnExactSealStatementUptoRow.holds Try.pinned (OpenSpec.upto fnExactSealStatementSpec)

/-- 'laws.FnExactIsStatement', WHERE WHAT IT READS IS OF BULK AT MOST 1048576: true; the input reads as it did. -/
def fnExactIsStatementUptoRow : OpenClaim := { program := "ytggclcocablccaa", sum := "b6eabd162a1b10f6be25df8214d26b316c10b9b9cfbb27de6d72fbc29db2529c", func := "loop.example/g03002/laws.FnExactIsStatement", spec := "fnExactIsStatement", apart := false, narrowed := true }
def FnExactIsStatementUptoSaid : Prop := fnExactIsStatementUptoRow.holds Try.pinned (OpenSpec.upto fnExactIsStatementSpec)

/-- 'laws.FnExactAreLeaves', WHERE WHAT IT READS IS OF BULK AT MOST 1048576: true; the input reads as it did. -/
def fnExactAreLeavesUptoRow : OpenClaim := { program := "ytggclcocablccaa", sum := "b6eabd162a1b10f6be25df8214d26b316c10b9b9cfbb27de6d72fbc29db2529c", func := "loop.example/g03002/laws.FnExactAreLeaves", spec := "fnExactAreLeaves", unfollowed := true, recurses := true, apart := false, narrowed := true }
def FnExactAreLeavesUptoSaid : Prop := fnExactAreLeavesUptoRow.holds Try.pinned (OpenSpec.upto fnExactAreLeavesSpec)

end Rows
end Go.Proofs.Ytggclcocablccaa
