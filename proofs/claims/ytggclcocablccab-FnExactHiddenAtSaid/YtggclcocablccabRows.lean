/-
  No cell of these rows narrows 'for every input' (looked for: loops, veiled, ifaces, maps, wideKeys, modest, calm, conditions, laid).
  DERIVED. THE GIVEN ROWS OF THIS SEAT. 6 by the template 'for every input the law returns true; each argument reads behind the call as it read before'; 0 by the template 'total and deterministic' (their statements: YtggclcocablccabTotals.lean).
  GIVEN WITH THE SEED: the statements are not yours to turn. If you find one false, say at which input.
  Laid BY PROGRAM, IN A SANDBOX (cutbox-rows.mjs): the forced cells as the released guide's own fill.sh prints them over the translation db68e7c459f118a8… (all of the seat's roots in one cut). By AI agents, Wed Nov 11 2026. No macro, syntax, notation, axiom, sorry.
-/
import Derived.Test.YtggclcocablccabChecked
import GoSem.Claim
import GoSem.ClaimJoined
import GoSem.ClaimMapViews
import Derived.JoinedTies
import Derived.KernelRfl
namespace Go.Proofs.Ytggclcocablccab
/- THE CELL 'sum', in the pinned program and in every row, IS THE sha256 OF THE DUMP (.gsa) THAT YtggclcocablccabProg.lean LOADS. Nothing in Lean hashes anything: it is a label: what it is worth is what the hold of that sum in a sandbox is worth. -/
noncomputable def Try.pinned : Pinned := { name := "ytggclcocablccab", sum := "db68e7c459f118a8bc04de90c25f01651669429b704f1662246998fd1fd593a8", checked := Try.checked }
namespace Rows
def none {H : Type} : Left H := { results := [], args := [] }

/-- 'laws.FnExactHiddenAt': WHATEVER THE INPUT: true; the input reads as it did. -/
def fnExactHiddenAtSpec : ChangeSpec := { name := "fnExactHiddenAt", fn := fun _ => fun
  | [d] => { results := [.lit (.bool true)], args := [d] }
  | _ => none }
def fnExactHiddenAtRow : OpenClaim := { program := "ytggclcocablccab", sum := "db68e7c459f118a8bc04de90c25f01651669429b704f1662246998fd1fd593a8", func := "loop.example/g03002/laws.FnExactHiddenAt", spec := "fnExactHiddenAt", apart := false }
def FnExactHiddenAtSaid : Prop := fnExactHiddenAtRow.holds Try.pinned (OpenSpec.ofChange fnExactHiddenAtSpec)

/-- ITS FALSE NEIGHBOUR: 'it returns false'. Refute it at one input. -/
def fnExactHiddenAtWrong : ChangeSpec := { name := "fnExactHiddenAt", fn := fun _ => fun
  | [d] => { results := [.lit (.bool false)], args := [d] }
  | _ => none }
def FnExactHiddenAtWrongFalsely : Prop := fnExactHiddenAtRow.holds Try.pinned (OpenSpec.ofChange fnExactHiddenAtWrong)

/-- 'laws.FnExactRepairCopies': WHATEVER THE INPUT: true; the input reads as it did. -/
def fnExactRepairCopiesSpec : ChangeSpec := { name := "fnExactRepairCopies", fn := fun _ => fun
  | [d1, d2, d3] => { results := [.lit (.bool true)], args := [d1, d2, d3] }
  | _ => none }
def fnExactRepairCopiesRow : OpenClaim := { program := "ytggclcocablccab", sum := "db68e7c459f118a8bc04de90c25f01651669429b704f1662246998fd1fd593a8", func := "loop.example/g03002/laws.FnExactRepairCopies", spec := "fnExactRepairCopies", inPlace := ["slices.overlaps[int]"], unfollowed := true, recurses := true, apart := false }
def FnExactRepairCopiesSaid : Prop := fnExactRepairCopiesRow.holds Try.pinned (OpenSpec.ofChange fnExactRepairCopiesSpec)

/-- ITS FALSE NEIGHBOUR: 'it returns false'. Refute it at one input. -/
def fnExactRepairCopiesWrong : ChangeSpec := { name := "fnExactRepairCopies", fn := fun _ => fun
  | [d1, d2, d3] => { results := [.lit (.bool false)], args := [d1, d2, d3] }
  | _ => none }
def FnExactRepairCopiesWrongFalsely : Prop := fnExactRepairCopiesRow.holds Try.pinned (OpenSpec.ofChange fnExactRepairCopiesWrong)

/-- 'laws.FnExactSealRoot': WHATEVER THE INPUT: true; the input reads as it did. -/
def fnExactSealRootSpec : ChangeSpec := { name := "fnExactSealRoot", fn := fun _ => fun
  | [d] => { results := [.lit (.bool true)], args := [d] }
  | _ => none }
def fnExactSealRootRow : OpenClaim := { program := "ytggclcocablccab", sum := "db68e7c459f118a8bc04de90c25f01651669429b704f1662246998fd1fd593a8", func := "loop.example/g03002/laws.FnExactSealRoot", spec := "fnExactSealRoot", recurses := true, apart := false }
def FnExactSealRootSaid : Prop := fnExactSealRootRow.holds Try.pinned (OpenSpec.ofChange fnExactSealRootSpec)

/-- ITS FALSE NEIGHBOUR: 'it returns false'. Refute it at one input. -/
def fnExactSealRootWrong : ChangeSpec := { name := "fnExactSealRoot", fn := fun _ => fun
  | [d] => { results := [.lit (.bool false)], args := [d] }
  | _ => none }
def FnExactSealRootWrongFalsely : Prop := fnExactSealRootRow.holds Try.pinned (OpenSpec.ofChange fnExactSealRootWrong)

/-- 'laws.FnExactGoodCopies': WHATEVER THE INPUT: true; the input reads as it did. -/
def fnExactGoodCopiesSpec : ChangeSpec := { name := "fnExactGoodCopies", fn := fun _ => fun
  | [d1, d2] => { results := [.lit (.bool true)], args := [d1, d2] }
  | _ => none }
def fnExactGoodCopiesRow : OpenClaim := { program := "ytggclcocablccab", sum := "db68e7c459f118a8bc04de90c25f01651669429b704f1662246998fd1fd593a8", func := "loop.example/g03002/laws.FnExactGoodCopies", spec := "fnExactGoodCopies", apart := false }
def FnExactGoodCopiesSaid : Prop := fnExactGoodCopiesRow.holds Try.pinned (OpenSpec.ofChange fnExactGoodCopiesSpec)

/-- ITS FALSE NEIGHBOUR: 'it returns false'. Refute it at one input. -/
def fnExactGoodCopiesWrong : ChangeSpec := { name := "fnExactGoodCopies", fn := fun _ => fun
  | [d1, d2] => { results := [.lit (.bool false)], args := [d1, d2] }
  | _ => none }
def FnExactGoodCopiesWrongFalsely : Prop := fnExactGoodCopiesRow.holds Try.pinned (OpenSpec.ofChange fnExactGoodCopiesWrong)

/-- 'laws.FnExactIsHiddenBy': WHATEVER THE INPUT: true; the input reads as it did. -/
def fnExactIsHiddenBySpec : ChangeSpec := { name := "fnExactIsHiddenBy", fn := fun _ => fun
  | [d1, d2, d3] => { results := [.lit (.bool true)], args := [d1, d2, d3] }
  | _ => none }
def fnExactIsHiddenByRow : OpenClaim := { program := "ytggclcocablccab", sum := "db68e7c459f118a8bc04de90c25f01651669429b704f1662246998fd1fd593a8", func := "loop.example/g03002/laws.FnExactIsHiddenBy", spec := "fnExactIsHiddenBy", apart := false }
def FnExactIsHiddenBySaid : Prop := fnExactIsHiddenByRow.holds Try.pinned (OpenSpec.ofChange fnExactIsHiddenBySpec)

/-- ITS FALSE NEIGHBOUR: 'it returns false'. Refute it at one input. -/
def fnExactIsHiddenByWrong : ChangeSpec := { name := "fnExactIsHiddenBy", fn := fun _ => fun
  | [d1, d2, d3] => { results := [.lit (.bool false)], args := [d1, d2, d3] }
  | _ => none }
def FnExactIsHiddenByWrongFalsely : Prop := fnExactIsHiddenByRow.holds Try.pinned (OpenSpec.ofChange fnExactIsHiddenByWrong)

/-- 'laws.FnExactAnswerWith': WHATEVER THE INPUT: true; the input reads as it did. -/
def fnExactAnswerWithSpec : ChangeSpec := { name := "fnExactAnswerWith", fn := fun _ => fun
  | [d1, d2] => { results := [.lit (.bool true)], args := [d1, d2] }
  | _ => none }
def fnExactAnswerWithRow : OpenClaim := { program := "ytggclcocablccab", sum := "db68e7c459f118a8bc04de90c25f01651669429b704f1662246998fd1fd593a8", func := "loop.example/g03002/laws.FnExactAnswerWith", spec := "fnExactAnswerWith", apart := false }
def FnExactAnswerWithSaid : Prop := fnExactAnswerWithRow.holds Try.pinned (OpenSpec.ofChange fnExactAnswerWithSpec)

/-- ITS FALSE NEIGHBOUR: 'it returns false'. Refute it at one input. -/
def fnExactAnswerWithWrong : ChangeSpec := { name := "fnExactAnswerWith", fn := fun _ => fun
  | [d1, d2] => { results := [.lit (.bool false)], args := [d1, d2] }
  | _ => none }
def FnExactAnswerWithWrongFalsely : Prop := fnExactAnswerWithRow.holds Try.pinned (OpenSpec.ofChange fnExactAnswerWithWrong)

/- THE SECOND FORM. 'bulk': how many values and letters a reading holds, each counted each time it is reached (what is shared counts as often as it is met; a slice's spare places count too). A statement '..UptoSaid' is the law's where the arguments, and the package variables that the reading takes, are together of bulk at most 1048576: NARROWER than '..Said'. Prove '..Said' where nothing that the law and all that it calls make is longer than what came in: it says more and counts as full. Else prove '..UptoSaid'. A law counts once. -/
mutual
def uptoBulk {H : Type} : DataW H → Nat
  | .lit (.string bytes) => bytes.length + 1
  | .lit _ => 1
  | .nil => 1
  | .ptr d => uptoBulk d + 1
  | .slice elems spare => uptoBulkAll elems + uptoBulkAll spare + 1
  | .agg parts => uptoBulkAll parts + 1
  | .iface _ d => uptoBulk d + 1
  | .map entries => uptoBulkEntries entries + 1
  | .held _ => 1
def uptoBulkAll {H : Type} : List (DataW H) → Nat
  | [] => 0
  | d :: r => uptoBulk d + uptoBulkAll r
def uptoBulkEntries {H : Type} : List (Lit × DataW H) → Nat
  | [] => 0
  | x :: r => uptoBulkEntry x + uptoBulkEntries r
def uptoBulkEntry {H : Type} : Lit × DataW H → Nat
  | (.string bytes, d) => bytes.length + uptoBulk d + 1
  | (_, d) => uptoBulk d + 1
 end
def uptoSmall : (H : Type) → List (DataW H) → Bool := fun _ ds => decide (uptoBulkAll ds ≤ 1048576)
def OpenSpec.upto (s : _root_.Go.ChangeSpec) : _root_.Go.OpenSpec := { _root_.Go.OpenSpec.ofChange s with cond := some uptoSmall }

/-- 'laws.FnExactHiddenAt', WHERE WHAT IT READS IS OF BULK AT MOST 1048576: true; the input reads as it did. -/
def fnExactHiddenAtUptoRow : OpenClaim := { program := "ytggclcocablccab", sum := "db68e7c459f118a8bc04de90c25f01651669429b704f1662246998fd1fd593a8", func := "loop.example/g03002/laws.FnExactHiddenAt", spec := "fnExactHiddenAt", apart := false, narrowed := true }
def FnExactHiddenAtUptoSaid : Prop := fnExactHiddenAtUptoRow.holds Try.pinned (OpenSpec.upto fnExactHiddenAtSpec)

/-- 'laws.FnExactRepairCopies', WHERE WHAT IT READS IS OF BULK AT MOST 1048576: true; the input reads as it did. -/
def fnExactRepairCopiesUptoRow : OpenClaim := { program := "ytggclcocablccab", sum := "db68e7c459f118a8bc04de90c25f01651669429b704f1662246998fd1fd593a8", func := "loop.example/g03002/laws.FnExactRepairCopies", spec := "fnExactRepairCopies", inPlace := ["slices.overlaps[int]"], unfollowed := true, recurses := true, apart := false, narrowed := true }
def FnExactRepairCopiesUptoSaid : Prop := fnExactRepairCopiesUptoRow.holds Try.pinned (OpenSpec.upto fnExactRepairCopiesSpec)

/-- 'laws.FnExactSealRoot', WHERE WHAT IT READS IS OF BULK AT MOST 1048576: true; the input reads as it did. -/
def fnExactSealRootUptoRow : OpenClaim := { program := "ytggclcocablccab", sum := "db68e7c459f118a8bc04de90c25f01651669429b704f1662246998fd1fd593a8", func := "loop.example/g03002/laws.FnExactSealRoot", spec := "fnExactSealRoot", recurses := true, apart := false, narrowed := true }
def FnExactSealRootUptoSaid : Prop := fnExactSealRootUptoRow.holds Try.pinned (OpenSpec.upto fnExactSealRootSpec)

/-- 'laws.FnExactGoodCopies', WHERE WHAT IT READS IS OF BULK AT MOST 1048576: true; the input reads as it did. -/
def fnExactGoodCopiesUptoRow : OpenClaim := { program := "ytggclcocablccab", sum := "db68e7c459f118a8bc04de90c25f01651669429b704f1662246998fd1fd593a8", func := "loop.example/g03002/laws.FnExactGoodCopies", spec := "fnExactGoodCopies", apart := false, narrowed := true }
def FnExactGoodCopiesUptoSaid : Prop := fnExactGoodCopiesUptoRow.holds Try.pinned (OpenSpec.upto fnExactGoodCopiesSpec)

/-- 'laws.FnExactIsHiddenBy', WHERE WHAT IT READS IS OF BULK AT MOST 1048576: true; the input reads as it did. -/
def fnExactIsHiddenByUptoRow : OpenClaim := { program := "ytggclcocablccab", sum := "db68e7c459f118a8bc04de90c25f01651669429b704f1662246998fd1fd593a8", func := "loop.example/g03002/laws.FnExactIsHiddenBy", spec := "fnExactIsHiddenBy", apart := false, narrowed := true }
def FnExactIsHiddenByUptoSaid : Prop := fnExactIsHiddenByUptoRow.holds Try.pinned (OpenSpec.upto fnExactIsHiddenBySpec)

/-- 'laws.FnExactAnswerWith', WHERE WHAT IT READS IS OF BULK AT MOST 1048576: true; the input reads as it did. -/
def fnExactAnswerWithUptoRow : OpenClaim := { program := "ytggclcocablccab", sum := "db68e7c459f118a8bc04de90c25f01651669429b704f1662246998fd1fd593a8", func := "loop.example/g03002/laws.FnExactAnswerWith", spec := "fnExactAnswerWith", apart := false, narrowed := true }
def FnExactAnswerWithUptoSaid : Prop := fnExactAnswerWithUptoRow.holds Try.pinned (OpenSpec.upto fnExactAnswerWithSpec)

end Rows
end Go.Proofs.Ytggclcocablccab
