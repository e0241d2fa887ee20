/-
  No cell of these rows narrows 'for every input' (looked for: loops, veiled, ifaces, maps, wideKeys, modest, calm, conditions, laid).
  DERIVED. THE GIVEN ROWS OF THIS SEAT. 10 by the template 'for every input the law returns true; each argument reads behind the call as it read before'; 0 by the template 'total and deterministic' (their statements: YtkcdbncblmbekaaTotals.lean).
  GIVEN WITH THE SEED: the statements are not yours to turn. If you find one false, say at which input.
  Laid BY PROGRAM, IN A SANDBOX (cutbox-rows.mjs): the forced cells as the released guide's own fill.sh prints them over the translation 90d2ee48990c4f8d… (all of the seat's roots in one cut). By AI agents, Wed Nov 11 2026. No macro, syntax, notation, axiom, sorry.
-/
import Derived.Test.YtkcdbncblmbekaaChecked
import GoSem.Claim
import GoSem.ClaimJoined
import GoSem.ClaimMapViews
import Derived.JoinedTies
import Derived.KernelRfl
namespace Go.Proofs.Ytkcdbncblmbekaa
/- THE CELL 'sum', in the pinned program and in every row, IS THE sha256 OF THE DUMP (.gsa) THAT YtkcdbncblmbekaaProg.lean LOADS. Nothing in Lean hashes anything: it is a label: what it is worth is what the hold of that sum in a sandbox is worth. -/
noncomputable def Try.pinned : Pinned := { name := "ytkcdbncblmbekaa", sum := "90d2ee48990c4f8d1c7e5654ebeed01947753060238a3039f53a285e39079ba3", checked := Try.checked }
namespace Rows
def none {H : Type} : Left H := { results := [], args := [] }

/-- 'laws.FnExactCanProduce': WHATEVER THE INPUT: true; the input reads as it did. -/
def fnExactCanProduceSpec : ChangeSpec := { name := "fnExactCanProduce", fn := fun _ => fun
  | [d1, d2] => { results := [.lit (.bool true)], args := [d1, d2] }
  | _ => none }
def fnExactCanProduceRow : OpenClaim := { program := "ytkcdbncblmbekaa", sum := "90d2ee48990c4f8d1c7e5654ebeed01947753060238a3039f53a285e39079ba3", func := "loop.example/g03002/laws.FnExactCanProduce", spec := "fnExactCanProduce", apart := false }
def FnExactCanProduceSaid : Prop := fnExactCanProduceRow.holds Try.pinned (OpenSpec.ofChange fnExactCanProduceSpec)

/-- ITS FALSE NEIGHBOUR: 'it returns false'. Refute it at one input. -/
def fnExactCanProduceWrong : ChangeSpec := { name := "fnExactCanProduce", fn := fun _ => fun
  | [d1, d2] => { results := [.lit (.bool false)], args := [d1, d2] }
  | _ => none }
def FnExactCanProduceWrongFalsely : Prop := fnExactCanProduceRow.holds Try.pinned (OpenSpec.ofChange fnExactCanProduceWrong)

/-- 'laws.FnExactHideLeaves': WHATEVER THE INPUT: true; the input reads as it did. -/
def fnExactHideLeavesSpec : ChangeSpec := { name := "fnExactHideLeaves", fn := fun _ => fun
  | [d1, d2] => { results := [.lit (.bool true)], args := [d1, d2] }
  | _ => none }
def fnExactHideLeavesRow : OpenClaim := { program := "ytkcdbncblmbekaa", sum := "90d2ee48990c4f8d1c7e5654ebeed01947753060238a3039f53a285e39079ba3", func := "loop.example/g03002/laws.FnExactHideLeaves", spec := "fnExactHideLeaves", apart := false }
def FnExactHideLeavesSaid : Prop := fnExactHideLeavesRow.holds Try.pinned (OpenSpec.ofChange fnExactHideLeavesSpec)

/-- ITS FALSE NEIGHBOUR: 'it returns false'. Refute it at one input. -/
def fnExactHideLeavesWrong : ChangeSpec := { name := "fnExactHideLeaves", fn := fun _ => fun
  | [d1, d2] => { results := [.lit (.bool false)], args := [d1, d2] }
  | _ => none }
def FnExactHideLeavesWrongFalsely : Prop := fnExactHideLeavesRow.holds Try.pinned (OpenSpec.ofChange fnExactHideLeavesWrong)

/-- 'laws.FnExactEqualLibraries': WHATEVER THE INPUT: true; the input reads as it did. -/
def fnExactEqualLibrariesSpec : ChangeSpec := { name := "fnExactEqualLibraries", fn := fun _ => fun
  | [d1, d2] => { results := [.lit (.bool true)], args := [d1, d2] }
  | _ => none }
def fnExactEqualLibrariesRow : OpenClaim := { program := "ytkcdbncblmbekaa", sum := "90d2ee48990c4f8d1c7e5654ebeed01947753060238a3039f53a285e39079ba3", func := "loop.example/g03002/laws.FnExactEqualLibraries", spec := "fnExactEqualLibraries", unfollowed := true, recurses := true, apart := false }
def FnExactEqualLibrariesSaid : Prop := fnExactEqualLibrariesRow.holds Try.pinned (OpenSpec.ofChange fnExactEqualLibrariesSpec)

/-- ITS FALSE NEIGHBOUR: 'it returns false'. Refute it at one input. -/
def fnExactEqualLibrariesWrong : ChangeSpec := { name := "fnExactEqualLibraries", fn := fun _ => fun
  | [d1, d2] => { results := [.lit (.bool false)], args := [d1, d2] }
  | _ => none }
def FnExactEqualLibrariesWrongFalsely : Prop := fnExactEqualLibrariesRow.holds Try.pinned (OpenSpec.ofChange fnExactEqualLibrariesWrong)

/-- 'laws.FnExactCheckAnswer': WHATEVER THE INPUT: true; the input reads as it did. -/
def fnExactCheckAnswerSpec : ChangeSpec := { name := "fnExactCheckAnswer", fn := fun _ => fun
  | [d1, d2, d3, d4] => { results := [.lit (.bool true)], args := [d1, d2, d3, d4] }
  | _ => none }
def fnExactCheckAnswerRow : OpenClaim := { program := "ytkcdbncblmbekaa", sum := "90d2ee48990c4f8d1c7e5654ebeed01947753060238a3039f53a285e39079ba3", func := "loop.example/g03002/laws.FnExactCheckAnswer", spec := "fnExactCheckAnswer", apart := false }
def FnExactCheckAnswerSaid : Prop := fnExactCheckAnswerRow.holds Try.pinned (OpenSpec.ofChange fnExactCheckAnswerSpec)

/-- ITS FALSE NEIGHBOUR: 'it returns false'. Refute it at one input. -/
def fnExactCheckAnswerWrong : ChangeSpec := { name := "fnExactCheckAnswer", fn := fun _ => fun
  | [d1, d2, d3, d4] => { results := [.lit (.bool false)], args := [d1, d2, d3, d4] }
  | _ => none }
def FnExactCheckAnswerWrongFalsely : Prop := fnExactCheckAnswerRow.holds Try.pinned (OpenSpec.ofChange fnExactCheckAnswerWrong)

/-- 'laws.FnExactCountHonest': WHATEVER THE INPUT: true; the input reads as it did. -/
def fnExactCountHonestSpec : ChangeSpec := { name := "fnExactCountHonest", fn := fun _ => fun
  | [d1, d2] => { results := [.lit (.bool true)], args := [d1, d2] }
  | _ => none }
def fnExactCountHonestRow : OpenClaim := { program := "ytkcdbncblmbekaa", sum := "90d2ee48990c4f8d1c7e5654ebeed01947753060238a3039f53a285e39079ba3", func := "loop.example/g03002/laws.FnExactCountHonest", spec := "fnExactCountHonest", apart := false }
def FnExactCountHonestSaid : Prop := fnExactCountHonestRow.holds Try.pinned (OpenSpec.ofChange fnExactCountHonestSpec)

/-- ITS FALSE NEIGHBOUR: 'it returns false'. Refute it at one input. -/
def fnExactCountHonestWrong : ChangeSpec := { name := "fnExactCountHonest", fn := fun _ => fun
  | [d1, d2] => { results := [.lit (.bool false)], args := [d1, d2] }
  | _ => none }
def FnExactCountHonestWrongFalsely : Prop := fnExactCountHonestRow.holds Try.pinned (OpenSpec.ofChange fnExactCountHonestWrong)

/-- 'laws.FnExactToOld': WHATEVER THE INPUT: true; the input reads as it did. -/
def fnExactToOldSpec : ChangeSpec := { name := "fnExactToOld", fn := fun _ => fun
  | [d] => { results := [.lit (.bool true)], args := [d] }
  | _ => none }
def fnExactToOldRow : OpenClaim := { program := "ytkcdbncblmbekaa", sum := "90d2ee48990c4f8d1c7e5654ebeed01947753060238a3039f53a285e39079ba3", func := "loop.example/g03002/laws.FnExactToOld", spec := "fnExactToOld", apart := false }
def FnExactToOldSaid : Prop := fnExactToOldRow.holds Try.pinned (OpenSpec.ofChange fnExactToOldSpec)

/-- ITS FALSE NEIGHBOUR: 'it returns false'. Refute it at one input. -/
def fnExactToOldWrong : ChangeSpec := { name := "fnExactToOld", fn := fun _ => fun
  | [d] => { results := [.lit (.bool false)], args := [d] }
  | _ => none }
def FnExactToOldWrongFalsely : Prop := fnExactToOldRow.holds Try.pinned (OpenSpec.ofChange fnExactToOldWrong)

/-- 'laws.FnExactServesOther': WHATEVER THE INPUT: true; the input reads as it did. -/
def fnExactServesOtherSpec : ChangeSpec := { name := "fnExactServesOther", fn := fun _ => fun
  | [d1, d2, d3, d4] => { results := [.lit (.bool true)], args := [d1, d2, d3, d4] }
  | _ => none }
def fnExactServesOtherRow : OpenClaim := { program := "ytkcdbncblmbekaa", sum := "90d2ee48990c4f8d1c7e5654ebeed01947753060238a3039f53a285e39079ba3", func := "loop.example/g03002/laws.FnExactServesOther", spec := "fnExactServesOther", apart := false }
def FnExactServesOtherSaid : Prop := fnExactServesOtherRow.holds Try.pinned (OpenSpec.ofChange fnExactServesOtherSpec)

/-- ITS FALSE NEIGHBOUR: 'it returns false'. Refute it at one input. -/
def fnExactServesOtherWrong : ChangeSpec := { name := "fnExactServesOther", fn := fun _ => fun
  | [d1, d2, d3, d4] => { results := [.lit (.bool false)], args := [d1, d2, d3, d4] }
  | _ => none }
def FnExactServesOtherWrongFalsely : Prop := fnExactServesOtherRow.holds Try.pinned (OpenSpec.ofChange fnExactServesOtherWrong)

/-- 'laws.FnExactIsRedactionOf': WHATEVER THE INPUT: true; the input reads as it did. -/
def fnExactIsRedactionOfSpec : ChangeSpec := { name := "fnExactIsRedactionOf", fn := fun _ => fun
  | [d1, d2] => { results := [.lit (.bool true)], args := [d1, d2] }
  | _ => none }
def fnExactIsRedactionOfRow : OpenClaim := { program := "ytkcdbncblmbekaa", sum := "90d2ee48990c4f8d1c7e5654ebeed01947753060238a3039f53a285e39079ba3", func := "loop.example/g03002/laws.FnExactIsRedactionOf", spec := "fnExactIsRedactionOf", unfollowed := true, recurses := true, apart := false }
def FnExactIsRedactionOfSaid : Prop := fnExactIsRedactionOfRow.holds Try.pinned (OpenSpec.ofChange fnExactIsRedactionOfSpec)

/-- ITS FALSE NEIGHBOUR: 'it returns false'. Refute it at one input. -/
def fnExactIsRedactionOfWrong : ChangeSpec := { name := "fnExactIsRedactionOf", fn := fun _ => fun
  | [d1, d2] => { results := [.lit (.bool false)], args := [d1, d2] }
  | _ => none }
def FnExactIsRedactionOfWrongFalsely : Prop := fnExactIsRedactionOfRow.holds Try.pinned (OpenSpec.ofChange fnExactIsRedactionOfWrong)

/-- 'laws.FnExactHoldersOf': WHATEVER THE INPUT: true; the input reads as it did. -/
def fnExactHoldersOfSpec : ChangeSpec := { name := "fnExactHoldersOf", fn := fun _ => fun
  | [d1, d2] => { results := [.lit (.bool true)], args := [d1, d2] }
  | _ => none }
def fnExactHoldersOfRow : OpenClaim := { program := "ytkcdbncblmbekaa", sum := "90d2ee48990c4f8d1c7e5654ebeed01947753060238a3039f53a285e39079ba3", func := "loop.example/g03002/laws.FnExactHoldersOf", spec := "fnExactHoldersOf", apart := false }
def FnExactHoldersOfSaid : Prop := fnExactHoldersOfRow.holds Try.pinned (OpenSpec.ofChange fnExactHoldersOfSpec)

/-- ITS FALSE NEIGHBOUR: 'it returns false'. Refute it at one input. -/
def fnExactHoldersOfWrong : ChangeSpec := { name := "fnExactHoldersOf", fn := fun _ => fun
  | [d1, d2] => { results := [.lit (.bool false)], args := [d1, d2] }
  | _ => none }
def FnExactHoldersOfWrongFalsely : Prop := fnExactHoldersOfRow.holds Try.pinned (OpenSpec.ofChange fnExactHoldersOfWrong)

/-- 'laws.FnExactSealBody': WHATEVER THE INPUT: true; the input reads as it did. -/
def fnExactSealBodySpec : ChangeSpec := { name := "fnExactSealBody", fn := fun _ => fun
  | [d1, d2] => { results := [.lit (.bool true)], args := [d1, d2] }
  | _ => none }
def fnExactSealBodyRow : OpenClaim := { program := "ytkcdbncblmbekaa", sum := "90d2ee48990c4f8d1c7e5654ebeed01947753060238a3039f53a285e39079ba3", func := "loop.example/g03002/laws.FnExactSealBody", spec := "fnExactSealBody", apart := false }
def FnExactSealBodySaid : Prop := fnExactSealBodyRow.holds Try.pinned (OpenSpec.ofChange fnExactSealBodySpec)

/-- ITS FALSE NEIGHBOUR: 'it returns false'. Refute it at one input. -/
def fnExactSealBodyWrong : ChangeSpec := { name := "fnExactSealBody", fn := fun _ => fun
  | [d1, d2] => { results := [.lit (.bool false)], args := [d1, d2] }
  | _ => none }
def FnExactSealBodyWrongFalsely : Prop := fnExactSealBodyRow.holds Try.pinned (OpenSpec.ofChange fnExactSealBodyWrong)

/- THE SECOND FORM. 'bulk': how many values and letters a reading holds, each counted each time it is reached (what is shared counts as often as it is met; a slice's spare places count too). A statement '..UptoSaid' is the law's where the arguments, and the package variables that the reading takes, are together of bulk at most 1048576: NARROWER than '..Said'. Prove '..Said' where nothing that the law and all that it calls make is longer than what came in: it says more and counts as full. Else prove '..UptoSaid'. A law counts once. -/
mutual
def uptoBulk {H : Type} : DataW H → Nat
  | .lit (.string bytes) => bytes.length + 1
  | .lit _ => 1
  | .nil => 1
  | .ptr d => uptoBulk d + 1
  | .slice elems spare => uptoBulkAll elems + uptoBulkAll spare + 1
  | .agg parts => uptoBulkAll parts + 1
  | .iface _ d => uptoBulk d + 1
  | .map entries => uptoBulkEntries entries + 1
  | .held _ => 1
def uptoBulkAll {H : Type} : List (DataW H) → Nat
  | [] => 0
  | d :: r => uptoBulk d + uptoBulkAll r
def uptoBulkEntries {H : Type} : List (Lit × DataW H) → Nat
  | [] => 0
  | x :: r => uptoBulkEntry x + uptoBulkEntries r
def uptoBulkEntry {H : Type} : Lit × DataW H → Nat
  | (.string bytes, d) => bytes.length + uptoBulk d + 1
  | (_, d) => uptoBulk d + 1
 end
def uptoSmall : (H : Type) → List (DataW H) → Bool := fun _ ds => decide (uptoBulkAll ds ≤ 1048576)
def OpenSpec.upto (s : _root_.Go.ChangeSpec) : _root_.Go.OpenSpec := { _root_.Go.OpenSpec.ofChange s with cond := some uptoSmall }

/-- 'laws.FnExactCanProduce', WHERE WHAT IT READS IS OF BULK AT MOST 1048576: true; the input reads as it did. -/
def fnExactCanProduceUptoRow : OpenClaim := { program := "ytkcdbncblmbekaa", sum := "90d2ee48990c4f8d1c7e5654ebeed01947753060238a3039f53a285e39079ba3", func := "loop.example/g03002/laws.FnExactCanProduce", spec := "fnExactCanProduce", apart := false, narrowed := true }
def FnExactCanProduceUptoSaid : Prop := fnExactCanProduceUptoRow.holds Try.pinned (OpenSpec.upto fnExactCanProduceSpec)

/-- 'laws.FnExactHideLeaves', WHERE WHAT IT READS IS OF BULK AT MOST 1048576: true; the input reads as it did. -/
def fnExactHideLeavesUptoRow : OpenClaim := { program := "ytkcdbncblmbekaa", sum := "90d2ee48990c4f8d1c7e5654ebeed01947753060238a3039f53a285e39079ba3", func := "loop.example/g03002/laws.FnExactHideLeaves", spec := "fnExactHideLeaves", apart := false, narrowed := true }
def FnExactHideLeavesUptoSaid : Prop := fnExactHideLeavesUptoRow.holds Try.pinned (OpenSpec.upto fnExactHideLeavesSpec)

/-- 'laws.FnExactEqualLibraries', WHERE WHAT IT READS IS OF BULK AT MOST 1048576: true; the input reads as it did. -/
def fnExactEqualLibrariesUptoRow : OpenClaim := { program := "ytkcdbncblmbekaa", sum := "90d2ee48990c4f8d1c7e5654ebeed01947753060238a3039f53a285e39079ba3", func := "loop.example/g03002/laws.FnExactEqualLibraries", spec := "fnExactEqualLibraries", unfollowed := true, recurses := true, apart := false, narrowed := true }
def FnExactEqualLibrariesUptoSaid : Prop := fnExactEqualLibrariesUptoRow.holds Try.pinned (OpenSpec.upto fnExactEqualLibrariesSpec)

/-- 'laws.FnExactCheckAnswer', WHERE WHAT IT READS IS OF BULK AT MOST 1048576: true; the input reads as it did. -/
def fnExactCheckAnswerUptoRow : OpenClaim := { program := "ytkcdbncblmbekaa", sum := "90d2ee48990c4f8d1c7e5654ebeed01947753060238a3039f53a285e39079ba3", func := "loop.example/g03002/laws.FnExactCheckAnswer", spec := "fnExactCheckAnswer", apart := false, narrowed := true }
def FnExactCheckAnswerUptoSaid : Prop := fnExactCheckAnswerUptoRow.holds Try.pinned (OpenSpec.upto fnExactCheckAnswerSpec)

/-- 'laws.FnExactCountHonest', WHERE WHAT IT READS IS OF BULK AT MOST 1048576: true; the input reads as it did. -/
def fnExactCountHonestUptoRow : OpenClaim := { program := "ytkcdbncblmbekaa", sum := "90d2ee48990c4f8d1c7e5654ebeed01947753060238a3039f53a285e39079ba3", func := "loop.example/g03002/laws.FnExactCountHonest", spec := "fnExactCountHonest", apart := false, narrowed := true }
def FnExactCountHonestUptoSaid : Prop := fnExactCountHonestUptoRow.holds Try.pinned (OpenSpec.upto fnExactCountHonestSpec)

/-- 'laws.FnExactToOld', WHERE WHAT IT READS IS OF BULK AT MOST 1048576: true; the input reads as it did. -/
def fnExactToOldUptoRow : OpenClaim := { program := "ytkcdbncblmbekaa", sum := "90d2ee48990c4f8d1c7e5654ebeed01947753060238a3039f53a285e39079ba3", func := "loop.example/g03002/laws.FnExactToOld", spec := "fnExactToOld", apart := false, narrowed := true }
def FnExactToOldUptoSaid : Prop := fnExactToOldUptoRow.holds Try.pinned (OpenSpec.upto fnExactToOldSpec)

/-- 'laws.FnExactServesOther', WHERE WHAT IT READS IS OF BULK AT MOST 1048576: true; the input reads as it did. -/
def fnExactServesOtherUptoRow : OpenClaim := { program := "ytkcdbncblmbekaa", sum := "90d2ee48990c4f8d1c7e5654ebeed01947753060238a3039f53a285e39079ba3", func := "loop.example/g03002/laws.FnExactServesOther", spec := "fnExactServesOther", apart := false, narrowed := true }
def FnExactServesOtherUptoSaid : Prop := fnExactServesOtherUptoRow.holds Try.pinned (OpenSpec.upto fnExactServesOtherSpec)

/-- 'laws.FnExactIsRedactionOf', WHERE WHAT IT READS IS OF BULK AT MOST 1048576: true; the input reads as it did. -/
def fnExactIsRedactionOfUptoRow : OpenClaim := { program := "ytkcdbncblmbekaa", sum := "90d2ee48990c4f8d1c7e5654ebeed01947753060238a3039f53a285e39079ba3", func := "loop.example/g03002/laws.FnExactIsRedactionOf", spec := "fnExactIsRedactionOf", unfollowed := true, recurses := true, apart := false, narrowed := true }
def FnExactIsRedactionOfUptoSaid : Prop := fnExactIsRedactionOfUptoRow.holds Try.pinned (OpenSpec.upto fnExactIsRedactionOfSpec)

/-- 'laws.FnExactHoldersOf', WHERE WHAT IT READS IS OF BULK AT MOST 1048576: true; the input reads as it did. -/
def fnExactHoldersOfUptoRow : OpenClaim := { program := "ytkcdbncblmbekaa", sum := "90d2ee48990c4f8d1c7e5654ebeed01947753060238a3039f53a285e39079ba3", func := "loop.example/g03002/laws.FnExactHoldersOf", spec := "fnExactHoldersOf", apart := false, narrowed := true }
def FnExactHoldersOfUptoSaid : Prop := fnExactHoldersOfUptoRow.holds Try.pinned (OpenSpec.upto fnExactHoldersOfSpec)

/-- 'laws.FnExactSealBody', WHERE WHAT IT READS IS OF BULK AT MOST 1048576: true; the input reads as it did. -/
def fnExactSealBodyUptoRow : OpenClaim := { program := "ytkcdbncblmbekaa", sum := "90d2ee48990c4f8d1c7e5654ebeed01947753060238a3039f53a285e39079ba3", func := "loop.example/g03002/laws.FnExactSealBody", spec := "fnExactSealBody", apart := false, narrowed := true }
def FnExactSealBodyUptoSaid : Prop := fnExactSealBodyUptoRow.holds Try.pinned (OpenSpec.upto fnExactSealBodySpec)

end Rows
end Go.Proofs.Ytkcdbncblmbekaa
