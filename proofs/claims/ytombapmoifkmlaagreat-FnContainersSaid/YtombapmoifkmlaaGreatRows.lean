/-
  No cell of these rows narrows 'for every input' (looked for: loops, veiled, ifaces, maps, wideKeys, modest, calm, conditions, laid).
  DERIVED. THE GIVEN ROWS OF THIS SEAT. 3 by the template 'for every input the law returns true; each argument reads behind the call as it read before'; 0 by the template 'total and deterministic' (their statements: YtombapmoifkmlaaGreatTotals.lean).
  GIVEN WITH THE SEED: the statements are not yours to turn. If you find one false, say at which input.
  Laid BY PROGRAM, IN A SANDBOX (cutbox-rows.mjs): the forced cells as the released guide's own fill.sh prints them over the translation d377e8956e80fb45… (all of the seat's roots in one cut). By AI agents, Wed Nov 11 2026. No macro, syntax, notation, axiom, sorry.
-/
import Derived.Test.YtombapmoifkmlaaGreatChecked
import GoSem.Claim
import GoSem.ClaimJoined
import GoSem.ClaimMapViews
import Derived.JoinedTies
import Derived.KernelRfl
namespace Go.Proofs.YtombapmoifkmlaaGreat
/- THE CELL 'sum', in the pinned program and in every row, IS THE sha256 OF THE DUMP (.gsa) THAT YtombapmoifkmlaaGreatProg.lean LOADS. Nothing in Lean hashes anything: it is a label: what it is worth is what the hold of that sum in a sandbox is worth. -/
noncomputable def Tryz.pinned : Pinned := { name := "ytombapmoifkmlaagreat", sum := "d377e8956e80fb45f17a7d9aeef69baf7417a641d577efb67cc94728c63f4ac6", checked := Tryz.checked }
namespace Rows
def none {H : Type} : Left H := { results := [], args := [] }

/-- 'laws.FnExactIsComplete': WHATEVER THE INPUT: true; the input reads as it did. -/
def fnExactIsCompleteSpec : ChangeSpec := { name := "fnExactIsComplete", fn := fun _ => fun
  | [d1, d2, d3] => { results := [.lit (.bool true)], args := [d1, d2, d3] }
  | _ => none }
def fnExactIsCompleteRow : OpenClaim := { program := "ytombapmoifkmlaagreat", sum := "d377e8956e80fb45f17a7d9aeef69baf7417a641d577efb67cc94728c63f4ac6", func := "loop.example/g03002/laws.FnExactIsComplete", spec := "fnExactIsComplete", unfollowed := true, recurses := true, apart := false }
def FnExactIsCompleteSaid : Prop := fnExactIsCompleteRow.holds Tryz.pinned (OpenSpec.ofChange fnExactIsCompleteSpec)

/-- ITS FALSE NEIGHBOUR: 'it returns false'. Refute it at one input. -/
def fnExactIsCompleteWrong : ChangeSpec := { name := "fnExactIsComplete", fn := fun _ => fun
  | [d1, d2, d3] => { results := [.lit (.bool false)], args := [d1, d2, d3] }
  | _ => none }
def FnExactIsCompleteWrongFalsely : Prop := fnExactIsCompleteRow.holds Tryz.pinned (OpenSpec.ofChange fnExactIsCompleteWrong)

/-- 'laws.FnExactCoverageOf': WHATEVER THE INPUT: true; the input reads as it did. -/
def fnExactCoverageOfSpec : ChangeSpec := { name := "fnExactCoverageOf", fn := fun _ => fun
  | [d1, d2, d3] => { results := [.lit (.bool true)], args := [d1, d2, d3] }
  | _ => none }
def fnExactCoverageOfRow : OpenClaim := { program := "ytombapmoifkmlaagreat", sum := "d377e8956e80fb45f17a7d9aeef69baf7417a641d577efb67cc94728c63f4ac6", func := "loop.example/g03002/laws.FnExactCoverageOf", spec := "fnExactCoverageOf", unfollowed := true, recurses := true, apart := false }
def FnExactCoverageOfSaid : Prop := fnExactCoverageOfRow.holds Tryz.pinned (OpenSpec.ofChange fnExactCoverageOfSpec)

/-- ITS FALSE NEIGHBOUR: 'it returns false'. Refute it at one input. -/
def fnExactCoverageOfWrong : ChangeSpec := { name := "fnExactCoverageOf", fn := fun _ => fun
  | [d1, d2, d3] => { results := [.lit (.bool false)], args := [d1, d2, d3] }
  | _ => none }
def FnExactCoverageOfWrongFalsely : Prop := fnExactCoverageOfRow.holds Tryz.pinned (OpenSpec.ofChange fnExactCoverageOfWrong)

/-- 'laws.FnContainers': WHATEVER THE INPUT: true; the input reads as it did. -/
def fnContainersSpec : ChangeSpec := { name := "fnContainers", fn := fun _ => fun
  | [d] => { results := [.lit (.bool true)], args := [d] }
  | _ => none }
def fnContainersRow : OpenClaim := { program := "ytombapmoifkmlaagreat", sum := "d377e8956e80fb45f17a7d9aeef69baf7417a641d577efb67cc94728c63f4ac6", func := "loop.example/g03002/laws.FnContainers", spec := "fnContainers", unfollowed := true, recurses := true, apart := false }
def FnContainersSaid : Prop := fnContainersRow.holds Tryz.pinned (OpenSpec.ofChange fnContainersSpec)

/-- ITS FALSE NEIGHBOUR: 'it returns false'. Refute it at one input. -/
def fnContainersWrong : ChangeSpec := { name := "fnContainers", fn := fun _ => fun
  | [d] => { results := [.lit (.bool false)], args := [d] }
  | _ => none }
def FnContainersWrongFalsely : Prop := fnContainersRow.holds Tryz.pinned (OpenSpec.ofChange fnContainersWrong)

/- THE SECOND FORM. 'bulk': how many values and letters a reading holds, each counted each time it is reached (what is shared counts as often as it is met; a slice's spare places count too). A statement '..UptoSaid' is the law's where the arguments, and the package variables that the reading takes, are together of bulk at most 1048576: NARROWER than '..Said'. Prove '..Said' where nothing that the law and all that it calls make is longer than what came in: it says more and counts as full. Else prove '..UptoSaid'. A law counts once. -/
mutual
def uptoBulk {H : Type} : DataW H → Nat
  | .lit (.string bytes) => bytes.length + 1
  | .lit _ => 1
  | .nil => 1
  | .ptr d => uptoBulk d + 1
  | .slice elems spare => uptoBulkAll elems + uptoBulkAll spare + 1
  | .agg parts => uptoBulkAll parts + 1
  | .iface _ d => uptoBulk d + 1
  | .map entries => uptoBulkEntries entries + 1
  | .held _ => 1
def uptoBulkAll {H : Type} : List (DataW H) → Nat
  | [] => 0
  | d :: r => uptoBulk d + uptoBulkAll r
def uptoBulkEntries {H : Type} : List (Lit × DataW H) → Nat
  | [] => 0
  | x :: r => uptoBulkEntry x + uptoBulkEntries r
def uptoBulkEntry {H : Type} : Lit × DataW H → Nat
  | (.string bytes, d) => bytes.length + uptoBulk d + 1
  | (_, d) => uptoBulk d + 1
 end
def uptoSmall : (H : Type) → List (DataW H) → Bool := fun _ ds => decide (uptoBulkAll ds ≤ 1048576)
def OpenSpec.upto (s : _root_.Go.ChangeSpec) : _root_.Go.OpenSpec := { _root_.Go.OpenSpec.ofChange s with cond := some uptoSmall }

/-- 'laws.FnExactIsComplete', WHERE WHAT IT READS IS OF BULK AT MOST 1048576: true; the input reads as it did. -/
def fnExactIsCompleteUptoRow : OpenClaim := { program := "ytombapmoifkmlaagreat", sum := "d377e8956e80fb45f17a7d9aeef69baf7417a641d577efb67cc94728c63f4ac6", func := "loop.example/g03002/laws.FnExactIsComplete", spec := "fnExactIsComplete", unfollowed := true, recurses := true, apart := false, narrowed := true }
def FnExactIsCompleteUptoSaid : Prop := fnExactIsCompleteUptoRow.holds Tryz.pinned (OpenSpec.upto fnExactIsCompleteSpec)

/-- 'laws.FnExactCoverageOf', WHERE WHAT IT READS IS OF BULK AT MOST 1048576: true; the input reads as it did. -/
def fnExactCoverageOfUptoRow : OpenClaim := { program := "ytombapmoifkmlaagreat", sum := "d377e8956e80fb45f17a7d9aeef69baf7417a641d577efb67cc94728c63f4ac6", func := "loop.example/g03002/laws.FnExactCoverageOf", spec := "fnExactCoverageOf", unfollowed := true, recurses := true, apart := false, narrowed := true }
def FnExactCoverageOfUptoSaid : Prop := fnExactCoverageOfUptoRow.holds Tryz.pinned (OpenSpec.upto fnExactCoverageOfSpec)

/-- 'laws.FnContainers', WHERE WHAT IT READS IS OF BULK AT MOST 1048576: true; the input reads as it did. -/
def fnContainersUptoRow : OpenClaim := { program := "ytombapmoifkmlaagreat", sum := "d377e8956e80fb45f17a7d9aeef69baf7417a641d577efb67cc94728c63f4ac6", func := "loop.example/g03002/laws.FnContainers", spec := "fnContainers", unfollowed := true, recurses := true, apart := false, narrowed := true }
def FnContainersUptoSaid : Prop := fnContainersUptoRow.holds Tryz.pinned (OpenSpec.upto fnContainersSpec)

end Rows
end Go.Proofs.YtombapmoifkmlaaGreat
