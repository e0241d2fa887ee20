/-
  DERIVED. GIVEN WITH THE SEED: THE CARDS: each row of YtfipolbgkppdjaaGreatDoorRows.lean that lists a variable, with what it lists TIED to the program's text (the seventh form; the later family's looks); each row that meets fmt, with fmt's text TOLD by the authors' own Lean function (tested against real Go, not proved from fmt's source: count such statements apart). THE CARD IS WHAT COUNTS. Prove the row's statement (the work); the ties are given (YtfipolbgkppdjaaGreatDoorTie.lean); close each card by the builder's one call (the guide's Derived/Test/ToyasCard.lean, 'card_holds'). Laid BY PROGRAM, IN A SANDBOX (cutbox-door.mjs). By AI agents, Wed Nov 11 2026. No macro, syntax, notation, axiom, sorry.
-/
import Derived.Test.YtfipolbgkppdjaaGreatDoorRows
import GoSem.ClaimSeven
namespace Go.Proofs.YtfipolbgkppdjaaGreatDoor
namespace Rows

/-- THE TIED CARD OF 'laws.FnMigrated'. -/
def fnMigratedCard : Claim7 := { stood := { row := fnMigratedRow, standIns := [], harness := (true, "0f22606842e634e366c4c716baacdffb7acd9bc3a0b16317033b8f106811f382"), looks := false }, kinds := [], alts := [], laidByText := true, laidKinds := [.data, .data, .data], laidTests := true, laidLooks := .later }
def FnMigratedCardSaid : Prop := Claim7.holds Tryz.pinned (.plain (OpenSpec.ofChange fnMigratedSpec)) fnMigratedCard

/-- THE SECOND FORM's CARD OF 'laws.FnMigrated'. -/
def fnMigratedUptoCard : Claim7 := { stood := { row := fnMigratedUptoRow, standIns := [], harness := (true, "0f22606842e634e366c4c716baacdffb7acd9bc3a0b16317033b8f106811f382"), looks := false }, kinds := [], alts := [], laidByText := true, laidKinds := [.data, .data, .data], laidTests := true, laidLooks := .later }
def FnMigratedUptoCardSaid : Prop := Claim7.holds Tryz.pinned (.plain (OpenSpec.upto fnMigratedSpec)) fnMigratedUptoCard
end Rows
end Go.Proofs.YtfipolbgkppdjaaGreatDoor
