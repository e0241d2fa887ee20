/-
  DERIVED. GIVEN WITH THE SEED: THE CARDS: each row of YtfipolbgkppdjaaDoorRows.lean that lists a variable, with what it lists TIED to the program's text (the seventh form; the later family's looks); each row that meets fmt, with fmt's text TOLD by the authors' own Lean function (tested against real Go, not proved from fmt's source: count such statements apart). THE CARD IS WHAT COUNTS. Prove the row's statement (the work); the ties are given (YtfipolbgkppdjaaDoorTie.lean); close each card by the builder's one call (the guide's Derived/Test/ToyasCard.lean, 'card_holds'). Laid BY PROGRAM, IN A SANDBOX (cutbox-door.mjs). By AI agents, Wed Nov 11 2026. No macro, syntax, notation, axiom, sorry.
-/
import Derived.Test.YtfipolbgkppdjaaDoorRows
import GoSem.ClaimSeven
namespace Go.Proofs.YtfipolbgkppdjaaDoor
namespace Rows

/-- THE TIED CARD OF 'laws.FnExactShownText'. -/
def fnExactShownTextCard : Claim7 := { stood := { row := fnExactShownTextRow, standIns := [], harness := (true, "9c8b9a62bd90dcfe872ce8d01ae6f73755ebe463278a85dd2a7414e710cab0f3"), looks := false }, kinds := [], alts := [], laidByText := true, laidKinds := [.data, .data, .data], laidTests := true, laidLooks := .later }
def FnExactShownTextCardSaid : Prop := Claim7.holds Tryd.pinned (.plain (OpenSpec.ofChange fnExactShownTextSpec)) fnExactShownTextCard

/-- THE TIED CARD OF 'laws.FnExactShowMove'. -/
def fnExactShowMoveCard : Claim7 := { stood := { row := fnExactShowMoveRow, standIns := [], harness := (true, "9c8b9a62bd90dcfe872ce8d01ae6f73755ebe463278a85dd2a7414e710cab0f3"), looks := false }, kinds := [], alts := [], laidByText := true, laidKinds := [.data, .data, .data], laidTests := true, laidLooks := .later }
def FnExactShowMoveCardSaid : Prop := Claim7.holds Tryd.pinned (.plain (OpenSpec.ofChange fnExactShowMoveSpec)) fnExactShowMoveCard

/-- THE TIED CARD OF 'laws.FnExactOldText'. -/
def fnExactOldTextCard : Claim7 := { stood := { row := fnExactOldTextRow, standIns := [], harness := (true, "9c8b9a62bd90dcfe872ce8d01ae6f73755ebe463278a85dd2a7414e710cab0f3"), looks := false }, kinds := [], alts := [], laidByText := true, laidKinds := [.data, .data, .data], laidTests := true, laidLooks := .later }
def FnExactOldTextCardSaid : Prop := Claim7.holds Tryd.pinned (.plain (OpenSpec.ofChange fnExactOldTextSpec)) fnExactOldTextCard

/-- THE TIED CARD OF 'laws.FnExactSeenByScript'. -/
def fnExactSeenByScriptCard : Claim7 := { stood := { row := fnExactSeenByScriptRow, standIns := [], harness := (true, "9c8b9a62bd90dcfe872ce8d01ae6f73755ebe463278a85dd2a7414e710cab0f3"), looks := false }, kinds := [], alts := [], laidByText := true, laidKinds := [.data, .data, .data], laidTests := true, laidLooks := .later }
def FnExactSeenByScriptCardSaid : Prop := Claim7.holds Tryd.pinned (.plain (OpenSpec.ofChange fnExactSeenByScriptSpec)) fnExactSeenByScriptCard

/-- THE TIED CARD OF 'laws.FnExactParseShown'. -/
def fnExactParseShownCard : Claim7 := { stood := { row := fnExactParseShownRow, standIns := [], harness := (true, "9c8b9a62bd90dcfe872ce8d01ae6f73755ebe463278a85dd2a7414e710cab0f3"), looks := false }, kinds := [], alts := [], laidByText := true, laidKinds := [.data, .data, .data], laidTests := true, laidLooks := .later }
def FnExactParseShownCardSaid : Prop := Claim7.holds Tryd.pinned (.plain (OpenSpec.ofChange fnExactParseShownSpec)) fnExactParseShownCard

/-- THE TIED CARD OF 'laws.FnExactStaysInside'. -/
def fnExactStaysInsideCard : Claim7 := { stood := { row := fnExactStaysInsideRow, standIns := [], harness := (true, "9c8b9a62bd90dcfe872ce8d01ae6f73755ebe463278a85dd2a7414e710cab0f3"), looks := false }, kinds := [], alts := [], laidByText := true, laidKinds := [.data, .data, .data], laidTests := true, laidLooks := .later }
def FnExactStaysInsideCardSaid : Prop := Claim7.holds Tryd.pinned (.plain (OpenSpec.ofChange fnExactStaysInsideSpec)) fnExactStaysInsideCard

/-- THE TIED CARD OF 'laws.FnShown'. -/
def fnShownCard : Claim7 := { stood := { row := fnShownRow, standIns := [], harness := (true, "9c8b9a62bd90dcfe872ce8d01ae6f73755ebe463278a85dd2a7414e710cab0f3"), looks := false }, kinds := [], alts := [], laidByText := true, laidKinds := [.data, .data, .data], laidTests := true, laidLooks := .later }
def FnShownCardSaid : Prop := Claim7.holds Tryd.pinned (.plain (OpenSpec.ofChange fnShownSpec)) fnShownCard

/-- THE SECOND FORM's CARD OF 'laws.FnExactShownText'. -/
def fnExactShownTextUptoCard : Claim7 := { stood := { row := fnExactShownTextUptoRow, standIns := [], harness := (true, "9c8b9a62bd90dcfe872ce8d01ae6f73755ebe463278a85dd2a7414e710cab0f3"), looks := false }, kinds := [], alts := [], laidByText := true, laidKinds := [.data, .data, .data], laidTests := true, laidLooks := .later }
def FnExactShownTextUptoCardSaid : Prop := Claim7.holds Tryd.pinned (.plain (OpenSpec.upto fnExactShownTextSpec)) fnExactShownTextUptoCard

/-- THE SECOND FORM's CARD OF 'laws.FnExactShowMove'. -/
def fnExactShowMoveUptoCard : Claim7 := { stood := { row := fnExactShowMoveUptoRow, standIns := [], harness := (true, "9c8b9a62bd90dcfe872ce8d01ae6f73755ebe463278a85dd2a7414e710cab0f3"), looks := false }, kinds := [], alts := [], laidByText := true, laidKinds := [.data, .data, .data], laidTests := true, laidLooks := .later }
def FnExactShowMoveUptoCardSaid : Prop := Claim7.holds Tryd.pinned (.plain (OpenSpec.upto fnExactShowMoveSpec)) fnExactShowMoveUptoCard

/-- THE SECOND FORM's CARD OF 'laws.FnExactOldText'. -/
def fnExactOldTextUptoCard : Claim7 := { stood := { row := fnExactOldTextUptoRow, standIns := [], harness := (true, "9c8b9a62bd90dcfe872ce8d01ae6f73755ebe463278a85dd2a7414e710cab0f3"), looks := false }, kinds := [], alts := [], laidByText := true, laidKinds := [.data, .data, .data], laidTests := true, laidLooks := .later }
def FnExactOldTextUptoCardSaid : Prop := Claim7.holds Tryd.pinned (.plain (OpenSpec.upto fnExactOldTextSpec)) fnExactOldTextUptoCard

/-- THE SECOND FORM's CARD OF 'laws.FnExactSeenByScript'. -/
def fnExactSeenByScriptUptoCard : Claim7 := { stood := { row := fnExactSeenByScriptUptoRow, standIns := [], harness := (true, "9c8b9a62bd90dcfe872ce8d01ae6f73755ebe463278a85dd2a7414e710cab0f3"), looks := false }, kinds := [], alts := [], laidByText := true, laidKinds := [.data, .data, .data], laidTests := true, laidLooks := .later }
def FnExactSeenByScriptUptoCardSaid : Prop := Claim7.holds Tryd.pinned (.plain (OpenSpec.upto fnExactSeenByScriptSpec)) fnExactSeenByScriptUptoCard

/-- THE SECOND FORM's CARD OF 'laws.FnExactParseShown'. -/
def fnExactParseShownUptoCard : Claim7 := { stood := { row := fnExactParseShownUptoRow, standIns := [], harness := (true, "9c8b9a62bd90dcfe872ce8d01ae6f73755ebe463278a85dd2a7414e710cab0f3"), looks := false }, kinds := [], alts := [], laidByText := true, laidKinds := [.data, .data, .data], laidTests := true, laidLooks := .later }
def FnExactParseShownUptoCardSaid : Prop := Claim7.holds Tryd.pinned (.plain (OpenSpec.upto fnExactParseShownSpec)) fnExactParseShownUptoCard

/-- THE SECOND FORM's CARD OF 'laws.FnExactStaysInside'. -/
def fnExactStaysInsideUptoCard : Claim7 := { stood := { row := fnExactStaysInsideUptoRow, standIns := [], harness := (true, "9c8b9a62bd90dcfe872ce8d01ae6f73755ebe463278a85dd2a7414e710cab0f3"), looks := false }, kinds := [], alts := [], laidByText := true, laidKinds := [.data, .data, .data], laidTests := true, laidLooks := .later }
def FnExactStaysInsideUptoCardSaid : Prop := Claim7.holds Tryd.pinned (.plain (OpenSpec.upto fnExactStaysInsideSpec)) fnExactStaysInsideUptoCard

/-- THE SECOND FORM's CARD OF 'laws.FnShown'. -/
def fnShownUptoCard : Claim7 := { stood := { row := fnShownUptoRow, standIns := [], harness := (true, "9c8b9a62bd90dcfe872ce8d01ae6f73755ebe463278a85dd2a7414e710cab0f3"), looks := false }, kinds := [], alts := [], laidByText := true, laidKinds := [.data, .data, .data], laidTests := true, laidLooks := .later }
def FnShownUptoCardSaid : Prop := Claim7.holds Tryd.pinned (.plain (OpenSpec.upto fnShownSpec)) fnShownUptoCard
end Rows
end Go.Proofs.YtfipolbgkppdjaaDoor
