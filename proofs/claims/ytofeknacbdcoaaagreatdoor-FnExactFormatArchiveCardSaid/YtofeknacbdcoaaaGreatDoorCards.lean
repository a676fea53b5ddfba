/-
  DERIVED. GIVEN WITH THE SEED: THE CARDS: each row of YtofeknacbdcoaaaGreatDoorRows.lean that lists a variable, with what it lists TIED to the program's text (the seventh form; the later family's looks); each row that meets fmt, with fmt's text TOLD by the authors' own Lean function (tested against real Go, not proved from fmt's source: count such statements apart). THE CARD IS WHAT COUNTS. Prove the row's statement (the work); the ties are given (YtofeknacbdcoaaaGreatDoorTie.lean); close each card by the builder's one call (the guide's Derived/Test/ToyasCard.lean, 'card_holds'). Laid BY PROGRAM, IN A SANDBOX (cutbox-door.mjs). By AI agents, Wed Nov 11 2026. No macro, syntax, notation, axiom, sorry.
-/
import Derived.Test.YtofeknacbdcoaaaGreatDoorRows
import GoSem.ClaimSeven
namespace Go.Proofs.YtofeknacbdcoaaaGreatDoor
namespace Rows

/-- THE TIED CARD OF 'laws.FnExactFormatArchive'. -/
def fnExactFormatArchiveCard : Claim7 := { stood := { row := fnExactFormatArchiveRow, standIns := [], harness := (true, "cacc2b2b40f6a353b15e26fc5ba630ab50d00ebb264231f349e2058f6c87a419"), looks := false }, kinds := [], alts := [], laidByText := true, laidKinds := [.data, .data, .data], laidTests := true, laidLooks := .later }
def FnExactFormatArchiveCardSaid : Prop := Claim7.holds Tryz.pinned (.plain (OpenSpec.ofChange fnExactFormatArchiveSpec)) fnExactFormatArchiveCard

/-- THE SECOND FORM's CARD OF 'laws.FnExactFormatArchive'. -/
def fnExactFormatArchiveUptoCard : Claim7 := { stood := { row := fnExactFormatArchiveUptoRow, standIns := [], harness := (true, "cacc2b2b40f6a353b15e26fc5ba630ab50d00ebb264231f349e2058f6c87a419"), looks := false }, kinds := [], alts := [], laidByText := true, laidKinds := [.data, .data, .data], laidTests := true, laidLooks := .later }
def FnExactFormatArchiveUptoCardSaid : Prop := Claim7.holds Tryz.pinned (.plain (OpenSpec.upto fnExactFormatArchiveSpec)) fnExactFormatArchiveUptoCard
end Rows
end Go.Proofs.YtofeknacbdcoaaaGreatDoor
