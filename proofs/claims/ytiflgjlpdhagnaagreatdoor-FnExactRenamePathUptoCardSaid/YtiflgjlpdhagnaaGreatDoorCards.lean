/-
  DERIVED. GIVEN WITH THE SEED: THE CARDS: each row of YtiflgjlpdhagnaaGreatDoorRows.lean that lists a variable, with what it lists TIED to the program's text (the seventh form; the later family's looks); each row that meets fmt, with fmt's text TOLD by the authors' own Lean function (tested against real Go, not proved from fmt's source: count such statements apart). THE CARD IS WHAT COUNTS. Prove the row's statement (the work); the ties are given (YtiflgjlpdhagnaaGreatDoorTie.lean); close each card by the builder's one call (the guide's Derived/Test/ToyasCard.lean, 'card_holds'). Laid BY PROGRAM, IN A SANDBOX (cutbox-door.mjs). By AI agents, Wed Nov 11 2026. No macro, syntax, notation, axiom, sorry.
-/
import Derived.Test.YtiflgjlpdhagnaaGreatDoorRows
import GoSem.ClaimSeven
namespace Go.Proofs.YtiflgjlpdhagnaaGreatDoor
namespace Rows

/-- THE TIED CARD OF 'laws.FnExactLinkPath'. -/
def fnExactLinkPathCard : Claim7 := { stood := { row := fnExactLinkPathRow, standIns := [], harness := (true, "8338b8aeefff633006f74c5a0c07b1b4d58cd1c37608ff486571479208772a7f"), looks := false }, kinds := [], alts := [], laidByText := true, laidKinds := [.data, .pinned], laidTests := true, laidLooks := .later }
def FnExactLinkPathCardSaid : Prop := Claim7.holds Tryz.pinned (.plain (OpenSpec.ofChange fnExactLinkPathSpec)) fnExactLinkPathCard

/-- THE TIED CARD OF 'laws.FnExactRenamePath'. -/
def fnExactRenamePathCard : Claim7 := { stood := { row := fnExactRenamePathRow, standIns := [], harness := (true, "8338b8aeefff633006f74c5a0c07b1b4d58cd1c37608ff486571479208772a7f"), looks := false }, kinds := [], alts := [], laidByText := true, laidKinds := [.data, .pinned], laidTests := true, laidLooks := .later }
def FnExactRenamePathCardSaid : Prop := Claim7.holds Tryz.pinned (.plain (OpenSpec.ofChange fnExactRenamePathSpec)) fnExactRenamePathCard

/-- THE SECOND FORM's CARD OF 'laws.FnExactLinkPath'. -/
def fnExactLinkPathUptoCard : Claim7 := { stood := { row := fnExactLinkPathUptoRow, standIns := [], harness := (true, "8338b8aeefff633006f74c5a0c07b1b4d58cd1c37608ff486571479208772a7f"), looks := false }, kinds := [], alts := [], laidByText := true, laidKinds := [.data, .pinned], laidTests := true, laidLooks := .later }
def FnExactLinkPathUptoCardSaid : Prop := Claim7.holds Tryz.pinned (.plain (OpenSpec.upto fnExactLinkPathSpec)) fnExactLinkPathUptoCard

/-- THE SECOND FORM's CARD OF 'laws.FnExactRenamePath'. -/
def fnExactRenamePathUptoCard : Claim7 := { stood := { row := fnExactRenamePathUptoRow, standIns := [], harness := (true, "8338b8aeefff633006f74c5a0c07b1b4d58cd1c37608ff486571479208772a7f"), looks := false }, kinds := [], alts := [], laidByText := true, laidKinds := [.data, .pinned], laidTests := true, laidLooks := .later }
def FnExactRenamePathUptoCardSaid : Prop := Claim7.holds Tryz.pinned (.plain (OpenSpec.upto fnExactRenamePathSpec)) fnExactRenamePathUptoCard
end Rows
end Go.Proofs.YtiflgjlpdhagnaaGreatDoor
