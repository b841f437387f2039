/-
  DERIVED. GIVEN WITH THE SEED: THE CARDS: each row of YtmkdncckdmanlaaGreatDoorRows.lean that lists a variable, with what it lists TIED to the program's text (the seventh form; the later family's looks); each row that meets fmt, with fmt's text TOLD by the authors' own Lean function (tested against real Go, not proved from fmt's source: count such statements apart). THE CARD IS WHAT COUNTS. Prove the row's statement (the work); the ties are given (YtmkdncckdmanlaaGreatDoorTie.lean); close each card by the builder's one call (the guide's Derived/Test/ToyasCard.lean, 'card_holds'). Laid BY PROGRAM, IN A SANDBOX (cutbox-door.mjs). By AI agents, Wed Nov 11 2026. No macro, syntax, notation, axiom, sorry.
-/
import Derived.Test.YtmkdncckdmanlaaGreatDoorRows
import GoSem.ClaimSeven
namespace Go.Proofs.YtmkdncckdmanlaaGreatDoor
namespace Rows

/-- THE TIED CARD OF 'laws.FnExactDoCall'. -/
def fnExactDoCallCard : Claim7 := { stood := { row := fnExactDoCallRow, standIns := [], harness := (true, "d68ae4e1a2d2b39dde2be2bb34825cd59a74aae4648108fafe5bc257bd4138ea"), looks := false }, kinds := [], alts := [], laidByText := true, laidKinds := [.data, .pinned], laidTests := true, laidLooks := .later }
def FnExactDoCallCardSaid : Prop := Claim7.holds Tryz.pinned (.plain (OpenSpec.ofChange fnExactDoCallSpec)) fnExactDoCallCard

/-- THE SECOND FORM's CARD OF 'laws.FnExactDoCall'. -/
def fnExactDoCallUptoCard : Claim7 := { stood := { row := fnExactDoCallUptoRow, standIns := [], harness := (true, "d68ae4e1a2d2b39dde2be2bb34825cd59a74aae4648108fafe5bc257bd4138ea"), looks := false }, kinds := [], alts := [], laidByText := true, laidKinds := [.data, .pinned], laidTests := true, laidLooks := .later }
def FnExactDoCallUptoCardSaid : Prop := Claim7.holds Tryz.pinned (.plain (OpenSpec.upto fnExactDoCallSpec)) fnExactDoCallUptoCard
end Rows
end Go.Proofs.YtmkdncckdmanlaaGreatDoor
