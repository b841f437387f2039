/-
  DERIVED. GIVEN WITH THE SEED: THE CARDS: each row of YtbfbhdehdgnkjaaGreatDoorRows.lean that lists a variable, with what it lists TIED to the program's text (the seventh form; the later family's looks); each row that meets fmt, with fmt's text TOLD by the authors' own Lean function (tested against real Go, not proved from fmt's source: count such statements apart). THE CARD IS WHAT COUNTS. Prove the row's statement (the work); the ties are given (YtbfbhdehdgnkjaaGreatDoorTie.lean); close each card by the builder's one call (the guide's Derived/Test/ToyasCard.lean, 'card_holds'). Laid BY PROGRAM, IN A SANDBOX (cutbox-door.mjs). By AI agents, Wed Nov 11 2026. No macro, syntax, notation, axiom, sorry.
-/
import Derived.Test.YtbfbhdehdgnkjaaGreatDoorRows
import GoSem.ClaimSeven
namespace Go.Proofs.YtbfbhdehdgnkjaaGreatDoor
namespace Rows

/-- THE TIED CARD OF 'laws.FnExactPathOf'. -/
def fnExactPathOfCard : Claim7 := { stood := { row := fnExactPathOfRow, standIns := [], harness := (true, "5652b7c808a3111a4fd6837d70caa619487984a3d6eb5656f46324b7b0b4c5d3"), looks := false }, kinds := [], alts := [], laidByText := true, laidKinds := [.data, .pinned], laidTests := true, laidLooks := .later }
def FnExactPathOfCardSaid : Prop := Claim7.holds Tryz.pinned (.plain (OpenSpec.ofChange fnExactPathOfSpec)) fnExactPathOfCard

/-- THE TIED CARD OF 'laws.FnExactHeldBy'. -/
def fnExactHeldByCard : Claim7 := { stood := { row := fnExactHeldByRow, standIns := [], harness := (true, "5652b7c808a3111a4fd6837d70caa619487984a3d6eb5656f46324b7b0b4c5d3"), looks := false }, kinds := [], alts := [], laidByText := true, laidKinds := [.data, .pinned], laidTests := true, laidLooks := .later }
def FnExactHeldByCardSaid : Prop := Claim7.holds Tryz.pinned (.plain (OpenSpec.ofChange fnExactHeldBySpec)) fnExactHeldByCard

/-- THE SECOND FORM's CARD OF 'laws.FnExactPathOf'. -/
def fnExactPathOfUptoCard : Claim7 := { stood := { row := fnExactPathOfUptoRow, standIns := [], harness := (true, "5652b7c808a3111a4fd6837d70caa619487984a3d6eb5656f46324b7b0b4c5d3"), looks := false }, kinds := [], alts := [], laidByText := true, laidKinds := [.data, .pinned], laidTests := true, laidLooks := .later }
def FnExactPathOfUptoCardSaid : Prop := Claim7.holds Tryz.pinned (.plain (OpenSpec.upto fnExactPathOfSpec)) fnExactPathOfUptoCard

/-- THE SECOND FORM's CARD OF 'laws.FnExactHeldBy'. -/
def fnExactHeldByUptoCard : Claim7 := { stood := { row := fnExactHeldByUptoRow, standIns := [], harness := (true, "5652b7c808a3111a4fd6837d70caa619487984a3d6eb5656f46324b7b0b4c5d3"), looks := false }, kinds := [], alts := [], laidByText := true, laidKinds := [.data, .pinned], laidTests := true, laidLooks := .later }
def FnExactHeldByUptoCardSaid : Prop := Claim7.holds Tryz.pinned (.plain (OpenSpec.upto fnExactHeldBySpec)) fnExactHeldByUptoCard
end Rows
end Go.Proofs.YtbfbhdehdgnkjaaGreatDoor
