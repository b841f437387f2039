/-
  DERIVED. GIVEN WITH THE SEED: THE CARDS: each row of YtmgbiodgebigeaaDoorRows.lean that lists a variable, with what it lists TIED to the program's text (the seventh form; the later family's looks); each row that meets fmt, with fmt's text TOLD by the authors' own Lean function (tested against real Go, not proved from fmt's source: count such statements apart). THE CARD IS WHAT COUNTS. Prove the row's statement (the work); the ties are given (YtmgbiodgebigeaaDoorTie.lean); close each card by the builder's one call (the guide's Derived/Test/ToyasCard.lean, 'card_holds'). Laid BY PROGRAM, IN A SANDBOX (cutbox-door.mjs). By AI agents, Wed Nov 11 2026. No macro, syntax, notation, axiom, sorry.
-/
import Derived.Test.YtmgbiodgebigeaaDoorRows
import GoSem.ClaimSeven
namespace Go.Proofs.YtmgbiodgebigeaaDoor
namespace Rows

/-- THE TIED CARD OF 'laws.FnExactWordsOf'. -/
def fnExactWordsOfCard : Claim7 := { stood := { row := fnExactWordsOfRow, standIns := [], harness := (true, "b3581541b05b62de738897dd3c1484b6fe2053d3300bdbcfd78af1dadaba4638"), looks := false }, kinds := [], alts := [], laidByText := true, laidKinds := [.data, .pinned], laidTests := true, laidLooks := .later }
def FnExactWordsOfCardSaid : Prop := Claim7.holds Tryd.pinned (.plain (OpenSpec.ofChange fnExactWordsOfSpec)) fnExactWordsOfCard

/-- THE SECOND FORM's CARD OF 'laws.FnExactWordsOf'. -/
def fnExactWordsOfUptoCard : Claim7 := { stood := { row := fnExactWordsOfUptoRow, standIns := [], harness := (true, "b3581541b05b62de738897dd3c1484b6fe2053d3300bdbcfd78af1dadaba4638"), looks := false }, kinds := [], alts := [], laidByText := true, laidKinds := [.data, .pinned], laidTests := true, laidLooks := .later }
def FnExactWordsOfUptoCardSaid : Prop := Claim7.holds Tryd.pinned (.plain (OpenSpec.upto fnExactWordsOfSpec)) fnExactWordsOfUptoCard
end Rows
end Go.Proofs.YtmgbiodgebigeaaDoor
