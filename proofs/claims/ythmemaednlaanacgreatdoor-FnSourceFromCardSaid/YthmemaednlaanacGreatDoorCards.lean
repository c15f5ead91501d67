/-
  DERIVED. GIVEN WITH THE SEED: THE CARDS: each row of YthmemaednlaanacGreatDoorRows.lean that lists a variable, with what it lists TIED to the program's text (the seventh form; the later family's looks); each row that meets fmt, with fmt's text TOLD by the authors' own Lean function (tested against real Go, not proved from fmt's source: count such statements apart). THE CARD IS WHAT COUNTS. Prove the row's statement (the work); the ties are given (YthmemaednlaanacGreatDoorTie.lean); close each card by the builder's one call (the guide's Derived/Test/ToyasCard.lean, 'card_holds'). Laid BY PROGRAM, IN A SANDBOX (cutbox-door.mjs). By AI agents, Wed Nov 11 2026. No macro, syntax, notation, axiom, sorry.
-/
import Derived.Test.YthmemaednlaanacGreatDoorRows
import GoSem.ClaimSeven
namespace Go.Proofs.YthmemaednlaanacGreatDoor
namespace Rows

/-- THE TIED CARD OF 'laws.FnSourceFrom'. -/
def fnSourceFromCard : Claim7 := { stood := { row := fnSourceFromRow, standIns := [], harness := (true, "0ea63896f8b9f724a56d170a873e22ee76c4d4172dceea2bd8810f1026a431d6"), looks := true }, kinds := [], alts := [], laidByText := true, laidKinds := [.data, .data, .data, .sentinel, .sentinel, .data], laidTests := true, laidLooks := .later }
def FnSourceFromCardSaid : Prop := Claim7.holds Tryz.pinned (.plain (OpenSpec.ofChange fnSourceFromSpec)) fnSourceFromCard

/-- THE SECOND FORM's CARD OF 'laws.FnSourceFrom'. -/
def fnSourceFromUptoCard : Claim7 := { stood := { row := fnSourceFromUptoRow, standIns := [], harness := (true, "0ea63896f8b9f724a56d170a873e22ee76c4d4172dceea2bd8810f1026a431d6"), looks := true }, kinds := [], alts := [], laidByText := true, laidKinds := [.data, .data, .data, .sentinel, .sentinel, .data], laidTests := true, laidLooks := .later }
def FnSourceFromUptoCardSaid : Prop := Claim7.holds Tryz.pinned (.plain (OpenSpec.upto fnSourceFromSpec)) fnSourceFromUptoCard
end Rows
end Go.Proofs.YthmemaednlaanacGreatDoor
