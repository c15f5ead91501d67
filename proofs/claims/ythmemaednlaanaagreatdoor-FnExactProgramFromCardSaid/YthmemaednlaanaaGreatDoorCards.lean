/-
  DERIVED. GIVEN WITH THE SEED: THE CARDS: each row of YthmemaednlaanaaGreatDoorRows.lean that lists a variable, with what it lists TIED to the program's text (the seventh form; the later family's looks); each row that meets fmt, with fmt's text TOLD by the authors' own Lean function (tested against real Go, not proved from fmt's source: count such statements apart). THE CARD IS WHAT COUNTS. Prove the row's statement (the work); the ties are given (YthmemaednlaanaaGreatDoorTie.lean); close each card by the builder's one call (the guide's Derived/Test/ToyasCard.lean, 'card_holds'). Laid BY PROGRAM, IN A SANDBOX (cutbox-door.mjs). By AI agents, Wed Nov 11 2026. No macro, syntax, notation, axiom, sorry.
-/
import Derived.Test.YthmemaednlaanaaGreatDoorRows
import GoSem.ClaimSeven
namespace Go.Proofs.YthmemaednlaanaaGreatDoor
namespace Rows

/-- THE TIED CARD OF 'laws.FnExactProgramFrom'. -/
def fnExactProgramFromCard : Claim7 := { stood := { row := fnExactProgramFromRow, standIns := [], harness := (true, "51f58c309abb1fd527bd040bbaeb90dfa63c4edb93d8e114e1e3c688cadc9694"), looks := true }, kinds := [], alts := [], laidByText := true, laidKinds := [.data, .data, .data, .sentinel, .sentinel, .data], laidTests := true, laidLooks := .later }
def FnExactProgramFromCardSaid : Prop := Claim7.holds Tryz.pinned (.plain (OpenSpec.ofChange fnExactProgramFromSpec)) fnExactProgramFromCard

/-- THE TIED CARD OF 'laws.FnSourceBack'. -/
def fnSourceBackCard : Claim7 := { stood := { row := fnSourceBackRow, standIns := [], harness := (true, "51f58c309abb1fd527bd040bbaeb90dfa63c4edb93d8e114e1e3c688cadc9694"), looks := true }, kinds := [], alts := [], laidByText := true, laidKinds := [.data, .data, .data, .sentinel, .sentinel, .data], laidTests := true, laidLooks := .later }
def FnSourceBackCardSaid : Prop := Claim7.holds Tryz.pinned (.plain (OpenSpec.ofChange fnSourceBackSpec)) fnSourceBackCard

/-- THE TIED CARD OF 'laws.FnSourceBlank'. -/
def fnSourceBlankCard : Claim7 := { stood := { row := fnSourceBlankRow, standIns := [], harness := (true, "51f58c309abb1fd527bd040bbaeb90dfa63c4edb93d8e114e1e3c688cadc9694"), looks := true }, kinds := [], alts := [], laidByText := true, laidKinds := [.data, .data, .data, .sentinel, .sentinel, .data], laidTests := true, laidLooks := .later }
def FnSourceBlankCardSaid : Prop := Claim7.holds Tryz.pinned (.plain (OpenSpec.ofChange fnSourceBlankSpec)) fnSourceBlankCard

/-- THE SECOND FORM's CARD OF 'laws.FnExactProgramFrom'. -/
def fnExactProgramFromUptoCard : Claim7 := { stood := { row := fnExactProgramFromUptoRow, standIns := [], harness := (true, "51f58c309abb1fd527bd040bbaeb90dfa63c4edb93d8e114e1e3c688cadc9694"), looks := true }, kinds := [], alts := [], laidByText := true, laidKinds := [.data, .data, .data, .sentinel, .sentinel, .data], laidTests := true, laidLooks := .later }
def FnExactProgramFromUptoCardSaid : Prop := Claim7.holds Tryz.pinned (.plain (OpenSpec.upto fnExactProgramFromSpec)) fnExactProgramFromUptoCard

/-- THE SECOND FORM's CARD OF 'laws.FnSourceBack'. -/
def fnSourceBackUptoCard : Claim7 := { stood := { row := fnSourceBackUptoRow, standIns := [], harness := (true, "51f58c309abb1fd527bd040bbaeb90dfa63c4edb93d8e114e1e3c688cadc9694"), looks := true }, kinds := [], alts := [], laidByText := true, laidKinds := [.data, .data, .data, .sentinel, .sentinel, .data], laidTests := true, laidLooks := .later }
def FnSourceBackUptoCardSaid : Prop := Claim7.holds Tryz.pinned (.plain (OpenSpec.upto fnSourceBackSpec)) fnSourceBackUptoCard

/-- THE SECOND FORM's CARD OF 'laws.FnSourceBlank'. -/
def fnSourceBlankUptoCard : Claim7 := { stood := { row := fnSourceBlankUptoRow, standIns := [], harness := (true, "51f58c309abb1fd527bd040bbaeb90dfa63c4edb93d8e114e1e3c688cadc9694"), looks := true }, kinds := [], alts := [], laidByText := true, laidKinds := [.data, .data, .data, .sentinel, .sentinel, .data], laidTests := true, laidLooks := .later }
def FnSourceBlankUptoCardSaid : Prop := Claim7.holds Tryz.pinned (.plain (OpenSpec.upto fnSourceBlankSpec)) fnSourceBlankUptoCard
end Rows
end Go.Proofs.YthmemaednlaanaaGreatDoor
