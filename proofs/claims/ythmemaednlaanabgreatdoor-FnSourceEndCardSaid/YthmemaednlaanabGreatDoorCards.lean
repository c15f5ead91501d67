/-
  DERIVED. GIVEN WITH THE SEED: THE CARDS: each row of YthmemaednlaanabGreatDoorRows.lean that lists a variable, with what it lists TIED to the program's text (the seventh form; the later family's looks); each row that meets fmt, with fmt's text TOLD by the authors' own Lean function (tested against real Go, not proved from fmt's source: count such statements apart). THE CARD IS WHAT COUNTS. Prove the row's statement (the work); the ties are given (YthmemaednlaanabGreatDoorTie.lean); close each card by the builder's one call (the guide's Derived/Test/ToyasCard.lean, 'card_holds'). Laid BY PROGRAM, IN A SANDBOX (cutbox-door.mjs). By AI agents, Wed Nov 11 2026. No macro, syntax, notation, axiom, sorry.
-/
import Derived.Test.YthmemaednlaanabGreatDoorRows
import GoSem.ClaimSeven
namespace Go.Proofs.YthmemaednlaanabGreatDoor
namespace Rows

/-- THE TIED CARD OF 'laws.FnSourceBox'. -/
def fnSourceBoxCard : Claim7 := { stood := { row := fnSourceBoxRow, standIns := [], harness := (true, "5de6f0d512bd517c254aafda946ddfcccf85ca62c77d5450a1470a454259f2cb"), looks := true }, kinds := [], alts := [], laidByText := true, laidKinds := [.data, .data, .data, .sentinel, .sentinel, .data], laidTests := true, laidLooks := .later }
def FnSourceBoxCardSaid : Prop := Claim7.holds Tryz.pinned (.plain (OpenSpec.ofChange fnSourceBoxSpec)) fnSourceBoxCard

/-- THE TIED CARD OF 'laws.FnSourceTask'. -/
def fnSourceTaskCard : Claim7 := { stood := { row := fnSourceTaskRow, standIns := [], harness := (true, "5de6f0d512bd517c254aafda946ddfcccf85ca62c77d5450a1470a454259f2cb"), looks := true }, kinds := [], alts := [], laidByText := true, laidKinds := [.data, .data, .data, .sentinel, .sentinel, .data], laidTests := true, laidLooks := .later }
def FnSourceTaskCardSaid : Prop := Claim7.holds Tryz.pinned (.plain (OpenSpec.ofChange fnSourceTaskSpec)) fnSourceTaskCard

/-- THE TIED CARD OF 'laws.FnSourceEnd'. -/
def fnSourceEndCard : Claim7 := { stood := { row := fnSourceEndRow, standIns := [], harness := (true, "5de6f0d512bd517c254aafda946ddfcccf85ca62c77d5450a1470a454259f2cb"), looks := true }, kinds := [], alts := [], laidByText := true, laidKinds := [.data, .data, .data, .sentinel, .sentinel, .data], laidTests := true, laidLooks := .later }
def FnSourceEndCardSaid : Prop := Claim7.holds Tryz.pinned (.plain (OpenSpec.ofChange fnSourceEndSpec)) fnSourceEndCard

/-- THE SECOND FORM's CARD OF 'laws.FnSourceBox'. -/
def fnSourceBoxUptoCard : Claim7 := { stood := { row := fnSourceBoxUptoRow, standIns := [], harness := (true, "5de6f0d512bd517c254aafda946ddfcccf85ca62c77d5450a1470a454259f2cb"), looks := true }, kinds := [], alts := [], laidByText := true, laidKinds := [.data, .data, .data, .sentinel, .sentinel, .data], laidTests := true, laidLooks := .later }
def FnSourceBoxUptoCardSaid : Prop := Claim7.holds Tryz.pinned (.plain (OpenSpec.upto fnSourceBoxSpec)) fnSourceBoxUptoCard

/-- THE SECOND FORM's CARD OF 'laws.FnSourceTask'. -/
def fnSourceTaskUptoCard : Claim7 := { stood := { row := fnSourceTaskUptoRow, standIns := [], harness := (true, "5de6f0d512bd517c254aafda946ddfcccf85ca62c77d5450a1470a454259f2cb"), looks := true }, kinds := [], alts := [], laidByText := true, laidKinds := [.data, .data, .data, .sentinel, .sentinel, .data], laidTests := true, laidLooks := .later }
def FnSourceTaskUptoCardSaid : Prop := Claim7.holds Tryz.pinned (.plain (OpenSpec.upto fnSourceTaskSpec)) fnSourceTaskUptoCard

/-- THE SECOND FORM's CARD OF 'laws.FnSourceEnd'. -/
def fnSourceEndUptoCard : Claim7 := { stood := { row := fnSourceEndUptoRow, standIns := [], harness := (true, "5de6f0d512bd517c254aafda946ddfcccf85ca62c77d5450a1470a454259f2cb"), looks := true }, kinds := [], alts := [], laidByText := true, laidKinds := [.data, .data, .data, .sentinel, .sentinel, .data], laidTests := true, laidLooks := .later }
def FnSourceEndUptoCardSaid : Prop := Claim7.holds Tryz.pinned (.plain (OpenSpec.upto fnSourceEndSpec)) fnSourceEndUptoCard
end Rows
end Go.Proofs.YthmemaednlaanabGreatDoor
