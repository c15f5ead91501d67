/-
  DERIVED. GIVEN WITH THE SEED: THE CARDS: each row of YthedbdlbibkpiaaDoorRows.lean that lists a variable, with what it lists TIED to the program's text (the seventh form; the later family's looks); each row that meets fmt, with fmt's text TOLD by the authors' own Lean function (tested against real Go, not proved from fmt's source: count such statements apart). THE CARD IS WHAT COUNTS. Prove the row's statement (the work); the ties are given (YthedbdlbibkpiaaDoorTie.lean); close each card by the builder's one call (the guide's Derived/Test/ToyasCard.lean, 'card_holds'). Laid BY PROGRAM, IN A SANDBOX (cutbox-door.mjs). By AI agents, Wed Nov 11 2026. No macro, syntax, notation, axiom, sorry.
-/
import Derived.Test.YthedbdlbibkpiaaDoorRows
import GoSem.ClaimSeven
namespace Go.Proofs.YthedbdlbibkpiaaDoor
namespace Rows

/-- THE TIED CARD OF 'laws.FnExactExprFrom'. -/
def fnExactExprFromCard : Claim7 := { stood := { row := fnExactExprFromRow, standIns := [], harness := (true, "f52935e29964c4cb5d1b79f7bc0ef3d575d76e798a62beb400fbba1f865e615c"), looks := true }, kinds := [], alts := [], laidByText := true, laidKinds := [.data, .data, .data, .sentinel, .sentinel, .data], laidTests := true, laidLooks := .later }
def FnExactExprFromCardSaid : Prop := Claim7.holds Tryd.pinned (.plain (OpenSpec.ofChange fnExactExprFromSpec)) fnExactExprFromCard

/-- THE TIED CARD OF 'laws.FnFromEnd'. -/
def fnFromEndCard : Claim7 := { stood := { row := fnFromEndRow, standIns := [], harness := (true, "f52935e29964c4cb5d1b79f7bc0ef3d575d76e798a62beb400fbba1f865e615c"), looks := true }, kinds := [], alts := [], laidByText := true, laidKinds := [.data, .data, .data, .sentinel, .sentinel, .data], laidTests := true, laidLooks := .later }
def FnFromEndCardSaid : Prop := Claim7.holds Tryd.pinned (.plain (OpenSpec.ofChange fnFromEndSpec)) fnFromEndCard

/-- THE TIED CARD OF 'laws.FnFromParens'. -/
def fnFromParensCard : Claim7 := { stood := { row := fnFromParensRow, standIns := [], harness := (true, "f52935e29964c4cb5d1b79f7bc0ef3d575d76e798a62beb400fbba1f865e615c"), looks := true }, kinds := [], alts := [], laidByText := true, laidKinds := [.data, .data, .data, .sentinel, .sentinel, .data], laidTests := true, laidLooks := .later }
def FnFromParensCardSaid : Prop := Claim7.holds Tryd.pinned (.plain (OpenSpec.ofChange fnFromParensSpec)) fnFromParensCard

/-- THE TIED CARD OF 'laws.FnTextBack'. -/
def fnTextBackCard : Claim7 := { stood := { row := fnTextBackRow, standIns := [], harness := (true, "f52935e29964c4cb5d1b79f7bc0ef3d575d76e798a62beb400fbba1f865e615c"), looks := true }, kinds := [], alts := [], laidByText := true, laidKinds := [.data, .data, .data, .sentinel, .sentinel, .data], laidTests := true, laidLooks := .later }
def FnTextBackCardSaid : Prop := Claim7.holds Tryd.pinned (.plain (OpenSpec.ofChange fnTextBackSpec)) fnTextBackCard

/-- THE TIED CARD OF 'laws.FnTextNeeds'. -/
def fnTextNeedsCard : Claim7 := { stood := { row := fnTextNeedsRow, standIns := [], harness := (true, "f52935e29964c4cb5d1b79f7bc0ef3d575d76e798a62beb400fbba1f865e615c"), looks := true }, kinds := [], alts := [], laidByText := true, laidKinds := [.data, .data, .data, .sentinel, .sentinel, .data], laidTests := true, laidLooks := .later }
def FnTextNeedsCardSaid : Prop := Claim7.holds Tryd.pinned (.plain (OpenSpec.ofChange fnTextNeedsSpec)) fnTextNeedsCard

/-- THE TIED CARD OF 'laws.FnFromAdd'. -/
def fnFromAddCard : Claim7 := { stood := { row := fnFromAddRow, standIns := [], harness := (true, "f52935e29964c4cb5d1b79f7bc0ef3d575d76e798a62beb400fbba1f865e615c"), looks := true }, kinds := [], alts := [], laidByText := true, laidKinds := [.data, .data, .data, .sentinel, .sentinel, .data], laidTests := true, laidLooks := .later }
def FnFromAddCardSaid : Prop := Claim7.holds Tryd.pinned (.plain (OpenSpec.ofChange fnFromAddSpec)) fnFromAddCard

/-- THE TIED CARD OF 'laws.FnFromLeft'. -/
def fnFromLeftCard : Claim7 := { stood := { row := fnFromLeftRow, standIns := [], harness := (true, "f52935e29964c4cb5d1b79f7bc0ef3d575d76e798a62beb400fbba1f865e615c"), looks := true }, kinds := [], alts := [], laidByText := true, laidKinds := [.data, .data, .data, .sentinel, .sentinel, .data], laidTests := true, laidLooks := .later }
def FnFromLeftCardSaid : Prop := Claim7.holds Tryd.pinned (.plain (OpenSpec.ofChange fnFromLeftSpec)) fnFromLeftCard

/-- THE TIED CARD OF 'laws.FnFromLevels'. -/
def fnFromLevelsCard : Claim7 := { stood := { row := fnFromLevelsRow, standIns := [], harness := (true, "f52935e29964c4cb5d1b79f7bc0ef3d575d76e798a62beb400fbba1f865e615c"), looks := true }, kinds := [], alts := [], laidByText := true, laidKinds := [.data, .data, .data, .sentinel, .sentinel, .data], laidTests := true, laidLooks := .later }
def FnFromLevelsCardSaid : Prop := Claim7.holds Tryd.pinned (.plain (OpenSpec.ofChange fnFromLevelsSpec)) fnFromLevelsCard

/-- THE SECOND FORM's CARD OF 'laws.FnExactExprFrom'. -/
def fnExactExprFromUptoCard : Claim7 := { stood := { row := fnExactExprFromUptoRow, standIns := [], harness := (true, "f52935e29964c4cb5d1b79f7bc0ef3d575d76e798a62beb400fbba1f865e615c"), looks := true }, kinds := [], alts := [], laidByText := true, laidKinds := [.data, .data, .data, .sentinel, .sentinel, .data], laidTests := true, laidLooks := .later }
def FnExactExprFromUptoCardSaid : Prop := Claim7.holds Tryd.pinned (.plain (OpenSpec.upto fnExactExprFromSpec)) fnExactExprFromUptoCard

/-- THE SECOND FORM's CARD OF 'laws.FnFromEnd'. -/
def fnFromEndUptoCard : Claim7 := { stood := { row := fnFromEndUptoRow, standIns := [], harness := (true, "f52935e29964c4cb5d1b79f7bc0ef3d575d76e798a62beb400fbba1f865e615c"), looks := true }, kinds := [], alts := [], laidByText := true, laidKinds := [.data, .data, .data, .sentinel, .sentinel, .data], laidTests := true, laidLooks := .later }
def FnFromEndUptoCardSaid : Prop := Claim7.holds Tryd.pinned (.plain (OpenSpec.upto fnFromEndSpec)) fnFromEndUptoCard

/-- THE SECOND FORM's CARD OF 'laws.FnFromParens'. -/
def fnFromParensUptoCard : Claim7 := { stood := { row := fnFromParensUptoRow, standIns := [], harness := (true, "f52935e29964c4cb5d1b79f7bc0ef3d575d76e798a62beb400fbba1f865e615c"), looks := true }, kinds := [], alts := [], laidByText := true, laidKinds := [.data, .data, .data, .sentinel, .sentinel, .data], laidTests := true, laidLooks := .later }
def FnFromParensUptoCardSaid : Prop := Claim7.holds Tryd.pinned (.plain (OpenSpec.upto fnFromParensSpec)) fnFromParensUptoCard

/-- THE SECOND FORM's CARD OF 'laws.FnTextBack'. -/
def fnTextBackUptoCard : Claim7 := { stood := { row := fnTextBackUptoRow, standIns := [], harness := (true, "f52935e29964c4cb5d1b79f7bc0ef3d575d76e798a62beb400fbba1f865e615c"), looks := true }, kinds := [], alts := [], laidByText := true, laidKinds := [.data, .data, .data, .sentinel, .sentinel, .data], laidTests := true, laidLooks := .later }
def FnTextBackUptoCardSaid : Prop := Claim7.holds Tryd.pinned (.plain (OpenSpec.upto fnTextBackSpec)) fnTextBackUptoCard

/-- THE SECOND FORM's CARD OF 'laws.FnTextNeeds'. -/
def fnTextNeedsUptoCard : Claim7 := { stood := { row := fnTextNeedsUptoRow, standIns := [], harness := (true, "f52935e29964c4cb5d1b79f7bc0ef3d575d76e798a62beb400fbba1f865e615c"), looks := true }, kinds := [], alts := [], laidByText := true, laidKinds := [.data, .data, .data, .sentinel, .sentinel, .data], laidTests := true, laidLooks := .later }
def FnTextNeedsUptoCardSaid : Prop := Claim7.holds Tryd.pinned (.plain (OpenSpec.upto fnTextNeedsSpec)) fnTextNeedsUptoCard

/-- THE SECOND FORM's CARD OF 'laws.FnFromAdd'. -/
def fnFromAddUptoCard : Claim7 := { stood := { row := fnFromAddUptoRow, standIns := [], harness := (true, "f52935e29964c4cb5d1b79f7bc0ef3d575d76e798a62beb400fbba1f865e615c"), looks := true }, kinds := [], alts := [], laidByText := true, laidKinds := [.data, .data, .data, .sentinel, .sentinel, .data], laidTests := true, laidLooks := .later }
def FnFromAddUptoCardSaid : Prop := Claim7.holds Tryd.pinned (.plain (OpenSpec.upto fnFromAddSpec)) fnFromAddUptoCard

/-- THE SECOND FORM's CARD OF 'laws.FnFromLeft'. -/
def fnFromLeftUptoCard : Claim7 := { stood := { row := fnFromLeftUptoRow, standIns := [], harness := (true, "f52935e29964c4cb5d1b79f7bc0ef3d575d76e798a62beb400fbba1f865e615c"), looks := true }, kinds := [], alts := [], laidByText := true, laidKinds := [.data, .data, .data, .sentinel, .sentinel, .data], laidTests := true, laidLooks := .later }
def FnFromLeftUptoCardSaid : Prop := Claim7.holds Tryd.pinned (.plain (OpenSpec.upto fnFromLeftSpec)) fnFromLeftUptoCard

/-- THE SECOND FORM's CARD OF 'laws.FnFromLevels'. -/
def fnFromLevelsUptoCard : Claim7 := { stood := { row := fnFromLevelsUptoRow, standIns := [], harness := (true, "f52935e29964c4cb5d1b79f7bc0ef3d575d76e798a62beb400fbba1f865e615c"), looks := true }, kinds := [], alts := [], laidByText := true, laidKinds := [.data, .data, .data, .sentinel, .sentinel, .data], laidTests := true, laidLooks := .later }
def FnFromLevelsUptoCardSaid : Prop := Claim7.holds Tryd.pinned (.plain (OpenSpec.upto fnFromLevelsSpec)) fnFromLevelsUptoCard
end Rows
end Go.Proofs.YthedbdlbibkpiaaDoor
