/-
  DERIVED. GIVEN WITH THE SEED: THE CARDS: each row of YtbgodlimjjgogaaDoorRows.lean that lists a variable, with what it lists TIED to the program's text (the seventh form; the later family's looks); each row that meets fmt, with fmt's text TOLD by the authors' own Lean function (tested against real Go, not proved from fmt's source: count such statements apart). THE CARD IS WHAT COUNTS. Prove the row's statement (the work); the ties are given (YtbgodlimjjgogaaDoorTie.lean); close each card by the builder's one call (the guide's Derived/Test/ToyasCard.lean, 'card_holds'). Laid BY PROGRAM, IN A SANDBOX (cutbox-door.mjs). By AI agents, Wed Nov 11 2026. No macro, syntax, notation, axiom, sorry.
-/
import Derived.Test.YtbgodlimjjgogaaDoorRows
import GoSem.ClaimSeven
namespace Go.Proofs.YtbgodlimjjgogaaDoor
namespace Rows

/-- THE TIED CARD OF 'laws.FnExactQuadText'. -/
def fnExactQuadTextCard : Claim7 := { stood := { row := fnExactQuadTextRow, standIns := [], harness := (true, "e1d34944e1ff66184accfddc45cda2a16216b2ef3f5b61a825029330b56ecb7f"), looks := false }, kinds := [], alts := [], laidByText := true, laidKinds := [.data, .data, .data, .data], laidTests := true, laidLooks := .later }
def FnExactQuadTextCardSaid : Prop := Claim7.holds Tryd.pinned (.plain (OpenSpec.ofChange fnExactQuadTextSpec)) fnExactQuadTextCard

/-- THE TIED CARD OF 'laws.FnQuadTextOther'. -/
def fnQuadTextOtherCard : Claim7 := { stood := { row := fnQuadTextOtherRow, standIns := [], harness := (true, "e1d34944e1ff66184accfddc45cda2a16216b2ef3f5b61a825029330b56ecb7f"), looks := false }, kinds := [], alts := [], laidByText := true, laidKinds := [.data, .data, .data, .data], laidTests := true, laidLooks := .later }
def FnQuadTextOtherCardSaid : Prop := Claim7.holds Tryd.pinned (.plain (OpenSpec.ofChange fnQuadTextOtherSpec)) fnQuadTextOtherCard

/-- THE TIED CARD OF 'laws.FnQuadText'. -/
def fnQuadTextCard : Claim7 := { stood := { row := fnQuadTextRow, standIns := [], harness := (true, "e1d34944e1ff66184accfddc45cda2a16216b2ef3f5b61a825029330b56ecb7f"), looks := false }, kinds := [], alts := [], laidByText := true, laidKinds := [.data, .data, .data, .data], laidTests := true, laidLooks := .later }
def FnQuadTextCardSaid : Prop := Claim7.holds Tryd.pinned (.plain (OpenSpec.ofChange fnQuadTextSpec)) fnQuadTextCard

/-- THE TIED CARD OF 'laws.FnExactCodeText'. -/
def fnExactCodeTextCard : Claim7 := { stood := { row := fnExactCodeTextRow, standIns := [], harness := (true, "e1d34944e1ff66184accfddc45cda2a16216b2ef3f5b61a825029330b56ecb7f"), looks := false }, kinds := [], alts := [], laidByText := true, laidKinds := [.data, .data, .data, .data], laidTests := true, laidLooks := .later }
def FnExactCodeTextCardSaid : Prop := Claim7.holds Tryd.pinned (.plain (OpenSpec.ofChange fnExactCodeTextSpec)) fnExactCodeTextCard

/-- THE SECOND FORM's CARD OF 'laws.FnExactQuadText'. -/
def fnExactQuadTextUptoCard : Claim7 := { stood := { row := fnExactQuadTextUptoRow, standIns := [], harness := (true, "e1d34944e1ff66184accfddc45cda2a16216b2ef3f5b61a825029330b56ecb7f"), looks := false }, kinds := [], alts := [], laidByText := true, laidKinds := [.data, .data, .data, .data], laidTests := true, laidLooks := .later }
def FnExactQuadTextUptoCardSaid : Prop := Claim7.holds Tryd.pinned (.plain (OpenSpec.upto fnExactQuadTextSpec)) fnExactQuadTextUptoCard

/-- THE SECOND FORM's CARD OF 'laws.FnQuadTextOther'. -/
def fnQuadTextOtherUptoCard : Claim7 := { stood := { row := fnQuadTextOtherUptoRow, standIns := [], harness := (true, "e1d34944e1ff66184accfddc45cda2a16216b2ef3f5b61a825029330b56ecb7f"), looks := false }, kinds := [], alts := [], laidByText := true, laidKinds := [.data, .data, .data, .data], laidTests := true, laidLooks := .later }
def FnQuadTextOtherUptoCardSaid : Prop := Claim7.holds Tryd.pinned (.plain (OpenSpec.upto fnQuadTextOtherSpec)) fnQuadTextOtherUptoCard

/-- THE SECOND FORM's CARD OF 'laws.FnQuadText'. -/
def fnQuadTextUptoCard : Claim7 := { stood := { row := fnQuadTextUptoRow, standIns := [], harness := (true, "e1d34944e1ff66184accfddc45cda2a16216b2ef3f5b61a825029330b56ecb7f"), looks := false }, kinds := [], alts := [], laidByText := true, laidKinds := [.data, .data, .data, .data], laidTests := true, laidLooks := .later }
def FnQuadTextUptoCardSaid : Prop := Claim7.holds Tryd.pinned (.plain (OpenSpec.upto fnQuadTextSpec)) fnQuadTextUptoCard

/-- THE SECOND FORM's CARD OF 'laws.FnExactCodeText'. -/
def fnExactCodeTextUptoCard : Claim7 := { stood := { row := fnExactCodeTextUptoRow, standIns := [], harness := (true, "e1d34944e1ff66184accfddc45cda2a16216b2ef3f5b61a825029330b56ecb7f"), looks := false }, kinds := [], alts := [], laidByText := true, laidKinds := [.data, .data, .data, .data], laidTests := true, laidLooks := .later }
def FnExactCodeTextUptoCardSaid : Prop := Claim7.holds Tryd.pinned (.plain (OpenSpec.upto fnExactCodeTextSpec)) fnExactCodeTextUptoCard
end Rows
end Go.Proofs.YtbgodlimjjgogaaDoor
