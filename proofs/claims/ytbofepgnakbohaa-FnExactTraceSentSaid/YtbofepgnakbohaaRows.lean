/-
  No cell of these rows narrows 'for every input' (looked for: loops, veiled, ifaces, maps, wideKeys, modest, calm, conditions, laid).
  DERIVED. THE GIVEN ROWS OF THIS SEAT. 11 by the template 'for every input the law returns true; each argument reads behind the call as it read before'; 0 by the template 'total and deterministic' (their statements: YtbofepgnakbohaaTotals.lean).
  GIVEN WITH THE SEED: the statements are not yours to turn. If you find one false, say at which input.
  Laid BY PROGRAM, IN A SANDBOX (cutbox-rows.mjs): the forced cells as the released guide's own fill.sh prints them over the translation a4e562be0383d8fe… (all of the seat's roots in one cut). By AI agents, Wed Nov 11 2026. No macro, syntax, notation, axiom, sorry.
-/
import Derived.Test.YtbofepgnakbohaaChecked
import GoSem.Claim
import GoSem.ClaimJoined
import GoSem.ClaimMapViews
import Derived.JoinedTies
import Derived.KernelRfl
namespace Go.Proofs.Ytbofepgnakbohaa
/- THE CELL 'sum', in the pinned program and in every row, IS THE sha256 OF THE DUMP (.gsa) THAT YtbofepgnakbohaaProg.lean LOADS. Nothing in Lean hashes anything: it is a label: what it is worth is what the hold of that sum in a sandbox is worth. -/
noncomputable def Try.pinned : Pinned := { name := "ytbofepgnakbohaa", sum := "a4e562be0383d8fec376dd906e0d00598d2c1a37b493082372f38aaafa12af0e", checked := Try.checked }
namespace Rows
def none {H : Type} : Left H := { results := [], args := [] }

/-- 'laws.FnExactNextTurn': WHATEVER THE INPUT: true; the input reads as it did. -/
def fnExactNextTurnSpec : ChangeSpec := { name := "fnExactNextTurn", fn := fun _ => fun
  | [d1, d2, d3, d4] => { results := [.lit (.bool true)], args := [d1, d2, d3, d4] }
  | _ => none }
def fnExactNextTurnRow : OpenClaim := { program := "ytbofepgnakbohaa", sum := "a4e562be0383d8fec376dd906e0d00598d2c1a37b493082372f38aaafa12af0e", func := "loop.example/cothreads/laws.FnExactNextTurn", spec := "fnExactNextTurn", apart := false }
def FnExactNextTurnSaid : Prop := fnExactNextTurnRow.holds Try.pinned (OpenSpec.ofChange fnExactNextTurnSpec)

/-- ITS FALSE NEIGHBOUR: 'it returns false'. Refute it at one input. -/
def fnExactNextTurnWrong : ChangeSpec := { name := "fnExactNextTurn", fn := fun _ => fun
  | [d1, d2, d3, d4] => { results := [.lit (.bool false)], args := [d1, d2, d3, d4] }
  | _ => none }
def FnExactNextTurnWrongFalsely : Prop := fnExactNextTurnRow.holds Try.pinned (OpenSpec.ofChange fnExactNextTurnWrong)

/-- 'laws.FnTurn': WHATEVER THE INPUT: true; the input reads as it did. -/
def fnTurnSpec : ChangeSpec := { name := "fnTurn", fn := fun _ => fun
  | [d] => { results := [.lit (.bool true)], args := [d] }
  | _ => none }
def fnTurnRow : OpenClaim := { program := "ytbofepgnakbohaa", sum := "a4e562be0383d8fec376dd906e0d00598d2c1a37b493082372f38aaafa12af0e", func := "loop.example/cothreads/laws.FnTurn", spec := "fnTurn", apart := false }
def FnTurnSaid : Prop := fnTurnRow.holds Try.pinned (OpenSpec.ofChange fnTurnSpec)

/-- ITS FALSE NEIGHBOUR: 'it returns false'. Refute it at one input. -/
def fnTurnWrong : ChangeSpec := { name := "fnTurn", fn := fun _ => fun
  | [d] => { results := [.lit (.bool false)], args := [d] }
  | _ => none }
def FnTurnWrongFalsely : Prop := fnTurnRow.holds Try.pinned (OpenSpec.ofChange fnTurnWrong)

/-- 'laws.FnTurnRound': WHATEVER THE INPUT: true; the input reads as it did. -/
def fnTurnRoundSpec : ChangeSpec := { name := "fnTurnRound", fn := fun _ => fun
  | [d] => { results := [.lit (.bool true)], args := [d] }
  | _ => none }
def fnTurnRoundRow : OpenClaim := { program := "ytbofepgnakbohaa", sum := "a4e562be0383d8fec376dd906e0d00598d2c1a37b493082372f38aaafa12af0e", func := "loop.example/cothreads/laws.FnTurnRound", spec := "fnTurnRound", apart := false }
def FnTurnRoundSaid : Prop := fnTurnRoundRow.holds Try.pinned (OpenSpec.ofChange fnTurnRoundSpec)

/-- ITS FALSE NEIGHBOUR: 'it returns false'. Refute it at one input. -/
def fnTurnRoundWrong : ChangeSpec := { name := "fnTurnRound", fn := fun _ => fun
  | [d] => { results := [.lit (.bool false)], args := [d] }
  | _ => none }
def FnTurnRoundWrongFalsely : Prop := fnTurnRoundRow.holds Try.pinned (OpenSpec.ofChange fnTurnRoundWrong)

/-- 'laws.FnExactQuadValid': WHATEVER THE INPUT: true; the input reads as it did. -/
def fnExactQuadValidSpec : ChangeSpec := { name := "fnExactQuadValid", fn := fun _ => fun
  | [d1, d2] => { results := [.lit (.bool true)], args := [d1, d2] }
  | _ => none }
def fnExactQuadValidRow : OpenClaim := { program := "ytbofepgnakbohaa", sum := "a4e562be0383d8fec376dd906e0d00598d2c1a37b493082372f38aaafa12af0e", func := "loop.example/cothreads/laws.FnExactQuadValid", spec := "fnExactQuadValid", apart := false }
def FnExactQuadValidSaid : Prop := fnExactQuadValidRow.holds Try.pinned (OpenSpec.ofChange fnExactQuadValidSpec)

/-- ITS FALSE NEIGHBOUR: 'it returns false'. Refute it at one input. -/
def fnExactQuadValidWrong : ChangeSpec := { name := "fnExactQuadValid", fn := fun _ => fun
  | [d1, d2] => { results := [.lit (.bool false)], args := [d1, d2] }
  | _ => none }
def FnExactQuadValidWrongFalsely : Prop := fnExactQuadValidRow.holds Try.pinned (OpenSpec.ofChange fnExactQuadValidWrong)

/-- 'laws.FnExactTraceOf': WHATEVER THE INPUT: true; the input reads as it did. -/
def fnExactTraceOfSpec : ChangeSpec := { name := "fnExactTraceOf", fn := fun _ => fun
  | [d1, d2] => { results := [.lit (.bool true)], args := [d1, d2] }
  | _ => none }
def fnExactTraceOfRow : OpenClaim := { program := "ytbofepgnakbohaa", sum := "a4e562be0383d8fec376dd906e0d00598d2c1a37b493082372f38aaafa12af0e", func := "loop.example/cothreads/laws.FnExactTraceOf", spec := "fnExactTraceOf", apart := false }
def FnExactTraceOfSaid : Prop := fnExactTraceOfRow.holds Try.pinned (OpenSpec.ofChange fnExactTraceOfSpec)

/-- ITS FALSE NEIGHBOUR: 'it returns false'. Refute it at one input. -/
def fnExactTraceOfWrong : ChangeSpec := { name := "fnExactTraceOf", fn := fun _ => fun
  | [d1, d2] => { results := [.lit (.bool false)], args := [d1, d2] }
  | _ => none }
def FnExactTraceOfWrongFalsely : Prop := fnExactTraceOfRow.holds Try.pinned (OpenSpec.ofChange fnExactTraceOfWrong)

/-- 'laws.FnExactTraceOut': WHATEVER THE INPUT: true; the input reads as it did. -/
def fnExactTraceOutSpec : ChangeSpec := { name := "fnExactTraceOut", fn := fun _ => fun
  | [d] => { results := [.lit (.bool true)], args := [d] }
  | _ => none }
def fnExactTraceOutRow : OpenClaim := { program := "ytbofepgnakbohaa", sum := "a4e562be0383d8fec376dd906e0d00598d2c1a37b493082372f38aaafa12af0e", func := "loop.example/cothreads/laws.FnExactTraceOut", spec := "fnExactTraceOut", unfollowed := true, recurses := true, apart := false }
def FnExactTraceOutSaid : Prop := fnExactTraceOutRow.holds Try.pinned (OpenSpec.ofChange fnExactTraceOutSpec)

/-- ITS FALSE NEIGHBOUR: 'it returns false'. Refute it at one input. -/
def fnExactTraceOutWrong : ChangeSpec := { name := "fnExactTraceOut", fn := fun _ => fun
  | [d] => { results := [.lit (.bool false)], args := [d] }
  | _ => none }
def FnExactTraceOutWrongFalsely : Prop := fnExactTraceOutRow.holds Try.pinned (OpenSpec.ofChange fnExactTraceOutWrong)

/-- 'laws.FnExactTraceGot': WHATEVER THE INPUT: true; the input reads as it did. -/
def fnExactTraceGotSpec : ChangeSpec := { name := "fnExactTraceGot", fn := fun _ => fun
  | [d1, d2] => { results := [.lit (.bool true)], args := [d1, d2] }
  | _ => none }
def fnExactTraceGotRow : OpenClaim := { program := "ytbofepgnakbohaa", sum := "a4e562be0383d8fec376dd906e0d00598d2c1a37b493082372f38aaafa12af0e", func := "loop.example/cothreads/laws.FnExactTraceGot", spec := "fnExactTraceGot", unfollowed := true, recurses := true, apart := false }
def FnExactTraceGotSaid : Prop := fnExactTraceGotRow.holds Try.pinned (OpenSpec.ofChange fnExactTraceGotSpec)

/-- ITS FALSE NEIGHBOUR: 'it returns false'. Refute it at one input. -/
def fnExactTraceGotWrong : ChangeSpec := { name := "fnExactTraceGot", fn := fun _ => fun
  | [d1, d2] => { results := [.lit (.bool false)], args := [d1, d2] }
  | _ => none }
def FnExactTraceGotWrongFalsely : Prop := fnExactTraceGotRow.holds Try.pinned (OpenSpec.ofChange fnExactTraceGotWrong)

/-- 'laws.FnExactTraceSent': WHATEVER THE INPUT: true; the input reads as it did. -/
def fnExactTraceSentSpec : ChangeSpec := { name := "fnExactTraceSent", fn := fun _ => fun
  | [d1, d2] => { results := [.lit (.bool true)], args := [d1, d2] }
  | _ => none }
def fnExactTraceSentRow : OpenClaim := { program := "ytbofepgnakbohaa", sum := "a4e562be0383d8fec376dd906e0d00598d2c1a37b493082372f38aaafa12af0e", func := "loop.example/cothreads/laws.FnExactTraceSent", spec := "fnExactTraceSent", unfollowed := true, recurses := true, apart := false }
def FnExactTraceSentSaid : Prop := fnExactTraceSentRow.holds Try.pinned (OpenSpec.ofChange fnExactTraceSentSpec)

/-- ITS FALSE NEIGHBOUR: 'it returns false'. Refute it at one input. -/
def fnExactTraceSentWrong : ChangeSpec := { name := "fnExactTraceSent", fn := fun _ => fun
  | [d1, d2] => { results := [.lit (.bool false)], args := [d1, d2] }
  | _ => none }
def FnExactTraceSentWrongFalsely : Prop := fnExactTraceSentRow.holds Try.pinned (OpenSpec.ofChange fnExactTraceSentWrong)

/-- 'laws.FnExactCodeValid': WHATEVER THE INPUT: true; the input reads as it did. -/
def fnExactCodeValidSpec : ChangeSpec := { name := "fnExactCodeValid", fn := fun _ => fun
  | [d] => { results := [.lit (.bool true)], args := [d] }
  | _ => none }
def fnExactCodeValidRow : OpenClaim := { program := "ytbofepgnakbohaa", sum := "a4e562be0383d8fec376dd906e0d00598d2c1a37b493082372f38aaafa12af0e", func := "loop.example/cothreads/laws.FnExactCodeValid", spec := "fnExactCodeValid", apart := false }
def FnExactCodeValidSaid : Prop := fnExactCodeValidRow.holds Try.pinned (OpenSpec.ofChange fnExactCodeValidSpec)

/-- ITS FALSE NEIGHBOUR: 'it returns false'. Refute it at one input. -/
def fnExactCodeValidWrong : ChangeSpec := { name := "fnExactCodeValid", fn := fun _ => fun
  | [d] => { results := [.lit (.bool false)], args := [d] }
  | _ => none }
def FnExactCodeValidWrongFalsely : Prop := fnExactCodeValidRow.holds Try.pinned (OpenSpec.ofChange fnExactCodeValidWrong)

/-- 'laws.FnQuad': WHATEVER THE INPUT: true; the input reads as it did. -/
def fnQuadSpec : ChangeSpec := { name := "fnQuad", fn := fun _ => fun
  | [d1, d2] => { results := [.lit (.bool true)], args := [d1, d2] }
  | _ => none }
def fnQuadRow : OpenClaim := { program := "ytbofepgnakbohaa", sum := "a4e562be0383d8fec376dd906e0d00598d2c1a37b493082372f38aaafa12af0e", func := "loop.example/cothreads/laws.FnQuad", spec := "fnQuad", apart := false }
def FnQuadSaid : Prop := fnQuadRow.holds Try.pinned (OpenSpec.ofChange fnQuadSpec)

/-- ITS FALSE NEIGHBOUR: 'it returns false'. Refute it at one input. -/
def fnQuadWrong : ChangeSpec := { name := "fnQuad", fn := fun _ => fun
  | [d1, d2] => { results := [.lit (.bool false)], args := [d1, d2] }
  | _ => none }
def FnQuadWrongFalsely : Prop := fnQuadRow.holds Try.pinned (OpenSpec.ofChange fnQuadWrong)

/-- 'laws.FnQuadFields': WHATEVER THE INPUT: true; the input reads as it did. -/
def fnQuadFieldsSpec : ChangeSpec := { name := "fnQuadFields", fn := fun _ => fun
  | [d] => { results := [.lit (.bool true)], args := [d] }
  | _ => none }
def fnQuadFieldsRow : OpenClaim := { program := "ytbofepgnakbohaa", sum := "a4e562be0383d8fec376dd906e0d00598d2c1a37b493082372f38aaafa12af0e", func := "loop.example/cothreads/laws.FnQuadFields", spec := "fnQuadFields", apart := false }
def FnQuadFieldsSaid : Prop := fnQuadFieldsRow.holds Try.pinned (OpenSpec.ofChange fnQuadFieldsSpec)

/-- ITS FALSE NEIGHBOUR: 'it returns false'. Refute it at one input. -/
def fnQuadFieldsWrong : ChangeSpec := { name := "fnQuadFields", fn := fun _ => fun
  | [d] => { results := [.lit (.bool false)], args := [d] }
  | _ => none }
def FnQuadFieldsWrongFalsely : Prop := fnQuadFieldsRow.holds Try.pinned (OpenSpec.ofChange fnQuadFieldsWrong)

/- THE SECOND FORM. 'bulk': how many values and letters a reading holds, each counted each time it is reached (what is shared counts as often as it is met; a slice's spare places count too). A statement '..UptoSaid' is the law's where the arguments, and the package variables that the reading takes, are together of bulk at most 1048576: NARROWER than '..Said'. Prove '..Said' where nothing that the law and all that it calls make is longer than what came in: it says more and counts as full. Else prove '..UptoSaid'. A law counts once. -/
mutual
def uptoBulk {H : Type} : DataW H → Nat
  | .lit (.string bytes) => bytes.length + 1
  | .lit _ => 1
  | .nil => 1
  | .ptr d => uptoBulk d + 1
  | .slice elems spare => uptoBulkAll elems + uptoBulkAll spare + 1
  | .agg parts => uptoBulkAll parts + 1
  | .iface _ d => uptoBulk d + 1
  | .map entries => uptoBulkEntries entries + 1
  | .held _ => 1
def uptoBulkAll {H : Type} : List (DataW H) → Nat
  | [] => 0
  | d :: r => uptoBulk d + uptoBulkAll r
def uptoBulkEntries {H : Type} : List (Lit × DataW H) → Nat
  | [] => 0
  | x :: r => uptoBulkEntry x + uptoBulkEntries r
def uptoBulkEntry {H : Type} : Lit × DataW H → Nat
  | (.string bytes, d) => bytes.length + uptoBulk d + 1
  | (_, d) => uptoBulk d + 1
 end
def uptoSmall : (H : Type) → List (DataW H) → Bool := fun _ ds => decide (uptoBulkAll ds ≤ 1048576)
def OpenSpec.upto (s : _root_.Go.ChangeSpec) : _root_.Go.OpenSpec := { _root_.Go.OpenSpec.ofChange s with cond := some uptoSmall }

/-- 'laws.FnExactNextTurn', WHERE WHAT IT READS IS OF BULK AT MOST 1048576: true; the input reads as it did. -/
def fnExactNextTurnUptoRow : OpenClaim := { program := "ytbofepgnakbohaa", sum := "a4e562be0383d8fec376dd906e0d00598d2c1a37b493082372f38aaafa12af0e", func := "loop.example/cothreads/laws.FnExactNextTurn", spec := "fnExactNextTurn", apart := false, narrowed := true }
def FnExactNextTurnUptoSaid : Prop := fnExactNextTurnUptoRow.holds Try.pinned (OpenSpec.upto fnExactNextTurnSpec)

/-- 'laws.FnTurn', WHERE WHAT IT READS IS OF BULK AT MOST 1048576: true; the input reads as it did. -/
def fnTurnUptoRow : OpenClaim := { program := "ytbofepgnakbohaa", sum := "a4e562be0383d8fec376dd906e0d00598d2c1a37b493082372f38aaafa12af0e", func := "loop.example/cothreads/laws.FnTurn", spec := "fnTurn", apart := false, narrowed := true }
def FnTurnUptoSaid : Prop := fnTurnUptoRow.holds Try.pinned (OpenSpec.upto fnTurnSpec)

/-- 'laws.FnTurnRound', WHERE WHAT IT READS IS OF BULK AT MOST 1048576: true; the input reads as it did. -/
def fnTurnRoundUptoRow : OpenClaim := { program := "ytbofepgnakbohaa", sum := "a4e562be0383d8fec376dd906e0d00598d2c1a37b493082372f38aaafa12af0e", func := "loop.example/cothreads/laws.FnTurnRound", spec := "fnTurnRound", apart := false, narrowed := true }
def FnTurnRoundUptoSaid : Prop := fnTurnRoundUptoRow.holds Try.pinned (OpenSpec.upto fnTurnRoundSpec)

/-- 'laws.FnExactQuadValid', WHERE WHAT IT READS IS OF BULK AT MOST 1048576: true; the input reads as it did. -/
def fnExactQuadValidUptoRow : OpenClaim := { program := "ytbofepgnakbohaa", sum := "a4e562be0383d8fec376dd906e0d00598d2c1a37b493082372f38aaafa12af0e", func := "loop.example/cothreads/laws.FnExactQuadValid", spec := "fnExactQuadValid", apart := false, narrowed := true }
def FnExactQuadValidUptoSaid : Prop := fnExactQuadValidUptoRow.holds Try.pinned (OpenSpec.upto fnExactQuadValidSpec)

/-- 'laws.FnExactTraceOf', WHERE WHAT IT READS IS OF BULK AT MOST 1048576: true; the input reads as it did. -/
def fnExactTraceOfUptoRow : OpenClaim := { program := "ytbofepgnakbohaa", sum := "a4e562be0383d8fec376dd906e0d00598d2c1a37b493082372f38aaafa12af0e", func := "loop.example/cothreads/laws.FnExactTraceOf", spec := "fnExactTraceOf", apart := false, narrowed := true }
def FnExactTraceOfUptoSaid : Prop := fnExactTraceOfUptoRow.holds Try.pinned (OpenSpec.upto fnExactTraceOfSpec)

/-- 'laws.FnExactTraceOut', WHERE WHAT IT READS IS OF BULK AT MOST 1048576: true; the input reads as it did. -/
def fnExactTraceOutUptoRow : OpenClaim := { program := "ytbofepgnakbohaa", sum := "a4e562be0383d8fec376dd906e0d00598d2c1a37b493082372f38aaafa12af0e", func := "loop.example/cothreads/laws.FnExactTraceOut", spec := "fnExactTraceOut", unfollowed := true, recurses := true, apart := false, narrowed := true }
def FnExactTraceOutUptoSaid : Prop := fnExactTraceOutUptoRow.holds Try.pinned (OpenSpec.upto fnExactTraceOutSpec)

/-- 'laws.FnExactTraceGot', WHERE WHAT IT READS IS OF BULK AT MOST 1048576: true; the input reads as it did. -/
def fnExactTraceGotUptoRow : OpenClaim := { program := "ytbofepgnakbohaa", sum := "a4e562be0383d8fec376dd906e0d00598d2c1a37b493082372f38aaafa12af0e", func := "loop.example/cothreads/laws.FnExactTraceGot", spec := "fnExactTraceGot", unfollowed := true, recurses := true, apart := false, narrowed := true }
def FnExactTraceGotUptoSaid : Prop := fnExactTraceGotUptoRow.holds Try.pinned (OpenSpec.upto fnExactTraceGotSpec)

/-- 'laws.FnExactTraceSent', WHERE WHAT IT READS IS OF BULK AT MOST 1048576: true; the input reads as it did. -/
def fnExactTraceSentUptoRow : OpenClaim := { program := "ytbofepgnakbohaa", sum := "a4e562be0383d8fec376dd906e0d00598d2c1a37b493082372f38aaafa12af0e", func := "loop.example/cothreads/laws.FnExactTraceSent", spec := "fnExactTraceSent", unfollowed := true, recurses := true, apart := false, narrowed := true }
def FnExactTraceSentUptoSaid : Prop := fnExactTraceSentUptoRow.holds Try.pinned (OpenSpec.upto fnExactTraceSentSpec)

/-- 'laws.FnExactCodeValid', WHERE WHAT IT READS IS OF BULK AT MOST 1048576: true; the input reads as it did. -/
def fnExactCodeValidUptoRow : OpenClaim := { program := "ytbofepgnakbohaa", sum := "a4e562be0383d8fec376dd906e0d00598d2c1a37b493082372f38aaafa12af0e", func := "loop.example/cothreads/laws.FnExactCodeValid", spec := "fnExactCodeValid", apart := false, narrowed := true }
def FnExactCodeValidUptoSaid : Prop := fnExactCodeValidUptoRow.holds Try.pinned (OpenSpec.upto fnExactCodeValidSpec)

/-- 'laws.FnQuad', WHERE WHAT IT READS IS OF BULK AT MOST 1048576: true; the input reads as it did. -/
def fnQuadUptoRow : OpenClaim := { program := "ytbofepgnakbohaa", sum := "a4e562be0383d8fec376dd906e0d00598d2c1a37b493082372f38aaafa12af0e", func := "loop.example/cothreads/laws.FnQuad", spec := "fnQuad", apart := false, narrowed := true }
def FnQuadUptoSaid : Prop := fnQuadUptoRow.holds Try.pinned (OpenSpec.upto fnQuadSpec)

/-- 'laws.FnQuadFields', WHERE WHAT IT READS IS OF BULK AT MOST 1048576: true; the input reads as it did. -/
def fnQuadFieldsUptoRow : OpenClaim := { program := "ytbofepgnakbohaa", sum := "a4e562be0383d8fec376dd906e0d00598d2c1a37b493082372f38aaafa12af0e", func := "loop.example/cothreads/laws.FnQuadFields", spec := "fnQuadFields", apart := false, narrowed := true }
def FnQuadFieldsUptoSaid : Prop := fnQuadFieldsUptoRow.holds Try.pinned (OpenSpec.upto fnQuadFieldsSpec)

end Rows
end Go.Proofs.Ytbofepgnakbohaa
