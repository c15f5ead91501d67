/-
  NARROWER THAN 'FOR EVERY INPUT', by the rows' own cells (each row's printed sentence says how): FnExactTaskValid: loops · FnExactTaskNew: loops.
  DERIVED. THE GIVEN ROWS OF THIS SEAT. 8 by the template 'for every input the law returns true; each argument reads behind the call as it read before'; 0 by the template 'total and deterministic' (their statements: YtbgodlimjjgogaaTotals.lean).
  GIVEN WITH THE SEED: the statements are not yours to turn. If you find one false, say at which input.
  Laid BY PROGRAM, IN A SANDBOX (cutbox-rows.mjs): the forced cells as the released guide's own fill.sh prints them over the translation cd8dae72aae10b49… (all of the seat's roots in one cut). By AI agents, Wed Nov 11 2026. No macro, syntax, notation, axiom, sorry.
-/
import Derived.Test.YtbgodlimjjgogaaChecked
import GoSem.Claim
import GoSem.ClaimJoined
import GoSem.ClaimMapViews
import Derived.JoinedTies
import Derived.KernelRfl
namespace Go.Proofs.Ytbgodlimjjgogaa
/- THE CELL 'sum', in the pinned program and in every row, IS THE sha256 OF THE DUMP (.gsa) THAT YtbgodlimjjgogaaProg.lean LOADS. Nothing in Lean hashes anything: it is a label: what it is worth is what the hold of that sum in a sandbox is worth. -/
noncomputable def Try.pinned : Pinned := { name := "ytbgodlimjjgogaa", sum := "cd8dae72aae10b495dc341ec9c455004d7b532afbe44a2442e68f782f26821c4", checked := Try.checked }
namespace Rows
def none {H : Type} : Left H := { results := [], args := [] }

/-- 'laws.FnCompileExprShift': WHATEVER THE INPUT: true; the input reads as it did. -/
def fnCompileExprShiftSpec : ChangeSpec := { name := "fnCompileExprShift", fn := fun _ => fun
  | [d] => { results := [.lit (.bool true)], args := [d] }
  | _ => none }
def fnCompileExprShiftRow : OpenClaim := { program := "ytbgodlimjjgogaa", sum := "cd8dae72aae10b495dc341ec9c455004d7b532afbe44a2442e68f782f26821c4", func := "loop.example/cothreads/laws.FnCompileExprShift", spec := "fnCompileExprShift", recurses := true, apart := false }
def FnCompileExprShiftSaid : Prop := fnCompileExprShiftRow.holds Try.pinned (OpenSpec.ofChange fnCompileExprShiftSpec)

/-- ITS FALSE NEIGHBOUR: 'it returns false'. Refute it at one input. -/
def fnCompileExprShiftWrong : ChangeSpec := { name := "fnCompileExprShift", fn := fun _ => fun
  | [d] => { results := [.lit (.bool false)], args := [d] }
  | _ => none }
def FnCompileExprShiftWrongFalsely : Prop := fnCompileExprShiftRow.holds Try.pinned (OpenSpec.ofChange fnCompileExprShiftWrong)

/-- 'laws.FnCompileExpr': WHATEVER THE INPUT: true; the input reads as it did. -/
def fnCompileExprSpec : ChangeSpec := { name := "fnCompileExpr", fn := fun _ => fun
  | [d] => { results := [.lit (.bool true)], args := [d] }
  | _ => none }
def fnCompileExprRow : OpenClaim := { program := "ytbgodlimjjgogaa", sum := "cd8dae72aae10b495dc341ec9c455004d7b532afbe44a2442e68f782f26821c4", func := "loop.example/cothreads/laws.FnCompileExpr", spec := "fnCompileExpr", recurses := true, apart := false }
def FnCompileExprSaid : Prop := fnCompileExprRow.holds Try.pinned (OpenSpec.ofChange fnCompileExprSpec)

/-- ITS FALSE NEIGHBOUR: 'it returns false'. Refute it at one input. -/
def fnCompileExprWrong : ChangeSpec := { name := "fnCompileExpr", fn := fun _ => fun
  | [d] => { results := [.lit (.bool false)], args := [d] }
  | _ => none }
def FnCompileExprWrongFalsely : Prop := fnCompileExprRow.holds Try.pinned (OpenSpec.ofChange fnCompileExprWrong)

/-- 'laws.FnCompileExprRegs': WHATEVER THE INPUT: true; the input reads as it did. -/
def fnCompileExprRegsSpec : ChangeSpec := { name := "fnCompileExprRegs", fn := fun _ => fun
  | [d] => { results := [.lit (.bool true)], args := [d] }
  | _ => none }
def fnCompileExprRegsRow : OpenClaim := { program := "ytbgodlimjjgogaa", sum := "cd8dae72aae10b495dc341ec9c455004d7b532afbe44a2442e68f782f26821c4", func := "loop.example/cothreads/laws.FnCompileExprRegs", spec := "fnCompileExprRegs", recurses := true, apart := false }
def FnCompileExprRegsSaid : Prop := fnCompileExprRegsRow.holds Try.pinned (OpenSpec.ofChange fnCompileExprRegsSpec)

/-- ITS FALSE NEIGHBOUR: 'it returns false'. Refute it at one input. -/
def fnCompileExprRegsWrong : ChangeSpec := { name := "fnCompileExprRegs", fn := fun _ => fun
  | [d] => { results := [.lit (.bool false)], args := [d] }
  | _ => none }
def FnCompileExprRegsWrongFalsely : Prop := fnCompileExprRegsRow.holds Try.pinned (OpenSpec.ofChange fnCompileExprRegsWrong)

/-- 'laws.FnCompileExprFold': WHATEVER THE INPUT: true; the input reads as it did. -/
def fnCompileExprFoldSpec : ChangeSpec := { name := "fnCompileExprFold", fn := fun _ => fun
  | [d] => { results := [.lit (.bool true)], args := [d] }
  | _ => none }
def fnCompileExprFoldRow : OpenClaim := { program := "ytbgodlimjjgogaa", sum := "cd8dae72aae10b495dc341ec9c455004d7b532afbe44a2442e68f782f26821c4", func := "loop.example/cothreads/laws.FnCompileExprFold", spec := "fnCompileExprFold", recurses := true, apart := false }
def FnCompileExprFoldSaid : Prop := fnCompileExprFoldRow.holds Try.pinned (OpenSpec.ofChange fnCompileExprFoldSpec)

/-- ITS FALSE NEIGHBOUR: 'it returns false'. Refute it at one input. -/
def fnCompileExprFoldWrong : ChangeSpec := { name := "fnCompileExprFold", fn := fun _ => fun
  | [d] => { results := [.lit (.bool false)], args := [d] }
  | _ => none }
def FnCompileExprFoldWrongFalsely : Prop := fnCompileExprFoldRow.holds Try.pinned (OpenSpec.ofChange fnCompileExprFoldWrong)

/-- 'laws.FnTask': WHATEVER THE INPUT: true; the input reads as it did. -/
def fnTaskSpec : ChangeSpec := { name := "fnTask", fn := fun _ => fun
  | [d1, d2] => { results := [.lit (.bool true)], args := [d1, d2] }
  | _ => none }
def fnTaskRow : OpenClaim := { program := "ytbgodlimjjgogaa", sum := "cd8dae72aae10b495dc341ec9c455004d7b532afbe44a2442e68f782f26821c4", func := "loop.example/cothreads/laws.FnTask", spec := "fnTask", unfollowed := true, recurses := true, apart := false }
def FnTaskSaid : Prop := fnTaskRow.holds Try.pinned (OpenSpec.ofChange fnTaskSpec)

/-- ITS FALSE NEIGHBOUR: 'it returns false'. Refute it at one input. -/
def fnTaskWrong : ChangeSpec := { name := "fnTask", fn := fun _ => fun
  | [d1, d2] => { results := [.lit (.bool false)], args := [d1, d2] }
  | _ => none }
def FnTaskWrongFalsely : Prop := fnTaskRow.holds Try.pinned (OpenSpec.ofChange fnTaskWrong)

/-- 'laws.FnExactTaskValid': WHATEVER THE INPUT: true; the input reads as it did. -/
def fnExactTaskValidSpec : ChangeSpec := { name := "fnExactTaskValid", fn := fun _ => fun
  | [d] => { results := [.lit (.bool true)], args := [d] }
  | _ => none }
def fnExactTaskValidRow : OpenClaim := { program := "ytbgodlimjjgogaa", sum := "cd8dae72aae10b495dc341ec9c455004d7b532afbe44a2442e68f782f26821c4", func := "loop.example/cothreads/laws.FnExactTaskValid", spec := "fnExactTaskValid", unfollowed := true, recurses := true, loops := true, apart := false }
def FnExactTaskValidSaid : Prop := fnExactTaskValidRow.holds Try.pinned (OpenSpec.ofChange fnExactTaskValidSpec)

/-- ITS FALSE NEIGHBOUR: 'it returns false'. Refute it at one input. -/
def fnExactTaskValidWrong : ChangeSpec := { name := "fnExactTaskValid", fn := fun _ => fun
  | [d] => { results := [.lit (.bool false)], args := [d] }
  | _ => none }
def FnExactTaskValidWrongFalsely : Prop := fnExactTaskValidRow.holds Try.pinned (OpenSpec.ofChange fnExactTaskValidWrong)

/-- 'laws.FnTaskNew': WHATEVER THE INPUT: true; the input reads as it did. -/
def fnTaskNewSpec : ChangeSpec := { name := "fnTaskNew", fn := fun _ => fun
  | [d] => { results := [.lit (.bool true)], args := [d] }
  | _ => none }
def fnTaskNewRow : OpenClaim := { program := "ytbgodlimjjgogaa", sum := "cd8dae72aae10b495dc341ec9c455004d7b532afbe44a2442e68f782f26821c4", func := "loop.example/cothreads/laws.FnTaskNew", spec := "fnTaskNew", unfollowed := true, recurses := true, apart := false }
def FnTaskNewSaid : Prop := fnTaskNewRow.holds Try.pinned (OpenSpec.ofChange fnTaskNewSpec)

/-- ITS FALSE NEIGHBOUR: 'it returns false'. Refute it at one input. -/
def fnTaskNewWrong : ChangeSpec := { name := "fnTaskNew", fn := fun _ => fun
  | [d] => { results := [.lit (.bool false)], args := [d] }
  | _ => none }
def FnTaskNewWrongFalsely : Prop := fnTaskNewRow.holds Try.pinned (OpenSpec.ofChange fnTaskNewWrong)

/-- 'laws.FnExactTaskNew': WHATEVER THE INPUT: true; the input reads as it did. -/
def fnExactTaskNewSpec : ChangeSpec := { name := "fnExactTaskNew", fn := fun _ => fun
  | [d] => { results := [.lit (.bool true)], args := [d] }
  | _ => none }
def fnExactTaskNewRow : OpenClaim := { program := "ytbgodlimjjgogaa", sum := "cd8dae72aae10b495dc341ec9c455004d7b532afbe44a2442e68f782f26821c4", func := "loop.example/cothreads/laws.FnExactTaskNew", spec := "fnExactTaskNew", unfollowed := true, recurses := true, loops := true, apart := false }
def FnExactTaskNewSaid : Prop := fnExactTaskNewRow.holds Try.pinned (OpenSpec.ofChange fnExactTaskNewSpec)

/-- ITS FALSE NEIGHBOUR: 'it returns false'. Refute it at one input. -/
def fnExactTaskNewWrong : ChangeSpec := { name := "fnExactTaskNew", fn := fun _ => fun
  | [d] => { results := [.lit (.bool false)], args := [d] }
  | _ => none }
def FnExactTaskNewWrongFalsely : Prop := fnExactTaskNewRow.holds Try.pinned (OpenSpec.ofChange fnExactTaskNewWrong)

/- THE SECOND FORM. 'bulk': how many values and letters a reading holds, each counted each time it is reached (what is shared counts as often as it is met; a slice's spare places count too). A statement '..UptoSaid' is the law's where the arguments, and the package variables that the reading takes, are together of bulk at most 1048576: NARROWER than '..Said'. Prove '..Said' where nothing that the law and all that it calls make is longer than what came in: it says more and counts as full. Else prove '..UptoSaid'. A law counts once. -/
mutual
def uptoBulk {H : Type} : DataW H → Nat
  | .lit (.string bytes) => bytes.length + 1
  | .lit _ => 1
  | .nil => 1
  | .ptr d => uptoBulk d + 1
  | .slice elems spare => uptoBulkAll elems + uptoBulkAll spare + 1
  | .agg parts => uptoBulkAll parts + 1
  | .iface _ d => uptoBulk d + 1
  | .map entries => uptoBulkEntries entries + 1
  | .held _ => 1
def uptoBulkAll {H : Type} : List (DataW H) → Nat
  | [] => 0
  | d :: r => uptoBulk d + uptoBulkAll r
def uptoBulkEntries {H : Type} : List (Lit × DataW H) → Nat
  | [] => 0
  | x :: r => uptoBulkEntry x + uptoBulkEntries r
def uptoBulkEntry {H : Type} : Lit × DataW H → Nat
  | (.string bytes, d) => bytes.length + uptoBulk d + 1
  | (_, d) => uptoBulk d + 1
 end
def uptoSmall : (H : Type) → List (DataW H) → Bool := fun _ ds => decide (uptoBulkAll ds ≤ 1048576)
def OpenSpec.upto (s : _root_.Go.ChangeSpec) : _root_.Go.OpenSpec := { _root_.Go.OpenSpec.ofChange s with cond := some uptoSmall }

/-- 'laws.FnCompileExprShift', WHERE WHAT IT READS IS OF BULK AT MOST 1048576: true; the input reads as it did. -/
def fnCompileExprShiftUptoRow : OpenClaim := { program := "ytbgodlimjjgogaa", sum := "cd8dae72aae10b495dc341ec9c455004d7b532afbe44a2442e68f782f26821c4", func := "loop.example/cothreads/laws.FnCompileExprShift", spec := "fnCompileExprShift", recurses := true, apart := false, narrowed := true }
def FnCompileExprShiftUptoSaid : Prop := fnCompileExprShiftUptoRow.holds Try.pinned (OpenSpec.upto fnCompileExprShiftSpec)

/-- 'laws.FnCompileExpr', WHERE WHAT IT READS IS OF BULK AT MOST 1048576: true; the input reads as it did. -/
def fnCompileExprUptoRow : OpenClaim := { program := "ytbgodlimjjgogaa", sum := "cd8dae72aae10b495dc341ec9c455004d7b532afbe44a2442e68f782f26821c4", func := "loop.example/cothreads/laws.FnCompileExpr", spec := "fnCompileExpr", recurses := true, apart := false, narrowed := true }
def FnCompileExprUptoSaid : Prop := fnCompileExprUptoRow.holds Try.pinned (OpenSpec.upto fnCompileExprSpec)

/-- 'laws.FnCompileExprRegs', WHERE WHAT IT READS IS OF BULK AT MOST 1048576: true; the input reads as it did. -/
def fnCompileExprRegsUptoRow : OpenClaim := { program := "ytbgodlimjjgogaa", sum := "cd8dae72aae10b495dc341ec9c455004d7b532afbe44a2442e68f782f26821c4", func := "loop.example/cothreads/laws.FnCompileExprRegs", spec := "fnCompileExprRegs", recurses := true, apart := false, narrowed := true }
def FnCompileExprRegsUptoSaid : Prop := fnCompileExprRegsUptoRow.holds Try.pinned (OpenSpec.upto fnCompileExprRegsSpec)

/-- 'laws.FnCompileExprFold', WHERE WHAT IT READS IS OF BULK AT MOST 1048576: true; the input reads as it did. -/
def fnCompileExprFoldUptoRow : OpenClaim := { program := "ytbgodlimjjgogaa", sum := "cd8dae72aae10b495dc341ec9c455004d7b532afbe44a2442e68f782f26821c4", func := "loop.example/cothreads/laws.FnCompileExprFold", spec := "fnCompileExprFold", recurses := true, apart := false, narrowed := true }
def FnCompileExprFoldUptoSaid : Prop := fnCompileExprFoldUptoRow.holds Try.pinned (OpenSpec.upto fnCompileExprFoldSpec)

/-- 'laws.FnTask', WHERE WHAT IT READS IS OF BULK AT MOST 1048576: true; the input reads as it did. -/
def fnTaskUptoRow : OpenClaim := { program := "ytbgodlimjjgogaa", sum := "cd8dae72aae10b495dc341ec9c455004d7b532afbe44a2442e68f782f26821c4", func := "loop.example/cothreads/laws.FnTask", spec := "fnTask", unfollowed := true, recurses := true, apart := false, narrowed := true }
def FnTaskUptoSaid : Prop := fnTaskUptoRow.holds Try.pinned (OpenSpec.upto fnTaskSpec)

/-- 'laws.FnExactTaskValid', WHERE WHAT IT READS IS OF BULK AT MOST 1048576: true; the input reads as it did. -/
def fnExactTaskValidUptoRow : OpenClaim := { program := "ytbgodlimjjgogaa", sum := "cd8dae72aae10b495dc341ec9c455004d7b532afbe44a2442e68f782f26821c4", func := "loop.example/cothreads/laws.FnExactTaskValid", spec := "fnExactTaskValid", unfollowed := true, recurses := true, loops := true, apart := false, narrowed := true }
def FnExactTaskValidUptoSaid : Prop := fnExactTaskValidUptoRow.holds Try.pinned (OpenSpec.upto fnExactTaskValidSpec)

/-- 'laws.FnTaskNew', WHERE WHAT IT READS IS OF BULK AT MOST 1048576: true; the input reads as it did. -/
def fnTaskNewUptoRow : OpenClaim := { program := "ytbgodlimjjgogaa", sum := "cd8dae72aae10b495dc341ec9c455004d7b532afbe44a2442e68f782f26821c4", func := "loop.example/cothreads/laws.FnTaskNew", spec := "fnTaskNew", unfollowed := true, recurses := true, apart := false, narrowed := true }
def FnTaskNewUptoSaid : Prop := fnTaskNewUptoRow.holds Try.pinned (OpenSpec.upto fnTaskNewSpec)

/-- 'laws.FnExactTaskNew', WHERE WHAT IT READS IS OF BULK AT MOST 1048576: true; the input reads as it did. -/
def fnExactTaskNewUptoRow : OpenClaim := { program := "ytbgodlimjjgogaa", sum := "cd8dae72aae10b495dc341ec9c455004d7b532afbe44a2442e68f782f26821c4", func := "loop.example/cothreads/laws.FnExactTaskNew", spec := "fnExactTaskNew", unfollowed := true, recurses := true, loops := true, apart := false, narrowed := true }
def FnExactTaskNewUptoSaid : Prop := fnExactTaskNewUptoRow.holds Try.pinned (OpenSpec.upto fnExactTaskNewSpec)

end Rows
end Go.Proofs.Ytbgodlimjjgogaa
