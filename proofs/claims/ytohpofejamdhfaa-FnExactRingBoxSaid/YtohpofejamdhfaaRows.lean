/-
  No cell of these rows narrows 'for every input' (looked for: loops, veiled, ifaces, maps, wideKeys, modest, calm, conditions, laid).
  DERIVED. THE GIVEN ROWS OF THIS SEAT. 10 by the template 'for every input the law returns true; each argument reads behind the call as it read before'; 0 by the template 'total and deterministic' (their statements: YtohpofejamdhfaaTotals.lean).
  GIVEN WITH THE SEED: the statements are not yours to turn. If you find one false, say at which input.
  Laid BY PROGRAM, IN A SANDBOX (cutbox-rows.mjs): the forced cells as the released guide's own fill.sh prints them over the translation 26e45b9ef1f239f1… (all of the seat's roots in one cut). By AI agents, Wed Nov 11 2026. No macro, syntax, notation, axiom, sorry.
-/
import Derived.Test.YtohpofejamdhfaaChecked
import GoSem.Claim
import GoSem.ClaimJoined
import GoSem.ClaimMapViews
import Derived.JoinedTies
import Derived.KernelRfl
namespace Go.Proofs.Ytohpofejamdhfaa
/- THE CELL 'sum', in the pinned program and in every row, IS THE sha256 OF THE DUMP (.gsa) THAT YtohpofejamdhfaaProg.lean LOADS. Nothing in Lean hashes anything: it is a label: what it is worth is what the hold of that sum in a sandbox is worth. -/
noncomputable def Try.pinned : Pinned := { name := "ytohpofejamdhfaa", sum := "26e45b9ef1f239f1256d77b6d6d25f21ecb3bba76cc43945a4579ee8732d6846", checked := Try.checked }
namespace Rows
def none {H : Type} : Left H := { results := [], args := [] }

/-- 'laws.FnExactRingTake': WHATEVER THE INPUT: true; the input reads as it did. -/
def fnExactRingTakeSpec : ChangeSpec := { name := "fnExactRingTake", fn := fun _ => fun
  | [d] => { results := [.lit (.bool true)], args := [d] }
  | _ => none }
def fnExactRingTakeRow : OpenClaim := { program := "ytohpofejamdhfaa", sum := "26e45b9ef1f239f1256d77b6d6d25f21ecb3bba76cc43945a4579ee8732d6846", func := "loop.example/cothreads/laws.FnExactRingTake", spec := "fnExactRingTake", apart := false }
def FnExactRingTakeSaid : Prop := fnExactRingTakeRow.holds Try.pinned (OpenSpec.ofChange fnExactRingTakeSpec)

/-- ITS FALSE NEIGHBOUR: 'it returns false'. Refute it at one input. -/
def fnExactRingTakeWrong : ChangeSpec := { name := "fnExactRingTake", fn := fun _ => fun
  | [d] => { results := [.lit (.bool false)], args := [d] }
  | _ => none }
def FnExactRingTakeWrongFalsely : Prop := fnExactRingTakeRow.holds Try.pinned (OpenSpec.ofChange fnExactRingTakeWrong)

/-- 'laws.FnTakePut': WHATEVER THE INPUT: true; the input reads as it did. -/
def fnTakePutSpec : ChangeSpec := { name := "fnTakePut", fn := fun _ => fun
  | [d] => { results := [.lit (.bool true)], args := [d] }
  | _ => none }
def fnTakePutRow : OpenClaim := { program := "ytohpofejamdhfaa", sum := "26e45b9ef1f239f1256d77b6d6d25f21ecb3bba76cc43945a4579ee8732d6846", func := "loop.example/cothreads/laws.FnTakePut", spec := "fnTakePut", apart := false }
def FnTakePutSaid : Prop := fnTakePutRow.holds Try.pinned (OpenSpec.ofChange fnTakePutSpec)

/-- ITS FALSE NEIGHBOUR: 'it returns false'. Refute it at one input. -/
def fnTakePutWrong : ChangeSpec := { name := "fnTakePut", fn := fun _ => fun
  | [d] => { results := [.lit (.bool false)], args := [d] }
  | _ => none }
def FnTakePutWrongFalsely : Prop := fnTakePutRow.holds Try.pinned (OpenSpec.ofChange fnTakePutWrong)

/-- 'laws.FnPut': WHATEVER THE INPUT: true; the input reads as it did. -/
def fnPutSpec : ChangeSpec := { name := "fnPut", fn := fun _ => fun
  | [d] => { results := [.lit (.bool true)], args := [d] }
  | _ => none }
def fnPutRow : OpenClaim := { program := "ytohpofejamdhfaa", sum := "26e45b9ef1f239f1256d77b6d6d25f21ecb3bba76cc43945a4579ee8732d6846", func := "loop.example/cothreads/laws.FnPut", spec := "fnPut", apart := false }
def FnPutSaid : Prop := fnPutRow.holds Try.pinned (OpenSpec.ofChange fnPutSpec)

/-- ITS FALSE NEIGHBOUR: 'it returns false'. Refute it at one input. -/
def fnPutWrong : ChangeSpec := { name := "fnPut", fn := fun _ => fun
  | [d] => { results := [.lit (.bool false)], args := [d] }
  | _ => none }
def FnPutWrongFalsely : Prop := fnPutRow.holds Try.pinned (OpenSpec.ofChange fnPutWrong)

/-- 'laws.FnPutFull': WHATEVER THE INPUT: true; the input reads as it did. -/
def fnPutFullSpec : ChangeSpec := { name := "fnPutFull", fn := fun _ => fun
  | [d] => { results := [.lit (.bool true)], args := [d] }
  | _ => none }
def fnPutFullRow : OpenClaim := { program := "ytohpofejamdhfaa", sum := "26e45b9ef1f239f1256d77b6d6d25f21ecb3bba76cc43945a4579ee8732d6846", func := "loop.example/cothreads/laws.FnPutFull", spec := "fnPutFull", apart := false }
def FnPutFullSaid : Prop := fnPutFullRow.holds Try.pinned (OpenSpec.ofChange fnPutFullSpec)

/-- ITS FALSE NEIGHBOUR: 'it returns false'. Refute it at one input. -/
def fnPutFullWrong : ChangeSpec := { name := "fnPutFull", fn := fun _ => fun
  | [d] => { results := [.lit (.bool false)], args := [d] }
  | _ => none }
def FnPutFullWrongFalsely : Prop := fnPutFullRow.holds Try.pinned (OpenSpec.ofChange fnPutFullWrong)

/-- 'laws.FnExactRingBox': WHATEVER THE INPUT: true; the input reads as it did. -/
def fnExactRingBoxSpec : ChangeSpec := { name := "fnExactRingBox", fn := fun _ => fun
  | [d] => { results := [.lit (.bool true)], args := [d] }
  | _ => none }
def fnExactRingBoxRow : OpenClaim := { program := "ytohpofejamdhfaa", sum := "26e45b9ef1f239f1256d77b6d6d25f21ecb3bba76cc43945a4579ee8732d6846", func := "loop.example/cothreads/laws.FnExactRingBox", spec := "fnExactRingBox", apart := false }
def FnExactRingBoxSaid : Prop := fnExactRingBoxRow.holds Try.pinned (OpenSpec.ofChange fnExactRingBoxSpec)

/-- ITS FALSE NEIGHBOUR: 'it returns false'. Refute it at one input. -/
def fnExactRingBoxWrong : ChangeSpec := { name := "fnExactRingBox", fn := fun _ => fun
  | [d] => { results := [.lit (.bool false)], args := [d] }
  | _ => none }
def FnExactRingBoxWrongFalsely : Prop := fnExactRingBoxRow.holds Try.pinned (OpenSpec.ofChange fnExactRingBoxWrong)

/-- 'laws.FnPutTake': WHATEVER THE INPUT: true; the input reads as it did. -/
def fnPutTakeSpec : ChangeSpec := { name := "fnPutTake", fn := fun _ => fun
  | [d] => { results := [.lit (.bool true)], args := [d] }
  | _ => none }
def fnPutTakeRow : OpenClaim := { program := "ytohpofejamdhfaa", sum := "26e45b9ef1f239f1256d77b6d6d25f21ecb3bba76cc43945a4579ee8732d6846", func := "loop.example/cothreads/laws.FnPutTake", spec := "fnPutTake", apart := false }
def FnPutTakeSaid : Prop := fnPutTakeRow.holds Try.pinned (OpenSpec.ofChange fnPutTakeSpec)

/-- ITS FALSE NEIGHBOUR: 'it returns false'. Refute it at one input. -/
def fnPutTakeWrong : ChangeSpec := { name := "fnPutTake", fn := fun _ => fun
  | [d] => { results := [.lit (.bool false)], args := [d] }
  | _ => none }
def FnPutTakeWrongFalsely : Prop := fnPutTakeRow.holds Try.pinned (OpenSpec.ofChange fnPutTakeWrong)

/-- 'laws.FnRingTake': WHATEVER THE INPUT: true; the input reads as it did. -/
def fnRingTakeSpec : ChangeSpec := { name := "fnRingTake", fn := fun _ => fun
  | [d] => { results := [.lit (.bool true)], args := [d] }
  | _ => none }
def fnRingTakeRow : OpenClaim := { program := "ytohpofejamdhfaa", sum := "26e45b9ef1f239f1256d77b6d6d25f21ecb3bba76cc43945a4579ee8732d6846", func := "loop.example/cothreads/laws.FnRingTake", spec := "fnRingTake", apart := false }
def FnRingTakeSaid : Prop := fnRingTakeRow.holds Try.pinned (OpenSpec.ofChange fnRingTakeSpec)

/-- ITS FALSE NEIGHBOUR: 'it returns false'. Refute it at one input. -/
def fnRingTakeWrong : ChangeSpec := { name := "fnRingTake", fn := fun _ => fun
  | [d] => { results := [.lit (.bool false)], args := [d] }
  | _ => none }
def FnRingTakeWrongFalsely : Prop := fnRingTakeRow.holds Try.pinned (OpenSpec.ofChange fnRingTakeWrong)

/-- 'laws.FnRingSlots': WHATEVER THE INPUT: true; the input reads as it did. -/
def fnRingSlotsSpec : ChangeSpec := { name := "fnRingSlots", fn := fun _ => fun
  | [d] => { results := [.lit (.bool true)], args := [d] }
  | _ => none }
def fnRingSlotsRow : OpenClaim := { program := "ytohpofejamdhfaa", sum := "26e45b9ef1f239f1256d77b6d6d25f21ecb3bba76cc43945a4579ee8732d6846", func := "loop.example/cothreads/laws.FnRingSlots", spec := "fnRingSlots", apart := false }
def FnRingSlotsSaid : Prop := fnRingSlotsRow.holds Try.pinned (OpenSpec.ofChange fnRingSlotsSpec)

/-- ITS FALSE NEIGHBOUR: 'it returns false'. Refute it at one input. -/
def fnRingSlotsWrong : ChangeSpec := { name := "fnRingSlots", fn := fun _ => fun
  | [d] => { results := [.lit (.bool false)], args := [d] }
  | _ => none }
def FnRingSlotsWrongFalsely : Prop := fnRingSlotsRow.holds Try.pinned (OpenSpec.ofChange fnRingSlotsWrong)

/-- 'laws.FnRingPutFails': WHATEVER THE INPUT: true; the input reads as it did. -/
def fnRingPutFailsSpec : ChangeSpec := { name := "fnRingPutFails", fn := fun _ => fun
  | [d] => { results := [.lit (.bool true)], args := [d] }
  | _ => none }
def fnRingPutFailsRow : OpenClaim := { program := "ytohpofejamdhfaa", sum := "26e45b9ef1f239f1256d77b6d6d25f21ecb3bba76cc43945a4579ee8732d6846", func := "loop.example/cothreads/laws.FnRingPutFails", spec := "fnRingPutFails", apart := false }
def FnRingPutFailsSaid : Prop := fnRingPutFailsRow.holds Try.pinned (OpenSpec.ofChange fnRingPutFailsSpec)

/-- ITS FALSE NEIGHBOUR: 'it returns false'. Refute it at one input. -/
def fnRingPutFailsWrong : ChangeSpec := { name := "fnRingPutFails", fn := fun _ => fun
  | [d] => { results := [.lit (.bool false)], args := [d] }
  | _ => none }
def FnRingPutFailsWrongFalsely : Prop := fnRingPutFailsRow.holds Try.pinned (OpenSpec.ofChange fnRingPutFailsWrong)

/-- 'laws.FnRingPut': WHATEVER THE INPUT: true; the input reads as it did. -/
def fnRingPutSpec : ChangeSpec := { name := "fnRingPut", fn := fun _ => fun
  | [d] => { results := [.lit (.bool true)], args := [d] }
  | _ => none }
def fnRingPutRow : OpenClaim := { program := "ytohpofejamdhfaa", sum := "26e45b9ef1f239f1256d77b6d6d25f21ecb3bba76cc43945a4579ee8732d6846", func := "loop.example/cothreads/laws.FnRingPut", spec := "fnRingPut", apart := false }
def FnRingPutSaid : Prop := fnRingPutRow.holds Try.pinned (OpenSpec.ofChange fnRingPutSpec)

/-- ITS FALSE NEIGHBOUR: 'it returns false'. Refute it at one input. -/
def fnRingPutWrong : ChangeSpec := { name := "fnRingPut", fn := fun _ => fun
  | [d] => { results := [.lit (.bool false)], args := [d] }
  | _ => none }
def FnRingPutWrongFalsely : Prop := fnRingPutRow.holds Try.pinned (OpenSpec.ofChange fnRingPutWrong)

/- THE SECOND FORM. 'bulk': how many values and letters a reading holds, each counted each time it is reached (what is shared counts as often as it is met; a slice's spare places count too). A statement '..UptoSaid' is the law's where the arguments, and the package variables that the reading takes, are together of bulk at most 1048576: NARROWER than '..Said'. Prove '..Said' where nothing that the law and all that it calls make is longer than what came in: it says more and counts as full. Else prove '..UptoSaid'. A law counts once. -/
mutual
def uptoBulk {H : Type} : DataW H → Nat
  | .lit (.string bytes) => bytes.length + 1
  | .lit _ => 1
  | .nil => 1
  | .ptr d => uptoBulk d + 1
  | .slice elems spare => uptoBulkAll elems + uptoBulkAll spare + 1
  | .agg parts => uptoBulkAll parts + 1
  | .iface _ d => uptoBulk d + 1
  | .map entries => uptoBulkEntries entries + 1
  | .held _ => 1
def uptoBulkAll {H : Type} : List (DataW H) → Nat
  | [] => 0
  | d :: r => uptoBulk d + uptoBulkAll r
def uptoBulkEntries {H : Type} : List (Lit × DataW H) → Nat
  | [] => 0
  | x :: r => uptoBulkEntry x + uptoBulkEntries r
def uptoBulkEntry {H : Type} : Lit × DataW H → Nat
  | (.string bytes, d) => bytes.length + uptoBulk d + 1
  | (_, d) => uptoBulk d + 1
 end
def uptoSmall : (H : Type) → List (DataW H) → Bool := fun _ ds => decide (uptoBulkAll ds ≤ 1048576)
def OpenSpec.upto (s : _root_.Go.ChangeSpec) : _root_.Go.OpenSpec := { _root_.Go.OpenSpec.ofChange s with cond := some uptoSmall }

/-- 'laws.FnExactRingTake', WHERE WHAT IT READS IS OF BULK AT MOST 1048576: true; the input reads as it did. -/
def fnExactRingTakeUptoRow : OpenClaim := { program := "ytohpofejamdhfaa", sum := "26e45b9ef1f239f1256d77b6d6d25f21ecb3bba76cc43945a4579ee8732d6846", func := "loop.example/cothreads/laws.FnExactRingTake", spec := "fnExactRingTake", apart := false, narrowed := true }
def FnExactRingTakeUptoSaid : Prop := fnExactRingTakeUptoRow.holds Try.pinned (OpenSpec.upto fnExactRingTakeSpec)

/-- 'laws.FnTakePut', WHERE WHAT IT READS IS OF BULK AT MOST 1048576: true; the input reads as it did. -/
def fnTakePutUptoRow : OpenClaim := { program := "ytohpofejamdhfaa", sum := "26e45b9ef1f239f1256d77b6d6d25f21ecb3bba76cc43945a4579ee8732d6846", func := "loop.example/cothreads/laws.FnTakePut", spec := "fnTakePut", apart := false, narrowed := true }
def FnTakePutUptoSaid : Prop := fnTakePutUptoRow.holds Try.pinned (OpenSpec.upto fnTakePutSpec)

/-- 'laws.FnPut', WHERE WHAT IT READS IS OF BULK AT MOST 1048576: true; the input reads as it did. -/
def fnPutUptoRow : OpenClaim := { program := "ytohpofejamdhfaa", sum := "26e45b9ef1f239f1256d77b6d6d25f21ecb3bba76cc43945a4579ee8732d6846", func := "loop.example/cothreads/laws.FnPut", spec := "fnPut", apart := false, narrowed := true }
def FnPutUptoSaid : Prop := fnPutUptoRow.holds Try.pinned (OpenSpec.upto fnPutSpec)

/-- 'laws.FnPutFull', WHERE WHAT IT READS IS OF BULK AT MOST 1048576: true; the input reads as it did. -/
def fnPutFullUptoRow : OpenClaim := { program := "ytohpofejamdhfaa", sum := "26e45b9ef1f239f1256d77b6d6d25f21ecb3bba76cc43945a4579ee8732d6846", func := "loop.example/cothreads/laws.FnPutFull", spec := "fnPutFull", apart := false, narrowed := true }
def FnPutFullUptoSaid : Prop := fnPutFullUptoRow.holds Try.pinned (OpenSpec.upto fnPutFullSpec)

/-- 'laws.FnExactRingBox', WHERE WHAT IT READS IS OF BULK AT MOST 1048576: true; the input reads as it did. -/
def fnExactRingBoxUptoRow : OpenClaim := { program := "ytohpofejamdhfaa", sum := "26e45b9ef1f239f1256d77b6d6d25f21ecb3bba76cc43945a4579ee8732d6846", func := "loop.example/cothreads/laws.FnExactRingBox", spec := "fnExactRingBox", apart := false, narrowed := true }
def FnExactRingBoxUptoSaid : Prop := fnExactRingBoxUptoRow.holds Try.pinned (OpenSpec.upto fnExactRingBoxSpec)

/-- 'laws.FnPutTake', WHERE WHAT IT READS IS OF BULK AT MOST 1048576: true; the input reads as it did. -/
def fnPutTakeUptoRow : OpenClaim := { program := "ytohpofejamdhfaa", sum := "26e45b9ef1f239f1256d77b6d6d25f21ecb3bba76cc43945a4579ee8732d6846", func := "loop.example/cothreads/laws.FnPutTake", spec := "fnPutTake", apart := false, narrowed := true }
def FnPutTakeUptoSaid : Prop := fnPutTakeUptoRow.holds Try.pinned (OpenSpec.upto fnPutTakeSpec)

/-- 'laws.FnRingTake', WHERE WHAT IT READS IS OF BULK AT MOST 1048576: true; the input reads as it did. -/
def fnRingTakeUptoRow : OpenClaim := { program := "ytohpofejamdhfaa", sum := "26e45b9ef1f239f1256d77b6d6d25f21ecb3bba76cc43945a4579ee8732d6846", func := "loop.example/cothreads/laws.FnRingTake", spec := "fnRingTake", apart := false, narrowed := true }
def FnRingTakeUptoSaid : Prop := fnRingTakeUptoRow.holds Try.pinned (OpenSpec.upto fnRingTakeSpec)

/-- 'laws.FnRingSlots', WHERE WHAT IT READS IS OF BULK AT MOST 1048576: true; the input reads as it did. -/
def fnRingSlotsUptoRow : OpenClaim := { program := "ytohpofejamdhfaa", sum := "26e45b9ef1f239f1256d77b6d6d25f21ecb3bba76cc43945a4579ee8732d6846", func := "loop.example/cothreads/laws.FnRingSlots", spec := "fnRingSlots", apart := false, narrowed := true }
def FnRingSlotsUptoSaid : Prop := fnRingSlotsUptoRow.holds Try.pinned (OpenSpec.upto fnRingSlotsSpec)

/-- 'laws.FnRingPutFails', WHERE WHAT IT READS IS OF BULK AT MOST 1048576: true; the input reads as it did. -/
def fnRingPutFailsUptoRow : OpenClaim := { program := "ytohpofejamdhfaa", sum := "26e45b9ef1f239f1256d77b6d6d25f21ecb3bba76cc43945a4579ee8732d6846", func := "loop.example/cothreads/laws.FnRingPutFails", spec := "fnRingPutFails", apart := false, narrowed := true }
def FnRingPutFailsUptoSaid : Prop := fnRingPutFailsUptoRow.holds Try.pinned (OpenSpec.upto fnRingPutFailsSpec)

/-- 'laws.FnRingPut', WHERE WHAT IT READS IS OF BULK AT MOST 1048576: true; the input reads as it did. -/
def fnRingPutUptoRow : OpenClaim := { program := "ytohpofejamdhfaa", sum := "26e45b9ef1f239f1256d77b6d6d25f21ecb3bba76cc43945a4579ee8732d6846", func := "loop.example/cothreads/laws.FnRingPut", spec := "fnRingPut", apart := false, narrowed := true }
def FnRingPutUptoSaid : Prop := fnRingPutUptoRow.holds Try.pinned (OpenSpec.upto fnRingPutSpec)

end Rows
end Go.Proofs.Ytohpofejamdhfaa
