/-
  NARROWER THAN 'FOR EVERY INPUT', by the rows' own cells (each row's printed sentence says how): FnExactWorldValid: loops · FnExactWorldNew: loops · FnExactWorldOutcome: loops.
  DERIVED. THE GIVEN ROWS OF THIS SEAT. 8 by the template 'for every input the law returns true; each argument reads behind the call as it read before'; 0 by the template 'total and deterministic' (their statements: YtpkgdoapdijmeaaTotals.lean).
  GIVEN WITH THE SEED: the statements are not yours to turn. If you find one false, say at which input.
  Laid BY PROGRAM, IN A SANDBOX (cutbox-rows.mjs): the forced cells as the released guide's own fill.sh prints them over the translation 22e9142f34e5d9a1… (all of the seat's roots in one cut). By AI agents, Wed Nov 11 2026. No macro, syntax, notation, axiom, sorry.
-/
import Derived.Test.YtpkgdoapdijmeaaChecked
import GoSem.Claim
import GoSem.ClaimJoined
import GoSem.ClaimMapViews
import Derived.JoinedTies
import Derived.KernelRfl
namespace Go.Proofs.Ytpkgdoapdijmeaa
/- THE CELL 'sum', in the pinned program and in every row, IS THE sha256 OF THE DUMP (.gsa) THAT YtpkgdoapdijmeaaProg.lean LOADS. Nothing in Lean hashes anything: it is a label: what it is worth is what the hold of that sum in a sandbox is worth. -/
noncomputable def Try.pinned : Pinned := { name := "ytpkgdoapdijmeaa", sum := "22e9142f34e5d9a19420179ef4a226b7169e4073385d4b1164c5ed6361fd82ca", checked := Try.checked }
namespace Rows
def none {H : Type} : Left H := { results := [], args := [] }

/-- 'laws.FnWorldNew': WHATEVER THE INPUT: true; the input reads as it did. -/
def fnWorldNewSpec : ChangeSpec := { name := "fnWorldNew", fn := fun _ => fun
  | [d] => { results := [.lit (.bool true)], args := [d] }
  | _ => none }
def fnWorldNewRow : OpenClaim := { program := "ytpkgdoapdijmeaa", sum := "22e9142f34e5d9a19420179ef4a226b7169e4073385d4b1164c5ed6361fd82ca", func := "loop.example/cothreads/laws.FnWorldNew", spec := "fnWorldNew", unfollowed := true, recurses := true, apart := false }
def FnWorldNewSaid : Prop := fnWorldNewRow.holds Try.pinned (OpenSpec.ofChange fnWorldNewSpec)

/-- ITS FALSE NEIGHBOUR: 'it returns false'. Refute it at one input. -/
def fnWorldNewWrong : ChangeSpec := { name := "fnWorldNew", fn := fun _ => fun
  | [d] => { results := [.lit (.bool false)], args := [d] }
  | _ => none }
def FnWorldNewWrongFalsely : Prop := fnWorldNewRow.holds Try.pinned (OpenSpec.ofChange fnWorldNewWrong)

/-- 'laws.FnExactWorldValid': WHATEVER THE INPUT: true; the input reads as it did. -/
def fnExactWorldValidSpec : ChangeSpec := { name := "fnExactWorldValid", fn := fun _ => fun
  | [d] => { results := [.lit (.bool true)], args := [d] }
  | _ => none }
def fnExactWorldValidRow : OpenClaim := { program := "ytpkgdoapdijmeaa", sum := "22e9142f34e5d9a19420179ef4a226b7169e4073385d4b1164c5ed6361fd82ca", func := "loop.example/cothreads/laws.FnExactWorldValid", spec := "fnExactWorldValid", unfollowed := true, recurses := true, loops := true, apart := false }
def FnExactWorldValidSaid : Prop := fnExactWorldValidRow.holds Try.pinned (OpenSpec.ofChange fnExactWorldValidSpec)

/-- ITS FALSE NEIGHBOUR: 'it returns false'. Refute it at one input. -/
def fnExactWorldValidWrong : ChangeSpec := { name := "fnExactWorldValid", fn := fun _ => fun
  | [d] => { results := [.lit (.bool false)], args := [d] }
  | _ => none }
def FnExactWorldValidWrongFalsely : Prop := fnExactWorldValidRow.holds Try.pinned (OpenSpec.ofChange fnExactWorldValidWrong)

/-- 'laws.FnTraceOfOf': WHATEVER THE INPUT: true; the input reads as it did. -/
def fnTraceOfOfSpec : ChangeSpec := { name := "fnTraceOfOf", fn := fun _ => fun
  | [d] => { results := [.lit (.bool true)], args := [d] }
  | _ => none }
def fnTraceOfOfRow : OpenClaim := { program := "ytpkgdoapdijmeaa", sum := "22e9142f34e5d9a19420179ef4a226b7169e4073385d4b1164c5ed6361fd82ca", func := "loop.example/cothreads/laws.FnTraceOfOf", spec := "fnTraceOfOf", unfollowed := true, recurses := true, apart := false }
def FnTraceOfOfSaid : Prop := fnTraceOfOfRow.holds Try.pinned (OpenSpec.ofChange fnTraceOfOfSpec)

/-- ITS FALSE NEIGHBOUR: 'it returns false'. Refute it at one input. -/
def fnTraceOfOfWrong : ChangeSpec := { name := "fnTraceOfOf", fn := fun _ => fun
  | [d] => { results := [.lit (.bool false)], args := [d] }
  | _ => none }
def FnTraceOfOfWrongFalsely : Prop := fnTraceOfOfRow.holds Try.pinned (OpenSpec.ofChange fnTraceOfOfWrong)

/-- 'laws.FnTraceParts': WHATEVER THE INPUT: true; the input reads as it did. -/
def fnTracePartsSpec : ChangeSpec := { name := "fnTraceParts", fn := fun _ => fun
  | [d1, d2] => { results := [.lit (.bool true)], args := [d1, d2] }
  | _ => none }
def fnTracePartsRow : OpenClaim := { program := "ytpkgdoapdijmeaa", sum := "22e9142f34e5d9a19420179ef4a226b7169e4073385d4b1164c5ed6361fd82ca", func := "loop.example/cothreads/laws.FnTraceParts", spec := "fnTraceParts", unfollowed := true, recurses := true, apart := false }
def FnTracePartsSaid : Prop := fnTracePartsRow.holds Try.pinned (OpenSpec.ofChange fnTracePartsSpec)

/-- ITS FALSE NEIGHBOUR: 'it returns false'. Refute it at one input. -/
def fnTracePartsWrong : ChangeSpec := { name := "fnTraceParts", fn := fun _ => fun
  | [d1, d2] => { results := [.lit (.bool false)], args := [d1, d2] }
  | _ => none }
def FnTracePartsWrongFalsely : Prop := fnTracePartsRow.holds Try.pinned (OpenSpec.ofChange fnTracePartsWrong)

/-- 'laws.FnWorld': WHATEVER THE INPUT: true; the input reads as it did. -/
def fnWorldSpec : ChangeSpec := { name := "fnWorld", fn := fun _ => fun
  | [d] => { results := [.lit (.bool true)], args := [d] }
  | _ => none }
def fnWorldRow : OpenClaim := { program := "ytpkgdoapdijmeaa", sum := "22e9142f34e5d9a19420179ef4a226b7169e4073385d4b1164c5ed6361fd82ca", func := "loop.example/cothreads/laws.FnWorld", spec := "fnWorld", unfollowed := true, recurses := true, apart := false }
def FnWorldSaid : Prop := fnWorldRow.holds Try.pinned (OpenSpec.ofChange fnWorldSpec)

/-- ITS FALSE NEIGHBOUR: 'it returns false'. Refute it at one input. -/
def fnWorldWrong : ChangeSpec := { name := "fnWorld", fn := fun _ => fun
  | [d] => { results := [.lit (.bool false)], args := [d] }
  | _ => none }
def FnWorldWrongFalsely : Prop := fnWorldRow.holds Try.pinned (OpenSpec.ofChange fnWorldWrong)

/-- 'laws.FnExactWorldNew': WHATEVER THE INPUT: true; the input reads as it did. -/
def fnExactWorldNewSpec : ChangeSpec := { name := "fnExactWorldNew", fn := fun _ => fun
  | [d] => { results := [.lit (.bool true)], args := [d] }
  | _ => none }
def fnExactWorldNewRow : OpenClaim := { program := "ytpkgdoapdijmeaa", sum := "22e9142f34e5d9a19420179ef4a226b7169e4073385d4b1164c5ed6361fd82ca", func := "loop.example/cothreads/laws.FnExactWorldNew", spec := "fnExactWorldNew", unfollowed := true, recurses := true, loops := true, apart := false }
def FnExactWorldNewSaid : Prop := fnExactWorldNewRow.holds Try.pinned (OpenSpec.ofChange fnExactWorldNewSpec)

/-- ITS FALSE NEIGHBOUR: 'it returns false'. Refute it at one input. -/
def fnExactWorldNewWrong : ChangeSpec := { name := "fnExactWorldNew", fn := fun _ => fun
  | [d] => { results := [.lit (.bool false)], args := [d] }
  | _ => none }
def FnExactWorldNewWrongFalsely : Prop := fnExactWorldNewRow.holds Try.pinned (OpenSpec.ofChange fnExactWorldNewWrong)

/-- 'laws.FnOutcome': WHATEVER THE INPUT: true; the input reads as it did. -/
def fnOutcomeSpec : ChangeSpec := { name := "fnOutcome", fn := fun _ => fun
  | [d] => { results := [.lit (.bool true)], args := [d] }
  | _ => none }
def fnOutcomeRow : OpenClaim := { program := "ytpkgdoapdijmeaa", sum := "22e9142f34e5d9a19420179ef4a226b7169e4073385d4b1164c5ed6361fd82ca", func := "loop.example/cothreads/laws.FnOutcome", spec := "fnOutcome", unfollowed := true, recurses := true, apart := false }
def FnOutcomeSaid : Prop := fnOutcomeRow.holds Try.pinned (OpenSpec.ofChange fnOutcomeSpec)

/-- ITS FALSE NEIGHBOUR: 'it returns false'. Refute it at one input. -/
def fnOutcomeWrong : ChangeSpec := { name := "fnOutcome", fn := fun _ => fun
  | [d] => { results := [.lit (.bool false)], args := [d] }
  | _ => none }
def FnOutcomeWrongFalsely : Prop := fnOutcomeRow.holds Try.pinned (OpenSpec.ofChange fnOutcomeWrong)

/-- 'laws.FnExactWorldOutcome': WHATEVER THE INPUT: true; the input reads as it did. -/
def fnExactWorldOutcomeSpec : ChangeSpec := { name := "fnExactWorldOutcome", fn := fun _ => fun
  | [d] => { results := [.lit (.bool true)], args := [d] }
  | _ => none }
def fnExactWorldOutcomeRow : OpenClaim := { program := "ytpkgdoapdijmeaa", sum := "22e9142f34e5d9a19420179ef4a226b7169e4073385d4b1164c5ed6361fd82ca", func := "loop.example/cothreads/laws.FnExactWorldOutcome", spec := "fnExactWorldOutcome", unfollowed := true, recurses := true, loops := true, apart := false }
def FnExactWorldOutcomeSaid : Prop := fnExactWorldOutcomeRow.holds Try.pinned (OpenSpec.ofChange fnExactWorldOutcomeSpec)

/-- ITS FALSE NEIGHBOUR: 'it returns false'. Refute it at one input. -/
def fnExactWorldOutcomeWrong : ChangeSpec := { name := "fnExactWorldOutcome", fn := fun _ => fun
  | [d] => { results := [.lit (.bool false)], args := [d] }
  | _ => none }
def FnExactWorldOutcomeWrongFalsely : Prop := fnExactWorldOutcomeRow.holds Try.pinned (OpenSpec.ofChange fnExactWorldOutcomeWrong)

/- THE SECOND FORM. 'bulk': how many values and letters a reading holds, each counted each time it is reached (what is shared counts as often as it is met; a slice's spare places count too). A statement '..UptoSaid' is the law's where the arguments, and the package variables that the reading takes, are together of bulk at most 1048576: NARROWER than '..Said'. Prove '..Said' where nothing that the law and all that it calls make is longer than what came in: it says more and counts as full. Else prove '..UptoSaid'. A law counts once. -/
mutual
def uptoBulk {H : Type} : DataW H → Nat
  | .lit (.string bytes) => bytes.length + 1
  | .lit _ => 1
  | .nil => 1
  | .ptr d => uptoBulk d + 1
  | .slice elems spare => uptoBulkAll elems + uptoBulkAll spare + 1
  | .agg parts => uptoBulkAll parts + 1
  | .iface _ d => uptoBulk d + 1
  | .map entries => uptoBulkEntries entries + 1
  | .held _ => 1
def uptoBulkAll {H : Type} : List (DataW H) → Nat
  | [] => 0
  | d :: r => uptoBulk d + uptoBulkAll r
def uptoBulkEntries {H : Type} : List (Lit × DataW H) → Nat
  | [] => 0
  | x :: r => uptoBulkEntry x + uptoBulkEntries r
def uptoBulkEntry {H : Type} : Lit × DataW H → Nat
  | (.string bytes, d) => bytes.length + uptoBulk d + 1
  | (_, d) => uptoBulk d + 1
 end
def uptoSmall : (H : Type) → List (DataW H) → Bool := fun _ ds => decide (uptoBulkAll ds ≤ 1048576)
def OpenSpec.upto (s : _root_.Go.ChangeSpec) : _root_.Go.OpenSpec := { _root_.Go.OpenSpec.ofChange s with cond := some uptoSmall }

/-- 'laws.FnWorldNew', WHERE WHAT IT READS IS OF BULK AT MOST 1048576: true; the input reads as it did. -/
def fnWorldNewUptoRow : OpenClaim := { program := "ytpkgdoapdijmeaa", sum := "22e9142f34e5d9a19420179ef4a226b7169e4073385d4b1164c5ed6361fd82ca", func := "loop.example/cothreads/laws.FnWorldNew", spec := "fnWorldNew", unfollowed := true, recurses := true, apart := false, narrowed := true }
def FnWorldNewUptoSaid : Prop := fnWorldNewUptoRow.holds Try.pinned (OpenSpec.upto fnWorldNewSpec)

/-- 'laws.FnExactWorldValid', WHERE WHAT IT READS IS OF BULK AT MOST 1048576: true; the input reads as it did. -/
def fnExactWorldValidUptoRow : OpenClaim := { program := "ytpkgdoapdijmeaa", sum := "22e9142f34e5d9a19420179ef4a226b7169e4073385d4b1164c5ed6361fd82ca", func := "loop.example/cothreads/laws.FnExactWorldValid", spec := "fnExactWorldValid", unfollowed := true, recurses := true, loops := true, apart := false, narrowed := true }
def FnExactWorldValidUptoSaid : Prop := fnExactWorldValidUptoRow.holds Try.pinned (OpenSpec.upto fnExactWorldValidSpec)

/-- 'laws.FnTraceOfOf', WHERE WHAT IT READS IS OF BULK AT MOST 1048576: true; the input reads as it did. -/
def fnTraceOfOfUptoRow : OpenClaim := { program := "ytpkgdoapdijmeaa", sum := "22e9142f34e5d9a19420179ef4a226b7169e4073385d4b1164c5ed6361fd82ca", func := "loop.example/cothreads/laws.FnTraceOfOf", spec := "fnTraceOfOf", unfollowed := true, recurses := true, apart := false, narrowed := true }
def FnTraceOfOfUptoSaid : Prop := fnTraceOfOfUptoRow.holds Try.pinned (OpenSpec.upto fnTraceOfOfSpec)

/-- 'laws.FnTraceParts', WHERE WHAT IT READS IS OF BULK AT MOST 1048576: true; the input reads as it did. -/
def fnTracePartsUptoRow : OpenClaim := { program := "ytpkgdoapdijmeaa", sum := "22e9142f34e5d9a19420179ef4a226b7169e4073385d4b1164c5ed6361fd82ca", func := "loop.example/cothreads/laws.FnTraceParts", spec := "fnTraceParts", unfollowed := true, recurses := true, apart := false, narrowed := true }
def FnTracePartsUptoSaid : Prop := fnTracePartsUptoRow.holds Try.pinned (OpenSpec.upto fnTracePartsSpec)

/-- 'laws.FnWorld', WHERE WHAT IT READS IS OF BULK AT MOST 1048576: true; the input reads as it did. -/
def fnWorldUptoRow : OpenClaim := { program := "ytpkgdoapdijmeaa", sum := "22e9142f34e5d9a19420179ef4a226b7169e4073385d4b1164c5ed6361fd82ca", func := "loop.example/cothreads/laws.FnWorld", spec := "fnWorld", unfollowed := true, recurses := true, apart := false, narrowed := true }
def FnWorldUptoSaid : Prop := fnWorldUptoRow.holds Try.pinned (OpenSpec.upto fnWorldSpec)

/-- 'laws.FnExactWorldNew', WHERE WHAT IT READS IS OF BULK AT MOST 1048576: true; the input reads as it did. -/
def fnExactWorldNewUptoRow : OpenClaim := { program := "ytpkgdoapdijmeaa", sum := "22e9142f34e5d9a19420179ef4a226b7169e4073385d4b1164c5ed6361fd82ca", func := "loop.example/cothreads/laws.FnExactWorldNew", spec := "fnExactWorldNew", unfollowed := true, recurses := true, loops := true, apart := false, narrowed := true }
def FnExactWorldNewUptoSaid : Prop := fnExactWorldNewUptoRow.holds Try.pinned (OpenSpec.upto fnExactWorldNewSpec)

/-- 'laws.FnOutcome', WHERE WHAT IT READS IS OF BULK AT MOST 1048576: true; the input reads as it did. -/
def fnOutcomeUptoRow : OpenClaim := { program := "ytpkgdoapdijmeaa", sum := "22e9142f34e5d9a19420179ef4a226b7169e4073385d4b1164c5ed6361fd82ca", func := "loop.example/cothreads/laws.FnOutcome", spec := "fnOutcome", unfollowed := true, recurses := true, apart := false, narrowed := true }
def FnOutcomeUptoSaid : Prop := fnOutcomeUptoRow.holds Try.pinned (OpenSpec.upto fnOutcomeSpec)

/-- 'laws.FnExactWorldOutcome', WHERE WHAT IT READS IS OF BULK AT MOST 1048576: true; the input reads as it did. -/
def fnExactWorldOutcomeUptoRow : OpenClaim := { program := "ytpkgdoapdijmeaa", sum := "22e9142f34e5d9a19420179ef4a226b7169e4073385d4b1164c5ed6361fd82ca", func := "loop.example/cothreads/laws.FnExactWorldOutcome", spec := "fnExactWorldOutcome", unfollowed := true, recurses := true, loops := true, apart := false, narrowed := true }
def FnExactWorldOutcomeUptoSaid : Prop := fnExactWorldOutcomeUptoRow.holds Try.pinned (OpenSpec.upto fnExactWorldOutcomeSpec)

end Rows
end Go.Proofs.Ytpkgdoapdijmeaa
