/- Functions of the library, by their contracts: slices.Clone of ints. -/
import Derived.Test.YtbgodlimjjgogaaDoorVs25
import Derived.Below
import Derived.Laws.AppendOwn
set_option linter.unusedVariables false
namespace Go.Vs
open Go Go.RowKit
def Qrl : List (List AV) → Option (List Int)
 | [] => some []
 | [.int .i64 n] :: r => bnd (Qrl r) fun l => some (n :: l)
 | _ => none
def cloneF : List AV → Option AV
 | [.sl _ 1 xs] => bnd (Qrl xs) fun l => if l.length ≤ 4294967296 then some (.sl .tip 1 xs) else none
 | _ => none
structure CloneOk (C : Ctx) (f : FuncId) (T : TypeId) : Prop where
 some_ : ∀ (b off n c : Nat) (zs : List Int) (w : World), n ≤ zs.length → n * 8 ≤ 140737488355328 → (∀ j, j < zs.length → w.cell? ⟨b, off + j, none⟩ = some (.int .i64 (zs.getD j 0))) →
  Calls C.P f #[.slice (some ⟨b, off, none⟩) n c] w fun e w' => ∃ v', e = .returned v' ∧ w'.ownsRow w.heap.size T 1 v' n ((zs.take n).map (Value.int .i64)) ∧ v' ≠ .slice none 0 0 ∧ Below w.heap.size w w'
 nil : ∀ (n c : Nat) (w : World), Calls C.P f #[.slice none n c] w fun e w' => e = .returned (.slice none 0 0) ∧ w' = w
 zero : ∀ (a : Addr) (c : Nat) (w : World), Calls C.P f #[.slice (some a) 0 c] w fun e w' => ∃ v', e = .returned v' ∧ w'.ownsRow w.heap.size T 1 v' 0 [] ∧ v' ≠ .slice none 0 0 ∧ Below w.heap.size w w'
section
variable {C : Ctx} {e : Env} {w w' : World}
theorem Qth {tv : List AV} {args : Array Value} (h : Entry C e tv [] args w) : RelX C.fid { e with n := args.size } e.σ0 (fun _ => none) (Ql [] []) ⟨args, []⟩ w := by
 have hl : Less (Ql tv []) (Ql [] []) :=
  { t := fun t => .inr (.inr (by simp [Ql])), b := fun b => .inl rfl, keepBs := fun t b hb => by simp [Ql, AV.ref] at hb, seenB := fun b hb => absurd rfl hb, seenT := fun t b hb => by simp [Ql, AV.ref] at hb }
 have := h.rel.less hl
 have e1 : (fun b => if ((Ql [] []).b b).isSome then e.pbm b else none) = fun _ => none := by funext b; simp [Ql]
 rw [e1] at this
 exact this
def cloneA : List AV → List Ent → Option (AV × List Ent)
 | [.sl _ 1 xs], es => bnd (Qrl xs) fun l => if l.length ≤ 4294967296 then some (.tr (some es.length) 1 l.length, es ++ [some (1, xs)]) else none
 | _, _ => none
end
end Go.Vs