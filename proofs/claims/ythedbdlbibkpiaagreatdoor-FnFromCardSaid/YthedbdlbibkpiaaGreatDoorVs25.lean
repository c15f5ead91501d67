/- A seat's table: that its program has it. -/
import Derived.Test.YthedbdlbibkpiaaGreatDoorVs24
import Derived.KernelRfl
set_option linter.unusedVariables false
namespace Go.Vs
open Go Go.RowKit

def look {α : Type} (g : Nat) : List (Nat × α) → Option α
  | [] => none
  | (h, x) :: r => if g = h then some x else look g r
theorem look_mem {α : Type} {g : Nat} {x : α} : ∀ {l : List (Nat × α)}, look g l = some x → (g, x) ∈ l
  | [], h => by cases h
  | (h, y) :: r, hh => by
    simp only [look] at hh
    split at hh
    · rename_i e; injection hh with hh; subst e hh; simp
    · exact List.mem_cons_of_mem _ (look_mem hh)

/-- One function: what is checked of it. -/
def okFn (C : Ctx) (F : Nat → Option Proc) (d : Nat) (p : Proc) (fn : Func) : Bool :=
  (match p.kind with | .fn => true | _ => false) && !(fn.name == "runtime.NumGoroutine") && (match fn.body with | some bd => okCode C fn.ntmps (okLab C fn.ntmps F d) p.code bd | none => false) &&
  decide (p.ins = List.range p.ins.length) && decide (p.bins = List.range p.bins.length) && decide (p.bins.length ≤ 100) && decide (p.ins.length ≤ fn.ntmps) && okRes C.P p.res fn.results.toList
theorem okFn_spec {C : Ctx} {F : Nat → Option Proc} {d g : Nat} {p : Proc} {fn : Func} (hf : C.P.funcs[C.fid g]? = some fn) (h : okFn C F d p fn = true) : (∃ fn body d, FnOk C F g p fn body d) ∨ PrimOk C g p := by
  simp only [okFn, Bool.and_eq_true, decide_eq_true_eq, Bool.not_eq_true'] at h
  obtain ⟨⟨⟨⟨⟨⟨⟨h1, h2⟩, h3⟩, h4⟩, h5⟩, h6⟩, h7⟩, h8⟩ := h
  split at h3
  rotate_left
  · cases h3
  rename_i bd hb
  refine .inl ⟨fn, bd, d, ?_, hf, h2, hb, h3, h4, h5, h6, h7, h8⟩
  split at h1
  · assumption
  · cases h1

def AllFns (C : Ctx) (F : Nat → Option Proc) : List (Nat × Proc) → Prop
  | [] => True
  | (g, p) :: r => (g % 100 = 0 → (∃ fn body d, FnOk C F g p fn body d) ∨ PrimOk C g p) ∧ AllFns C F r
theorem AllFns.get {C : Ctx} {F : Nat → Option Proc} : ∀ {l : List (Nat × Proc)}, AllFns C F l → ∀ g p, (g, p) ∈ l → g % 100 = 0 → (∃ fn body d, FnOk C F g p fn body d) ∨ PrimOk C g p
  | [], _, g, p, h, _ => by simp at h
  | (g0, p0) :: r, h, g, p, hm, hg => by
    rcases List.mem_cons.1 hm with e | hm
    · injection e with e1 e2
      subst e1 e2
      exact h.1 hg
    · exact AllFns.get h.2 g p hm hg
theorem laid_of {C : Ctx} {l : List (Nat × Proc)} (hm : C.P.follows .mixedOrders = true) (h : AllFns C (look · l) l) : Laid C (look · l) :=
  ⟨hm, fun g p hp hg => h.get g p (look_mem hp) hg⟩
end Go.Vs
