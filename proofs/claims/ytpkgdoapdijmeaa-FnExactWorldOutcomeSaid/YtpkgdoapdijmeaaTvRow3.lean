/- What is handed to a law is a typed value: worlds. -/
import Derived.Test.YtpkgdoapdijmeaaTvRow2
set_option linter.unusedVariables false
set_option linter.unusedSimpArgs false
namespace Go.Tv
open Go Go.RowKit Go.Vs Go.WideShapes Go.ChangeShapes

def wfB (b : Bx) : Prop := wfI b.room ∧ (b.items.length : Int) ≤ 9223372036854775807 ∧ ∀ n ∈ b.items, wfI n
def wfW (v : Wld) : Prop := (v.tasks.length : Int) ≤ 9223372036854775807 ∧ (∀ t ∈ v.tasks, wfT t) ∧ (v.boxes.length : Int) ≤ 9223372036854775807 ∧ (∀ b ∈ v.boxes, wfB b) ∧ wfI v.turn ∧ wfI v.idle ∧ (v.out.length : Int) ≤ 9223372036854775807 ∧ ∀ n ∈ v.out, wfI n
variable {H : Type} {enc : TypeId × Value → H} {P : Program} {w : World} {fid : Nat → Nat}
def isBx (P : Program) (t : TypeId) : Bool := flds P t 2 [(0, iI P), (1, iSl P (iI P))]
theorem open_bx {t : TypeId} {fuel : Nat} {cs : List Value} {x : DataW H × List MemPlace} (ht : isBx P t = true) (h : DataW.trod enc P w 0 (fun _ => true) true fuel t cs = some x) : ∃ q : Bx, RL fid w (rowAV .bx q) cs ∧ wfB q := by
  obtain ⟨hl, m, hm, hf⟩ := flds_open ht h
  obtain ⟨_, _, a0, b0⟩ := hf 0 _ _ rfl
  obtain ⟨_, _, a1, b1⟩ := hf 1 _ _ rfl
  obtain ⟨n0, c0, w0⟩ := fldI a0 b0
  obtain ⟨v1, l1, c1, r1, w1, g1⟩ := fldSl (c := .int) (fid := fid) (Wf := wfI) a1 (by decide) (fun e he => (isI_spec he).2) (fun e he n hn cs x hx => open_int_ he n cs x hx) b1
  refine ⟨⟨n0, l1⟩, RL_mk (by simp [rowAV, bxAV, hl]) fun i hi => ?_, w0, w1, g1⟩
  simp only [rowAV, bxAV] at hi ⊢
  match i, hi with
  | 0, _ => exact ⟨_, c0, rep_int⟩
  | 1, _ => exact ⟨_, c1, r1⟩
def isWld (P : Program) (t : TypeId) : Bool := flds P t 5 [(0, iSl P (isTk P)), (1, iSl P (isBx P)), (2, iI P), (3, iI P), (4, iSl P (iI P))]
theorem open_wld {t : TypeId} {fuel : Nat} {cs : List Value} {x : DataW H × List MemPlace} (ht : isWld P t = true) (h : DataW.trod enc P w 0 (fun _ => true) true fuel t cs = some x) : ∃ q : Wld, RL fid w (rowAV .wld q) cs ∧ wfW q := by
  obtain ⟨hl, m, hm, hf⟩ := flds_open ht h
  obtain ⟨_, _, a0, b0⟩ := hf 0 _ _ rfl
  obtain ⟨_, _, a1, b1⟩ := hf 1 _ _ rfl
  obtain ⟨_, _, a2, b2⟩ := hf 2 _ _ rfl
  obtain ⟨_, _, a3, b3⟩ := hf 3 _ _ rfl
  obtain ⟨_, _, a4, b4⟩ := hf 4 _ _ rfl
  obtain ⟨v0, l0, c0, r0, w0, g0⟩ := fldSl (c := .tk) (fid := fid) (Wf := wfT) a0 (by decide) (fun e he => flds_cells he) (fun e he n hn cs x hx => open_tk he hx) b0
  obtain ⟨v1, l1, c1, r1, w1, g1⟩ := fldSl (c := .bx) (fid := fid) (Wf := wfB) a1 (by decide) (fun e he => flds_cells he) (fun e he n hn cs x hx => open_bx he hx) b1
  obtain ⟨n2, c2, w2⟩ := fldI a2 b2
  obtain ⟨n3, c3, w3⟩ := fldI a3 b3
  obtain ⟨v4, l4, c4, r4, w4, g4⟩ := fldSl (c := .int) (fid := fid) (Wf := wfI) a4 (by decide) (fun e he => (isI_spec he).2) (fun e he n hn cs x hx => open_int_ he n cs x hx) b4
  refine ⟨⟨l0, l1, n2, n3, l4⟩, RL_mk (by simp [rowAV, hl]) fun i hi => ?_, w0, g0, w1, g1, w2, w3, w4, g4⟩
  simp only [rowAV] at hi ⊢
  match i, hi with
  | 0, _ => exact ⟨_, c0, r0⟩
  | 1, _ => exact ⟨_, c1, r1⟩
  | 2, _ => exact ⟨_, c2, rep_int⟩
  | 3, _ => exact ⟨_, c3, rep_int⟩
  | 4, _ => exact ⟨_, c4, r4⟩
end Go.Tv
