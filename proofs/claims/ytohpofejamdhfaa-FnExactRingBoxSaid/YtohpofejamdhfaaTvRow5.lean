/- What is handed to a law is a typed value: rings, programs. -/
import Derived.Test.YtohpofejamdhfaaTvRow2
set_option linter.unusedVariables false
set_option linter.unusedSimpArgs false
namespace Go.Tv
open Go Go.RowKit Go.Vs Go.WideShapes Go.ChangeShapes

def wfR (r : Rg) : Prop := wfI r.room ∧ wfI r.head ∧ wfI r.len ∧ (r.slots.length : Int) ≤ 9223372036854775807 ∧ ∀ n ∈ r.slots, wfI n
def wfP (p : Prg) : Prop := (p.rooms.length : Int) ≤ 9223372036854775807 ∧ (∀ n ∈ p.rooms, wfI n) ∧ (p.tasks.length : Int) ≤ 9223372036854775807 ∧ ∀ l ∈ p.tasks, (l.length : Int) ≤ 9223372036854775807 ∧ wfSs l
variable {H : Type} {enc : TypeId × Value → H} {P : Program} {w : World} {fid : Nat → Nat}
def isRg (P : Program) (t : TypeId) : Bool := flds P t 4 [(0, iI P), (1, iI P), (2, iI P), (3, iSl P (iI P))]
theorem open_rg {t : TypeId} {fuel : Nat} {cs : List Value} {x : DataW H × List MemPlace} (ht : isRg P t = true) (h : DataW.trod enc P w 0 (fun _ => true) true fuel t cs = some x) : ∃ q : Rg, RL fid w (rowAV .rg q) cs ∧ wfR q := by
  obtain ⟨hl, m, hm, hf⟩ := flds_open ht h
  obtain ⟨_, _, a0, b0⟩ := hf 0 _ _ rfl
  obtain ⟨_, _, a1, b1⟩ := hf 1 _ _ rfl
  obtain ⟨_, _, a2, b2⟩ := hf 2 _ _ rfl
  obtain ⟨_, _, a3, b3⟩ := hf 3 _ _ rfl
  obtain ⟨n0, c0, w0⟩ := fldI a0 b0
  obtain ⟨n1, c1, w1⟩ := fldI a1 b1
  obtain ⟨n2, c2, w2⟩ := fldI a2 b2
  obtain ⟨v3, l3, c3, r3, w3, g3⟩ := fldSl (c := .int) (fid := fid) (Wf := wfI) a3 (by decide) (fun e he => (isI_spec he).2) (fun e he n hn cs x hx => open_int_ he n cs x hx) b3
  refine ⟨⟨n0, n1, n2, l3⟩, RL_mk (by simp [rowAV, hl]) fun i hi => ?_, w0, w1, w2, w3, g3⟩
  simp only [rowAV] at hi ⊢
  match i, hi with
  | 0, _ => exact ⟨_, c0, rep_int⟩
  | 1, _ => exact ⟨_, c1, rep_int⟩
  | 2, _ => exact ⟨_, c2, rep_int⟩
  | 3, _ => exact ⟨_, c3, r3⟩
theorem open_stms {t : TypeId} (ht : iSl P (tyOk P .stm) t = true) (n : Nat) (cs : List Value) (x : DataW H × List MemPlace) (h : DataW.trod enc P w 0 (fun _ => true) true n t cs = some x) : ∃ d : Den .stms, RL fid w (rowAV .stms d) cs ∧ ((d : List Stm).length : Int) ≤ 9223372036854775807 ∧ wfSs d := by
  obtain ⟨e, h1, h2, h3⟩ := iSl_spec ht
  obtain ⟨v, l, e1, _, e2, e3, e4⟩ := sl_open (c := .stm) (Wf := wfS) (fid := fid) h1 (flds_cells h2) (by decide) (rowAV_one .stm) (fun n hn cs x hx => open_stm_ n h2 hx) h
  refine ⟨l, RL_mk (by rw [e1]; rfl) fun i hi => ?_, e3, wfSs_iff.2 e4⟩
  simp only [rowAV, List.length_cons, List.length_nil] at hi
  obtain rfl : i = 0 := by omega
  refine ⟨v, by rw [e1]; rfl, ?_⟩
  show RepP fid (memOf w) (.sl .share 8 (stmsAV l)) v
  rw [stmsAV_eq]; exact e2
def isPrg (P : Program) (t : TypeId) : Bool := flds P t 2 [(0, iSl P (iI P)), (1, iSl P (iSl P (tyOk P .stm)))]
theorem open_prg {t : TypeId} {fuel : Nat} {cs : List Value} {x : DataW H × List MemPlace} (ht : isPrg P t = true) (h : DataW.trod enc P w 0 (fun _ => true) true fuel t cs = some x) : ∃ q : Prg, RL fid w (rowAV .prg q) cs ∧ wfP q := by
  obtain ⟨hl, m, hm, hf⟩ := flds_open ht h
  obtain ⟨_, _, a0, b0⟩ := hf 0 _ _ rfl
  obtain ⟨_, _, a1, b1⟩ := hf 1 _ _ rfl
  obtain ⟨v0, l0, c0, r0, w0, g0⟩ := fldSl (c := .int) (fid := fid) (Wf := wfI) a0 (by decide) (fun e he => (isI_spec he).2) (fun e he n hn cs x hx => open_int_ he n cs x hx) b0
  obtain ⟨v1, l1, c1, r1, w1, g1⟩ := fldSl (c := .stms) (fid := fid) (Wf := fun l : List Stm => (l.length : Int) ≤ 9223372036854775807 ∧ wfSs l) a1 (by decide) (fun e he => (iSl_spec he).choose_spec.2.2) (fun e he n hn cs x hx => open_stms he n cs x hx) b1
  refine ⟨⟨l0, l1⟩, RL_mk (by simp [rowAV, hl]) fun i hi => ?_, w0, g0, w1, g1⟩
  simp only [rowAV] at hi ⊢
  match i, hi with
  | 0, _ => exact ⟨_, c0, r0⟩
  | 1, _ => exact ⟨_, c1, r1⟩
end Go.Tv
