/- What is handed to a law is a typed value: rings, programs. -/
import Derived.Test.YtpkgdoapdijmeaaTvRow2
set_option linter.unusedVariables false
set_option linter.unusedSimpArgs false
namespace Go.Tv
open Go Go.RowKit Go.Vs Go.WideShapes Go.ChangeShapes
def wfR (r : Rg) : Prop := wfI r.room ∧ wfI r.head ∧ wfI r.len ∧ (r.slots.length : Int) ≤ 9223372036854775807 ∧ ∀ n ∈ r.slots, wfI n
def wfP (p : Prg) : Prop := (p.rooms.length : Int) ≤ 9223372036854775807 ∧ (∀ n ∈ p.rooms, wfI n) ∧ (p.tasks.length : Int) ≤ 9223372036854775807 ∧ ∀ l ∈ p.tasks, (l.length : Int) ≤ 9223372036854775807 ∧ wfSs l
variable {H : Type} {enc : TypeId × Value → H} {P : Program} {w : World} {fid : Nat → Nat}
def isRg (P : Program) (t : TypeId) : Bool := flds P t 4 [(0, iI P), (1, iI P), (2, iI P), (3, iSl P (iI P))]
theorem Qwb {t : TypeId} (ht : iSl P (tyOk P .stm) t = true) (n : Nat) (cs : List Value) (x : DataW H × List MemPlace) (h : DataW.trod enc P w 0 (fun _ => true) true n t cs = some x) : ∃ d : Den .stms, RL fid w (Qd .stms d) cs ∧ ((d : List Stm).length : Int) ≤ 9223372036854775807 ∧ wfSs d := by
 obtain ⟨e, h1, h2, h3⟩ := Qns ht
 obtain ⟨v, l, e1, _, e2, e3, e4⟩ := Qwm (c := .stm) (Wf := wfS) (fid := fid) h1 (Qfp h2) (by decide) (Qpv .stm) (fun n hn cs x hx => Qkz n h2 hx) h
 refine ⟨l, Qwz (by rw [e1]; rfl) fun i hi => ?_, e3, Qjo.2 e4⟩
 simp only [Qd, Zc, Zn] at hi
 obtain rfl : i = 0 := by omega
 refine ⟨v, by rw [e1]; rfl, ?_⟩
 show RepP fid (Qhg w) (.sl .share 8 (Qcp l)) v
 rw [Qby]; exact e2
def isPrg (P : Program) (t : TypeId) : Bool := flds P t 2 [(0, iSl P (iI P)), (1, iSl P (iSl P (tyOk P .stm)))]
theorem open_prg {t : TypeId} {fuel : Nat} {cs : List Value} {x : DataW H × List MemPlace} (ht : isPrg P t = true) (h : DataW.trod enc P w 0 (fun _ => true) true fuel t cs = some x) : ∃ q : Prg, RL fid w (Qd .prg q) cs ∧ wfP q := by
 obtain ⟨hl, m, hm, hf⟩ := Qkp ht h
 obtain ⟨_, _, a0, b0⟩ := hf 0 _ _ rfl
 obtain ⟨_, _, a1, b1⟩ := hf 1 _ _ rfl
 obtain ⟨v0, l0, c0, r0, w0, g0⟩ := Qvn (c := .int) (fid := fid) (Wf := wfI) a0 (by decide) (fun e he => (Qnt he).2) (fun e he n hn cs x hx => Qwa he n cs x hx) b0
 obtain ⟨v1, l1, c1, r1, w1, g1⟩ := Qvn (c := .stms) (fid := fid) (Wf := fun l : List Stm => (l.length : Int) ≤ 9223372036854775807 ∧ wfSs l) a1 (by decide) (fun e he => (Qns he).choose_spec.2.2) (fun e he n hn cs x hx => Qwb he n cs x hx) b1
 refine ⟨⟨l0, l1⟩, Qwz (by simp [Qd, hl]) fun i hi => ?_, w0, g0, w1, g1⟩
 simp only [Qd] at hi ⊢
 match i, hi with
 | 0, _ => exact ⟨_, c0, r0⟩
 | 1, _ => exact ⟨_, c1, r1⟩
end Go.Tv