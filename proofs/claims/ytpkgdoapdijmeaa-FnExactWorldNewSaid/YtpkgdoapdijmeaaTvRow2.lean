/- What is handed to a law is a typed value: trees. -/
import Derived.Test.YtpkgdoapdijmeaaTvRow
set_option linter.unusedVariables false
set_option linter.unusedSimpArgs false
namespace Go.Tv
open Go Go.RowKit Go.Vs Go.WideShapes Go.ChangeShapes
mutual
def wfX : Exp → Prop
 | ⟨o, n, as⟩ => wfI o ∧ wfI n ∧ (as.length : Int) ≤ 9223372036854775807 ∧ wfXs as
def wfXs : List Exp → Prop
 | [] => True
 | e :: r => wfX e ∧ wfXs r
end
theorem Qsq : ∀ {l : List Exp}, wfXs l ↔ ∀ e ∈ l, wfX e
 | [] => by simp [wfXs]
 | e :: r => by simp [wfXs, Qsq (l := r)]
mutual
def wfS : Stm → Prop
 | ⟨k, v, b, e, bd, el⟩ => wfI k ∧ wfI v ∧ wfI b ∧ wfX e ∧ (bd.length : Int) ≤ 9223372036854775807 ∧ wfSs bd ∧ (el.length : Int) ≤ 9223372036854775807 ∧ wfSs el
def wfSs : List Stm → Prop
 | [] => True
 | e :: r => wfS e ∧ wfSs r
end
theorem Qjo : ∀ {l : List Stm}, wfSs l ↔ ∀ e ∈ l, wfS e
 | [] => by simp [wfSs]
 | e :: r => by simp [wfSs, Qjo (l := r)]
def wfT (t : Tk) : Prop := (t.vars.length : Int) ≤ 9223372036854775807 ∧ (∀ n ∈ t.vars, wfI n) ∧ (t.rest.length : Int) ≤ 9223372036854775807 ∧ wfSs t.rest
theorem wfX_mk {e : Exp} (h : wfX e) : wfI e.op ∧ wfI e.n ∧ (e.args.length : Int) ≤ 9223372036854775807 ∧ wfXs e.args := by cases e; simpa [wfX] using h
theorem wfS_mk {e : Stm} (h : wfS e) : wfI e.kind ∧ wfI e.var ∧ wfI e.box ∧ wfX e.e ∧ (e.body.length : Int) ≤ 9223372036854775807 ∧ wfSs e.body ∧ (e.els.length : Int) ≤ 9223372036854775807 ∧ wfSs e.els := by cases e; simpa [wfS] using h
variable {H : Type} {enc : TypeId × Value → H} {P : Program} {w : World} {fid : Nat → Nat}
theorem Qfp {t : TypeId} {n : Nat} {l : List (Nat × (TypeId → Bool))} (ht : flds P t n l = true) : P.cellsOf t = n := by
 unfold flds at ht
 split at ht
 ·simp only [Zw, Ze] at ht; exact ht.1.1
 ·cases ht
theorem Qvn {c : TC} {Wf : Den c → Prop} {m o : Nat} {ft : TypeId} {f : TypeId → Bool} {cs : List Value} {y : DataW H × List MemPlace} (h : iSl P f ft = true) (hpos : 0 < c.sz) (hsz : ∀ e, f e = true → P.cellsOf e = c.sz)
  (hel : ∀ e, f e = true → ∀ n, n < m → ∀ cs x, DataW.trod enc P w 0 (fun _ => true) true n e cs = some x → ∃ d : Den c, RL fid w (Qd c d) cs ∧ Wf d)
  (hd : DataW.trod enc P w 0 (fun _ => true) true m ft ((cs.drop o).take (P.cellsOf ft)) = some y) :
  ∃ (v : Value) (l : List (Den c)), cs[o]? = some v ∧ RepP fid (Qhg w) (.sl .share c.sz (l.map (Qd c))) v ∧ (l.length : Int) ≤ 9223372036854775807 ∧ ∀ d ∈ l, Wf d := by
 obtain ⟨e, h1, h2, h3⟩ := Qns h
 rw [h3] at hd
 obtain ⟨v, l, e1, _, e2, e3, e4⟩ := Qwm h1 (hsz e h2) hpos (Qpv c) (hel e h2) hd
 refine ⟨v, l, ?_, e2, e3, e4⟩
 have := congrArg (fun l : List Value => l[0]?) e1
 simpa [List.getElem?_take, List.getElem?_drop] using this
theorem Qwz {cs : List Value} {l : List AV} (hl : cs.length = l.length) (h : ∀ i (hi : i < l.length), ∃ v, cs[i]? = some v ∧ RepP fid (Qhg w) l[i] v) : RL fid w l cs := by
 refine ⟨hl, Qi.2 fun i c hc => ?_⟩
 obtain ⟨hi, rfl⟩ := List.getElem?_eq_some_iff.1 hc
 exact h i hi
theorem RL_at {cs : List Value} {l : List AV} (h : RL fid w l cs) (i : Nat) (hi : i < l.length) : ∃ v, cs[i]? = some v ∧ RepP fid (Qhg w) l[i] v :=
 Qi.1 h.2 i _ (List.getElem?_eq_getElem hi)
theorem Qlb {n : Int} {k : IntKind} : RepP fid (Qhg w) (.int k n) (.int k n) := by simp [RepP]
theorem Qpl : ∀ (fuel : Nat) {t : TypeId} {cs : List Value} {x : DataW H × List MemPlace} (ht : isExp P t = true) (h : DataW.trod enc P w 0 (fun _ => true) true fuel t cs = some x), ∃ q : Exp, RL fid w (Qd .exp q) cs ∧ wfX q
 | fuel, t, cs, x, ht, h => by
  obtain ⟨hl, m, hm, hf⟩ := Qkp ht h
  obtain ⟨_, _, a0, b0⟩ := hf 0 _ _ rfl
  obtain ⟨_, _, a1, b1⟩ := hf 1 _ _ rfl
  obtain ⟨_, _, a2, b2⟩ := hf 2 _ _ rfl
  obtain ⟨n0, c0, w0⟩ := fldI a0 b0
  obtain ⟨n1, c1, w1⟩ := fldI a1 b1
  obtain ⟨v, l, c2, r2, w2, w3⟩ := Qvn (c := .exp) (fid := fid) (Wf := wfX) a2 (by decide) (fun e he => by rw [of_decide_eq_true he]; exact Qfp ht)
   (fun e he n hn cs x hx => Qpl n (by rw [of_decide_eq_true he]; exact ht) hx) b2
  refine ⟨⟨n0, n1, l⟩, Qwz (by simp [Qd, Qfz, hl]) fun i hi => ?_, ?_⟩
  ·simp only [Qd, Qfz, Qex] at hi ⊢
   match i, hi with
   | 0, _ => exact ⟨_, c0, Qlb⟩
   | 1, _ => exact ⟨_, c1, Qlb⟩
   | 2, _ => exact ⟨_, c2, r2⟩
  ·simp only [wfX]
   exact ⟨w0, w1, w2, Qsq.2 w3⟩
 termination_by fuel => fuel
theorem Qkz : ∀ (fuel : Nat) {t : TypeId} {cs : List Value} {x : DataW H × List MemPlace} (ht : tyOk P .stm t = true) (h : DataW.trod enc P w 0 (fun _ => true) true fuel t cs = some x), ∃ q : Stm, RL fid w (Qd .stm q) cs ∧ wfS q
 | fuel, t, cs, x, ht, h => by
  have hc := Qfp ht
  obtain ⟨hl, m, hm, hf⟩ := Qkp ht h
  obtain ⟨_, _, a0, b0⟩ := hf 0 _ _ rfl
  obtain ⟨_, _, a1, b1⟩ := hf 1 _ _ rfl
  obtain ⟨_, _, a2, b2⟩ := hf 2 _ _ rfl
  obtain ⟨_, _, a3, b3⟩ := hf 3 _ _ rfl
  obtain ⟨_, _, a6, b6⟩ := hf 4 _ _ rfl
  obtain ⟨_, _, a7, b7⟩ := hf 5 _ _ rfl
  obtain ⟨n0, c0, w0⟩ := fldI a0 b0
  obtain ⟨n1, c1, w1⟩ := fldI a1 b1
  obtain ⟨n2, c2, w2⟩ := fldI a2 b2
  obtain ⟨e, re, we⟩ := Qpl (fid := fid) m a3 b3
  rw [Qfp a3] at re
  obtain ⟨v6, l6, c6, r6, w6, g6⟩ := Qvn (c := .stm) (fid := fid) (Wf := wfS) a6 (by decide) (fun e he => by rw [of_decide_eq_true he]; exact hc)
   (fun e he n hn cs x hx => Qkz n (by rw [of_decide_eq_true he]; exact ht) hx) b6
  obtain ⟨v7, l7, c7, r7, w7, g7⟩ := Qvn (c := .stm) (fid := fid) (Wf := wfS) a7 (by decide) (fun e he => by rw [of_decide_eq_true he]; exact hc)
   (fun e he n hn cs x hx => Qkz n (by rw [of_decide_eq_true he]; exact ht) hx) b7
  refine ⟨⟨n0, n1, n2, e, l6, l7⟩, Qwz (by simp [Qd, Qiq, hl]) fun i hi => ?_, ?_⟩
  ·obtain ⟨o, en, as⟩ := e
   obtain ⟨u0, k0, j0⟩ := RL_at re 0 (by simp [Qd, Qfz])
   obtain ⟨u1, k1, j1⟩ := RL_at re 1 (by simp [Qd, Qfz])
   obtain ⟨u2, k2, j2⟩ := RL_at re 2 (by simp [Qd, Qfz])
   simp [List.getElem?_take, List.getElem?_drop] at k0 k1 k2
   simp only [Qd, Qiq, Qby] at hi ⊢
   match i, hi with
   | 0, _ => exact ⟨_, c0, Qlb⟩
   | 1, _ => exact ⟨_, c1, Qlb⟩
   | 2, _ => exact ⟨_, c2, Qlb⟩
   | 3, _ => exact ⟨_, k0, j0⟩
   | 4, _ => exact ⟨_, k1, j1⟩
   | 5, _ => exact ⟨_, k2, j2⟩
   | 6, _ => exact ⟨_, c6, r6⟩
   | 7, _ => exact ⟨_, c7, r7⟩
  ·simp only [wfS]
   exact ⟨w0, w1, w2, we, w6, Qjo.2 g6, w7, Qjo.2 g7⟩
 termination_by fuel => fuel
theorem Qwa {t : TypeId} (ht : iI P t = true) (n : Nat) (cs : List Value) (x : DataW H × List MemPlace) (h : DataW.trod enc P w 0 (fun _ => true) true n t cs = some x) : ∃ d : Den .int, RL fid w (Qd .int d) cs ∧ wfI d := by
 obtain ⟨h1, _⟩ := Qnt ht
 obtain ⟨m, rfl, h3⟩ := Qsf h1 h
 exact ⟨m, ⟨rfl, by simp [Qd, RepL, RepP]⟩, bounds_i64 h3⟩
def isTk (P : Program) (t : TypeId) : Bool := flds P t 2 [(0, iSl P (iI P)), (1, iSl P (tyOk P .stm))]
end Go.Tv