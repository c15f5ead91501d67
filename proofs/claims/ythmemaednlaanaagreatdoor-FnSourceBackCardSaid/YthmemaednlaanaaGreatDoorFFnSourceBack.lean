/- The plain law: what the functions answer. -/
import Derived.Test.YthmemaednlaanaaGreatDoorGFnSourceBack
import Derived.Test.YthmemaednlaanaaGreatDoorDFnSourceBackE0
import Derived.Test.YthmemaednlaanaaGreatDoorDFnSourceBackE1
import Derived.Test.YthmemaednlaanaaGreatDoorDFnSourceBackE2
import Derived.Test.YthmemaednlaanaaGreatDoorLkA
import Derived.Lib.ItoaLen
import Derived.Test.YthmemaednlaanaaGreatDoorLkU
set_option linter.unusedVariables false
set_option linter.unusedSimpArgs false
namespace Go.TFnSourceBack
open Go Go.RowKit Go.Vs Go.Tv
theorem Rxi (l : List Stm) (i : Nat) : mSs (l.take i) ≤ mSs l := by
 have := Req (l.take i) (l.drop i)
 rw [List.take_append_drop] at this; omega
theorem Rtv {A : List Ent} {b : List Int} {p : Int} : ∀ (d : Nat) (h : Hd) (l : List Stm) (B : List Ent), l.length ≤ d → mSs l ≤ 1000000000 → Got .stm A l h B →
  Ok (Rcz h b p B) fun r => r.2.1 = b ∧ r.2.2.1 = p ∧ ∃ l', Got .stm A l' r.1 r.2.2.2 ∧ mSs l' ≤ mSs l ∧ cSs l' ≤ 16
 | d, h, l, B, hd, hl, hg => by
  apply Ok.le (Rjb _ _ _ _)
  have hc := Rry l
  rw [arView_stm, hg.get, Qb, Rin (by omega), Qb]
  refine Ok.bif (fun hb => ?_) (fun hb => ?_)
  ·simp only [Ze] at hb
   have hn := hg.cnt
   have hm := Rcu l
   have hpos : 0 < l.length := by
    cases l with
    | nil => simp [cSs] at hb
    | cons s r => simp
   rw [wrap_id (n := ((h.n : Nat) : Int) - 1) (by omega) (by omega)]
   refine Ok.bnd (hg.cut (i := ((h.n : Nat) : Int) - 1) (by omega) (by omega)) fun q hq => ?_
   have ht := Rxi l (((h.n : Nat) : Int) - 1).toNat
   match d, hd with
   | 0, hd => omega
   | d + 1, hd =>
    exact (Rtv d _ _ q.2 (by simp; omega) (by omega) hq.1).mono fun r hr => ⟨hr.1, hr.2.1, (let ⟨l', q1, q2, q3⟩ := hr.2.2; ⟨l', q1, by omega, q3⟩)⟩
  ·simp only [decide_eq_false_iff_not] at hb
   exact Ok.of ⟨rfl, rfl, l, hg, by omega, by omega⟩
theorem Rrk {b : List Int} {p m : Int} (a : Int) (ha : a ≤ 1000) (A : List Ent) (h : Rd b p m) (hm : m ≤ 999900000) : Ok (Rhc a b p A) fun r => Rd r.2.1 r.2.2.1 (m + 23000) ∧ ∃ l, Got .stm A l r.1 r.2.2.2 ∧ mSs l ≤ 10000 ∧ cSs l ≤ 16 := by
 apply Ok.le (Rlq a b p A)
 have hcs : cs 3 = 3820 := by decide
 have hms : ms 3 = 1590 := by decide
 refine Ok.bnd (Raf h (by omega) (by decide)) fun r1 h1 => ?_
 have hk := h1.2.2.1 (by omega)
 rw [wrap_id (n := 1 + r1.1) (by omega) (by omega)]
 have hb : Ok (Rgy a 3 (1 + r1.1) true r1.2.1 r1.2.2 A) fun r => Rd r.2.1 r.2.2.1 (m + 1 + 6 * 3820) ∧ ∃ l', Got .stm A l' r.1 r.2.2.2 ∧ mSs l' ≤ 10000 := by
  apply Ok.le (Rln _ _ _ _ _ _ _)
  have hg : Got .stm A [] ⟨some A.length, 0⟩ (Qao A .stm ([] : List Stm)) := Got.push (c := .stm) (l := ([] : List Stm)) (Ext.refl _ A)
  refine Ok.bnd (Rrx (Rrt 3 (by omega)) (a := a) (n := 1 + r1.1) (lo := true) ha 6 0 _ [] _ (by omega) (by omega) (by omega) (by simp [mSs, hms]) (by omega) hg h1.1 (by rw [hcs]; omega)) fun r hr => ?_
  obtain ⟨h1, l', h2, h3⟩ := hr
  rw [hcs] at h1
  rw [hms] at h3
  exact Ok.of ⟨h1.mono (by omega), l', h2, by simp only [mSs] at h3; omega⟩
 refine Ok.bnd hb fun r2 h2 => ?_
 obtain ⟨h2r, l, h2g, h2m⟩ := h2
 refine Ok.bnd (Rtv (b := r2.2.1) (p := r2.2.2.1) l.length r2.1 l r2.2.2.2 (Nat.le_refl _) (by omega) h2g) fun r3 h3 => ?_
 obtain ⟨e1, e2, l', h3g, h3m, h3c⟩ := h3
 refine Ok.of ⟨?_, l', h3g, by omega, h3c⟩
 dsimp only
 rw [e1, e2]; exact h2r.mono (by omega)
theorem Rxs (s : Stm) : (⟨s.kind, s.var, s.box, s.e, s.body, s.els⟩ : Stm) = s := by cases s; rfl
theorem Rqu {l : List Exp} {o n : Int} (hl : (l.length : Int) ≤ 4294967296) (hp : ∀ e ∈ l, Rbv e e = some true) : ∀ (d i : Nat), i + d = l.length → Rcp i o n l o n l = some (.inl ())
 | 0, i, hd => by
  apply Rgl
  have hi : ¬ ((i : Int) < l.length) := by omega
  simp [hi]
 | d + 1, i, hd => by
  apply Rgl
  have hi : i < l.length := by omega
  have hi' : (i : Int) < l.length := by omega
  simp only [hi', Zy, Zt, Raq hi, Qb, Rag, hp _ (List.getElem_mem hi), Zv, Zf, Rcg (show (i : Int) < 9223372036854775807 by omega)]
  exact Rqu hl hp d (i + 1) (by omega)
theorem Rkz : ∀ e : Exp, emX e ≤ 4294967296 → Rbv e e = some true := by
 apply Exp.ind
 intro e ih hm
 apply Rnp
 rw [Rkm] at hm
 have hl := Rtm e.args
 have h : Rcp 0 e.op e.n e.args e.op e.n e.args = some (.inl ()) := Rqu (l := e.args) (by omega) (fun a ha => ih a ha (by have := Rum ha; omega)) e.args.length 0 (by omega)
 simp [h, selm]
theorem Rpb {l : List Stm} (hl : (l.length : Int) ≤ 4294967296) (hp : ∀ s ∈ l, Raa s.body s.body = some true ∧ Raa s.els s.els = some true ∧ Rbv s.e s.e = some true) : ∀ (d i : Nat), i + d = l.length → Rce l l i = some (.inl ())
 | 0, i, hd => by
  apply Rft
  have hi : ¬ ((i : Int) < l.length) := by omega
  simp [hi]
 | d + 1, i, hd => by
  apply Rft
  have hi : i < l.length := by omega
  have hi' : (i : Int) < l.length := by omega
  obtain ⟨h1, h2, h3⟩ := hp _ (List.getElem_mem hi)
  simp only [hi', Zy, Zt, Raq hi, Qb, Rag, h1, h2, h3, Zv, Zf, Rcg (show (i : Int) < 9223372036854775807 by omega)]
  exact Rpb hl hp d (i + 1) (by omega)
theorem Rep {l : List Stm} (hl : (l.length : Int) ≤ 4294967296) (hp : ∀ s ∈ l, Raa s.body s.body = some true ∧ Raa s.els s.els = some true ∧ Rbv s.e s.e = some true) : Raa l l = some true := by
 apply Rmj
 have h : Rce l l 0 = some (.inl ()) := Rpb hl hp l.length 0 (by omega)
 simp [h, selm]
theorem Rji : ∀ s : Stm, mS s ≤ 4294967296 → Raa s.body s.body = some true ∧ Raa s.els s.els = some true ∧ Rbv s.e s.e = some true := by
 apply Stm.ind
 intro s ih1 ih2 hm
 rw [Rrm] at hm
 have l1 := Rcu s.body
 have l2 := Rcu s.els
 exact ⟨Rep (by omega) (fun a ha => ih1 a ha (by have := Riu ha; omega)), Rep (by omega) (fun a ha => ih2 a ha (by have := Riu ha; omega)), Rkz _ (by omega)⟩
theorem Rkb {l : List Stm} (hm : mSs l ≤ 4294967296) : Raa l l = some true :=
 Rep (by have := Rcu l; omega) fun s hs => Rji s (by have := Riu hs; omega)
def Rdj (l : List Int) : Bool := l.all fun n => decide (1 ≤ n ∧ n ≤ 4)
theorem Rnd {l : List Int} {i : Nat} (hi : i < l.length) : Rdj (l.drop i) = (decide (1 ≤ l[i] ∧ l[i] ≤ 4) && Rdj (l.drop (i + 1))) := by
 unfold Rdj; rw [List.drop_eq_getElem_cons hi, List.all_cons]
theorem Rnb {l : List Int} (hl : (l.length : Int) ≤ 4294967296) : ∀ (d i : Nat), i + d = l.length → Rbu l l l.length i = some (if Rdj (l.drop i) then .inl l else .inr (l, false))
 | 0, i, hd => by
  apply Rfb
  have hi : ¬ ((i : Int) < l.length) := by omega
  rw [List.drop_eq_nil_of_le (by omega)]
  simp [hi, Rdj]
 | d + 1, i, hd => by
  apply Rfb
  have hi : i < l.length := by omega
  have hi' : (i : Int) < l.length := by omega
  rw [Rnd hi]
  simp only [hi', Zy, Zt, Raq hi, Qb, Rcg (show (i : Int) < 9223372036854775807 by omega), Rnb hl d (i + 1) (by omega)]
  by_cases h1 : l[i] < 1
  ·have : ¬ (1 ≤ l[i] ∧ l[i] ≤ 4) := by omega
   simp [h1, this]
  by_cases h2 : 4 < l[i]
  ·have : ¬ (1 ≤ l[i] ∧ l[i] ≤ 4) := by omega
   simp [h1, h2, this]
  ·have : 1 ≤ l[i] ∧ l[i] ≤ 4 := by omega
   simp [h1, h2, this]
theorem Rkt {l : List Int} (hl : (l.length : Int) ≤ 4294967296) : Rgh l = some (Rdj l && decide ((l.length : Int) ≤ 3)) := by
 apply Rku
 have h : Rbu l l (l.length : Int) 0 = _ := Rnb hl l.length 0 (by omega)
 rw [h, Qb, List.drop_zero]
 cases Rdj l <;> simp [selm]
theorem Rnj {l : List Int} (hl : (l.length : Int) ≤ 4294967296) : ∀ (d i : Nat), i + d = l.length → Rcq l i = some (if Rdj (l.drop i) then .inl l else .inr (l, false))
 | 0, i, hd => by
  apply Rgt
  have hi : ¬ ((i : Int) < l.length) := by omega
  rw [List.drop_eq_nil_of_le (by omega)]
  simp [hi, Rdj]
 | d + 1, i, hd => by
  apply Rgt
  have hi : i < l.length := by omega
  have hi' : (i : Int) < l.length := by omega
  rw [Rnd hi]
  simp only [hi', Zy, Zt, Raq hi, Qb, Rdy, Rcg (show (i : Int) < 9223372036854775807 by omega), Rnj hl d (i + 1) (by omega)]
  by_cases h1 : 1 ≤ l[i] ∧ l[i] ≤ 4 <;> simp [h1]
theorem Rnx {l : List Int} (hl : (l.length : Int) ≤ 4294967296) : Rih l = some (Rdj l && decide ((l.length : Int) ≤ 3)) := by
 apply Rny
 have h : Rcq l 0 = _ := Rnj hl l.length 0 (by omega)
 rw [h, Qb, List.drop_zero]
 cases Rdj l <;> simp [selm]
def lsOk (n : Int) (l : List (List Stm)) : Bool := l.all fun x => stOk x && bSs n x
theorem Rsf {n : Int} {l : List (List Stm)} {i : Nat} (hi : i < l.length) : lsOk n (l.drop i) = ((stOk l[i] && bSs n l[i]) && lsOk n (l.drop (i + 1))) := by
 unfold lsOk; rw [List.drop_eq_getElem_cons hi, List.all_cons]
theorem Rna {r : List Int} (hr : (r.length : Int) ≤ 3) {l : List (List Stm)} (hl : (l.length : Int) ≤ 4294967296) (hm : ∀ x ∈ l, mSs x ≤ 4294967296) : ∀ (d i : Nat), i + d = l.length → Raw l l.length i r l = some (if lsOk r.length (l.drop i) then .inl () else .inr false)
 | 0, i, hd => by
  apply Reb
  have hi : ¬ ((i : Int) < l.length) := by omega
  rw [List.drop_eq_nil_of_le (by omega)]
  simp [hi, lsOk]
 | d + 1, i, hd => by
  apply Reb
  have hi : i < l.length := by omega
  have hi' : (i : Int) < l.length := by omega
  rw [Rsf hi]
  simp only [hi', Zy, Zt, Raq hi, Qb, Rme (show (0 : Int) ≤ (r.length : Int) ∧ (r.length : Int) ≤ 3 by omega) _ (hm _ (List.getElem_mem hi)), Rcg (show (i : Int) < 9223372036854775807 by omega), Rna hr hl hm d (i + 1) (by omega)]
  cases stOk l[i] && bSs (r.length : Int) l[i] <;> simp
theorem Rni {r : List Int} {l : List (List Stm)} (hl : (l.length : Int) ≤ 4294967296) (hm : ∀ x ∈ l, mSs x ≤ 4294967296) : ∀ (d i : Nat), i + d = l.length → Ray i r l = some (if lsOk r.length (l.drop i) then .inl () else .inr false)
 | 0, i, hd => by
  apply Ree
  have hi : ¬ ((i : Int) < l.length) := by omega
  rw [List.drop_eq_nil_of_le (by omega)]
  simp [hi, lsOk]
 | d + 1, i, hd => by
  apply Ree
  have hi : i < l.length := by omega
  have hi' : (i : Int) < l.length := by omega
  rw [Rsf hi]
  simp only [hi', Zy, Zt, Raq hi, Qb, Rlf _ (hm _ (List.getElem_mem hi)), Rnv (hm _ (List.getElem_mem hi)), Rcg (show (i : Int) < 9223372036854775807 by omega), Rni hl hm d (i + 1) (by omega)]
  cases stOk l[i] <;> cases bSs (r.length : Int) l[i] <;> simp
def Rfd (p : Prg) : Bool := (Rdj p.rooms && decide ((p.rooms.length : Int) ≤ 3)) && decide (1 ≤ (p.tasks.length : Int) ∧ (p.tasks.length : Int) ≤ 3) && lsOk p.rooms.length p.tasks
theorem Rfr {p : Prg} (hr : (p.rooms.length : Int) ≤ 4294967296) (hl : (p.tasks.length : Int) ≤ 4294967296) (hm : ∀ x ∈ p.tasks, mSs x ≤ 4294967296) : Ran p = some (Rfd p) := by
 apply Rje
 rw [Rkt hr, Qb]
 unfold Rfd
 by_cases h3 : (p.rooms.length : Int) ≤ 3
 ·have h : Raw p.tasks (p.tasks.length : Int) 0 p.rooms p.tasks = _ := Rna h3 hl hm p.tasks.length 0 (by omega)
  rw [h, Qb, List.drop_zero]
  cases Rdj p.rooms
  ·simp
  by_cases h1 : (p.tasks.length : Int) < 1
  ·have : ¬ (1 ≤ (p.tasks.length : Int) ∧ (p.tasks.length : Int) ≤ 3) := by omega
   simp only [this, h1, h3, Zy, Zz, Bool.and_true, Zv, Zf, Zt, Bool.and_false, Bool.false_and]
  by_cases h2 : 3 < (p.tasks.length : Int)
  ·have : ¬ (1 ≤ (p.tasks.length : Int) ∧ (p.tasks.length : Int) ≤ 3) := by omega
   simp only [this, h1, h2, h3, Zy, Zz, Bool.and_true, Zv, Zf, Zt, Bool.and_false, Bool.false_and]
  ·have : 1 ≤ (p.tasks.length : Int) ∧ (p.tasks.length : Int) ≤ 3 := by omega
   simp only [this, h1, h2, h3, Zy, Zz, Bool.and_true, Bool.true_and, Zv, Zf, and_self]
   cases lsOk (p.rooms.length : Int) p.tasks <;> simp [selm]
 ·simp [h3]
theorem Rjj {p : Prg} (hr : (p.rooms.length : Int) ≤ 4294967296) (hl : (p.tasks.length : Int) ≤ 4294967296) (hm : ∀ x ∈ p.tasks, mSs x ≤ 4294967296) : Rer p = some (Rfd p) := by
 apply Rjk
 have h : Ray 0 p.rooms p.tasks = _ := Rni hl hm p.tasks.length 0 (by omega)
 rw [Rnx hr, Qb, Rdy, Qb, h, Qb, List.drop_zero]
 unfold Rfd
 cases Rdj p.rooms && decide ((p.rooms.length : Int) ≤ 3)
 ·simp
 by_cases h1 : 1 ≤ (p.tasks.length : Int) ∧ (p.tasks.length : Int) ≤ 3
 ·simp only [h1, and_self, Zy, Zv, Zf, Bool.true_and]
  cases lsOk (p.rooms.length : Int) p.tasks <;> simp [selm]
 ·simp only [h1, Zz, Zx, Zt, Zv, Zf, Bool.and_false, Bool.false_and]
def Ryh (p : Prg) : Prop := p.rooms.length ≤ 20 ∧ p.tasks.length ≤ 10 ∧ ∀ x ∈ p.tasks, mSs x ≤ 20000
theorem Roy {A : List Ent} {n : Int} (hn : n ≤ 3) : ∀ (d : Nat) (i : Int) (h : Hd) (l : List Int) (B : List Ent) {b : List Int} {p m : Int}, n ≤ i + d → 0 ≤ i → i ≤ 10 - d → d ≤ 3 → (l.length : Int) ≤ i → Got .int A l h B → Rd b p m → m + d ≤ 999990000 →
  Ok (Rcy h n i b p B) fun r => Rd r.2.1 r.2.2.1 (m + d) ∧ ∃ l', l'.length ≤ 10 ∧ Got .int A l' r.1 r.2.2.2
 | 0, i, h, l, B, b, p, m, hd, h0, hi1, hd3, hl, hg, hr, hm => by
  apply Ok.le (Rfi _ _ _ _ _ _)
  have : ¬ (i < n) := by omega
  simp only [this, Zz, Zf]
  exact Ok.of ⟨hr.mono (by omega), l, by omega, hg⟩
 | d + 1, i, h, l, B, b, p, m, hd, h0, hi1, hd3, hl, hg, hr, hm => by
  apply Ok.le (Rfi _ _ _ _ _ _)
  refine Ok.bif (fun hb => ?_) (fun hb => ?_)
  ·refine Ok.bnd (Raf hr (by omega) (by decide)) fun r1 h1 => ?_
   refine Ok.bnd (Riw h1.2 (by omega) rfl) fun e he => ?_
   refine Ok.bnd (hg.app (ys := [e]) (by have := hg.cnt; simp; omega)) fun B2 hB2 => ?_
   rw [wrap_id (n := i + 1) (by omega) (by omega)]
   exact (Roy hn d (i + 1) _ (l ++ [e]) _ (by omega) (by omega) (by omega) (by omega) (by simp; omega) hB2.1 h1.1 (by omega)).mono fun r hr => ⟨hr.1.mono (by omega), hr.2⟩
  ·exact Ok.of ⟨hr.mono (by omega), l, by omega, hg⟩
theorem Rrj {b : List Int} {p m : Int} (A : List Ent) (h : Rd b p m) (hm : m ≤ 999900000) : Ok (Rha b p A) fun r => Rd r.2.1 r.2.2.1 (m + 4) ∧ ∃ l, l.length ≤ 10 ∧ Got .int A l r.1 r.2.2.2 := by
 apply Ok.le (Rlp b p A)
 refine Ok.bnd (Raf h (by omega) (by decide)) fun r1 h1 => ?_
 refine Ok.bnd (Riw h1.2 (by omega) rfl) fun e he => ?_
 have he3 : e ≤ 3 := by
  simp only [Zo, List.not_mem_nil, or_false] at he; omega
 have hg : Got .int A [] ⟨some A.length, 0⟩ (Qao A .int ([] : List Int)) := Got.push (c := .int) (l := ([] : List Int)) (Ext.refl _ A)
 refine Ok.bnd (Roy he3 3 0 _ [] _ (by omega) (by omega) (by omega) (by omega) (by simp) hg h1.1 (by omega)) fun r hr => ?_
 exact Ok.of ⟨hr.1.mono (by omega), hr.2⟩
structure GotP (A : List Ent) (hr ht : Hd) (rs : List Int) (hs : List Hd) (ls : List (List Stm)) (B : List Ent) : Prop where
 rooms : Got .int A rs hr B
 tasks : Got .stmsH A hs ht B
 each : hs.length = ls.length
 list : ∀ (i : Nat) (h : Hd), hs[i]? = some h → ∃ l, ls[i]? = some l ∧ Got .stm A l h B
 apart : ∀ (i : Nat) (h : Hd), hs[i]? = some h → ∀ n, h.id = some n → hr.id ≠ some n ∧ ht.id ≠ some n
 diff : ∀ (i j : Nat) (h k : Hd), i ≠ j → hs[i]? = some h → hs[j]? = some k → ∀ n, h.id = some n → k.id ≠ some n
 other : ∀ n, hr.id = some n → ht.id ≠ some n
theorem GotP.keep {A B D : List Ent} {hr ht : Hd} {rs : List Int} {hs : List Hd} {ls : List (List Stm)} (h : GotP A hr ht rs hs ls B) (hx : Ext0 B D) : GotP A hr ht rs hs ls D :=
 ⟨h.rooms.keep hx, h.tasks.keep hx, h.each, fun i x hi => (let ⟨l, q1, q2⟩ := h.list i x hi; ⟨l, q1, q2.keep hx⟩), h.apart, h.diff, h.other⟩
theorem Rle {A B : List Ent} : ∀ {hs : List Hd} {ls : List (List Stm)}, (∀ (i : Nat) (h : Hd), hs[i]? = some h → ∃ l, ls[i]? = some l ∧ Got .stm A l h B) → hs.length = ls.length → mapB (fun x : Hd => Qt B .stm x.id) hs = some ls
 | [], ls, h1, h2 => by
  have : ls = [] := List.eq_nil_of_length_eq_zero (by simpa using h2.symm)
  subst this; rfl
 | x :: r, ls, h1, h2 => by
  obtain ⟨l, e1, e2⟩ := h1 0 x rfl
  cases ls with
  | nil => cases e1
  | cons y s =>
   have : y = l := by simpa using e1
   subst this
   simp only [mapB, e2.get, Qb]
   rw [Rle (hs := r) (ls := s) (fun i z hz => by
    obtain ⟨l, q1, q2⟩ := h1 (i + 1) z (by simpa using hz)
    exact ⟨l, by simpa using q1, q2⟩) (by simpa using h2)]
   rfl
theorem GotP.view {A B : List Ent} {hr ht : Hd} {rs : List Int} {hs : List Hd} {ls : List (List Stm)} (h : GotP A hr ht rs hs ls B) : Qgz B .stmsH ht.id = some ls := Qzh h.tasks.get (Rle h.list h.each)
theorem GotP.add {A B B1 : List Ent} {hr ht : Hd} {rs : List Int} {hs : List Hd} {ls : List (List Stm)} (h : GotP A hr ht rs hs ls B) {x : Hd} {l : List Stm} (hx : Got .stm B l x B1) (hle : ht.n + 1 ≤ 4294967296) :
  Ok (Qju B1 .stmsH ht.id ht.n ([x] : List Hd)) fun B2 => GotP A hr ⟨some B1.length, ht.n + 1⟩ rs (hs ++ [x]) (ls ++ [l]) B2 := by
 have h1 := h.keep hx.ext
 refine (Got.appX (c := .stmsH) h1.tasks (ys := ([x] : List Hd)) hle).mono fun B2 hB2 => ?_
 obtain ⟨g, hl, hX⟩ := hB2
 have hA := g.ext
 have hxA : Got .stm A l x B1 := hx.base h.rooms.ext
 have lr := h1.rooms.lt
 have hfresh : ∀ n, x.id = some n → ht.id ≠ some n ∧ hr.id ≠ some n := by
  intro n hn
  have h2 := hx.id n hn
  exact ⟨fun hh => by have := h.tasks.lt n hh; omega, fun hh => by have := h.rooms.lt n hh; omega⟩
 have hlist : ∀ (i : Nat) (k : Hd), (hs ++ [x])[i]? = some k → (hs[i]? = some k ∧ i < hs.length) ∨ (i = hs.length ∧ k = x) := by
  intro i k hk
  by_cases hi : i < hs.length
  ·rw [List.getElem?_append_left hi] at hk; exact .inl ⟨hk, hi⟩
  ·rw [List.getElem?_append_right (by omega)] at hk
   have : i - hs.length = 0 := by
    cases hn : i - hs.length with
    | zero => rfl
    | succ j => rw [hn] at hk; simp at hk
   rw [this] at hk
   simp only [List.getElem?_cons_zero, Zi] at hk
   exact .inr ⟨by omega, hk.symm⟩
 refine ⟨h1.rooms.stay hX hA (fun n hn => h.other n hn), g, by simp [h.each], fun i k hk => ?_, fun i k hk n hn => ?_, fun i j k k' hij hk hk' n hn => ?_, fun n hn => ?_⟩
 ·rcases hlist i k hk with ⟨hk, hi⟩ | ⟨rfl, rfl⟩
  ·obtain ⟨l', q1, q2⟩ := h1.list i k hk
   exact ⟨l', by rw [List.getElem?_append_left (by rw [← h.each]; exact hi)]; exact q1, q2.stay hX hA (fun n hn => (h.apart i k hk n hn).2)⟩
  ·exact ⟨l, by rw [h.each]; simp, hxA.stay hX hA (fun n hn => (hfresh n hn).1)⟩
 ·rcases hlist i k hk with ⟨hk, hi⟩ | ⟨rfl, rfl⟩
  ·refine ⟨(h.apart i k hk n hn).1, fun hh => ?_⟩
   injection hh with hh
   obtain ⟨l', q1, q2⟩ := h1.list i k hk
   have := q2.lt n hn; omega
  ·refine ⟨(hfresh n hn).2, fun hh => ?_⟩
   injection hh with hh
   have := hx.lt n hn; omega
 ·have old : ∀ (i : Nat) (k : Hd), hs[i]? = some k → ∀ n, k.id = some n → n < B.length := fun i k hk n hn => (let ⟨l', q1, q2⟩ := h.list i k hk; q2.lt n hn)
  rcases hlist i k hk with ⟨hk1, hi⟩ | ⟨e1, e2⟩ <;> rcases hlist j k' hk' with ⟨hk2, hj⟩ | ⟨e3, e4⟩
  ·exact h.diff i j k k' hij hk1 hk2 n hn
  ·subst e4
   intro hh
   have h2 := hx.id n hh
   have := old i k hk1 n hn; omega
  ·subst e2
   intro hh
   have h2 := hx.id n hn
   have := old j k' hk2 n hh; omega
  ·exact absurd (e1.trans e3.symm) hij
 ·intro hh
  injection hh with hh
  have := lr n hn; omega
theorem GotP.put {A B B1 : List Ent} {hr ht : Hd} {rs : List Int} {hs : List Hd} {ls : List (List Stm)} (h : GotP A hr ht rs hs ls B) {i : Nat} {k x : Hd} {l : List Stm} (hi : hs[i]? = some k) (hX : Ext (fun n => k.id = some n) B B1) (hx : Got .stm A l x B1) (hid : ∀ n, x.id = some n → B.length ≤ n) :
  GotP A hr ht rs (hs.set i x) (ls.set i l) (Qia B1 .stmsH ht.id i x) := by
 have hlt := (List.getElem?_eq_some_iff.1 hi).1
 have ht1 : Got .stmsH A hs ht B1 := h.tasks.stay hX hx.ext (fun n hn hh => (h.apart i k hi n hh).2 hn)
 have hr1 : Got .int A rs hr B1 := h.rooms.stay hX hx.ext (fun n hn hh => (h.apart i k hi n hh).1 hn)
 have g := Got.set (c := .stmsH) (i := i) (x := x) ht1
 have hA := g.ext
 have hS : Ext (fun n => ht.id = some n) B1 (Qia B1 .stmsH ht.id i x) := Quq fun n hn => hn
 have hfresh : ∀ n, x.id = some n → ht.id ≠ some n ∧ hr.id ≠ some n := by
  intro n hn
  have h2 := hid n hn
  exact ⟨fun hh => by have := h.tasks.lt n hh; omega, fun hh => by have := h.rooms.lt n hh; omega⟩
 have hlist : ∀ (j : Nat) (y : Hd), (hs.set i x)[j]? = some y → (hs[j]? = some y ∧ j ≠ i) ∨ (j = i ∧ y = x) := by
  intro j y hy
  by_cases hj : i = j
  ·subst hj
   rw [List.getElem?_set_self hlt] at hy
   injection hy with hy
   exact .inr ⟨rfl, hy.symm⟩
  ·rw [List.getElem?_set_ne hj] at hy
   exact .inl ⟨hy, fun hh => hj hh.symm⟩
 refine ⟨hr1.stay hS hA (fun n hn => h.other n hn), g, by simp [h.each], fun j y hy => ?_, fun j y hy n hn => ?_, fun j j' y y' hjj hy hy' n hn => ?_, h.other⟩
 ·rcases hlist j y hy with ⟨hy, hj⟩ | ⟨rfl, rfl⟩
  ·obtain ⟨l', q1, q2⟩ := h.list j y hy
   refine ⟨l', by rw [List.getElem?_set_ne (fun hh => hj hh.symm)]; exact q1, ?_⟩
   exact (q2.stay hX hx.ext (fun n hn hh => h.diff j i y k hj hy hi n hn hh)).stay hS hA (fun n hn => (h.apart j y hy n hn).2)
  ·exact ⟨l, by rw [List.getElem?_set_self (by rw [← h.each]; exact hlt)], hx.stay hS hA (fun n hn => (hfresh n hn).1)⟩
 ·rcases hlist j y hy with ⟨hy, hj⟩ | ⟨rfl, rfl⟩
  ·exact h.apart j y hy n hn
  ·exact ⟨(hfresh n hn).2, (hfresh n hn).1⟩
 ·have old : ∀ (i : Nat) (k : Hd), hs[i]? = some k → ∀ n, k.id = some n → n < B.length := fun i k hk n hn => (let ⟨l', q1, q2⟩ := h.list i k hk; q2.lt n hn)
  rcases hlist j y hy with ⟨hy1, hj⟩ | ⟨e1, e2⟩ <;> rcases hlist j' y' hy' with ⟨hy2, hj'⟩ | ⟨e3, e4⟩
  ·exact h.diff j j' y y' hjj hy1 hy2 n hn
  ·subst e4
   intro hh
   have h2 := hid n hh
   have := old j y hy1 n hn; omega
  ·subst e2
   intro hh
   have h2 := hid n hn
   have := old j' y' hy2 n hh; omega
  ·exact absurd (e1.trans e3.symm) hjj
theorem Rva {ls : List (List Stm)} {l : List Stm} {n : Nat} (h : ∀ x ∈ ls, mSs x ≤ n) (hl : mSs l ≤ n) : ∀ x ∈ ls ++ [l], mSs x ≤ n := by
 intro x hx
 rcases List.mem_append.1 hx with hx | hx
 ·exact h x hx
 ·rw [List.mem_singleton.1 hx]; exact hl
theorem Rky {A : List Ent} {n : Int} {x0 x1 : Hd} {rs : List Int} (hrs : rs.length ≤ 10) : ∀ (d : Nat) (i : Int) (hr ht : Hd) (hs : List Hd) (ls : List (List Stm)) (B : List Ent) {b : List Int} {p m : Int}, n ≤ i + d → 0 ≤ i → i ≤ 10 - d → d ≤ 3 → (ls.length : Int) = i → (∀ x ∈ ls, mSs x ≤ 10000) → GotP A hr ht rs hs ls B → Rd b p m → m + 23000 * d ≤ 999800000 →
  Ok (Rca n i b p x0 x1 hr ht B) fun r => Rd r.1 r.2.1 (m + 23000 * d) ∧ r.2.2.2.2.1 = hr ∧ ∃ hs' ls', (ls'.length : Int) ≤ i + d ∧ n ≤ (ls'.length : Int) ∧ (∀ x ∈ ls', mSs x ≤ 10000) ∧ GotP A hr r.2.2.2.2.2.1 rs hs' ls' r.2.2.2.2.2.2
 | 0, i, hr, ht, hs, ls, B, b, p, m, hd, h0, hi1, hd3, hl, hm, hg, hrd, hb => by
  apply Ok.le (Reh _ _ _ _ _ _ _ _ _)
  have : ¬ (i < n) := by omega
  simp only [this, Zz, Zf]
  exact Ok.of ⟨hrd.mono (by omega), rfl, hs, ls, by omega, by omega, hm, hg⟩
 | d + 1, i, hr, ht, hs, ls, B, b, p, m, hd, h0, hi1, hd3, hl, hm, hg, hrd, hb => by
  apply Ok.le (Reh _ _ _ _ _ _ _ _ _)
  refine Ok.bif (fun hc => ?_) (fun hc => ?_)
  ·have hn := hg.rooms.cnt
   refine Ok.bnd (Rrk ((hr.n : Nat) : Int) (by omega) B hrd (by omega)) fun r1 h1 => ?_
   obtain ⟨h1r, l, h1g, h1m, h1c⟩ := h1
   have hc2 := hg.tasks.cnt
   have he := hg.each
   refine Ok.bnd (hg.add h1g (by rw [hc2]; omega)) fun B2 hB2 => ?_
   rw [wrap_id (n := i + 1) (by omega) (by omega)]
   exact (Rky hrs d (i + 1) hr _ (hs ++ [r1.1]) (ls ++ [l]) B2 (by omega) (by omega) (by omega) (by omega) (by simp; omega) (Rva hm h1m) hB2 h1r (by omega)).mono fun r hr' => ⟨hr'.1.mono (by omega), hr'.2.1, (let ⟨hs', ls', q1, q0, q2, q3⟩ := hr'.2.2; ⟨hs', ls', by omega, q0, q2, q3⟩)⟩
  ·simp only [decide_eq_false_iff_not] at hc
   exact Ok.of ⟨hrd.mono (by omega), rfl, hs, ls, by omega, by omega, hm, hg⟩
theorem Rvb {ls : List (List Stm)} {l : List Stm} {n i : Nat} (h : ∀ x ∈ ls, mSs x ≤ n) (hl : mSs l ≤ n) : ∀ x ∈ ls.set i l, mSs x ≤ n := by
 intro x hx
 rcases List.mem_or_eq_of_mem_set hx with hx | rfl
 ·exact h x hx
 ·exact hl
theorem Rox {b : List Int} {p m : Int} (A : List Ent) (h : Rd b p m) (hm : m ≤ 999000000) : Ok (Rdh b p A) fun r => Rd r.2.2.1 r.2.2.2.1 (m + 80000) ∧ ∃ rs hs ls, rs.length ≤ 10 ∧ ls.length ≤ 3 ∧ 1 ≤ ls.length ∧ (∀ x ∈ ls, mSs x ≤ 10000) ∧ GotP A r.1 r.2.1 rs hs ls r.2.2.2.2 := by
 apply Ok.le (Rjl b p A)
 refine Ok.bnd (Rrj A h (by omega)) fun r1 h1 => ?_
 obtain ⟨h1r, rs, hrs, h1g⟩ := h1
 refine Ok.bnd (Raf h1r (by omega) (by decide)) fun r2 h2 => ?_
 have hk := h2.2.2.1 (by omega)
 rw [wrap_id (n := 1 + r2.1) (by omega) (by omega)]
 have hx : Ext0 r1.2.2.2 (Qao r1.2.2.2 .stmsH ([] : List Hd)) := Qho _
 have hg : GotP A r1.1 ⟨some r1.2.2.2.length, 0⟩ rs [] [] (Qao r1.2.2.2 .stmsH ([] : List Hd)) := by
  refine ⟨h1g.keep hx, Got.push (c := .stmsH) (l := ([] : List Hd)) h1g.ext, rfl, fun i h hi => (by simp at hi), fun i h hi => (by simp at hi), fun i j h k hij hi => (by simp at hi), fun n hn hh => ?_⟩
  injection hh with hh
  have := h1g.lt n hn; omega
 refine Ok.bnd (Rky (x0 := ⟨none, 0⟩) (x1 := ⟨none, 0⟩) hrs 3 0 _ _ [] [] _ (by omega) (by omega) (by omega) (by omega) (by simp) (by simp) hg h2.1 (by omega)) fun r3 h3 => ?_
 obtain ⟨h3r, e3, hs, ls, hl, hl1, hms, h3g⟩ := h3
 refine Ok.bnd (Raf h3r (by omega) (by decide)) fun r4 h4 => ?_
 refine Ok.bif (fun _ => ?_) (fun _ => ?_)
 ·refine Ok.bnd (Rri h4.1 (by omega)) fun r5 h5 => ?_
  have he := h3g.each
  have hc := h3g.tasks.cnt
  obtain ⟨k, hk0⟩ : ∃ k, hs[0]? = some k := ⟨hs[0]'(by omega), List.getElem?_eq_getElem (by omega)⟩
  have hX : ∀ pp, Ext pp r3.2.2.2.2.2.2 (Qao r3.2.2.2.2.2.2 .stm ([⟨r5.1.kind, r5.1.var, r5.1.box, ⟨r5.1.e.op, r5.1.e.n, r5.1.e.args⟩, r5.1.body, r5.1.els⟩] : List Stm)) := fun pp => Qho pp
  have hrow : Qlq (Qao r3.2.2.2.2.2.2 .stm ([⟨r5.1.kind, r5.1.var, r5.1.box, ⟨r5.1.e.op, r5.1.e.n, r5.1.e.args⟩, r5.1.body, r5.1.els⟩] : List Stm)) .stmsH r3.2.2.2.2.2.1.id (0 : Int).toNat = some k := (h3g.tasks.keep (hX _)).row hk0
  rw [idxN_eq (by omega) (by omega), Qb, hrow, Qb]
  have hp : Got .stm A [⟨r5.1.kind, r5.1.var, r5.1.box, ⟨r5.1.e.op, r5.1.e.n, r5.1.e.args⟩, r5.1.body, r5.1.els⟩] ⟨some r3.2.2.2.2.2.2.length, 1⟩ (Qao r3.2.2.2.2.2.2 .stm ([⟨r5.1.kind, r5.1.var, r5.1.box, ⟨r5.1.e.op, r5.1.e.n, r5.1.e.args⟩, r5.1.body, r5.1.els⟩] : List Stm)) := Got.push (c := .stm) (l := ([⟨r5.1.kind, r5.1.var, r5.1.box, ⟨r5.1.e.op, r5.1.e.n, r5.1.e.args⟩, r5.1.body, r5.1.els⟩] : List Stm)) h3g.rooms.ext
  have hput := h3g.put hk0 (hX _) hp (fun n hn => by injection hn with hn; omega)
  have hsz := h5.2
  rw [Rrm, Rkm] at hsz
  refine Ok.of ⟨h5.1.mono (by omega), rs, hs.set 0 ⟨some r3.2.2.2.2.2.2.length, 1⟩, ls.set 0 [⟨r5.1.kind, r5.1.var, r5.1.box, ⟨r5.1.e.op, r5.1.e.n, r5.1.e.args⟩, r5.1.body, r5.1.els⟩], hrs, by rw [List.length_set]; omega, by rw [List.length_set]; omega, Rvb hms (l := [⟨r5.1.kind, r5.1.var, r5.1.box, ⟨r5.1.e.op, r5.1.e.n, r5.1.e.args⟩, r5.1.body, r5.1.els⟩]) (i := 0) (by simp only [mSs, Rkd]; omega), ?_⟩
  dsimp only
  rw [e3]; exact hput
 ·refine Ok.of ⟨h4.1.mono (by omega), rs, hs, ls, hrs, by omega, by omega, hms, ?_⟩
  dsimp only
  rw [e3]; exact h3g
theorem GotP.cell {A B : List Ent} {hr ht : Hd} {rs : List Int} {hs : List Hd} {ls : List (List Stm)} (h : GotP A hr ht rs hs ls B) {i : Nat} {k : Hd} {l : List Stm} {j : Nat} {x : Stm} (hi : hs[i]? = some k) (hl : ls[i]? = some l) : GotP A hr ht rs hs (ls.set i (l.set j x)) (Qia B .stm k.id j x) := by
 have hlt := (List.getElem?_eq_some_iff.1 hl).1
 have hS : Ext (fun n => k.id = some n) B (Qia B .stm k.id j x) := Quq fun n hn => hn
 obtain ⟨l', q1, q2⟩ := h.list i k hi
 rw [hl] at q1
 injection q1 with q1
 subst q1
 have g := Got.set (c := .stm) (i := j) (x := x) q2
 have hA := g.ext
 refine ⟨h.rooms.stay hS hA (fun n hn hh => (h.apart i k hi n hh).1 hn), h.tasks.stay hS hA (fun n hn hh => (h.apart i k hi n hh).2 hn), by simp [h.each], fun j' y hy => ?_, h.apart, h.diff, h.other⟩
 by_cases hj : i = j'
 ·subst hj
  rw [hi] at hy
  injection hy with hy
  subst hy
  exact ⟨_, List.getElem?_set_self hlt, g⟩
 ·obtain ⟨l', q3, q4⟩ := h.list j' y hy
  exact ⟨l', by rw [List.getElem?_set_ne hj]; exact q3, q4.stay hS hA (fun n hn hh => h.diff j' i y k (fun e => hj e.symm) hy hi n hn hh)⟩
theorem Rsu {b : List Int} {p m : Int} (h : Rd b p m) (hm : m ≤ 990000000) : Ok (Rik b p) fun r => Rd r.2.1 r.2.2 (m + 81000) ∧ Ryh r.1 := by
 apply Ok.le (Roc b p)
 refine Ok2.both ?_
 refine Ok2.bnd (Rox [] h (by omega)) fun r1 h1 => ?_
 obtain ⟨h1r, rs, hs, ls, hrs, hls, hl1, hms, hg⟩ := h1
 obtain ⟨k, hk0⟩ : ∃ k, hs[0]? = some k := ⟨hs[0]'(by have := hg.each; omega), List.getElem?_eq_getElem (by have := hg.each; omega)⟩
 obtain ⟨l0, hl0, hgk⟩ := hg.list 0 k hk0
 have hz0 := hms l0 (List.mem_of_getElem? hl0)
 have hc := hg.tasks.cnt
 have hcr := hg.rooms.cnt
 have he := hg.each
 have up : ∀ {l : List (List Stm)}, (∀ x ∈ l, mSs x ≤ 10000) → ∀ x ∈ l, mSs x ≤ 20000 := fun h x hx => by have := h x hx; omega
 refine Ok2.bnd (Raf h1r (by omega) (by decide)) fun r2 h2 => ?_
 refine Ok2.bif (fun _ => ?_) (fun _ => ?_)
 ·refine Ok2.same ?_
  refine Ok.bnd (Raf h2.1 (by omega) (by decide)) fun r3 h3 => ?_
  refine Ok.bnd (Riw h3.2 (by omega) rfl) fun e4 he4 => ?_
  refine Ok.bnd (hg.rooms.appX (ys := [e4]) (by simp; omega)) fun B5 hB5 => ?_
  obtain ⟨g, _, hX⟩ := hB5
  have hA := g.ext
  have gt : Got .stmsH [] hs r1.2.1 B5 := hg.tasks.stay hX hA (fun n hn hh => hg.other n hh hn)
  have hv : Qgz B5 .stmsH r1.2.1.id = some ls := Qzh gt.get (Rle (A := []) (fun i k hk => (let ⟨l, q1, q2⟩ := hg.list i k hk; ⟨l, q1, q2.stay hX hA (fun n hn hh => (hg.apart i k hk n hn).1 hh)⟩)) he)
  have hgr := g.get
  dsimp only at hgr
  rw [arView_int, hgr, Qb, hv, Qb]
  exact Ok.of ⟨h3.1.mono (by omega), by simp; omega, by dsimp only; omega, up hms⟩
 refine Ok2.bif (fun _ => ?_) (fun _ => ?_)
 ·refine Ok2.same ?_
  refine Ok.bnd ((Rql h2.1 (by omega)).and (Rmh h2.1 (by omega))) fun r8 h8 => ?_
  have hp : Got .stm r1.2.2.2.2 [⟨4, 0, ((r1.1.n : Nat) : Int), ⟨r8.1, r8.2.1, r8.2.2.1.2⟩, [], []⟩] ⟨some r1.2.2.2.2.length, 1⟩ (Qao r1.2.2.2.2 .stm ([⟨4, 0, ((r1.1.n : Nat) : Int), ⟨r8.1, r8.2.1, r8.2.2.1.2⟩, [], []⟩] : List Stm)) := Got.push (c := .stm) (l := ([⟨4, 0, ((r1.1.n : Nat) : Int), ⟨r8.1, r8.2.1, r8.2.2.1.2⟩, [], []⟩] : List Stm)) (Ext.refl _ _)
  refine Ok.bnd (hg.add hp (by omega)) fun B9 hB9 => ?_
  have hv := hB9.view
  have hgr := hB9.rooms.get
  dsimp only at hv
  rw [arView_int, hgr, Qb, hv, Qb]
  have hz := h8.2
  exact Ok.of ⟨h8.1.1.mono (by omega), by dsimp only; omega, by simp; omega, up (Rva hms (by simp only [mSs, Rkd]; omega))⟩
 refine Ok2.bif (fun _ => ?_) (fun _ => ?_)
 ·refine Ok2.same ?_
  have hx : Ext0 r1.2.2.2.2 (Qao r1.2.2.2.2 .stmsH ([] : List Hd)) := Qho _
  have hv : Qgz (Qao r1.2.2.2.2 .stmsH ([] : List Hd)) .stmsH (some (List.length r1.2.2.2.2)) = some [] := Qzh (Qbq (c := .stmsH) (l := ([] : List Hd))) rfl
  rw [arView_int, (hg.rooms.keep hx).get, Qb, hv, Qb]
  exact Ok.of ⟨h2.1.mono (by omega), by dsimp only; omega, by simp, fun x hx => by simp at hx⟩
 refine Ok2.bif (fun _ => ?_) (fun _ => ?_)
 ·refine Ok2.same ?_
  have hrow : Qlq r1.2.2.2.2 .stmsH r1.2.1.id (0 : Int).toNat = some k := hg.tasks.row hk0
  simp only [idxN_eq (show (0 : Int) ≤ 0 by omega) (show (0 : Int) < (r1.2.1.n : Nat) by omega), Qb, hrow]
  refine Ok.bnd (Got.appX (c := .stmsH) hg.tasks (ys := ([k, k, k] : List Hd)) (by simp; omega)) fun B20 hB20 => ?_
  obtain ⟨g, _, hX⟩ := hB20
  have hA := g.ext
  have gr : Got .int [] rs r1.1 B20 := hg.rooms.stay hX hA (fun n hn hh => hg.other n hn hh)
  have gl : ∀ (i : Nat) (h : Hd), hs[i]? = some h → ∃ l, ls[i]? = some l ∧ Got .stm [] l h B20 := fun i x hi => (let ⟨l, q1, q2⟩ := hg.list i x hi; ⟨l, q1, q2.stay hX hA (fun n hn hh => (hg.apart i x hi n hn).2 hh)⟩)
  obtain ⟨l0', hl0', gk⟩ := gl 0 k hk0
  have e0 : l0' = l0 := by rw [hl0] at hl0'; injection hl0' with e; exact e.symm
  subst e0
  have hv : Qgz B20 .stmsH (some (List.length r1.2.2.2.2)) = some (ls ++ [l0', l0', l0']) := by
   refine Qzh g.get (Rle (A := []) (fun i x hi => ?_) (by simp [he]))
   by_cases hlt : i < hs.length
   ·rw [List.getElem?_append_left hlt] at hi
    obtain ⟨l, q1, q2⟩ := gl i x hi
    exact ⟨l, by rw [List.getElem?_append_left (by omega)]; exact q1, q2⟩
   ·rw [List.getElem?_append_right (by omega)] at hi
    rw [List.getElem?_append_right (by omega), ← he]
    have : i - hs.length < 3 := (List.getElem?_eq_some_iff.1 hi).1
    match hj : i - hs.length, this with
    | 0, _ => rw [hj] at hi; simp at hi; subst hi; exact ⟨l0', rfl, gk⟩
    | 1, _ => rw [hj] at hi; simp at hi; subst hi; exact ⟨l0', rfl, gk⟩
    | 2, _ => rw [hj] at hi; simp at hi; subst hi; exact ⟨l0', rfl, gk⟩
  rw [arView_int, gr.get, Qb, hv, Qb]
  refine Ok.of ⟨h2.1.mono (by omega), by dsimp only; omega, by simp; omega, up fun x hx => ?_⟩
  rcases List.mem_append.1 hx with hx | hx
  ·exact hms x hx
  ·simp only [Zo, List.not_mem_nil, or_false, or_self] at hx
   rw [hx]; exact hz0
 refine Ok2.bif (fun _ => ?_) (fun _ => ?_)
 ·have hrow : Qlq r1.2.2.2.2 .stmsH r1.2.1.id (0 : Int).toNat = some k := hg.tasks.row hk0
  have hck := hgk.cnt
  have hlk := Rcu l0
  have hlen : (l0 ++ [(⟨0, 0, 0, ⟨0, 0, []⟩, [], []⟩ : Stm)]).set k.n ⟨9, 0, 0, ⟨0, 0, []⟩, [], []⟩ = l0 ++ [⟨9, 0, 0, ⟨0, 0, []⟩, [], []⟩] := by
   rw [hck]; simp
  refine Ok2.of (⟨rs, ls.set 0 (l0 ++ [⟨9, 0, 0, ⟨0, 0, []⟩, [], []⟩])⟩, r2.2.1, r2.2.2) ?_ ?_ ⟨h2.1.mono (by omega), by dsimp only; omega, by simp; omega, Rvb (up hms) (by rw [Req]; simp only [mSs, Rkd, emXs]; omega)⟩
  ·rw [idxN_eq (show (0 : Int) ≤ 0 by omega) (show (0 : Int) < (r1.2.1.n : Nat) by omega), Qb, hrow, Qb]
   refine Ok.bnd (Got.appX (c := .stm) hgk (ys := ([⟨9, 0, 0, ⟨0, 0, []⟩, [], []⟩] : List Stm)) (by simp; omega)) fun B25 hB25 => ?_
   obtain ⟨g, _, hX⟩ := hB25
   have hput := hg.put hk0 hX g (fun n hn => by injection hn with hn; omega)
   have gt : Got .stmsH [] hs r1.2.1 B25 := hg.tasks.stay hX g.ext (fun n hn hh => (hg.apart 0 k hk0 n hh).2 hn)
   have hrow2 : Qlq B25 .stmsH r1.2.1.id (0 : Int).toNat = some k := gt.row hk0
   rw [Qb, hrow2, Qb]
   have hv := hput.view
   have hgr := hput.rooms.get
   have e1 : Qgz (Qia B25 .stmsH r1.2.1.id (0 : Int).toNat (⟨(some (List.length r1.2.2.2.2)), (k.n + List.length ([⟨9, 0, 0, ⟨0, 0, []⟩, [], []⟩] : List Stm))⟩ : Hd)) .int r1.1.id = some rs := by rw [arView_int]; exact hgr
   have e2 : Qgz (Qia B25 .stmsH r1.2.1.id (0 : Int).toNat (⟨(some (List.length r1.2.2.2.2)), (k.n + List.length ([⟨9, 0, 0, ⟨0, 0, []⟩, [], []⟩] : List Stm))⟩ : Hd)) .stmsH r1.2.1.id = some (ls.set 0 (l0 ++ [⟨9, 0, 0, ⟨0, 0, []⟩, [], []⟩])) := hv
   rw [e1, Qb, e2, Qb]
   exact Ok.of rfl
  ·rw [idxN_eq (show (0 : Int) ≤ 0 by omega) (show (0 : Int) < (r1.2.1.n : Nat) by omega), Qb, hrow, Qb]
   refine Ok.bnd (Got.appX (c := .stm) hgk (ys := ([⟨0, 0, 0, ⟨0, 0, []⟩, [], []⟩] : List Stm)) (by simp; omega)) fun B25 hB25 => ?_
   obtain ⟨g, _, hX⟩ := hB25
   have hput := hg.put hk0 hX g (fun n hn => by injection hn with hn; omega)
   have gt : Got .stmsH [] hs r1.2.1 B25 := hg.tasks.stay hX g.ext (fun n hn hh => (hg.apart 0 k hk0 n hh).2 hn)
   have hrow2 : Qlq B25 .stmsH r1.2.1.id (0 : Int).toNat = some k := gt.row hk0
   rw [Qb, hrow2, Qb, idxN_eq (show (0 : Int) ≤ ((k.n : Nat) : Int) by omega) (show ((k.n : Nat) : Int) < ((k.n + List.length ([⟨0, 0, 0, ⟨0, 0, []⟩, [], []⟩] : List Stm) : Nat) : Int) by simp; omega), Qb]
   have hlt0 : 0 < hs.length := by omega
   have hlt1 : 0 < ls.length := by omega
   obtain ⟨l1, q1, q2⟩ := hput.list 0 _ (List.getElem?_set_self hlt0)
   rw [List.getElem?_set_self hlt1] at q1
   injection q1 with q1
   subst q1
   have hrow3 : Qlq (Qia B25 .stmsH r1.2.1.id (0 : Int).toNat (⟨(some (List.length r1.2.2.2.2)), (k.n + List.length ([⟨0, 0, 0, ⟨0, 0, []⟩, [], []⟩] : List Stm))⟩ : Hd)) .stm (some (List.length r1.2.2.2.2)) ((k.n : Nat) : Int).toNat = some ⟨0, 0, 0, ⟨0, 0, []⟩, [], []⟩ := Got.row (c := .stm) q2 (by rw [Int.toNat_natCast, hck]; simp)
   rw [hrow3, Qb]
   have hcell := hput.cell (i := 0) (j := ((k.n : Nat) : Int).toNat) (x := ⟨9, 0, 0, ⟨0, 0, []⟩, [], []⟩) (List.getElem?_set_self hlt0) (List.getElem?_set_self hlt1)
   rw [Int.toNat_natCast, hlen, List.set_set] at hcell
   have hv := hcell.view
   have hgr := hcell.rooms.get
   have e1 : Qgz (Qia (Qia B25 .stmsH r1.2.1.id (0 : Int).toNat (⟨(some (List.length r1.2.2.2.2)), (k.n + List.length ([⟨0, 0, 0, ⟨0, 0, []⟩, [], []⟩] : List Stm))⟩ : Hd)) .stm (some (List.length r1.2.2.2.2)) ((k.n : Nat) : Int).toNat (⟨9, 0, 0, ⟨0, 0, []⟩, [], []⟩ : Stm)) .int r1.1.id = some rs := by rw [arView_int]; exact hgr
   have e2 : Qgz (Qia (Qia B25 .stmsH r1.2.1.id (0 : Int).toNat (⟨(some (List.length r1.2.2.2.2)), (k.n + List.length ([⟨0, 0, 0, ⟨0, 0, []⟩, [], []⟩] : List Stm))⟩ : Hd)) .stm (some (List.length r1.2.2.2.2)) ((k.n : Nat) : Int).toNat (⟨9, 0, 0, ⟨0, 0, []⟩, [], []⟩ : Stm)) .stmsH r1.2.1.id = some (ls.set 0 (l0 ++ [⟨9, 0, 0, ⟨0, 0, []⟩, [], []⟩])) := hv
   rw [e1, Qb, e2, Qb]
   exact Ok.of rfl
 ·refine Ok2.same ?_
  rw [arView_int, hg.rooms.get, Qb, hg.view, Qb]
  exact Ok.of ⟨h2.1.mono (by omega), by dsimp only; omega, by dsimp only; omega, up hms⟩
theorem Rwv : ∀ {j : J} {l : List Tok} {o : Out}, P j l o → ∀ o', P j l o' → o = o' := by
 intro j l o h
 induction h with
 | nil => intro o' h'; cases h'; rfl
 | atom h1 h2 =>
  intro o' h'
  cases h' with
  | atom h3 h4 => rw [h2] at h4; injection h4 with h4; rw [h4]
  | bad h3 h4 => rw [h2] at h4; cases h4
  | _ => exact absurd rfl h1
 | bad h1 h2 =>
  intro o' h'
  cases h' with
  | atom h3 h4 => rw [h2] at h4; cases h4
  | bad h3 h4 => rfl
  | _ => exact absurd rfl h1
 | par h ih =>
  intro o' h'
  cases h' with
  | atom h3 h4 => exact absurd rfl h3
  | bad h3 h4 => exact absurd rfl h3
  | par h3 => have := ih _ h3; injection this with this; injection this with a b; injection b with b c; rw [a, c]
  | parN h3 => have := ih _ h3; cases this
  | parE h3 => have := ih _ h3; cases this
  | parB h3 h4 => have := ih _ h3; injection this with this; injection this with a b; injection b with b c; exact absurd b.symm h4
 | parN h ih =>
  intro o' h'
  cases h' with
  | atom h3 h4 => exact absurd rfl h3
  | bad h3 h4 => exact absurd rfl h3
  | par h3 => have := ih _ h3; cases this
  | _ => rfl
 | parE h ih =>
  intro o' h'
  cases h' with
  | atom h3 h4 => exact absurd rfl h3
  | bad h3 h4 => exact absurd rfl h3
  | par h3 => have := ih _ h3; cases this
  | _ => rfl
 | parB h hn ih =>
  intro o' h'
  cases h' with
  | atom h3 h4 => exact absurd rfl h3
  | bad h3 h4 => exact absurd rfl h3
  | par h3 => have := ih _ h3; injection this with this; injection this with a b; injection b with b c; exact absurd b hn
  | _ => rfl
 | top hk h ih =>
  intro o' h'
  cases h' with
  | top h3 h4 => exact ih _ h4
  | levN h3 h4 => omega
  | levS h3 h4 h5 => omega
 | levN hk h ih =>
  intro o' h'
  cases h' with
  | top h3 h4 => omega
  | levN h3 h4 => rfl
  | levS h3 h4 h5 => have := ih _ h4; cases this
 | levS hk h1 h2 ih1 ih2 =>
  intro o' h'
  cases h' with
  | top h3 h4 => omega
  | levN h3 h4 => have := ih1 _ h4; cases this
  | levS h3 h4 h5 =>
   have := ih1 _ h4; injection this with this; injection this with a b
   subst a b
   exact ih2 _ h5
 | stop hn =>
  intro o' h'
  cases h' with
  | stop h3 => rfl
  | step h3 h4 h5 => exact absurd h3 hn
  | stepN h3 h4 => exact absurd h3 hn
 | step hl h1 h2 ih1 ih2 =>
  intro o' h'
  cases h' with
  | stop h3 => exact absurd hl h3
  | step h3 h4 h5 =>
   have := ih1 _ h4; injection this with this; injection this with a b
   subst a b
   exact ih2 _ h5
  | stepN h3 h4 => have := ih1 _ h4; cases this
 | stepN hl h ih =>
  intro o' h'
  cases h' with
  | stop h3 => exact absurd hl h3
  | step h3 h4 h5 => have := ih _ h4; cases this
  | stepN h3 h4 => rfl
noncomputable def ex1 (l : List Tok) : Out := Classical.choose (Rly (l.length + 1) (.lev 1) l (Nat.le_refl 1) (Nat.lt_succ_self _))
theorem Rxb (l : List Tok) : P (.lev 1) l (ex1 l) := Classical.choose_spec (Rly (l.length + 1) (.lev 1) l (Nat.le_refl 1) (Nat.lt_succ_self _))
theorem ex1_is {l : List Tok} {o : Out} (h : P (.lev 1) l o) : ex1 l = o := Rwv (Rxb l) o h
theorem Rhx {l : List Tok} {e : Exp} {r : List Tok} (h : ex1 l = some (e, r)) : (∃ p, l = p ++ r) ∧ r.length < l.length := P_suf (h ▸ Rxb l) e r rfl
def kIf : Tok := [105, 102]
def Rdb : Tok := [119, 104, 105, 108, 101]
def Ria : Tok := [115, 101, 110, 100]
def Rjf : Tok := [114, 101, 99, 118]
def Rgk : Tok := [121, 105, 101, 108, 100]
def Rfs : Tok := [112, 114, 105, 110, 116]
def Rfw : Tok := [101, 108, 115, 101]
def kBox : Tok := [98, 111, 120]
def Rjg : Tok := [116, 97, 115, 107]
def kL : Tok := [123]
def kR : Tok := [125]
def kS : Tok := [59]
def kE : Tok := [61]
def nd (k : Tok) : List Tok → Option (List Tok)
 | t :: l => if t = k then some l else none
 | [] => none
def nu : List Tok → Option (Int × List Tok)
 | t :: l => if 0 ≤ numV t then some (numV t, l) else none
 | [] => none
def va : List Tok → Option (Int × List Tok)
 | t :: l => if 0 ≤ varV t then some (varV t, l) else none
 | [] => none
noncomputable def en (l : List Tok) : Out := (ex1 l).bind fun p => (nd kS p.2).map fun r => (p.1, r)
abbrev GO := Option (List Stm × List Tok)
noncomputable def smp : List Tok → GO
 | [] => none
 | t :: l =>
  if t = Ria then (nu l).bind fun p => (en p.2).map fun q => ([⟨4, 0, p.1, q.1, [], []⟩], q.2)
  else if t = Rjf then (nu l).bind fun p => (va p.2).bind fun q => (nd kS q.2).map fun r => ([⟨5, q.1, p.1, ⟨0, 0, []⟩, [], []⟩], r)
  else if t = Rgk then (nd kS l).map fun r => ([⟨6, 0, 0, ⟨0, 0, []⟩, [], []⟩], r)
  else if t = Rfs then (en l).map fun q => ([⟨7, 0, 0, q.1, [], []⟩], q.2)
  else (va (t :: l)).bind fun p => (nd kE p.2).bind fun r => (en r).map fun q => ([⟨1, p.1, 0, q.1, [], []⟩], q.2)
inductive K where
 | st
 | bk
 | lp (acc : List Stm)
inductive G : K → List Tok → GO → Prop
 | bk0 {l : List Tok} : nd kL l = none → G .bk l none
 | bk {l : List Tok} {o : GO} : G (.lp []) l o → G .bk (kL :: l) o
 | lpE {a : List Stm} : G (.lp a) [] none
 | lpS {a : List Stm} {l : List Tok} : G (.lp a) (kR :: l) (some (a, l))
 | lpN {a : List Stm} {t : Tok} {l : List Tok} : t ≠ kR → G .st (t :: l) none → G (.lp a) (t :: l) none
 | lpC {a : List Stm} {t : Tok} {l r : List Tok} {s : Stm} {o : GO} : t ≠ kR → G .st (t :: l) (some ([s], r)) → G (.lp (a ++ [s])) r o → G (.lp a) (t :: l) o
 | smp {t : Tok} {l : List Tok} {o : GO} : t ≠ kIf → t ≠ Rdb → smp (t :: l) = o → G .st (t :: l) o
 | ifN {l : List Tok} : ex1 l = none → G .st (kIf :: l) none
 | ifB {l r : List Tok} {e : Exp} : ex1 l = some (e, r) → G .bk r none → G .st (kIf :: l) none
 | if1 {l r r2 : List Tok} {e : Exp} {b : List Stm} : ex1 l = some (e, r) → G .bk r (some (b, r2)) → nd Rfw r2 = none → G .st (kIf :: l) (some ([⟨2, 0, 0, e, b, []⟩], r2))
 | if2 {l r r2 r3 : List Tok} {e : Exp} {b c : List Stm} : ex1 l = some (e, r) → G .bk r (some (b, Rfw :: r2)) → G .bk r2 (some (c, r3)) → G .st (kIf :: l) (some ([⟨2, 0, 0, e, b, c⟩], r3))
 | if3 {l r r2 : List Tok} {e : Exp} {b : List Stm} : ex1 l = some (e, r) → G .bk r (some (b, Rfw :: r2)) → G .bk r2 none → G .st (kIf :: l) none
 | whN {l : List Tok} : ex1 l = none → G .st (Rdb :: l) none
 | whB {l r : List Tok} {e : Exp} : ex1 l = some (e, r) → G .bk r none → G .st (Rdb :: l) none
 | wh {l r r2 : List Tok} {e : Exp} {b : List Stm} : ex1 l = some (e, r) → G .bk r (some (b, r2)) → G .st (Rdb :: l) (some ([⟨3, 0, 0, e, b, []⟩], r2))
theorem Red {k : Tok} {l r : List Tok} (h : nd k l = some r) : l = k :: r := by
 cases l with
 | nil => cases h
 | cons t l =>
  simp only [nd] at h
  split at h
  ·rename_i hk; injection h with h; rw [hk, h]
  ·cases h
theorem Rml {l r : List Tok} {n : Int} (h : nu l = some (n, r)) : ∃ t, l = t :: r ∧ 0 ≤ numV t ∧ n = numV t := by
 cases l with
 | nil => cases h
 | cons t l =>
  simp only [nu] at h
  split at h
  ·rename_i hk; injection h with h; injection h with a b; subst a b; exact ⟨t, rfl, hk, rfl⟩
  ·cases h
theorem Rsx {l r : List Tok} {n : Int} (h : va l = some (n, r)) : ∃ t, l = t :: r ∧ 0 ≤ varV t ∧ n = varV t := by
 cases l with
 | nil => cases h
 | cons t l =>
  simp only [va] at h
  split at h
  ·rename_i hk; injection h with h; injection h with a b; subst a b; exact ⟨t, rfl, hk, rfl⟩
  ·cases h
theorem Rsq {l r : List Tok} {e : Exp} (h : en l = some (e, r)) : ex1 l = some (e, kS :: r) := by
 unfold en at h
 cases hx : ex1 l with
 | none => rw [hx] at h; cases h
 | some p =>
  rw [hx] at h
  simp only [Option.bind_some, Option.map_eq_some_iff] at h
  obtain ⟨q, h1, h2⟩ := h
  injection h2 with a b
  subst a b
  have := Red h1
  rw [← this]
theorem Rrp {t : Tok} {l r : List Tok} {b : List Stm} (h : smp (t :: l) = some (b, r)) : ∃ s, b = [s] ∧
    ((∃ u e, t = Ria ∧ 0 ≤ numV u ∧ (∃ r1, l = u :: r1 ∧ ex1 r1 = some (e, kS :: r)) ∧ s = ⟨4, 0, numV u, e, [], []⟩) ∨
     (∃ u w, t = Rjf ∧ 0 ≤ numV u ∧ 0 ≤ varV w ∧ l = u :: w :: kS :: r ∧ s = ⟨5, varV w, numV u, ⟨0, 0, []⟩, [], []⟩) ∨
     (t = Rgk ∧ l = kS :: r ∧ s = ⟨6, 0, 0, ⟨0, 0, []⟩, [], []⟩) ∨
     (∃ e, t = Rfs ∧ ex1 l = some (e, kS :: r) ∧ s = ⟨7, 0, 0, e, [], []⟩) ∨
     (∃ e, t ≠ Ria ∧ t ≠ Rjf ∧ t ≠ Rgk ∧ t ≠ Rfs ∧ 0 ≤ varV t ∧ (∃ r1, l = kE :: r1 ∧ ex1 r1 = some (e, kS :: r)) ∧ s = ⟨1, varV t, 0, e, [], []⟩)) := by
  simp only [smp] at h
  split at h
  · rename_i hk
    cases h1 : nu l with
    | none => rw [h1] at h; cases h
    | some p =>
      obtain ⟨n, l1⟩ := p
      rw [h1] at h
      simp only [Option.bind_some, Option.map_eq_some_iff] at h
      obtain ⟨⟨e, r1⟩, h2, h3⟩ := h
      injection h3 with a b
      subst a b
      obtain ⟨u, rfl, hu, rfl⟩ := Rml h1
      exact ⟨_, rfl, Or.inl ⟨u, e, hk, hu, ⟨_, rfl, Rsq h2⟩, rfl⟩⟩
  · split at h
    · rename_i hk
      cases h1 : nu l with
      | none => rw [h1] at h; cases h
      | some p =>
        obtain ⟨n, l1⟩ := p
        rw [h1] at h
        simp only [Option.bind_some] at h
        cases h2 : va l1 with
        | none => rw [h2] at h; cases h
        | some q =>
          obtain ⟨v, l2⟩ := q
          rw [h2] at h
          simp only [Option.bind_some, Option.map_eq_some_iff] at h
          obtain ⟨r1, h3, h4⟩ := h
          injection h4 with a b
          subst a b
          obtain ⟨u, rfl, hu, rfl⟩ := Rml h1
          obtain ⟨w, rfl, hw, rfl⟩ := Rsx h2
          have := Red h3
          subst this
          exact ⟨_, rfl, Or.inr (Or.inl ⟨u, w, hk, hu, hw, rfl, rfl⟩)⟩
    · split at h
      · rename_i hk
        simp only [Option.map_eq_some_iff] at h
        obtain ⟨r1, h3, h4⟩ := h
        injection h4 with a b
        subst a b
        exact ⟨_, rfl, Or.inr (Or.inr (Or.inl ⟨hk, Red h3, rfl⟩))⟩
      · split at h
        · rename_i hk
          simp only [Option.map_eq_some_iff] at h
          obtain ⟨⟨e, r1⟩, h3, h4⟩ := h
          injection h4 with a b
          subst a b
          exact ⟨_, rfl, Or.inr (Or.inr (Or.inr (Or.inl ⟨e, hk, Rsq h3, rfl⟩)))⟩
        · rename_i k1 k2 k3 k4
          cases h1 : va (t :: l) with
          | none => rw [h1] at h; cases h
          | some p =>
            obtain ⟨v, l1⟩ := p
            rw [h1] at h
            simp only [Option.bind_some] at h
            cases h2 : nd kE l1 with
            | none => rw [h2] at h; cases h
            | some q =>
              rw [h2] at h
              simp only [Option.bind_some, Option.map_eq_some_iff] at h
              obtain ⟨⟨e, r1⟩, h3, h4⟩ := h
              injection h4 with a b
              subst a b
              obtain ⟨u, hu1, hu, rfl⟩ := Rsx h1
              injection hu1 with a b
              subst a b
              have := Red h2
              exact ⟨_, rfl, Or.inr (Or.inr (Or.inr (Or.inr ⟨e, k1, k2, k3, k4, hu, ⟨_, this, Rsq h3⟩, rfl⟩)))⟩
theorem Ras (k : Tok) (l : List Tok) : nd k (k :: l) = some l := by simp [nd]
theorem Rsv {u : Tok} (h : 0 ≤ numV u) (l : List Tok) : nu (u :: l) = some (numV u, l) := by simp only [nu]; rw [if_pos h]
theorem Rws {u : Tok} (h : 0 ≤ varV u) (l : List Tok) : va (u :: l) = some (varV u, l) := by simp only [va]; rw [if_pos h]
theorem Rsp {l r : List Tok} {e : Exp} (h : ex1 l = some (e, kS :: r)) : en l = some (e, r) := by unfold en; rw [h]; simp [Ras]
theorem Rxq {u : Tok} {l r : List Tok} {e : Exp} (hu : 0 ≤ numV u) (h : ex1 l = some (e, kS :: r)) : smp (Ria :: u :: l) = some ([⟨4, 0, numV u, e, [], []⟩], r) := by
 simp only [smp, if_true]; rw [Rsv hu]; simp [Rsp h]
theorem Rxp {u w : Tok} (r : List Tok) (hu : 0 ≤ numV u) (hw : 0 ≤ varV w) : smp (Rjf :: u :: w :: kS :: r) = some ([⟨5, varV w, numV u, ⟨0, 0, []⟩, [], []⟩], r) := by
 simp only [smp, if_true]; rw [if_neg (by decide), Rsv hu]; simp [Rws hw, Ras]
theorem Rwm (r : List Tok) : smp (Rgk :: kS :: r) = some ([⟨6, 0, 0, ⟨0, 0, []⟩, [], []⟩], r) := by
 simp only [smp, if_true]; rw [if_neg (by decide), if_neg (by decide), Ras]; rfl
theorem Rwl {l r : List Tok} {e : Exp} (h : ex1 l = some (e, kS :: r)) : smp (Rfs :: l) = some ([⟨7, 0, 0, e, [], []⟩], r) := by
 simp only [smp, if_true]; rw [if_neg (by decide), if_neg (by decide), if_neg (by decide), Rsp h]; rfl
theorem smp_set {t : Tok} {l r : List Tok} {e : Exp} (hv : 0 ≤ varV t) (h : ex1 l = some (e, kS :: r)) : smp (t :: kE :: l) = some ([⟨1, varV t, 0, e, [], []⟩], r) := by
 have hk : ∀ k : Tok, varV k = -1 → t ≠ k := by intro k h1 h2; rw [h2, h1] at hv; omega
 simp only [smp]; rw [if_neg (hk _ rfl), if_neg (hk _ rfl), if_neg (hk _ rfl), if_neg (hk _ rfl), Rws hv]; simp [Ras, Rsp h]
theorem smp_suf {t : Tok} {l r : List Tok} {b : List Stm} (h : smp (t :: l) = some (b, r)) : (∃ p, t :: l = p ++ r) ∧ r.length < (t :: l).length := by
 obtain ⟨s, rfl, hh⟩ := Rrp h
 clear h
 rcases hh with ⟨u, e, rfl, hu, ⟨r1, rfl, h⟩, rfl⟩ | ⟨u, w, rfl, hu, hw, rfl, rfl⟩ | ⟨rfl, rfl, rfl⟩ | ⟨e, rfl, h, rfl⟩ | ⟨e, _, _, _, _, hv, ⟨r1, rfl, h⟩, rfl⟩
 ·obtain ⟨⟨p, hp⟩, hl⟩ := Rhx h
  exact ⟨⟨Ria :: u :: p ++ [kS], by rw [hp]; simp⟩, by simp only [Zc] at *; omega⟩
 ·exact ⟨⟨[Rjf, u, w, kS], rfl⟩, by simp only [Zc]; omega⟩
 ·exact ⟨⟨[Rgk, kS], rfl⟩, by simp only [Zc]; omega⟩
 ·obtain ⟨⟨p, hp⟩, hl⟩ := Rhx h
  exact ⟨⟨Rfs :: p ++ [kS], by rw [hp]; simp⟩, by simp only [Zc] at *; omega⟩
 ·obtain ⟨⟨p, hp⟩, hl⟩ := Rhx h
  exact ⟨⟨t :: kE :: p ++ [kS], by rw [hp]; simp⟩, by simp only [Zc] at *; omega⟩
theorem Rqy : ∀ {j : K} {l : List Tok} {o : GO}, G j l o → ∀ b r, o = some (b, r) → (∃ p, l = p ++ r) ∧ r.length < l.length := by
 intro j l o h
 induction h with
 | bk0 _ => intro b r ho; cases ho
 | bk h ih =>
  intro b r ho
  obtain ⟨⟨p, hp⟩, hl⟩ := ih b r ho
  exact ⟨⟨kL :: p, by rw [hp]; rfl⟩, by simp only [Zc]; omega⟩
 | lpE => intro b r ho; cases ho
 | lpS => intro b r ho; injection ho with ho; injection ho with a c; subst a c; exact ⟨⟨[kR], rfl⟩, by simp⟩
 | lpN _ _ _ => intro b r ho; cases ho
 | lpC _ _ _ ih1 ih2 =>
  intro b r ho
  obtain ⟨⟨p, hp⟩, hl⟩ := ih1 _ _ rfl
  obtain ⟨⟨q, hq⟩, hl2⟩ := ih2 b r ho
  exact ⟨⟨p ++ q, by rw [hp, hq, List.append_assoc]⟩, by omega⟩
 | smp _ _ h => intro b r ho; rw [ho] at h; exact smp_suf h
 | ifN _ => intro b r ho; cases ho
 | ifB _ _ _ => intro b r ho; cases ho
 | if1 h1 _ _ ih =>
  intro b r ho
  injection ho with ho; injection ho with a c; subst a c
  obtain ⟨⟨p, hp⟩, hl⟩ := Rhx h1
  obtain ⟨⟨q, hq⟩, hl2⟩ := ih _ _ rfl
  exact ⟨⟨kIf :: p ++ q, by rw [hp, hq]; simp⟩, by simp only [Zc]; omega⟩
 | if2 h1 _ _ ih ih2 =>
  intro b r ho
  injection ho with ho; injection ho with a c; subst a c
  obtain ⟨⟨p, hp⟩, hl⟩ := Rhx h1
  obtain ⟨⟨q, hq⟩, hl2⟩ := ih _ _ rfl
  obtain ⟨⟨q2, hq2⟩, hl3⟩ := ih2 _ _ rfl
  exact ⟨⟨kIf :: p ++ q ++ Rfw :: q2, by rw [hp, hq, hq2]; simp⟩, by simp only [Zc] at *; omega⟩
 | if3 _ _ _ _ _ => intro b r ho; cases ho
 | whN _ => intro b r ho; cases ho
 | whB _ _ _ => intro b r ho; cases ho
 | wh h1 _ ih =>
  intro b r ho
  injection ho with ho; injection ho with a c; subst a c
  obtain ⟨⟨p, hp⟩, hl⟩ := Rhx h1
  obtain ⟨⟨q, hq⟩, hl2⟩ := ih _ _ rfl
  exact ⟨⟨Rdb :: p ++ q, by rw [hp, hq]; simp⟩, by simp only [Zc]; omega⟩
theorem G_one : ∀ {j : K} {l : List Tok} {o : GO}, G j l o → j = .st → ∀ b r, o = some (b, r) → ∃ s, b = [s] := by
 intro j l o h
 cases h with
 | smp _ _ h =>
  intro _ b r ho
  rw [ho] at h
  obtain ⟨s, hs, _⟩ := Rrp h
  exact ⟨s, hs⟩
 | if1 _ _ _ => intro _ b r ho; injection ho with ho; injection ho with a c; exact ⟨_, a.symm⟩
 | if2 _ _ _ => intro _ b r ho; injection ho with ho; injection ho with a c; exact ⟨_, a.symm⟩
 | wh _ _ => intro _ b r ho; injection ho with ho; injection ho with a c; exact ⟨_, a.symm⟩
 | ifN _ => intro _ b r ho; cases ho
 | ifB _ _ => intro _ b r ho; cases ho
 | if3 _ _ _ => intro _ b r ho; cases ho
 | whN _ => intro _ b r ho; cases ho
 | whB _ _ => intro _ b r ho; cases ho
 | _ => intro hj; cases hj
theorem Rhe {k : Tok} {l : List Tok} : nd k (k :: l) ≠ none := by rw [Ras]; simp
theorem G_det : ∀ {j : K} {l : List Tok} {o : GO}, G j l o → ∀ o', G j l o' → o = o' := by
 intro j l o h
 induction h with
 | bk0 h => intro o' h'; cases h' with | bk0 _ => rfl | bk _ => exact absurd h Rhe
 | bk h ih => intro o' h'; cases h' with | bk0 h2 => exact absurd h2 Rhe | bk h2 => exact ih _ h2
 | lpE => intro o' h'; cases h'; rfl
 | lpS => intro o' h'; cases h' with | lpS => rfl | lpN h _ => exact absurd rfl h | lpC h _ _ => exact absurd rfl h
 | lpN h1 h2 ih =>
  intro o' h'
  cases h' with
  | lpS => exact absurd rfl h1
  | lpN _ _ => rfl
  | lpC _ h3 _ => have := ih _ h3; cases this
 | lpC h1 h2 h3 ih1 ih2 =>
  intro o' h'
  cases h' with
  | lpS => exact absurd rfl h1
  | lpN _ h4 => have := ih1 _ h4; cases this
  | lpC _ h4 h5 =>
   have := ih1 _ h4
   injection this with this; injection this with a b; injection a with a
   subst a b
   exact ih2 _ h5
 | smp h1 h2 h =>
  intro o' h'
  cases h' with
  | smp _ _ h3 => rw [← h, h3]
  | ifN _ => exact absurd rfl h1
  | ifB _ _ => exact absurd rfl h1
  | if1 _ _ _ => exact absurd rfl h1
  | if2 _ _ _ => exact absurd rfl h1
  | if3 _ _ _ => exact absurd rfl h1
  | whN _ => exact absurd rfl h2
  | whB _ _ => exact absurd rfl h2
  | wh _ _ => exact absurd rfl h2
 | ifN h =>
  intro o' h'
  cases h' with
  | smp h3 _ _ => exact absurd rfl h3
  | if1 h3 _ _ => rw [h] at h3; cases h3
  | if2 h3 _ _ => rw [h] at h3; cases h3
  | _ => rfl
 | ifB h hb ih =>
  intro o' h'
  cases h' with
  | smp h3 _ _ => exact absurd rfl h3
  | if1 h3 h4 _ => rw [h] at h3; injection h3 with h3; injection h3 with a b; subst a b; have := ih _ h4; cases this
  | if2 h3 h4 _ => rw [h] at h3; injection h3 with h3; injection h3 with a b; subst a b; have := ih _ h4; cases this
  | _ => rfl
 | if1 h hb hn ih =>
  intro o' h'
  cases h' with
  | smp h3 _ _ => exact absurd rfl h3
  | ifN h3 => rw [h] at h3; cases h3
  | ifB h3 h4 => rw [h] at h3; injection h3 with h3; injection h3 with a b; subst a b; have := ih _ h4; cases this
  | if1 h3 h4 _ => rw [h] at h3; injection h3 with h3; injection h3 with a b; subst a b; have := ih _ h4; injection this with this; injection this with a b; subst a b; rfl
  | if2 h3 h4 _ => rw [h] at h3; injection h3 with h3; injection h3 with a b; subst a b; have := ih _ h4; injection this with this; injection this with a b; subst a b; exact absurd hn Rhe
  | if3 h3 h4 _ => rw [h] at h3; injection h3 with h3; injection h3 with a b; subst a b; have := ih _ h4; injection this with this; injection this with a b; subst a b; exact absurd hn Rhe
 | if2 h hb hc ih ih2 =>
  intro o' h'
  cases h' with
  | smp h3 _ _ => exact absurd rfl h3
  | ifN h3 => rw [h] at h3; cases h3
  | ifB h3 h4 => rw [h] at h3; injection h3 with h3; injection h3 with a b; subst a b; have := ih _ h4; cases this
  | if1 h3 h4 hn => rw [h] at h3; injection h3 with h3; injection h3 with a b; subst a b; have := ih _ h4; injection this with this; injection this with a b; subst a b; exact absurd hn Rhe
  | if2 h3 h4 h5 =>
   rw [h] at h3; injection h3 with h3; injection h3 with a b; subst a b
   have := ih _ h4; injection this with this; injection this with a b; injection b with b c; subst a c
   have := ih2 _ h5; injection this with this; injection this with a b; subst a b; rfl
  | if3 h3 h4 h5 =>
   rw [h] at h3; injection h3 with h3; injection h3 with a b; subst a b
   have := ih _ h4; injection this with this; injection this with a b; injection b with b c; subst a c
   have := ih2 _ h5; cases this
 | if3 h hb hc ih ih2 =>
  intro o' h'
  cases h' with
  | smp h3 _ _ => exact absurd rfl h3
  | if1 h3 h4 hn => rw [h] at h3; injection h3 with h3; injection h3 with a b; subst a b; have := ih _ h4; injection this with this; injection this with a b; subst a b; exact absurd hn Rhe
  | if2 h3 h4 h5 =>
   rw [h] at h3; injection h3 with h3; injection h3 with a b; subst a b
   have := ih _ h4; injection this with this; injection this with a b; injection b with b c; subst a c
   have := ih2 _ h5; cases this
  | _ => rfl
 | whN h =>
  intro o' h'
  cases h' with
  | smp _ h3 _ => exact absurd rfl h3
  | wh h3 _ => rw [h] at h3; cases h3
  | _ => rfl
 | whB h hb ih =>
  intro o' h'
  cases h' with
  | smp _ h3 _ => exact absurd rfl h3
  | wh h3 h4 => rw [h] at h3; injection h3 with h3; injection h3 with a b; subst a b; have := ih _ h4; cases this
  | _ => rfl
 | wh h hb ih =>
  intro o' h'
  cases h' with
  | smp _ h3 _ => exact absurd rfl h3
  | whN h3 => rw [h] at h3; cases h3
  | whB h3 h4 => rw [h] at h3; injection h3 with h3; injection h3 with a b; subst a b; have := ih _ h4; cases this
  | wh h3 h4 => rw [h] at h3; injection h3 with h3; injection h3 with a b; subst a b; have := ih _ h4; injection this with this; injection this with a b; subst a b; rfl
theorem Rlx : ∀ (n : Nat) (l : List Tok), l.length < n → (∃ o, G .st l o ∨ l = []) ∧ (∃ o, G .bk l o) ∧ (∀ a, ∃ o, G (.lp a) l o)
 | 0, _, h => by omega
 | n + 1, l, hn => by
  have st : ∃ o, G .st l o ∨ l = [] := by
   cases l with
   | nil => exact ⟨none, Or.inr rfl⟩
   | cons t l =>
    simp only [Zc] at hn
    by_cases h1 : t = kIf
    ·subst h1
     cases hx : ex1 l with
     | none => exact ⟨_, Or.inl (.ifN hx)⟩
     | some p =>
      obtain ⟨e, r⟩ := p
      have hs := (Rhx hx).2
      obtain ⟨o, ho⟩ := (Rlx n r (by omega)).2.1
      cases o with
      | none => exact ⟨_, Or.inl (.ifB hx ho)⟩
      | some q =>
       obtain ⟨b, r2⟩ := q
       have hs2 := (Rqy ho b r2 rfl).2
       cases he : nd Rfw r2 with
       | none => exact ⟨_, Or.inl (.if1 hx ho he)⟩
       | some r3 =>
        have := Red he
        subst this
        simp only [Zc] at hs2
        obtain ⟨o2, ho2⟩ := (Rlx n r3 (by omega)).2.1
        cases o2 with
        | none => exact ⟨_, Or.inl (.if3 hx ho ho2)⟩
        | some q2 => exact ⟨_, Or.inl (.if2 hx ho ho2)⟩
    ·by_cases h2 : t = Rdb
     ·subst h2
      cases hx : ex1 l with
      | none => exact ⟨_, Or.inl (.whN hx)⟩
      | some p =>
       obtain ⟨e, r⟩ := p
       have hs := (Rhx hx).2
       obtain ⟨o, ho⟩ := (Rlx n r (by omega)).2.1
       cases o with
       | none => exact ⟨_, Or.inl (.whB hx ho)⟩
       | some q => exact ⟨_, Or.inl (.wh hx ho)⟩
     ·exact ⟨_, Or.inl (.smp h1 h2 rfl)⟩
  have lp : ∀ a, ∃ o, G (.lp a) l o := by
   intro a
   cases l with
   | nil => exact ⟨_, .lpE⟩
   | cons t l =>
    by_cases ht : t = kR
    ·subst ht; exact ⟨_, .lpS⟩
    ·obtain ⟨o, ho | h⟩ := st
     ·cases o with
      | none => exact ⟨_, .lpN ht ho⟩
      | some q =>
       obtain ⟨b, r⟩ := q
       obtain ⟨s, rfl⟩ := G_one ho rfl b r rfl
       have hs := (Rqy ho _ _ rfl).2
       obtain ⟨o2, ho2⟩ := (Rlx n r (by omega)).2.2 (a ++ [s])
       exact ⟨o2, .lpC ht ho ho2⟩
     ·cases h
  refine ⟨st, ?_, lp⟩
  cases hk : nd kL l with
  | none => exact ⟨_, .bk0 hk⟩
  | some r =>
   have := Red hk
   subst this
   simp only [Zc] at hn
   obtain ⟨o, ho⟩ := (Rlx n r (by omega)).2.2 []
   exact ⟨o, .bk ho⟩
theorem Ri {k : Tok} (hk : k ≠ []) {L l : List Tok} (hL : L.length ≤ 20000) (h : Suf L l) : Rb k L (plc L l) false = some (match nd k l with | some r => (true, L, (plc L r : Int), false) | none => (false, L, (plc L l : Int), false)) := by
 apply Rah
 cases l with
 | nil =>
  have hb : (([] : Tok) == k) = false := by rw [beq_eq_false_iff_ne]; exact fun e => hk e.symm
  rw [Rid, Rlc, Qb]
  simp only [hb, Zx, Zt, nd, Rid]
 | cons t l =>
  obtain ⟨hs2, hp, hlt, hg⟩ := h.tail
  rw [Rbw h, Qb]
  by_cases ht : t = k
  ·subst ht
   have hb : (t == t) = true := beq_self_eq_true t
   simp only [hb, Zv, Zf, nd, if_true]
   rw [w1n (by omega), hp]
  ·have hb : (t == k) = false := by rw [beq_eq_false_iff_ne]; exact ht
   simp only [hb, Zx, Zt, nd, ht, if_false]
theorem Rgd {k : Tok} (hk : k ≠ []) (L : List Tok) (p : Int) : Rb k L p true = some (false, L, p, true) := by
 apply Rah
 have hb : (([] : Tok) == k) = false := by rw [beq_eq_false_iff_ne]; exact fun e => hk e.symm
 rw [Rlb, Qb]
 simp only [hb, Zx, Zt]
theorem Riv {k : Tok} (hk : k ≠ []) {L l : List Tok} (hL : L.length ≤ 20000) (h : Suf L l) : Re k L (plc L l) false = some (match nd k l with | some r => (L, (plc L r : Int), false) | none => (L, (plc L l : Int), true)) := by
 apply Rao
 rw [Ri hk hL h, Qb]
 cases nd k l <;> rfl
theorem Rdv {k : Tok} (hk : k ≠ []) (L : List Tok) (p : Int) : Re k L p true = some (L, p, true) := by
 apply Rao
 rw [Rgd hk, Qb]; rfl
theorem Rwo (L : List Tok) (p : Int) : ∃ q, Rbo L p true = some ([], L, q, true) := by
 refine ⟨wrap64 (p + 1), ?_⟩
 apply Rdt
 rw [Rlb, Qb]; rfl
theorem Rlw (L : List Tok) (p : Int) : ∃ q, Rg L p true = some (0, L, q, true) := by
 obtain ⟨q, hq⟩ := Rwo L p
 refine ⟨q, ?_⟩
 apply Raz
 rw [hq, Qb]; rfl
theorem Rup (L : List Tok) (p : Int) : ∃ x q, Rc 1 L p true = some (x, L, q, true) := by
 obtain ⟨q, hq⟩ := Rlw L p
 refine ⟨⟨13, 0, []⟩, q, ?_⟩
 apply Rck
 have h1 : Rz L p true = some (⟨13, 0, []⟩, L, q, true) := by
  apply Rl
  rw [Rlb, Qb]
  simp only [show (([] : List UInt8) == [40]) = false from rfl, Zf, show (([] : List UInt8) == []) = true from rfl, Zv, hq, Qb]
 have hl : Ry 1 L q true 0 0 false [] 13 0 .share [] = some (L, q, true, 0, 0, (false, []), 13, 0, (.share, [])) := by
  apply Rae
  simp only [Zv, Zf]
 rw [h1, Qb]
 simp only [hl, Qb]
theorem Rjc (L : List Tok) (p : Int) (m : Bool) (a : List Stm) : Rt m a L p true = some ((m, a), L, p, true) := by
 apply Raj
 simp only [Zv, Zf]
theorem Rqe (L : List Tok) (p : Int) : Rai L p true = some ([], L, p, true) := by
 apply Rdi
 rw [Rdv (by simp), Qb]
 simp only [Rjc, Qb]
theorem Rjd {L l : List Tok} (hL : L.length ≤ 20000) (hg : ∀ t ∈ L, gt t) (h : Suf L l) : match nu l with
  | some (n, r) => Ru L (plc L l) false = some (n, L, (plc L r : Int), false)
  | none => ∃ q, Ru L (plc L l) false = some (0, L, q, true) := by
 cases l with
 | nil =>
  obtain ⟨q, hq⟩ := Rru L
  refine ⟨q, ?_⟩
  apply Rbt
  rw [Rid, hq, Qb]; rfl
 | cons t l =>
  obtain ⟨c, r, rfl, hd⟩ := hg t h.mem
  cases hc : dg c
  ·have hn : ¬ 0 ≤ numV (c :: r) := fun h => by have := Rvi h c (List.mem_cons_self ..); rw [hc] at this; cases this
   simp only [nu, hn, if_false]
   refine ⟨(plc L l : Int), ?_⟩
   apply Rbt
   rw [Rlt hL h (by simp), Qb]
   have hb : ((c :: r : Tok) == []) = false := rfl
   simp only [hb, Zf]
   by_cases h5 : (5 : Int) < ((c :: r : Tok).length : Int)
   ·simp only [h5, Zy, Zt]
   ·simp only [h5, Zz, Zf, Rkn, Qb, Rcb, hc, Zx, Zt]
  ·by_cases hn : 0 ≤ numV (c :: r)
   ·simp only [nu, hn, if_true]
    exact (Ric hL h (hd hc)).1 hn
   ·simp only [nu, hn, if_false]
    exact ⟨_, (Ric hL h (hd hc)).2 hn⟩
theorem Rnl {L l : List Tok} (hL : L.length ≤ 20000) (hg : ∀ t ∈ L, gt t) (h : Suf L l) : match va l with
  | some (n, r) => Rg L (plc L l) false = some (n, L, (plc L r : Int), false)
  | none => ∃ q, Rg L (plc L l) false = some (0, L, q, true) := by
 cases l with
 | nil =>
  obtain ⟨q, hq⟩ := Rru L
  refine ⟨q, ?_⟩
  apply Raz
  rw [Rid, hq, Qb]; rfl
 | cons t l =>
  obtain ⟨c, r, rfl, hd⟩ := hg t h.mem
  by_cases hn : 0 ≤ varV (c :: r)
  ·simp only [va, hn, if_true]
   exact (Rgb hL h (by simp)).1 hn
  ·simp only [va, hn, if_false]
   exact ⟨_, (Rgb hL h (by simp)).2 hn⟩
theorem Rfv {L l : List Tok} (hL : L.length ≤ 20000) (hg : ∀ t ∈ L, gt t) (h : Suf L l) : IA L (Rc 1 L (plc L l) false) (ex1 l) :=
 impl_C (P_C (Rxb l)) L hL hg h (by omega) (Nat.le_refl 1)
theorem Rsg {k : Tok} {L l r : List Tok} (hs : Suf L l) (h : nd k l = some r) : Suf L r := by rw [Red h] at hs; exact hs.tail.1
theorem Rtr {L l r : List Tok} {n : Int} (hs : Suf L l) (h : nu l = some (n, r)) : Suf L r := by obtain ⟨t, rfl, _⟩ := Rml h; exact hs.tail.1
theorem Ryk {L l r : List Tok} {n : Int} (hs : Suf L l) (h : va l = some (n, r)) : Suf L r := by obtain ⟨t, rfl, _⟩ := Rsx h; exact hs.tail.1
theorem Roo {L l r : List Tok} {e : Exp} (hs : Suf L l) (h : ex1 l = some (e, r)) : Suf L r := hs.trans (Rhx h).1
def RS (L : List Tok) (f : Option (Stm × List Tok × Int × Bool)) (o : GO) : Prop := match o with
 | some (b, r) => ∃ s, b = [s] ∧ f = some (s, L, (plc L r : Int), false)
 | none => ∃ x p, f = some (x, L, p, true)
def RB (L : List Tok) (f : Option (List Stm × List Tok × Int × Bool)) (o : GO) : Prop := match o with
 | some (b, r) => f = some (b, L, (plc L r : Int), false)
 | none => ∃ x p, f = some (x, L, p, true)
def RL (L : List Tok) (f : Option ((Bool × List Stm) × List Tok × Int × Bool)) (o : GO) : Prop := match o with
 | some (b, r) => ∃ m, f = some ((m, b), L, (plc L r : Int), false)
 | none => ∃ x p, f = some (x, L, p, true)
theorem Run {L l : List Tok} (hL : L.length ≤ 20000) (hg : ∀ t ∈ L, gt t) (h : Suf L l) (F : Exp → Stm) (F' : Exp → Stm) (hF : ∀ e, F' e = F e) :
  RS L (bnd (Rc 1 L (plc L l) false) fun r => bnd (Re [59] r.2.1 r.2.2.1 r.2.2.2) fun q => some (F' r.1, q.1, q.2.1, q.2.2)) ((en l).map fun q => ([F q.1], q.2)) := by
 have h1 := Rfv hL hg h
 unfold en
 cases hx : ex1 l with
 | none =>
  rw [hx] at h1
  obtain ⟨x, p, h1⟩ := h1
  exact ⟨F' x, p, by rw [h1, Qb, Rdv (by simp), Qb]⟩
 | some q =>
  obtain ⟨e, r⟩ := q
  rw [hx] at h1
  have h1 : _ = _ := h1
  rw [h1, Qb]
  simp only [Option.bind_some]
  rw [Riv (by simp) hL (Roo h hx), Qb]
  change RS L _ ((Option.map _ (nd [59] r)).map _)
  cases nd [59] r with
  | none => exact ⟨_, _, rfl⟩
  | some r2 => exact ⟨_, rfl, by rw [hF]⟩
theorem Rrg (L : List Tok) (p : Int) (F : Exp → Stm) : ∃ x q, (bnd (Rc 1 L p true) fun r => bnd (Re [59] r.2.1 r.2.2.1 r.2.2.2) fun q => some (F r.1, q.1, q.2.1, q.2.2)) = some (x, L, q, true) := by
 obtain ⟨x, q, h⟩ := Rup L p
 exact ⟨F x, q, by rw [h, Qb, Rdv (by simp), Qb]⟩
theorem ndN {k t : Tok} {l : List Tok} (h : t ≠ k) : nd k (t :: l) = none := by simp only [nd]; rw [if_neg h]
theorem Rtu {L l : List Tok} (hL : L.length ≤ 20000) (hg : ∀ t ∈ L, gt t) (h : Suf L l) (h1 : nd kIf l = none) (h2 : nd Rdb l = none) : RS L (Rbn L (plc L l) false) (smp l) := by
 have main : ∀ f, RS L f (smp l) → (∀ v, f = some v → Rbn L (plc L l) false = some v) → RS L (Rbn L (plc L l) false) (smp l) := by
  intro f hf hv
  cases hs : smp l with
  | none => rw [hs] at hf; obtain ⟨x, p, hf⟩ := hf; exact ⟨x, p, hv _ hf⟩
  | some q =>
   obtain ⟨b, r⟩ := q
   rw [hs] at hf
   obtain ⟨s, hb, hf⟩ := hf
   exact ⟨s, hb, hv _ hf⟩
 refine main _ ?_ (fun v hv => Rr _ _ _ v hv)
 rw [Ri (k := [105, 102]) (by simp) hL h, show nd [105, 102] l = none from h1, Qb]
 simp only [Zf]
 rw [Ri (k := [119, 104, 105, 108, 101]) (by simp) hL h, show nd [119, 104, 105, 108, 101] l = none from h2, Qb]
 simp only [Zf]
 rw [Ri (k := [115, 101, 110, 100]) (by simp) hL h, Qb]
 cases h3 : nd [115, 101, 110, 100] l with
 | some l1 =>
  have hs1 := Rsg h h3
  have := Red h3
  subst this
  simp only [Zt]
  have hn := Rjd hL hg hs1
  have hsm : smp (([115, 101, 110, 100] : Tok) :: l1) = (nu l1).bind fun p => (en p.2).map fun q => ([⟨4, 0, p.1, q.1, [], []⟩], q.2) := by
   simp only [smp, Ria, if_true]
  rw [hsm]
  cases hu : nu l1 with
  | none =>
   rw [hu] at hn
   obtain ⟨q, hn⟩ := hn
   rw [hn, Qb]
   exact Rrg L q fun e => ⟨4, 0, 0, ⟨e.op, e.n, e.args⟩, [], []⟩
  | some p =>
   obtain ⟨n, r⟩ := p
   rw [hu] at hn
   have hn : _ = _ := hn
   rw [hn, Qb]
   exact Run hL hg (Rtr hs1 hu) (fun e => ⟨4, 0, n, e, [], []⟩) (fun e => ⟨4, 0, n, ⟨e.op, e.n, e.args⟩, [], []⟩) (fun e => by rw [Rag])
 | none =>
  simp only [Zf]
  rw [Ri (k := [114, 101, 99, 118]) (by simp) hL h, Qb]
  cases h4 : nd [114, 101, 99, 118] l with
  | some l1 =>
   have hs1 := Rsg h h4
   have := Red h4
   subst this
   simp only [Zt]
   have hn := Rjd hL hg hs1
   have hsm : smp (([114, 101, 99, 118] : Tok) :: l1) = (nu l1).bind fun p => (va p.2).bind fun q => (nd kS q.2).map fun r => ([⟨5, q.1, p.1, ⟨0, 0, []⟩, [], []⟩], r) := by
    simp only [smp, Ria, Rjf, if_true]
    rw [if_neg (by decide)]
   rw [hsm]
   cases hu : nu l1 with
   | none =>
    rw [hu] at hn
    obtain ⟨q, hn⟩ := hn
    obtain ⟨q2, hv⟩ := Rlw L q
    exact ⟨_, q2, by rw [hn, Qb, hv, Qb, Rdv (by simp), Qb]⟩
   | some p =>
    obtain ⟨n, r⟩ := p
    rw [hu] at hn
    have hn : _ = _ := hn
    have hs2 := Rtr hs1 hu
    rw [hn, Qb]
    have hv := Rnl hL hg hs2
    simp only [Option.bind_some]
    cases hw : va r with
    | none =>
     rw [hw] at hv
     obtain ⟨q, hv⟩ := hv
     exact ⟨_, q, by rw [hv, Qb, Rdv (by simp), Qb]⟩
    | some p2 =>
     obtain ⟨v, r2⟩ := p2
     rw [hw] at hv
     have hv : _ = _ := hv
     rw [hv, Qb, Riv (by simp) hL (Ryk hs2 hw), Qb]
     simp only [Option.bind_some]
     change RS L _ (Option.map _ (nd [59] r2))
     cases nd [59] r2 with
     | none => exact ⟨_, _, rfl⟩
     | some r3 => exact ⟨_, rfl, rfl⟩
  | none =>
   simp only [Zf]
   rw [Ri (k := [121, 105, 101, 108, 100]) (by simp) hL h, Qb]
   cases h5 : nd [121, 105, 101, 108, 100] l with
   | some l1 =>
    have hs1 := Rsg h h5
    have := Red h5
    subst this
    simp only [Zt]
    have hsm : smp (([121, 105, 101, 108, 100] : Tok) :: l1) = (nd kS l1).map fun r => ([⟨6, 0, 0, ⟨0, 0, []⟩, [], []⟩], r) := by
     simp only [smp, Ria, Rjf, Rgk, if_true]
     rw [if_neg (by decide), if_neg (by decide)]
    rw [hsm, Riv (by simp) hL hs1, Qb]
    change RS L _ (Option.map _ (nd [59] l1))
    cases nd [59] l1 with
    | none => exact ⟨_, _, rfl⟩
    | some r3 => exact ⟨_, rfl, rfl⟩
   | none =>
    simp only [Zf]
    rw [Ri (k := [112, 114, 105, 110, 116]) (by simp) hL h, Qb]
    cases h6 : nd [112, 114, 105, 110, 116] l with
    | some l1 =>
     have hs1 := Rsg h h6
     have := Red h6
     subst this
     simp only [Zt]
     have hsm : smp (([112, 114, 105, 110, 116] : Tok) :: l1) = (en l1).map fun q => ([⟨7, 0, 0, q.1, [], []⟩], q.2) := by
      simp only [smp, Ria, Rjf, Rgk, Rfs, if_true]
      rw [if_neg (by decide), if_neg (by decide), if_neg (by decide)]
     rw [hsm]
     exact Run hL hg hs1 (fun e => ⟨7, 0, 0, e, [], []⟩) (fun e => ⟨7, 0, 0, ⟨e.op, e.n, e.args⟩, [], []⟩) (fun e => by rw [Rag])
    | none =>
     simp only [Zf]
     have hsm : smp l = (va l).bind fun p => (nd kE p.2).bind fun r => (en r).map fun q => ([⟨1, p.1, 0, q.1, [], []⟩], q.2) := by
      cases l with
      | nil => rfl
      | cons t l =>
       have ne : ∀ k, nd k (t :: l) = none → t ≠ k := by intro k hk e; rw [e, Ras] at hk; cases hk
       simp only [smp]
       rw [if_neg (ne Ria h3), if_neg (ne Rjf h4), if_neg (ne Rgk h5), if_neg (ne Rfs h6)]
     rw [hsm]
     have hv := Rnl hL hg h
     cases hw : va l with
     | none =>
      rw [hw] at hv
      obtain ⟨q, hv⟩ := hv
      rw [hv, Qb, Rdv (by simp), Qb]
      exact Rrg L q fun e => ⟨1, 0, 0, ⟨e.op, e.n, e.args⟩, [], []⟩
     | some p =>
      obtain ⟨v, r⟩ := p
      rw [hw] at hv
      have hv : _ = _ := hv
      have hs2 := Ryk h hw
      rw [hv, Qb, Riv (by simp) hL hs2, Qb]
      simp only [Option.bind_some]
      change RS L _ (Option.bind (nd [61] r) _)
      cases he : nd [61] r with
      | none => exact Rrg L _ fun e => ⟨1, v, 0, ⟨e.op, e.n, e.args⟩, [], []⟩
      | some r2 => exact Run hL hg (Rsg hs2 he) (fun e => ⟨1, v, 0, e, [], []⟩) (fun e => ⟨1, v, 0, ⟨e.op, e.n, e.args⟩, [], []⟩) (fun e => by rw [Rag])
theorem Ryd : ∀ {j : K} {l : List Tok} {o : GO}, G j l o → ∀ L : List Tok, L.length ≤ 20000 → (∀ t ∈ L, gt t) → Suf L l → match j with
  | .st => RS L (Rbn L (plc L l) false) o
  | .bk => RB L (Rai L (plc L l) false) o
  | .lp a => a.length ≤ plc L l → ∀ m, RL L (Rt m a L (plc L l) false) o := by
 intro j l o h
 induction h with
 | @bk0 l h =>
  intro L hL hg hs
  refine ⟨[], (plc L l : Int), ?_⟩
  apply Rdi
  rw [Riv (by simp) hL hs, show nd [123] l = none from h, Qb]
  simp only [Rjc, Qb]
 | @bk l o h ih =>
  intro L hL hg hs
  obtain ⟨hs2, hp, hlt, _⟩ := hs.tail
  have h1 := ih L hL hg hs2 (Nat.zero_le _) false
  have st : ∀ v, (bnd (Rt false [] L (plc L l) false) fun r => some (r.1.2, r.2.1, r.2.2.1, r.2.2.2)) = some v → Rai L (plc L (kL :: l)) false = some v := by
   intro v hv
   apply Rdi
   rw [Riv (by simp) hL hs, show nd [123] (kL :: l) = some l from Ras _ _, Qb]
   exact hv
  cases o with
  | none => obtain ⟨x, p, h1⟩ := h1; exact ⟨x.2, p, st _ (by rw [h1, Qb])⟩
  | some q =>
   obtain ⟨b, r⟩ := q
   obtain ⟨m, h1⟩ := h1
   exact st _ (by rw [h1, Qb])
 | @lpE a =>
  intro L hL hg hs ha m
  obtain ⟨x, p, h1⟩ := Rtu hL hg hs rfl rfl
  refine ⟨?_, p, ?_⟩
  rotate_left
  ·apply Raj
   simp only [Zx, Zt]
   rw [Ri (by simp) hL hs, Qb]
   simp only [nd, Zx, Zt]
   rw [h1, Qb]
   simp only [Rdw]
   rw [Rci (by rw [Rid] at ha; omega), Qb, Rjc]
 | @lpS a l =>
  intro L hL hg hs ha m
  refine ⟨m, ?_⟩
  apply Raj
  simp only [Zx, Zt]
  rw [Ri (by simp) hL hs, show nd [125] (kR :: l) = some l from Ras _ _, Qb]
  rfl
 | @lpN a t l ht h ih =>
  intro L hL hg hs ha m
  obtain ⟨hs2, hp, hlt, _⟩ := hs.tail
  obtain ⟨x, p, h1⟩ := ih L hL hg hs
  refine ⟨?_, p, ?_⟩
  rotate_left
  ·apply Raj
   simp only [Zx, Zt]
   rw [Ri (by simp) hL hs, show nd [125] (t :: l) = none from ndN ht, Qb]
   simp only [Zx, Zt]
   rw [h1, Qb]
   simp only [Rdw]
   rw [Rci (by omega), Qb, Rjc]
 | @lpC a t l r s o ht h1 h2 ih1 ih2 =>
  intro L hL hg hs ha m
  obtain ⟨hs2, hp, hlt, _⟩ := hs.tail
  obtain ⟨s', hb, e1⟩ := ih1 L hL hg hs
  injection hb with hb
  subst hb
  have hsf := Rqy h1 _ _ rfl
  have hs3 := hs.trans hsf.1
  have hpl : plc L (t :: l) + 1 ≤ plc L r := by
   have h3 := hsf.2
   obtain ⟨p, hp2⟩ := hs
   have : L.length = p.length + (t :: l).length := by rw [hp2, Za]
   unfold plc; omega
  have e2 := ih2 L hL hg hs3 (by rw [Za]; simp only [Zc, Zn]; omega) true
  have st : ∀ v, Rt true (a ++ [s]) L (plc L r) false = some v → Rt m a L (plc L (t :: l)) false = some v := by
   intro v hv
   apply Raj
   simp only [Zx, Zt]
   rw [Ri (by simp) hL hs, show nd [125] (t :: l) = none from ndN ht, Qb]
   simp only [Zx, Zt]
   rw [e1, Qb]
   simp only [Rdw]
   rw [Rci (by omega), Qb]
   exact hv
  cases o with
  | none => obtain ⟨x, p, e2⟩ := e2; exact ⟨x, p, st _ e2⟩
  | some q => obtain ⟨b, r'⟩ := q; obtain ⟨m', e2⟩ := e2; exact ⟨m', st _ e2⟩
 | @smp t l o h1 h2 h =>
  intro L hL hg hs
  rw [← h]
  exact Rtu hL hg hs (ndN h1) (ndN h2)
 | @ifN l h =>
  intro L hL hg hs
  have hs2 := hs.tail.1
  have e1 := Rfv hL hg hs2
  rw [h] at e1
  obtain ⟨x, p, e1⟩ := e1
  refine ⟨?_, p, ?_⟩
  rotate_left
  ·apply Rr
   rw [Ri (k := [105, 102]) (by simp) hL hs, show nd [105, 102] (kIf :: l) = some l from Ras _ _, Qb]
   simp only [Zt]
   rw [e1, Qb, Rqe, Qb, Rgd (by simp), Qb]
   rfl
 | @ifB l r e h hb ih =>
  intro L hL hg hs
  have hs2 := hs.tail.1
  have e1 := Rfv hL hg hs2
  rw [h] at e1
  have e1 : _ = _ := e1
  obtain ⟨x, p, e2⟩ := ih L hL hg (Roo hs2 h)
  refine ⟨?_, p, ?_⟩
  rotate_left
  ·apply Rr
   rw [Ri (k := [105, 102]) (by simp) hL hs, show nd [105, 102] (kIf :: l) = some l from Ras _ _, Qb]
   simp only [Zt]
   rw [e1, Qb, e2, Qb, Rgd (by simp), Qb]
   rfl
 | @if1 l r r2 e b h hb hn ih =>
  intro L hL hg hs
  have hs2 := hs.tail.1
  have e1 := Rfv hL hg hs2
  rw [h] at e1
  have e1 : _ = _ := e1
  have hs3 := Roo hs2 h
  have e2 := ih L hL hg hs3
  have e2 : _ = _ := e2
  have hs4 := hs3.trans (Rqy hb _ _ rfl).1
  refine ⟨_, rfl, ?_⟩
  apply Rr
  rw [Ri (k := [105, 102]) (by simp) hL hs, show nd [105, 102] (kIf :: l) = some l from Ras _ _, Qb]
  simp only [Zt]
  rw [e1, Qb, e2, Qb, Ri (by simp) hL hs4, show nd [101, 108, 115, 101] r2 = none from hn, Qb]
  simp only [Zf, Rag]
 | @if2 l r r2 r3 e b c h hb hc ih ih2 =>
  intro L hL hg hs
  have hs2 := hs.tail.1
  have e1 := Rfv hL hg hs2
  rw [h] at e1
  have e1 : _ = _ := e1
  have hs3 := Roo hs2 h
  have e2 := ih L hL hg hs3
  have e2 : _ = _ := e2
  have hs4 := hs3.trans (Rqy hb _ _ rfl).1
  have e3 := ih2 L hL hg hs4.tail.1
  have e3 : _ = _ := e3
  refine ⟨_, rfl, ?_⟩
  apply Rr
  rw [Ri (k := [105, 102]) (by simp) hL hs, show nd [105, 102] (kIf :: l) = some l from Ras _ _, Qb]
  simp only [Zt]
  rw [e1, Qb, e2, Qb, Ri (by simp) hL hs4, show nd [101, 108, 115, 101] (Rfw :: r2) = some r2 from Ras _ _, Qb]
  simp only [Zt]
  rw [e3, Qb]
  simp only [Rag]
 | @if3 l r r2 e b h hb hc ih ih2 =>
  intro L hL hg hs
  have hs2 := hs.tail.1
  have e1 := Rfv hL hg hs2
  rw [h] at e1
  have e1 : _ = _ := e1
  have hs3 := Roo hs2 h
  have e2 := ih L hL hg hs3
  have e2 : _ = _ := e2
  have hs4 := hs3.trans (Rqy hb _ _ rfl).1
  obtain ⟨x, p, e3⟩ := ih2 L hL hg hs4.tail.1
  refine ⟨?_, p, ?_⟩
  rotate_left
  ·apply Rr
   rw [Ri (k := [105, 102]) (by simp) hL hs, show nd [105, 102] (kIf :: l) = some l from Ras _ _, Qb]
   simp only [Zt]
   rw [e1, Qb, e2, Qb, Ri (by simp) hL hs4, show nd [101, 108, 115, 101] (Rfw :: r2) = some r2 from Ras _ _, Qb]
   simp only [Zt]
   rw [e3, Qb]
 | @whN l h =>
  intro L hL hg hs
  have hs2 := hs.tail.1
  have e1 := Rfv hL hg hs2
  rw [h] at e1
  obtain ⟨x, p, e1⟩ := e1
  refine ⟨?_, p, ?_⟩
  rotate_left
  ·apply Rr
   rw [Ri (k := [105, 102]) (by simp) hL hs, show nd [105, 102] (Rdb :: l) = none from ndN (by decide), Qb]
   simp only [Zf]
   rw [Ri (k := [119, 104, 105, 108, 101]) (by simp) hL hs, show nd [119, 104, 105, 108, 101] (Rdb :: l) = some l from Ras _ _, Qb]
   simp only [Zt]
   rw [e1, Qb, Rqe, Qb]
 | @whB l r e h hb ih =>
  intro L hL hg hs
  have hs2 := hs.tail.1
  have e1 := Rfv hL hg hs2
  rw [h] at e1
  have e1 : _ = _ := e1
  obtain ⟨x, p, e2⟩ := ih L hL hg (Roo hs2 h)
  refine ⟨?_, p, ?_⟩
  rotate_left
  ·apply Rr
   rw [Ri (k := [105, 102]) (by simp) hL hs, show nd [105, 102] (Rdb :: l) = none from ndN (by decide), Qb]
   simp only [Zf]
   rw [Ri (k := [119, 104, 105, 108, 101]) (by simp) hL hs, show nd [119, 104, 105, 108, 101] (Rdb :: l) = some l from Ras _ _, Qb]
   simp only [Zt]
   rw [e1, Qb, e2, Qb]
 | @wh l r r2 e b h hb ih =>
  intro L hL hg hs
  have hs2 := hs.tail.1
  have e1 := Rfv hL hg hs2
  rw [h] at e1
  have e1 : _ = _ := e1
  have e2 := ih L hL hg (Roo hs2 h)
  have e2 : _ = _ := e2
  refine ⟨_, rfl, ?_⟩
  apply Rr
  rw [Ri (k := [105, 102]) (by simp) hL hs, show nd [105, 102] (Rdb :: l) = none from ndN (by decide), Qb]
  simp only [Zf]
  rw [Ri (k := [119, 104, 105, 108, 101]) (by simp) hL hs, show nd [119, 104, 105, 108, 101] (Rdb :: l) = some l from Ras _ _, Qb]
  simp only [Zt]
  rw [e1, Qb, e2, Qb]
  simp only [Rag]
theorem Rtl (o n : Int) (as : List Exp) : emX ⟨o, n, as⟩ = emXs as := by rw [Rkm]
theorem Rwx {t : Tok} {e : Exp} (h : atom t = some e) : emX e = 0 := by
 by_cases h0 : 0 ≤ numV t
 ·rw [Rra h h0]; rfl
 ·rw [(Rod h h0).2]; rfl
theorem P_sz : ∀ {j : J} {l : List Tok} {o : Out}, P j l o → ∀ e r, o = some (e, r) → match j with
  | .loop _ e0 => emX e + 2 * r.length ≤ emX e0 + 2 * l.length
  | _ => emX e + 2 * r.length + 2 ≤ 2 * l.length := by
 intro j l o h
 induction h with
 | nil => intro e r ho; cases ho
 | atom h1 h2 => intro e r ho; injection ho with ho; injection ho with a b; subst a b; have := Rwx h2; simp only [Zc]; omega
 | bad _ _ => intro e r ho; cases ho
 | par h ih => intro e r ho; injection ho with ho; injection ho with a b; subst a b; have := ih _ _ rfl; simp only [Zc] at *; omega
 | parN _ _ => intro e r ho; cases ho
 | parE _ _ => intro e r ho; cases ho
 | parB _ _ _ => intro e r ho; cases ho
 | top hk h ih => intro e r ho; exact ih e r ho
 | levN hk h ih => intro e r ho; cases ho
 | levS hk h1 h2 ih1 ih2 =>
  intro e r ho
  have a := ih1 _ _ rfl
  have b := ih2 e r ho
  simp only at *; omega
 | stop hn => intro e r ho; injection ho with ho; injection ho with a b; subst a b; exact Nat.le_refl _
 | step hl h1 h2 ih1 ih2 =>
  intro e r ho
  have a := ih1 _ _ rfl
  have b := ih2 e r ho
  simp only [Rtl, Rrf, Zc] at *; omega
 | stepN hl h ih => intro e r ho; cases ho
theorem Rub {l r : List Tok} {e : Exp} (h : ex1 l = some (e, r)) : emX e + 2 * r.length + 2 ≤ 2 * l.length := P_sz (h ▸ Rxb l) e r rfl
theorem Rhd (k v b : Int) (e : Exp) (bd el : List Stm) : mSs [⟨k, v, b, e, bd, el⟩] = 1 + emX e + mSs bd + mSs el := by
 cases e
 rw [mSs_one, Rkd, Rtl]
 omega
theorem smp_sz {t : Tok} {l r : List Tok} {b : List Stm} (h : smp (t :: l) = some (b, r)) : mSs b + 2 * r.length ≤ 2 * (t :: l).length := by
 obtain ⟨s, rfl, hh⟩ := Rrp h
 clear h
 have z : mSs [] = 0 := rfl
 rcases hh with ⟨u, e, rfl, hu, ⟨r1, rfl, h⟩, rfl⟩ | ⟨u, w, rfl, hu, hw, rfl, rfl⟩ | ⟨rfl, rfl, rfl⟩ | ⟨e, rfl, h, rfl⟩ | ⟨e, _, _, _, _, hv, ⟨r1, rfl, h⟩, rfl⟩
 ·have := Rub h; rw [Rhd, z]; simp only [Zc] at *; omega
 ·rw [Rhd, z, Rtl]; simp only [Zc, emXs]; omega
 ·rw [Rhd, z, Rtl]; simp only [Zc, emXs]; omega
 ·have := Rub h; rw [Rhd, z]; simp only [Zc] at *; omega
 ·have := Rub h; rw [Rhd, z]; simp only [Zc] at *; omega
theorem G_sz : ∀ {j : K} {l : List Tok} {o : GO}, G j l o → ∀ b r, o = some (b, r) → match j with
  | .lp a => mSs b + 2 * r.length ≤ mSs a + 2 * l.length
  | _ => mSs b + 2 * r.length ≤ 2 * l.length := by
 intro j l o h
 have z : mSs [] = 0 := rfl
 induction h with
 | bk0 _ => intro b r ho; cases ho
 | bk h ih => intro b r ho; have := ih b r ho; simp only [Zc, z] at *; omega
 | lpE => intro b r ho; cases ho
 | lpS => intro b r ho; injection ho with ho; injection ho with a c; subst a c; simp only [Zc]; omega
 | lpN _ _ _ => intro b r ho; cases ho
 | lpC h1 h2 h3 ih1 ih2 =>
  intro b r ho
  have a := ih1 _ _ rfl
  have b := ih2 b r ho
  simp only [Req] at *; omega
 | smp h1 h2 h => intro b r ho; rw [ho] at h; exact smp_sz h
 | ifN _ => intro b r ho; cases ho
 | ifB _ _ _ => intro b r ho; cases ho
 | if1 h1 h2 h3 ih =>
  intro b r ho
  injection ho with ho; injection ho with a c; subst a c
  have := ih _ _ rfl
  have := Rub h1
  rw [Rhd]; simp only [Zc, z] at *; omega
 | if2 h1 _ _ ih ih2 =>
  intro b r ho
  injection ho with ho; injection ho with a c; subst a c
  have := ih _ _ rfl
  have := ih2 _ _ rfl
  have := Rub h1
  rw [Rhd]; simp only [Zc] at *; omega
 | if3 _ _ _ _ _ => intro b r ho; cases ho
 | whN _ => intro b r ho; cases ho
 | whB _ _ _ => intro b r ho; cases ho
 | wh h1 _ ih =>
  intro b r ho
  injection ho with ho; injection ho with a c; subst a c
  have := ih _ _ rfl
  have := Rub h1
  rw [Rhd]; simp only [Zc, z] at *; omega
inductive BR : List Int → List Tok → Option (List Int × List Tok) → Prop
 | stop {a : List Int} {l : List Tok} : nd kBox l = none → BR a l (some (a, l))
 | go {a : List Int} {l r : List Tok} {n : Int} {o : Option (List Int × List Tok)} : nu l = some (n, kS :: r) → BR (a ++ [n]) r o → BR a (kBox :: l) o
 | bad {a : List Int} {l : List Tok} : (nu l).bind (fun p => nd kS p.2) = none → BR a (kBox :: l) none
inductive TR : List (List Stm) → List Tok → Option (List (List Stm) × List Tok) → Prop
 | stop {a : List (List Stm)} {l : List Tok} : nd Rjg l = none → TR a l (some (a, l))
 | go {a : List (List Stm)} {l r : List Tok} {b : List Stm} {o : Option (List (List Stm) × List Tok)} : G .bk l (some (b, r)) → TR (a ++ [b]) r o → TR a (Rjg :: l) o
 | bad {a : List (List Stm)} {l : List Tok} : G .bk l none → TR a (Rjg :: l) none
theorem Rsz : ∀ (n : Nat) (l : List Tok) (a : List Int), l.length < n → ∃ o, BR a l o
 | 0, _, _, h => by omega
 | n + 1, l, a, h => by
  cases h1 : nd kBox l with
  | none => exact ⟨_, .stop h1⟩
  | some l1 =>
   have := Red h1
   subst this
   cases h2 : (nu l1).bind (fun p => nd kS p.2) with
   | none => exact ⟨_, .bad h2⟩
   | some r =>
    rw [Option.bind_eq_some_iff] at h2
    obtain ⟨⟨k, l2⟩, h3, h4⟩ := h2
    have := Red h4
    simp only at this
    subst this
    obtain ⟨u, hu, _⟩ := Rml h3
    subst hu
    simp only [Zc] at h
    obtain ⟨o, ho⟩ := Rsz n r (a ++ [k]) (by omega)
    exact ⟨o, .go h3 ho⟩
theorem Rta : ∀ (n : Nat) (l : List Tok) (a : List (List Stm)), l.length < n → ∃ o, TR a l o
 | 0, _, _, h => by omega
 | n + 1, l, a, h => by
  cases h1 : nd Rjg l with
  | none => exact ⟨_, .stop h1⟩
  | some l1 =>
   have := Red h1
   subst this
   simp only [Zc] at h
   obtain ⟨o, ho⟩ := (Rlx (l1.length + 1) l1 (Nat.lt_succ_self _)).2.1
   cases o with
   | none => exact ⟨_, .bad ho⟩
   | some q =>
    obtain ⟨b, r⟩ := q
    have := (Rqy ho b r rfl).2
    obtain ⟨o2, ho2⟩ := Rta n r (a ++ [b]) (by omega)
    exact ⟨o2, .go ho ho2⟩
theorem Rxv : ∀ {a : List Int} {l : List Tok} {o}, BR a l o → ∀ b r, o = some (b, r) → (∃ p, l = p ++ r) ∧ a.length + l.length ≥ b.length + r.length := by
 intro a l o h
 induction h with
 | stop h => intro b r ho; injection ho with ho; injection ho with a c; subst a c; exact ⟨⟨[], rfl⟩, Nat.le_refl _⟩
 | @go a l r n o h1 h2 ih =>
  intro b r ho
  obtain ⟨⟨p, hp⟩, hl⟩ := ih b r ho
  obtain ⟨u, hu, _⟩ := Rml h1
  subst hu hp
  refine ⟨⟨kBox :: u :: kS :: p, rfl⟩, ?_⟩
  simp only [Za, Zc, Zn] at *; omega
 | bad h => intro b r ho; cases ho
theorem Rya : ∀ {a : List (List Stm)} {l : List Tok} {o}, TR a l o → ∀ b r, o = some (b, r) → (∃ p, l = p ++ r) ∧ b.length + r.length ≤ a.length + l.length ∧ (∀ n, 2 * l.length ≤ n → (∀ x ∈ a, mSs x ≤ n) → ∀ x ∈ b, mSs x ≤ n) := by
 intro a l o h
 induction h with
 | stop h => intro b r ho; injection ho with ho; injection ho with a c; subst a c; exact ⟨⟨[], rfl⟩, Nat.le_refl _, fun n _ h => h⟩
 | @go a l r' b o h1 h2 ih =>
  intro b2 r ho
  obtain ⟨⟨p, hp⟩, hl, hm⟩ := ih b2 r ho
  obtain ⟨⟨q, hq⟩, hl2⟩ := Rqy h1 _ _ rfl
  have hz := G_sz h1 _ _ rfl
  refine ⟨⟨Rjg :: q ++ p, by rw [hq, hp]; simp⟩, ?_, ?_⟩
  ·simp only [Za, Zc, Zn] at *; omega
  ·intro n hn ha
   simp only [Zc] at hn hz
   refine hm n (by omega) (fun x hx => ?_)
   rcases List.mem_append.1 hx with hx | hx
   ·exact ha x hx
   ·rw [List.mem_singleton.1 hx]; omega
 | bad h => intro b r ho; cases ho
theorem Rqf {L : List Tok} {t4 : List Tok} {c0 : Bool} {c1 : Bool} {c3 : Bool} {y0 : List Int} {y1 : List (List Stm)} {y3 : List (List Stm)} (p : Int) (m : Bool) (a : List Int) : Rk t4 c0 y0 c1 y1 L p true m a c3 y3 = some (t4, (c0, y0), (c1, y1), L, p, true, (m, a), (c3, y3)) := by
 apply Ram
 rw [Rgd (by simp), Qb]; rfl
theorem Rus {L : List Tok} {t4 : List Tok} {c0 : Bool} {c1 : Bool} {c3 : Bool} {y0 : List Int} {y1 : List (List Stm)} {y3 : List (List Stm)} : ∀ {a : List Int} {l : List Tok} {o}, BR a l o → L.length ≤ 20000 → (∀ t ∈ L, gt t) → Suf L l → a.length + l.length ≤ 20000 → ∀ m, match o with
  | some (rs, r) => ∃ m', Rk t4 c0 y0 c1 y1 L (plc L l) false m a c3 y3 = some (t4, (c0, y0), (c1, y1), L, (plc L r : Int), false, (m', rs), (c3, y3))
  | none => ∃ p x, Rk t4 c0 y0 c1 y1 L (plc L l) false m a c3 y3 = some (t4, (c0, y0), (c1, y1), L, p, true, x, (c3, y3)) := by
 intro a l o h
 induction h with
 | @stop a l h =>
  intro hL hg hs ha m
  refine ⟨m, ?_⟩
  apply Ram
  rw [Ri (by simp) hL hs, show nd [98, 111, 120] l = none from h, Qb]; rfl
 | @go a l r n o h1 h2 ih =>
  intro hL hg hs ha m
  have hn := Rjd hL hg hs.tail.1
  rw [h1] at hn
  have hn : _ = _ := hn
  have hs3 := Rtr hs.tail.1 h1
  obtain ⟨u, hu, _⟩ := Rml h1
  have e2 := ih hL hg hs3.tail.1 (by subst hu; simp only [Za, Zc, Zn] at *; omega) true
  have st : ∀ v, Rk t4 c0 y0 c1 y1 L (plc L r) false true (a ++ [n]) c3 y3 = some v → Rk t4 c0 y0 c1 y1 L (plc L (kBox :: l)) false m a c3 y3 = some v := by
   intro v hv
   apply Ram
   rw [Ri (k := [98, 111, 120]) (by simp) hL hs, show nd [98, 111, 120] (kBox :: l) = some l from Ras _ _, Qb]
   simp only [Zt]
   rw [hn, Qb]
   dsimp only
   rw [Rci (by omega), Qb, Riv (by simp) hL hs3, show nd [59] (kS :: r) = some r from Ras _ _, Qb]
   exact hv
  cases o with
  | none => obtain ⟨p, x, e2⟩ := e2; exact ⟨p, x, st _ e2⟩
  | some q => obtain ⟨b, r'⟩ := q; obtain ⟨m', e2⟩ := e2; exact ⟨m', st _ e2⟩
 | @bad a l h =>
  intro hL hg hs ha m
  have hs2 := hs.tail.1
  have hn := Rjd hL hg hs2
  cases h1 : nu l with
  | none =>
   rw [h1] at hn
   obtain ⟨q, hn⟩ := hn
   refine ⟨q, (true, a ++ [0]), ?_⟩
   apply Ram
   rw [Ri (k := [98, 111, 120]) (by simp) hL hs, show nd [98, 111, 120] (kBox :: l) = some l from Ras _ _, Qb]
   simp only [Zt]
   rw [hn, Qb]
   dsimp only
   rw [Rci (by omega), Qb, Rdv (by simp), Qb, Rqf]
  | some p =>
   obtain ⟨n, r⟩ := p
   rw [h1] at hn h
   have hn : _ = _ := hn
   simp only [Option.bind_some] at h
   have hs3 := Rtr hs2 h1
   refine ⟨(plc L r : Int), (true, a ++ [n]), ?_⟩
   apply Ram
   rw [Ri (k := [98, 111, 120]) (by simp) hL hs, show nd [98, 111, 120] (kBox :: l) = some l from Ras _ _, Qb]
   simp only [Zt]
   rw [hn, Qb]
   dsimp only
   rw [Rci (by omega), Qb, Riv (by simp) hL hs3, show nd [59] r = none from h, Qb, Rqf]
theorem Rqw {L : List Tok} {t4 : List Tok} {c0 : Bool} {c1 : Bool} {y0 : List Int} {y1 : List (List Stm)} {m0 : Bool} {b0 : List Int} (p : Int) (m : Bool) (a : List (List Stm)) : Rn t4 c0 y0 c1 y1 L p true m0 b0 m a = some (t4, (c0, y0), (c1, y1), L, p, true, (m0, b0), (m, a)) := by
 apply Rbm
 rw [Rgd (by simp), Qb]; rfl
theorem impl_TR {L : List Tok} {t4 : List Tok} {c0 : Bool} {c1 : Bool} {y0 : List Int} {y1 : List (List Stm)} {m0 : Bool} {b0 : List Int} : ∀ {a : List (List Stm)} {l : List Tok} {o}, TR a l o → L.length ≤ 20000 → (∀ t ∈ L, gt t) → Suf L l → a.length + l.length ≤ 20000 → ∀ m, match o with
  | some (ts, r) => ∃ m', Rn t4 c0 y0 c1 y1 L (plc L l) false m0 b0 m a = some (t4, (c0, y0), (c1, y1), L, (plc L r : Int), false, (m0, b0), (m', ts))
  | none => ∃ p x, Rn t4 c0 y0 c1 y1 L (plc L l) false m0 b0 m a = some (t4, (c0, y0), (c1, y1), L, p, true, (m0, b0), x) := by
 intro a l o h
 induction h with
 | @stop a l h =>
  intro hL hg hs ha m
  refine ⟨m, ?_⟩
  apply Rbm
  rw [Ri (by simp) hL hs, show nd [116, 97, 115, 107] l = none from h, Qb]; rfl
 | @go a l r b o h1 h2 ih =>
  intro hL hg hs ha m
  have e1 := Ryd h1 L hL hg hs.tail.1
  have e1 : _ = _ := e1
  have hsf := Rqy h1 _ _ rfl
  have hs3 := hs.tail.1.trans hsf.1
  have e2 := ih hL hg hs3 (by have := hsf.2; simp only [Za, Zc, Zn] at *; omega) true
  have st : ∀ v, Rn t4 c0 y0 c1 y1 L (plc L r) false m0 b0 true (a ++ [b]) = some v → Rn t4 c0 y0 c1 y1 L (plc L (Rjg :: l)) false m0 b0 m a = some v := by
   intro v hv
   apply Rbm
   rw [Ri (k := [116, 97, 115, 107]) (by simp) hL hs, show nd [116, 97, 115, 107] (Rjg :: l) = some l from Ras _ _, Qb]
   simp only [Zt]
   rw [e1, Qb]
   dsimp only
   rw [Rci (by omega), Qb]
   exact hv
  cases o with
  | none => obtain ⟨p, x, e2⟩ := e2; exact ⟨p, x, st _ e2⟩
  | some q => obtain ⟨b, r'⟩ := q; obtain ⟨m', e2⟩ := e2; exact ⟨m', st _ e2⟩
 | @bad a l h =>
  intro hL hg hs ha m
  obtain ⟨x, p, e1⟩ := Ryd h L hL hg hs.tail.1
  refine ⟨p, (true, a ++ [x]), ?_⟩
  apply Rbm
  rw [Ri (k := [116, 97, 115, 107]) (by simp) hL hs, show nd [116, 97, 115, 107] (Rjg :: l) = some l from Ras _ _, Qb]
  simp only [Zt]
  rw [e1, Qb]
  dsimp only
  rw [Rci (by omega), Qb, Rqw]
def PrF (t : List Tok) (p : Prg) : Prop := ∃ l, BR [] t (some (p.rooms, l)) ∧ TR [] l (some (p.tasks, []))
def Prm (s : List UInt8) (p : Prg) : Prop := s.length ≤ 20000 ∧ (∃ t, toks s = some t ∧ PrF t p) ∧ Rfd p = true
theorem Rxz {t : List Tok} {p : Prg} (h : PrF t p) (n : Nat) (hn : 2 * t.length ≤ n) : p.rooms.length ≤ n ∧ p.tasks.length ≤ n ∧ ∀ x ∈ p.tasks, mSs x ≤ n := by
 obtain ⟨l, h1, h2⟩ := h
 have a := (Rxv h1 _ _ rfl).2
 have b := Rya h2 _ _ rfl
 simp only [Zn] at a b
 exact ⟨by omega, by omega, b.2.2 n (by omega) (fun x hx => by cases hx)⟩
theorem Rsy : ∀ {a : List Int} {l : List Tok} {o}, BR a l o → ∀ o', BR a l o' → o = o' := by
 intro a l o h
 induction h with
 | stop h => intro o' h'; cases h' with | stop _ => rfl | go _ _ => exact absurd h Rhe | bad _ => exact absurd h Rhe
 | go h1 h2 ih =>
  intro o' h'
  cases h' with
  | stop h => exact absurd h Rhe
  | go h3 h4 => rw [h1] at h3; injection h3 with h3; injection h3 with a b; injection b with _ b; subst a b; exact ih _ h4
  | bad h => rw [h1, Option.bind_some, Ras] at h; cases h
 | bad h =>
  intro o' h'
  cases h' with
  | stop h2 => exact absurd h2 Rhe
  | go h1 h2 => rw [h1, Option.bind_some, Ras] at h; cases h
  | bad h => rfl
theorem Ruh : ∀ {a : List (List Stm)} {l : List Tok} {o}, TR a l o → ∀ o', TR a l o' → o = o' := by
 intro a l o h
 induction h with
 | stop h => intro o' h'; cases h' with | stop _ => rfl | go _ _ => exact absurd h Rhe | bad _ => exact absurd h Rhe
 | go h1 h2 ih =>
  intro o' h'
  cases h' with
  | stop h => exact absurd h Rhe
  | go h3 h4 => have := G_det h1 _ h3; injection this with this; injection this with a b; subst a b; exact ih _ h4
  | bad h => have := G_det h1 _ h; cases this
 | bad h =>
  intro o' h'
  cases h' with
  | stop h2 => exact absurd h2 Rhe
  | go h1 h2 => have := G_det h _ h1; cases this
  | bad h => rfl
theorem Rug {t : List Tok} {p q : Prg} (h1 : PrF t p) (h2 : PrF t q) : p = q := by
 obtain ⟨l, a, b⟩ := h1
 obtain ⟨l2, c, d⟩ := h2
 have e := Rsy a _ c
 injection e with e; injection e with e1 e2
 subst e2
 have f := Ruh b _ d
 injection f with f; injection f with f1 f2
 cases p; cases q
 simp only at e1 f1
 rw [e1, f1]
theorem impl_pf (s : List UInt8) : (∃ p, Prm s p ∧ Rav s = some (p, true)) ∨
  ((∀ p, ¬ Prm s p) ∧ Rav s = some (⟨[], []⟩, false)) := by
 by_cases hl : 20000 < s.length
 ·refine Or.inr ⟨fun p h => by have := h.1; omega, ?_⟩
  ·apply Rdr; rw [Rhk, if_pos hl, Qb]; rfl
 ·cases ht : toks s with
  | none =>
   refine Or.inr ⟨fun p h => ?_, ?_⟩
   ·obtain ⟨_, ⟨t, h1, _⟩, _⟩ := h
    rw [ht] at h1; cases h1
   ·apply Rdr; rw [Rhk, if_neg hl, ht, Qb]; rfl
  | some t =>
   have hlen := Rtw ht
   have hL : t.length ≤ 20000 := by omega
   have hg := toks_gt ht
   obtain ⟨hs, h0⟩ := suf_all t
   have no : (∀ p, PrF t p → Rfd p = false) → (∀ p, ¬ Prm s p) := by
    intro h p hp
    obtain ⟨_, ⟨t', h1, h2⟩, h3⟩ := hp
    rw [ht] at h1; injection h1 with h1; subst h1
    rw [h p h2] at h3; cases h3
   have ist : ∀ v, (bnd (Rk t false [] false [] t 0 false false [] false []) fun r2 =>
     bnd (Rn r2.1 r2.2.1.1 r2.2.1.2 r2.2.2.1.1 r2.2.2.1.2 r2.2.2.2.1 r2.2.2.2.2.1 r2.2.2.2.2.2.1 r2.2.2.2.2.2.2.1.1 r2.2.2.2.2.2.2.1.2 r2.2.2.2.2.2.2.2.1 r2.2.2.2.2.2.2.2.2) fun r3 =>
     (bif r3.2.2.2.2.2.1 then some ((⟨[], []⟩ : Prg), false) else
     (bif (!decide (r3.2.2.2.2.1 = (r3.1.length : Int))) then some (⟨[], []⟩, false) else
     bnd (Ran (⟨r3.2.2.2.2.2.2.1.2, r3.2.2.2.2.2.2.2.2⟩ : Prg)) fun r4 =>
     (bif (!r4) then some (⟨[], []⟩, false) else some (⟨r3.2.2.2.2.2.2.1.2, r3.2.2.2.2.2.2.2.2⟩, true))))) = some v → Rav s = some v := by
    intro v hv
    apply Rdr
    rw [Rhk, if_neg hl, ht, Qb]
    exact hv
   obtain ⟨o1, b1⟩ := Rsz (t.length + 1) t [] (Nat.lt_succ_self _)
   cases o1 with
   | none =>
    refine Or.inr ⟨no fun p ⟨l, a, b⟩ => ?_, ?_⟩
    ·have := Rsy b1 _ a; cases this
    ·obtain ⟨p, x, e1⟩ := Rus (t4 := t) (c0 := false) (c1 := false) (c3 := false) (y0 := []) (y1 := []) (y3 := []) b1 hL hg hs (by simpa using hL) false
     rw [h0] at e1
     apply ist
     rw [show Rk t false [] false [] t 0 false false [] false [] = _ from e1, Qb]
     dsimp only
     rw [Rqw, Qb]; rfl
   | some q =>
    obtain ⟨rs, l1⟩ := q
    have sf := Rxv b1 _ _ rfl
    have hs2 := hs.trans sf.1
    obtain ⟨m1, e1⟩ := Rus (t4 := t) (c0 := false) (c1 := false) (c3 := false) (y0 := []) (y1 := []) (y3 := []) b1 hL hg hs (by simpa using hL) false
    rw [h0] at e1
    obtain ⟨o2, t1⟩ := Rta (l1.length + 1) l1 [] (Nat.lt_succ_self _)
    have hl1 : ([] : List (List Stm)).length + l1.length ≤ 20000 := by have := sf.2; simp only [Zn] at *; omega
    have i2 := impl_TR (L := t) (t4 := t) (c0 := false) (c1 := false) (y0 := []) (y1 := []) (m0 := m1) (b0 := rs) t1 hL hg hs2 hl1 false
    have ist2 : ∀ v, (bnd (Rn t false [] false [] t (plc t l1) false m1 rs false []) fun r3 =>
      (bif r3.2.2.2.2.2.1 then some ((⟨[], []⟩ : Prg), false) else
      (bif (!decide (r3.2.2.2.2.1 = (r3.1.length : Int))) then some (⟨[], []⟩, false) else
      bnd (Ran (⟨r3.2.2.2.2.2.2.1.2, r3.2.2.2.2.2.2.2.2⟩ : Prg)) fun r4 =>
      (bif (!r4) then some (⟨[], []⟩, false) else some (⟨r3.2.2.2.2.2.2.1.2, r3.2.2.2.2.2.2.2.2⟩, true))))) = some v → Rav s = some v := by
     intro v hv
     apply ist
     rw [show Rk t false [] false [] t 0 false false [] false [] = _ from e1, Qb]
     exact hv
    cases o2 with
    | none =>
     refine Or.inr ⟨no fun p ⟨l, a, b⟩ => ?_, ?_⟩
     ·have := Rsy b1 _ a; injection this with this; injection this with _ this; subst this
      have := Ruh t1 _ b; cases this
     ·obtain ⟨p, x, i2⟩ := i2
      apply ist2
      rw [i2, Qb]; rfl
    | some q =>
     obtain ⟨ts, l2⟩ := q
     obtain ⟨m3, i2⟩ := i2
     have sf2 := Rya t1 _ _ rfl
     have hs3 := hs2.trans sf2.1
     by_cases he : l2 = []
     ·subst he
      have hpf : PrF t ⟨rs, ts⟩ := ⟨l1, b1, t1⟩
      have sz := Rxz hpf 40000 (by omega)
      have hpl : ((plc t [] : Nat) : Int) = (t.length : Int) := by rw [Rid]
      have iv : Ran ⟨rs, ts⟩ = some (Rfd ⟨rs, ts⟩) := Rfr (by have := sz.1; simp only at *; omega) (by have := sz.2.1; simp only at *; omega) (fun x hx => by have := sz.2.2 x hx; omega)
      cases ho : Rfd ⟨rs, ts⟩
      ·refine Or.inr ⟨no fun p hp => by rw [Rug hp hpf]; exact ho, ?_⟩
       ·apply ist2
        rw [i2, Qb]
        dsimp only
        rw [Zf, Zp hpl, Zv, Zf, iv, Qb, ho]; rfl
      ·refine Or.inl ⟨⟨rs, ts⟩, ⟨by omega, ⟨t, ht, hpf⟩, ho⟩, ?_⟩
       ·apply ist2
        rw [i2, Qb]
        dsimp only
        rw [Zf, Zp hpl, Zv, Zf, iv, Qb, ho]; rfl
     ·have hne : ¬ ((plc t l2 : Int) = (t.length : Int)) := by
       cases l2 with
       | nil => exact absurd rfl he
       | cons u l2 => have := hs3.tail.2.2.1; omega
      refine Or.inr ⟨no fun p ⟨l, a, b⟩ => ?_, ?_⟩
      ·have := Rsy b1 _ a; injection this with this; injection this with _ this; subst this
       have := Ruh t1 _ b; injection this with this; injection this with _ this; exact absurd this he
      ·apply ist2
       rw [i2, Qb]
       dsimp only
       rw [Zf, Zq hne]; rfl
def wl : List Tok → Nat
 | [] => 0
 | t :: l => t.length + 1 + wl l
theorem Rdn : ∀ a b : List Tok, wl (a ++ b) = wl a + wl b
 | [], b => by simp [wl]
 | t :: a, b => by simp only [List.cons_append, wl, Rdn a b]; omega
theorem wl_take (l : List Tok) (i : Nat) : wl (l.take i) ≤ wl l := by
 have h : wl (l.take i ++ l.drop i) = wl l := by rw [List.take_append_drop]
 rw [Rdn] at h; omega
theorem Rwt : ∀ {l : List Tok} {t : Tok}, t ∈ l → t.length + 1 ≤ wl l
 | a :: l, t, h => by
  rcases List.mem_cons.1 h with rfl | h
  ·simp only [wl]; omega
  ·have := Rwt h; simp only [wl]; omega
theorem Rnm : ∀ l : List Tok, l.length ≤ wl l
 | [] => Nat.le_refl _
 | t :: l => by have := Rnm l; simp only [wl, Zc]; omega
theorem Rxe : ∀ l : List Tok, (jn l).length ≤ wl l
 | [] => by simp [jn]
 | [a] => by simp only [jn, wl]; omega
 | a :: b :: r => by
  have := Rxe (b :: r)
  simp only [jn, wl, Za, Zc] at *; omega
theorem Rpk {l : List Tok} (hw : wl l ≤ 1000000000) : ∀ (d i : Nat), i + d = l.length →
  ∃ x, Rau l (jn (l.take i)) i = some x ∧ selm x (fun y => some y) (fun z => some z.1) = some (if (l.drop i).all tvb = true then jn l else [])
 | 0, i, h => by
  refine ⟨.inl (jn (l.take i)), ?_, ?_⟩
  ·apply Rdd
   have h1 : ¬ ((i : Int) < l.length) := by omega
   simp only [h1, Zz, Zf]
  ·rw [List.drop_eq_nil_of_le (by omega), List.take_of_length_le (by omega)]; simp [selm]
 | d + 1, i, h => by
  have h1 : (i : Int) < l.length := by omega
  have hi : i < l.length := by omega
  have hg := Rda hi
  have hm := List.getElem_mem hi
  have hll := Rnm l
  have htk : l.take (i + 1) = l.take i ++ [l[i]] := by rw [List.take_succ_eq_append_getElem hi]
  have hlen := Rwt hm
  rw [List.drop_eq_getElem_cons hi, List.all_cons]
  cases hv : tvb l[i] with
  | false =>
   refine ⟨.inr ([], jn (l.take i)), ?_, ?_⟩
   ·apply Rdd
    simp only [h1, Zy, Zt, hg, Qb, Rhh (show (l[i]).length ≤ 1000000000 by omega), hv, Zx]
   ·simp [selm]
  | true =>
   obtain ⟨x, hx1, hx2⟩ := Rpk hw d (i + 1) (by omega)
   refine ⟨x, ?_, by rw [hx2]; simp⟩
   apply Rdd
   have hjl := Nat.le_trans (Rxe (l.take i)) (wl_take l i)
   simp only [h1, Zy, Zt, hg, Qb, Rhh (show (l[i]).length ≤ 1000000000 by omega), hv, Zv, Zf]
   by_cases h0 : i = 0
   ·subst h0
    simp only [show ¬ ((0 : Int) < ((0 : Nat) : Int)) by omega, Zz, Zf]
    rw [Riq (by omega), Qb, w1n (by omega)]
    have : jn (l.take 0) ++ l[0] = jn (l.take (0 + 1)) := by rw [htk]; rfl
    rw [this, hx1]
   ·simp only [show ((0 : Int) < (i : Int)) by omega, Zy, Zt]
    rw [Riq (by simp only [Zc, Zn]; omega), Qb, Riq (by simp only [Za, Zc, Zn]; omega), Qb, w1n (by omega)]
    have : jn (l.take i) ++ [32] ++ l[i] = jn (l.take (i + 1)) := by
     rw [htk, Ruu _ _ (by intro h; have := congrArg List.length h; rw [List.length_take, Zn] at this; omega), List.append_assoc]; rfl
    rw [this, hx1]
theorem Rmn {l : List Tok} (hw : wl l ≤ 1000000000) : Rgq l = some (if l.all tvb = true then jn l else []) := by
 apply Rli
 obtain ⟨x, hx1, hx2⟩ := Rpk hw l.length 0 (by omega)
 rw [List.drop_zero] at hx2
 rw [show Rau l [] 0 = some x from hx1, Qb, hx2]
theorem Ros {l : List Tok} (hw : wl l ≤ 1000000000) : ∀ (d i : Nat), i + d = l.length →
  Rbs l l l.length i = some (if (l.drop i).all tvb = true then .inl l else .inr (l, []))
 | 0, i, h => by
  apply Rez
  have h1 : ¬ ((i : Int) < l.length) := by omega
  simp only [h1, Zz, Zf]
  rw [List.drop_eq_nil_of_le (by omega)]; rfl
 | d + 1, i, h => by
  have h1 : (i : Int) < l.length := by omega
  have hi : i < l.length := by omega
  have hg := Rda hi
  have hlen := Rwt (List.getElem_mem hi)
  have hll := Rnm l
  rw [List.drop_eq_getElem_cons hi, List.all_cons]
  apply Rez
  simp only [h1, Zy, Zt, hg, Qb, Rko (show (l[i]).length ≤ 1000000000 by omega)]
  cases hv : tvb l[i] with
  | false => simp
  | true =>
   simp only [Zv, Zf, Bool.true_and]
   rw [w1n (by omega), Ros hw d (i + 1) (by omega)]
theorem Rmb {l : List Tok} (hw : wl l ≤ 1000000000) : Rgg l = some (if l.all tvb = true then jn l else []) := by
 apply Rkq
 have hx := Ros hw l.length 0 (by omega)
 have hll := Rnm l
 rw [List.drop_zero] at hx
 rw [show Rbs l l l.length 0 = _ from hx, Qb]
 have hj : strings_Join l [32] = some (jn l) := by
  apply Rpn
  have := Rxe l
  rw [if_pos ⟨by unfold LIM; omega, by rw [Rss]; unfold LIM; omega⟩, Rss]
 by_cases h : l.all tvb = true
 ·simp only [h, if_true, selm, hj, Qb]
 ·simp only [h, if_false, selm, Bool.false_eq_true]
def vT (v : Int) : Tok := [UInt8.ofNat (97 + v.toNat)]
mutual
def sT : Stm → List Tok
 | ⟨k, v, b, e, bd, el⟩ =>
  if k = 1 then vT v :: kE :: (eT 5 e ++ [kS])
  else if k = 2 then kIf :: (eT 5 e ++ (kL :: (bT bd ++ [kR]))) ++ (if el.length = 0 then [] else Rfw :: kL :: (bT el ++ [kR]))
  else if k = 3 then Rdb :: (eT 5 e ++ (kL :: (bT bd ++ [kR])))
  else if k = 4 then Ria :: Lib.itoa b :: (eT 5 e ++ [kS])
  else if k = 5 then [Rjf, Lib.itoa b, vT v, kS]
  else if k = 6 then [Rgk, kS]
  else Rfs :: (eT 5 e ++ [kS])
def bT : List Stm → List Tok
 | [] => []
 | s :: r => sT s ++ bT r
end
theorem sT_eq (s : Stm) : sT s = if s.kind = 1 then vT s.var :: kE :: (eT 5 s.e ++ [kS])
  else if s.kind = 2 then kIf :: (eT 5 s.e ++ (kL :: (bT s.body ++ [kR]))) ++ (if s.els.length = 0 then [] else Rfw :: kL :: (bT s.els ++ [kR]))
  else if s.kind = 3 then Rdb :: (eT 5 s.e ++ (kL :: (bT s.body ++ [kR])))
  else if s.kind = 4 then Ria :: Lib.itoa s.box :: (eT 5 s.e ++ [kS])
  else if s.kind = 5 then [Rjf, Lib.itoa s.box, vT s.var, kS]
  else if s.kind = 6 then [Rgk, kS]
  else Rfs :: (eT 5 s.e ++ [kS]) := by cases s; simp only [sT]
theorem Rhg {s : Stm} (h : hdr s) :
  (s.kind = 1 ∧ 0 ≤ s.var ∧ s.var < 4 ∧ s.box = 0 ∧ Rac 5 s.e = true ∧ s.body = [] ∧ s.els = [] ∧ sT s = vT s.var :: kE :: (eT 5 s.e ++ [kS])) ∨
  (s.kind = 2 ∧ s.var = 0 ∧ s.box = 0 ∧ Rac 5 s.e = true ∧ sT s = kIf :: (eT 5 s.e ++ (kL :: (bT s.body ++ [kR]))) ++ (if s.els.length = 0 then [] else Rfw :: kL :: (bT s.els ++ [kR]))) ∨
  (s.kind = 3 ∧ s.var = 0 ∧ s.box = 0 ∧ Rac 5 s.e = true ∧ s.els = [] ∧ sT s = Rdb :: (eT 5 s.e ++ (kL :: (bT s.body ++ [kR])))) ∨
  (s.kind = 4 ∧ s.var = 0 ∧ 0 ≤ s.box ∧ s.box < 3 ∧ Rac 5 s.e = true ∧ s.body = [] ∧ s.els = [] ∧ sT s = Ria :: Lib.itoa s.box :: (eT 5 s.e ++ [kS])) ∨
  (s.kind = 5 ∧ 0 ≤ s.var ∧ s.var < 4 ∧ 0 ≤ s.box ∧ s.box < 3 ∧ s.e = ⟨0, 0, []⟩ ∧ s.body = [] ∧ s.els = [] ∧ sT s = [Rjf, Lib.itoa s.box, vT s.var, kS]) ∨
  (s.kind = 6 ∧ s.var = 0 ∧ s.box = 0 ∧ s.e = ⟨0, 0, []⟩ ∧ s.body = [] ∧ s.els = [] ∧ sT s = [Rgk, kS]) ∨
  (s.kind = 7 ∧ s.var = 0 ∧ s.box = 0 ∧ Rac 5 s.e = true ∧ s.body = [] ∧ s.els = [] ∧ sT s = Rfs :: (eT 5 s.e ++ [kS])) := by
 have z : ∀ {α : Type} {l : List α}, (l.length : Int) = 0 → l = [] := fun h => (len0 _).1 h
 have e0 : (s.e.op = 0 ∧ s.e.n = 0 ∧ (s.e.args.length : Int) = 0) → s.e = ⟨0, 0, []⟩ := by
  intro ⟨a, b, c⟩
  have := z c
  rw [← Rag s.e, a, b, this]
 rw [sT_eq]
 rcases h with ⟨k, a, b, c, d, e⟩ | ⟨k, a, b, c⟩ | ⟨k, a, b, c, d⟩ | ⟨k, a, b, c, d, e⟩ | ⟨k, a, b, c, d, e⟩ | ⟨k, a, b, c, d, e⟩ | ⟨k, a, b, c, d, e⟩
 ·exact Or.inl ⟨k, a.1, a.2, b, c, z d, z e, by rw [if_pos k]⟩
 ·exact Or.inr (Or.inl ⟨k, a, b, c, by rw [if_neg (by omega), if_pos k]⟩)
 ·exact Or.inr (Or.inr (Or.inl ⟨k, a, b, c, z d, by rw [if_neg (by omega), if_neg (by omega), if_pos k]⟩))
 ·exact Or.inr (Or.inr (Or.inr (Or.inl ⟨k, a, b.1, b.2, c, z d, z e, by rw [if_neg (by omega), if_neg (by omega), if_neg (by omega), if_pos k]⟩)))
 ·exact Or.inr (Or.inr (Or.inr (Or.inr (Or.inl ⟨k, a.1, a.2, b.1, b.2, e0 c, z d, z e, by rw [if_neg (by omega), if_neg (by omega), if_neg (by omega), if_neg (by omega), if_pos k]⟩))))
 ·exact Or.inr (Or.inr (Or.inr (Or.inr (Or.inr (Or.inl ⟨k, a, b, e0 c, z d, z e, by rw [if_neg (by omega), if_neg (by omega), if_neg (by omega), if_neg (by omega), if_neg (by omega), if_pos k]⟩)))))
 ·exact Or.inr (Or.inr (Or.inr (Or.inr (Or.inr (Or.inr ⟨k, a, b, c, z d, z e, by rw [if_neg (by omega), if_neg (by omega), if_neg (by omega), if_neg (by omega), if_neg (by omega), if_neg (by omega)]⟩)))))
theorem Rie : ∀ {d : Nat} {s : Stm}, sOk d s = true → hdr s
 | 0, s, h => by simp only [sOk, Zw, Ze] at h; exact h.1
 | d + 1, s, h => by simp only [sOk, Zw, Ze] at h; exact h.1
theorem Ril : ∀ {d : Nat} {s : Stm}, sOk d s = true → s.kind = 2 ∨ s.kind = 3 → ∃ d', d = d' + 1 ∧ s.body.all (sOk d') = true ∧ s.els.all (sOk d') = true
 | 0, s, h, hk => by simp [sOk, hk] at h
 | d + 1, s, h, hk => by
  simp only [sOk, hk, if_true, Zw] at h
  exact ⟨d, rfl, h.2.1, h.2.2⟩
theorem Rfk (t : Tok) : wl [t] = t.length + 1 := by simp [wl]
theorem Rdx (t : Tok) (l : List Tok) : wl (t :: l) = t.length + 1 + wl l := rfl
theorem Rym (l : List Tok) (c : Bool) : wl (wrp l c) ≤ wl l + 4 := by
 unfold wrp
 split
 ·rw [List.cons_append, Rdx, Rdn, Rfk]; have a : lp.length = 1 := rfl; have b : rp.length = 1 := rfl; omega
 ·omega
theorem Rxm {n : Int} (h1 : 1 ≤ n) (h2 : n ≤ 12) : (opT n).length ≤ 2 := by
 have : ∀ t ∈ opTs, t.length ≤ 2 := by decide
 exact this _ (Rvk h1 h2)
theorem eT_wl : ∀ (d : Nat) (e : Exp), Rac d e = true → 2 * (wl (eT d e) + 11) ≤ 17 * 2 ^ d
 | 0, e, h => by cases h
 | d + 1, e, h => by
  have h2 : 2 ^ (d + 1) = 2 * 2 ^ d := by rw [Nat.pow_succ]; omega
  have h1 : 1 ≤ 2 ^ d := Nat.one_le_two_pow
  rcases Rcj h with h | h | ⟨h1', h2', _, a, b, hab, ha, hb⟩
  ·rw [Rsa h.1, Rfk]
   have := (Rts h.2.2.1 h.2.2.2).2.2.2
   omega
  ·rw [Rsb h.1, Rfk]
   simp only [Zc, Zn]
   omega
  ·rw [Ron h1' h2' hab, Rdn, Rdn, Rfk]
   have i1 := eT_wl d a ha
   have i2 := eT_wl d b hb
   have w1 := Rym (eT d a) (decide (lvE a < levN e.op.toNat))
   have w2 := Rym (eT d b) (decide (lvE b ≤ levN e.op.toNat))
   have := Rxm h1' h2'
   omega
theorem Rmx {e : Exp} (h : Rac 5 e = true) : wl (eT 5 e) ≤ 261 := by have := eT_wl 5 e h; omega
theorem Rfl {n : Int} (h1 : 0 ≤ n) (h2 : n < 5) : (Lib.itoa n).length ≤ 5 ∧ tvb (Lib.itoa n) = true ∧ numV (Lib.itoa n) = n := by
 have h := Rts h1 (show n ≤ 99999 by omega)
 refine ⟨h.2.2.2, h.1, ?_⟩
 have ha := h.2.1
 by_cases h0 : 0 ≤ numV (Lib.itoa n)
 ·have := Rra ha h0
  injection this with _ this _
  exact this.symm
 ·have := (Rod ha h0).2
  injection this with this
  cases this
theorem Rfq {n : Int} (h1 : 0 ≤ n) (h2 : n < 4) : (vT n).length = 1 ∧ tvb (vT n) = true ∧ varV (vT n) = n := by
 have : n = 0 ∨ n = 1 ∨ n = 2 ∨ n = 3 := by omega
 rcases this with rfl | rfl | rfl | rfl <;> decide
theorem kws : kIf.length = 2 ∧ Rdb.length = 5 ∧ Ria.length = 4 ∧ Rjf.length = 4 ∧ Rgk.length = 5 ∧ Rfs.length = 5 ∧ Rfw.length = 4 ∧ kBox.length = 3 ∧ Rjg.length = 4 ∧ kL.length = 1 ∧ kR.length = 1 ∧ kS.length = 1 ∧ kE.length = 1 := by decide
theorem kwt : tvb kIf = true ∧ tvb Rdb = true ∧ tvb Ria = true ∧ tvb Rjf = true ∧ tvb Rgk = true ∧ tvb Rfs = true ∧ tvb Rfw = true ∧ tvb kBox = true ∧ tvb Rjg = true ∧ tvb kL = true ∧ tvb kR = true ∧ tvb kS = true ∧ tvb kE = true := by decide
theorem Rkk {d : Nat} (ih : ∀ s, sOk d s = true → wl (sT s) ≤ 300 * cS s) : ∀ l : List Stm, l.all (sOk d) = true → wl (bT l) ≤ 300 * cSs l
 | [], _ => by simp [bT, wl]
 | s :: r, h => by
  simp only [List.all_cons, Zw] at h
  have h1 := ih s h.1
  have h2 := Rkk ih r h.2
  simp only [bT, cSs, Rdn] at *; omega
theorem sT_wl : ∀ (d : Nat) (s : Stm), sOk d s = true → wl (sT s) ≤ 300 * cS s := by
 intro d
 induction d with
 | zero =>
  intro s h
  obtain ⟨q1, q2, q3, q4, q5, q6, q7, q8, q9, q10, q11, q12, q13⟩ := kws
  have hc := Rua s
  rcases Rhg (Rie h) with ⟨k, a, b, _, c, _, _, e⟩ | ⟨k, _⟩ | ⟨k, _⟩ | ⟨k, _, a, b, c, _, _, e⟩ | ⟨k, a, b, a', b', _, _, _, e⟩ | ⟨k, _, _, _, _, _, e⟩ | ⟨k, _, _, c, _, _, e⟩
  ·have := Rmx c; have := (Rfq a b).1; rw [e]; simp only [Rdx, Rdn, Rfk, wl] at *; omega
  ·exact absurd (Ril h (Or.inl k)) (by rintro ⟨_, h, _⟩; cases h)
  ·exact absurd (Ril h (Or.inr k)) (by rintro ⟨_, h, _⟩; cases h)
  ·have := Rmx c; have := (Rfl a (by omega)).1; rw [e]; simp only [Rdx, Rdn, Rfk, wl] at *; omega
  ·have := (Rfq a b).1; have := (Rfl a' (by omega)).1; rw [e]; simp only [Rdx, Rdn, Rfk, wl] at *; omega
  ·rw [e]; simp only [Rdx, Rdn, Rfk, wl] at *; omega
  ·have := Rmx c; rw [e]; simp only [Rdx, Rdn, Rfk, wl] at *; omega
 | succ d ih =>
  intro s h
  obtain ⟨q1, q2, q3, q4, q5, q6, q7, q8, q9, q10, q11, q12, q13⟩ := kws
  have hc := Rua s
  rcases Rhg (Rie h) with ⟨k, a, b, _, c, _, _, e⟩ | ⟨k, _, _, c, e⟩ | ⟨k, _, _, c, _, e⟩ | ⟨k, _, a, b, c, _, _, e⟩ | ⟨k, a, b, a', b', _, _, _, e⟩ | ⟨k, _, _, _, _, _, e⟩ | ⟨k, _, _, c, _, _, e⟩
  ·have := Rmx c; have := (Rfq a b).1; rw [e]; simp only [Rdx, Rdn, Rfk, wl] at *; omega
  ·obtain ⟨d', hd, hb, he⟩ := Ril h (Or.inl k)
   have hd : d = d' := by omega
   subst hd
   have := Rkk ih _ hb
   have := Rkk ih _ he
   have := Rmx c
   rw [e]
   split
   ·simp only [Rdx, Rdn, Rfk, wl] at *; omega
   ·simp only [Rdx, Rdn, Rfk, wl] at *; omega
  ·obtain ⟨d', hd, hb, he⟩ := Ril h (Or.inr k)
   have hd : d = d' := by omega
   subst hd
   have := Rkk ih _ hb
   have := Rmx c
   rw [e]
   simp only [Rdx, Rdn, Rfk, wl] at *; omega
  ·have := Rmx c; have := (Rfl a (by omega)).1; rw [e]; simp only [Rdx, Rdn, Rfk, wl] at *; omega
  ·have := (Rfq a b).1; have := (Rfl a' (by omega)).1; rw [e]; simp only [Rdx, Rdn, Rfk, wl] at *; omega
  ·rw [e]; simp only [Rdx, Rdn, Rfk, wl] at *; omega
  ·have := Rmx c; rw [e]; simp only [Rdx, Rdn, Rfk, wl] at *; omega
theorem bT_wl {d : Nat} {l : List Stm} (h : l.all (sOk d) = true) : wl (bT l) ≤ 300 * cSs l := Rkk (sT_wl d) l h
theorem Rkj {d : Nat} (ih : ∀ s, sOk d s = true → ∀ t ∈ sT s, tvb t = true) : ∀ l : List Stm, l.all (sOk d) = true → ∀ t ∈ bT l, tvb t = true
 | [], _ => by simp [bT]
 | s :: r, h => by
  simp only [List.all_cons, Zw] at h
  intro t ht
  simp only [bT, Zu] at ht
  rcases ht with ht | ht
  ·exact ih s h.1 t ht
  ·exact Rkj ih r h.2 t ht
theorem sT_tv : ∀ (d : Nat) (s : Stm), sOk d s = true → ∀ t ∈ sT s, tvb t = true := by
 intro d
 induction d with
 | zero =>
  intro s h t ht
  obtain ⟨q1, q2, q3, q4, q5, q6, q7, q8, q9, q10, q11, q12, q13⟩ := kwt
  rcases Rhg (Rie h) with ⟨k, a, b, _, c, _, _, e⟩ | ⟨k, _⟩ | ⟨k, _⟩ | ⟨k, _, a, b, c, _, _, e⟩ | ⟨k, a, b, a', b', _, _, _, e⟩ | ⟨k, _, _, _, _, _, e⟩ | ⟨k, _, _, c, _, _, e⟩
  ·rw [e] at ht
   simp only [Zo, Zu, List.not_mem_nil, or_false] at ht
   rcases ht with rfl | rfl | ht | rfl
   ·exact (Rfq a b).2.1
   ·exact q13
   ·exact (Rjp 5 _ c t ht).1
   ·exact q12
  ·exact absurd (Ril h (Or.inl k)) (by rintro ⟨_, h, _⟩; cases h)
  ·exact absurd (Ril h (Or.inr k)) (by rintro ⟨_, h, _⟩; cases h)
  ·rw [e] at ht
   simp only [Zo, Zu, List.not_mem_nil, or_false] at ht
   rcases ht with rfl | rfl | ht | rfl
   ·exact q3
   ·exact (Rfl a (by omega)).2.1
   ·exact (Rjp 5 _ c t ht).1
   ·exact q12
  ·rw [e] at ht
   simp only [Zo, List.not_mem_nil, or_false] at ht
   rcases ht with rfl | rfl | rfl | rfl
   ·exact q4
   ·exact (Rfl a' (by omega)).2.1
   ·exact (Rfq a b).2.1
   ·exact q12
  ·rw [e] at ht
   simp only [Zo, List.not_mem_nil, or_false] at ht
   rcases ht with rfl | rfl
   ·exact q5
   ·exact q12
  ·rw [e] at ht
   simp only [Zo, Zu, List.not_mem_nil, or_false] at ht
   rcases ht with rfl | ht | rfl
   ·exact q6
   ·exact (Rjp 5 _ c t ht).1
   ·exact q12
 | succ d ih =>
  intro s h t ht
  obtain ⟨q1, q2, q3, q4, q5, q6, q7, q8, q9, q10, q11, q12, q13⟩ := kwt
  rcases Rhg (Rie h) with ⟨k, a, b, _, c, _, _, e⟩ | ⟨k, _, _, c, e⟩ | ⟨k, _, _, c, _, e⟩ | ⟨k, _, a, b, c, _, _, e⟩ | ⟨k, a, b, a', b', _, _, _, e⟩ | ⟨k, _, _, _, _, _, e⟩ | ⟨k, _, _, c, _, _, e⟩
  ·rw [e] at ht
   simp only [Zo, Zu, List.not_mem_nil, or_false] at ht
   rcases ht with rfl | rfl | ht | rfl
   ·exact (Rfq a b).2.1
   ·exact q13
   ·exact (Rjp 5 _ c t ht).1
   ·exact q12
  ·obtain ⟨d', hd, hb, he⟩ := Ril h (Or.inl k)
   have hd : d = d' := by omega
   subst hd
   rw [e] at ht
   rcases List.mem_append.1 ht with ht | ht
   ·simp only [Zo, Zu, List.not_mem_nil, or_false] at ht
    rcases ht with rfl | ht | rfl | ht | rfl
    ·exact q1
    ·exact (Rjp 5 _ c t ht).1
    ·exact q10
    ·exact Rkj ih _ hb t ht
    ·exact q11
   ·split at ht
    ·cases ht
    ·simp only [Zo, Zu, List.not_mem_nil, or_false] at ht
     rcases ht with rfl | rfl | ht | rfl
     ·exact q7
     ·exact q10
     ·exact Rkj ih _ he t ht
     ·exact q11
  ·obtain ⟨d', hd, hb, he⟩ := Ril h (Or.inr k)
   have hd : d = d' := by omega
   subst hd
   rw [e] at ht
   simp only [Zo, Zu, List.not_mem_nil, or_false] at ht
   rcases ht with rfl | ht | rfl | ht | rfl
   ·exact q2
   ·exact (Rjp 5 _ c t ht).1
   ·exact q10
   ·exact Rkj ih _ hb t ht
   ·exact q11
  ·rw [e] at ht
   simp only [Zo, Zu, List.not_mem_nil, or_false] at ht
   rcases ht with rfl | rfl | ht | rfl
   ·exact q3
   ·exact (Rfl a (by omega)).2.1
   ·exact (Rjp 5 _ c t ht).1
   ·exact q12
  ·rw [e] at ht
   simp only [Zo, List.not_mem_nil, or_false] at ht
   rcases ht with rfl | rfl | rfl | rfl
   ·exact q4
   ·exact (Rfl a' (by omega)).2.1
   ·exact (Rfq a b).2.1
   ·exact q12
  ·rw [e] at ht
   simp only [Zo, List.not_mem_nil, or_false] at ht
   rcases ht with rfl | rfl
   ·exact q5
   ·exact q12
  ·rw [e] at ht
   simp only [Zo, Zu, List.not_mem_nil, or_false] at ht
   rcases ht with rfl | ht | rfl
   ·exact q6
   ·exact (Rjp 5 _ c t ht).1
   ·exact q12
theorem bT_tv {d : Nat} {l : List Stm} (h : l.all (sOk d) = true) : ∀ t ∈ bT l, tvb t = true := Rkj (sT_tv d) l h
theorem Rrb {l : List Stm} {i : Nat} (hi : i < l.length) : bT (l.drop i) = sT l[i] ++ bT (l.drop (i + 1)) := by
 rw [List.drop_eq_getElem_cons hi]; simp only [bT]
theorem sT_pos (s : Stm) : 1 ≤ (sT s).length := by
 rw [sT_eq]
 split
 ·simp
 ·split
  ·simp
  ·split
   ·simp
   ·split
    ·simp
    ·split
     ·simp
     ·split
      ·simp
      ·simp
theorem Rui : ∀ l : List Stm, l.length ≤ (bT l).length
 | [] => Nat.zero_le _
 | s :: r => by have := Rui r; have := sT_pos s; simp only [bT, Za, Zc]; omega
theorem Rmy {l : List Stm} (hln : l.length ≤ 1000000) (h : ∀ s ∈ l, ∀ out : List Tok, out.length + (sT s).length ≤ 15000 → Rbe s out = some (out ++ sT s)) : ∀ (d i : Nat) (m : Bool) (o : List Tok), i + d = l.length → o.length + (bT (l.drop i)).length ≤ 15000 →
  ∃ m', Rbd m o l l.length i = some (m', o ++ bT (l.drop i))
 | 0, i, m, o, hi, ho => by
  refine ⟨m, ?_⟩
  apply Rek
  have h1 : ¬ ((i : Int) < l.length) := by omega
  simp only [h1, Zz, Zf]
  rw [List.drop_eq_nil_of_le (by omega)]; simp [bT]
 | d + 1, i, m, o, hi, ho => by
  have h1 : ((i : Int) < l.length) := by omega
  have hl : i < l.length := by omega
  rw [Rrb hl, Za] at ho
  obtain ⟨m', h2⟩ := Rmy hln h d (i + 1) true (o ++ sT l[i]) (by omega) (by rw [Za]; omega)
  refine ⟨m', ?_⟩
  apply Rek
  simp only [h1, Zy, Zt, Rda hl, Qb, Rdw]
  rw [h _ (List.getElem_mem hl) o (by omega), Qb, w1n (by omega), h2, Rrb hl, List.append_assoc]
theorem Rkr {l : List Stm} (h : ∀ s ∈ l, ∀ out : List Tok, out.length + (sT s).length ≤ 15000 → Rbe s out = some (out ++ sT s)) (out : List Tok) (ho : out.length + (bT l).length + 2 ≤ 15000) : Rak l out = some (out ++ kL :: (bT l ++ [kR])) := by
 apply Rjw
 rw [Rj (by simp only [Zc, Zn]; omega), Qb]
 obtain ⟨m, h2⟩ := Rmy (by have := Rui l; omega) h l.length 0 true (out ++ [[123]]) (by omega) (by rw [Za]; simp only [Zc, Zn, List.drop_zero]; omega)
 rw [List.drop_zero] at h2
 rw [show Rbd true (out ++ [[123]]) l l.length 0 = _ from h2, Qb]
 dsimp only
 rw [Rj (by simp only [Za, Zc, Zn]; omega), Qb]
 simp [kL, kR]
theorem nm5 {n : Int} (h1 : 0 ≤ n) (h2 : n < 5) : strconv_Itoa n = some (Lib.itoa n) := Rut (by unfold wfI; omega)
theorem Ruo {e : Exp} (h : Rac 5 e = true) (out : List Tok) (ho : out.length ≤ 20000) : Rm ⟨e.op, e.n, e.args⟩ out = some (out ++ eT 5 e) := by
 rw [Rag]
 exact Rcv 5 e out (Nat.le_refl _) h (by omega)
theorem Rxd : ∀ (d : Nat) (s : Stm), sOk d s = true → ∀ out : List Tok, out.length + (sT s).length ≤ 15000 → Rbe s out = some (out ++ sT s) := by
  have main : ∀ (d : Nat), (∀ d', d = d' + 1 → ∀ s, sOk d' s = true → ∀ out : List Tok, out.length + (sT s).length ≤ 15000 → Rbe s out = some (out ++ sT s)) → ∀ s, sOk d s = true → ∀ out : List Tok, out.length + (sT s).length ≤ 15000 → Rbe s out = some (out ++ sT s) := by
    intro d ih s h out ho
    have blk : ∀ (k : s.kind = 2 ∨ s.kind = 3) (l : List Stm), (l = s.body ∨ l = s.els) → ∀ o : List Tok, o.length + (bT l).length + 2 ≤ 15000 → Rak l o = some (o ++ kL :: (bT l ++ [kR])) := by
      intro k l hl o hlo
      obtain ⟨d', hd, hb, he⟩ := Ril h k
      rw [List.all_eq_true] at hb he
      refine Rkr (fun x hx out ho => ih d' hd x ?_ out ho) o hlo
      rcases hl with rfl | rfl
      · exact hb x hx
      · exact he x hx
    apply Rkv
    rcases Rhg (Rie h) with ⟨k, a, b, _, c, _, _, e⟩ | ⟨k, _, _, c, e⟩ | ⟨k, _, _, c, _, e⟩ | ⟨k, _, a, b, c, _, _, e⟩ | ⟨k, a, b, a', b', _, _, _, e⟩ | ⟨k, _, _, _, _, _, e⟩ | ⟨k, _, _, c, _, _, e⟩
    · rw [e] at ho ⊢
      simp only [Zc, Za, Zn] at ho
      rw [Zp k, Zt, Rmw a b, Qb, Rj (by simp only [Zc, Zn]; omega), Qb, Ruo c _ (by simp only [Za, Zc, Zn]; omega), Qb,
        Rj (by simp only [Za, Zc, Zn]; omega), Qb]
      simp [vT, kE, kS]
    · rw [Zq (show ¬ s.kind = 1 by omega), Zf, Zp k, Zt]
      rw [e] at ho ⊢
      simp only [Zc, Za, Zn] at ho
      rw [Rj (by simp only [Zc, Zn]; omega), Qb, Ruo c _ (by simp only [Za, Zc, Zn]; omega), Qb,
        blk (Or.inl k) s.body (Or.inl rfl) _ (by simp only [Za, Zc, Zn]; omega), Qb]
      by_cases hz : s.els.length = 0
      · have hz' : ¬ (0 : Int) < (s.els.length : Int) := by omega
        rw [Zq hz', Zf, if_pos hz]
        simp [kIf]
      · have hz' : (0 : Int) < (s.els.length : Int) := by omega
        rw [if_neg hz] at ho
        simp only [Zc, Za, Zn] at ho
        rw [Zp hz', Zt, if_neg hz, Rj (by simp only [Za, Zc, Zn]; omega), Qb,
          blk (Or.inl k) s.els (Or.inr rfl) _ (by simp only [Za, Zc, Zn]; omega), Qb]
        simp [kIf, Rfw]
    · rw [Zq (show ¬ s.kind = 1 by omega), Zf, Zq (show ¬ s.kind = 2 by omega), Zf, Zp k, Zt]
      rw [e] at ho ⊢
      simp only [Zc, Za, Zn] at ho
      rw [Rj (by simp only [Zc, Zn]; omega), Qb, Ruo c _ (by simp only [Za, Zc, Zn]; omega), Qb,
        blk (Or.inr k) s.body (Or.inl rfl) _ (by simp only [Za, Zc, Zn]; omega), Qb]
      simp [Rdb]
    · rw [Zq (show ¬ s.kind = 1 by omega), Zf, Zq (show ¬ s.kind = 2 by omega), Zf, Zq (show ¬ s.kind = 3 by omega), Zf, Zp k, Zt]
      rw [e] at ho ⊢
      simp only [Zc, Za, Zn] at ho
      rw [nm5 a (by omega), Qb, Rj (by simp only [Zc, Zn]; omega), Qb, Ruo c _ (by simp only [Za, Zc, Zn]; omega), Qb,
        Rj (by simp only [Za, Zc, Zn]; omega), Qb]
      simp [Ria, kS]
    · rw [Zq (show ¬ s.kind = 1 by omega), Zf, Zq (show ¬ s.kind = 2 by omega), Zf, Zq (show ¬ s.kind = 3 by omega), Zf, Zq (show ¬ s.kind = 4 by omega), Zf, Zp k, Zt]
      rw [e] at ho ⊢
      simp only [Zc, Za, Zn] at ho
      rw [nm5 a' (by omega), Qb, Rmw a b, Qb, Rj (by simp only [Zc, Zn]; omega), Qb, Rj (by simp only [Za, Zc, Zn]; omega), Qb]
      simp [Rjf, kS, vT]
    · rw [Zq (show ¬ s.kind = 1 by omega), Zf, Zq (show ¬ s.kind = 2 by omega), Zf, Zq (show ¬ s.kind = 3 by omega), Zf, Zq (show ¬ s.kind = 4 by omega), Zf, Zq (show ¬ s.kind = 5 by omega), Zf, Zp k, Zt]
      rw [e] at ho ⊢
      simp only [Zc, Za, Zn] at ho
      rw [Rj (by simp only [Zc, Zn]; omega), Qb, Rj (by simp only [Za, Zc, Zn]; omega), Qb]
      simp [Rgk, kS]
    · rw [Zq (show ¬ s.kind = 1 by omega), Zf, Zq (show ¬ s.kind = 2 by omega), Zf, Zq (show ¬ s.kind = 3 by omega), Zf, Zq (show ¬ s.kind = 4 by omega), Zf, Zq (show ¬ s.kind = 5 by omega), Zf, Zq (show ¬ s.kind = 6 by omega), Zf, Zp k, Zt]
      rw [e] at ho ⊢
      simp only [Zc, Za, Zn] at ho
      rw [Rj (by simp only [Zc, Zn]; omega), Qb, Ruo c _ (by simp only [Za, Zc, Zn]; omega), Qb,
        Rj (by simp only [Za, Zc, Zn]; omega), Qb]
      simp [Rfs, kS]
  intro d
  induction d with
  | zero => exact main 0 (fun d' h => by omega)
  | succ d ih => exact main (d + 1) (fun d' h => by have : d = d' := by omega
                                                    subst this; exact ih)
theorem impl_bT {d : Nat} {l : List Stm} (h : l.all (sOk d) = true) (out : List Tok) (ho : out.length + (bT l).length + 2 ≤ 15000) : Rak l out = some (out ++ kL :: (bT l ++ [kR])) :=
 Rkr (fun s hs => Rxd d s (List.all_eq_true.1 h s hs)) out ho
theorem Rne {l : List Stm} (hln : l.length ≤ 1000000) (h : ∀ s ∈ l, (sT s).length ≤ 15000 → Rde s = some (sT s)) : ∀ (d i : Nat) (m : Bool) (o : List Tok), i + d = l.length → o.length + (bT (l.drop i)).length ≤ 15000 →
  ∃ m', Rcr l m o i = some (m', o ++ bT (l.drop i))
 | 0, i, m, o, hi, ho => by
  refine ⟨m, ?_⟩
  apply Rgu
  have h1 : ¬ ((i : Int) < l.length) := by omega
  simp only [h1, Zz, Zf]
  rw [List.drop_eq_nil_of_le (by omega)]; simp [bT]
 | d + 1, i, m, o, hi, ho => by
  have h1 : ((i : Int) < l.length) := by omega
  have hl : i < l.length := by omega
  rw [Rrb hl, Za] at ho
  obtain ⟨m', h2⟩ := Rne hln h d (i + 1) true (o ++ sT l[i]) (by omega) (by rw [Za]; omega)
  refine ⟨m', ?_⟩
  apply Rgu
  simp only [h1, Zy, Zt, Rda hl, Qb, Rdw]
  rw [h _ (List.getElem_mem hl) (by omega), Qb, Rj (by omega), Qb, w1n (by omega), h2, Rrb hl, List.append_assoc]
theorem Rlj {l : List Stm} (h : ∀ s ∈ l, (sT s).length ≤ 15000 → Rde s = some (sT s)) (ho : (bT l).length + 2 ≤ 15000) : Rbx l = some (kL :: (bT l ++ [kR])) := by
 apply Rnz
 obtain ⟨m, h2⟩ := Rne (by have := Rui l; omega) h l.length 0 true ([[123]]) (by omega) (by simp only [Zc, Zn, List.drop_zero]; omega)
 rw [List.drop_zero] at h2
 rw [show Rcr l true ([[123]]) 0 = _ from h2, Qb]
 dsimp only
 rw [Rj (by simp only [Za, Zc, Zn]; omega), Qb]
 simp [kL, kR]
theorem Rov {e : Exp} (h : Rac 5 e = true) : Rby ⟨e.op, e.n, e.args⟩ = some (eT 5 e) := by
 rw [Rag]; exact Rfp 5 e (Nat.le_refl _) h
theorem Rmf {e : Exp} (h : Rac 5 e = true) (o : List Tok) (ho : o.length + (eT 5 e).length ≤ 15000) : Rfg o ⟨e.op, e.n, e.args⟩ = some (o ++ eT 5 e ++ [kS]) := by
 apply Rpe
 dsimp only
 rw [Rov h, Qb, Rj (by omega), Qb, Rj (by simp only [Za, Zc, Zn]; omega), Qb]; rfl
theorem vName {n : Int} (h1 : 0 ≤ n) (h2 : n < 4) : Reu n = some (vT n) := by
 have := Rsc (v := n.toNat) (by omega)
 rw [show ((n.toNat : Nat) : Int) = n by omega] at this
 exact this
theorem dec5 {n : Int} (h1 : 0 ≤ n) (h2 : n < 5) : Rcs n = some (Lib.itoa n) := Rlm (by unfold wfI; omega)
theorem Rxr : ∀ (d : Nat) (s : Stm), sOk d s = true → (sT s).length ≤ 15000 → Rde s = some (sT s) := by
  have main : ∀ (d : Nat), (∀ d', d = d' + 1 → ∀ s, sOk d' s = true → (sT s).length ≤ 15000 → Rde s = some (sT s)) → ∀ s, sOk d s = true → (sT s).length ≤ 15000 → Rde s = some (sT s) := by
    intro d ih s h ho
    have blk : ∀ (k : s.kind = 2 ∨ s.kind = 3) (l : List Stm), (l = s.body ∨ l = s.els) → (bT l).length + 2 ≤ 15000 → Rbx l = some (kL :: (bT l ++ [kR])) := by
      intro k l hl hlo
      obtain ⟨d', hd, hb, he⟩ := Ril h k
      rw [List.all_eq_true] at hb he
      refine Rlj (fun x hx ho => ih d' hd x ?_ ho) hlo
      rcases hl with rfl | rfl
      · exact hb x hx
      · exact he x hx
    apply Rpf
    rcases Rhg (Rie h) with ⟨k, a, b, _, c, _, _, e⟩ | ⟨k, _, _, c, e⟩ | ⟨k, _, _, c, _, e⟩ | ⟨k, _, a, b, c, _, _, e⟩ | ⟨k, a, b, a', b', _, _, _, e⟩ | ⟨k, _, _, _, _, _, e⟩ | ⟨k, _, _, c, _, _, e⟩
    · rw [e] at ho ⊢
      simp only [Zc, Za, Zn] at ho
      rw [Zp k, Zt, vName a b, Qb, Rmf c _ (by simp only [Zc, Zn]; omega), Qb]
      simp [kE]
    · rw [Zq (show ¬ s.kind = 1 by omega), Zf, Zq (show ¬ s.kind = 4 by omega), Zf, Zq (show ¬ s.kind = 7 by omega), Zf, Zq (show ¬ s.kind = 5 by omega), Zf, Zq (show ¬ s.kind = 6 by omega), Zf, Zq (show ¬ s.kind = 3 by omega), Zf]
      rw [e] at ho ⊢
      simp only [Zc, Za, Zn] at ho
      rw [Rov c, Qb, Rj (by simp only [Zc, Zn]; omega), Qb, blk (Or.inl k) s.body (Or.inl rfl) (by omega), Qb, Rj (by simp only [Za, Zc, Zn]; omega), Qb]
      by_cases hz : s.els.length = 0
      · have hz' : (s.els.length : Int) = 0 := by omega
        rw [Zp hz', Zt, if_pos hz]
        simp [kIf]
      · have hz' : ¬ (s.els.length : Int) = 0 := by omega
        rw [if_neg hz] at ho
        simp only [Zc, Za, Zn] at ho
        rw [Zq hz', Zf, if_neg hz, Rj (by simp only [Za, Zc, Zn]; omega), Qb,
          blk (Or.inl k) s.els (Or.inr rfl) (by omega), Qb, Rj (by simp only [Za, Zc, Zn]; omega), Qb]
        simp [kIf, Rfw]
    · rw [Zq (show ¬ s.kind = 1 by omega), Zf, Zq (show ¬ s.kind = 4 by omega), Zf, Zq (show ¬ s.kind = 7 by omega), Zf, Zq (show ¬ s.kind = 5 by omega), Zf, Zq (show ¬ s.kind = 6 by omega), Zf, Zp k, Zt]
      rw [e] at ho ⊢
      simp only [Zc, Za, Zn] at ho
      rw [Rov c, Qb, Rj (by simp only [Zc, Zn]; omega), Qb, blk (Or.inr k) s.body (Or.inl rfl) (by omega), Qb, Rj (by simp only [Za, Zc, Zn]; omega), Qb]
      simp [Rdb]
    · rw [Zq (show ¬ s.kind = 1 by omega), Zf, Zp k, Zt]
      rw [e] at ho ⊢
      simp only [Zc, Za, Zn] at ho
      rw [dec5 a (by omega), Qb, Rmf c _ (by simp only [Zc, Zn]; omega), Qb]
      simp [Ria]
    · rw [Zq (show ¬ s.kind = 1 by omega), Zf, Zq (show ¬ s.kind = 4 by omega), Zf, Zq (show ¬ s.kind = 7 by omega), Zf, Zp k, Zt]
      rw [e, dec5 a' (by omega), Qb, vName a b, Qb]; rfl
    · rw [Zq (show ¬ s.kind = 1 by omega), Zf, Zq (show ¬ s.kind = 4 by omega), Zf, Zq (show ¬ s.kind = 7 by omega), Zf, Zq (show ¬ s.kind = 5 by omega), Zf, Zp k, Zt]
      rw [e]; rfl
    · rw [Zq (show ¬ s.kind = 1 by omega), Zf, Zq (show ¬ s.kind = 4 by omega), Zf, Zp k, Zt]
      rw [e] at ho ⊢
      simp only [Zc, Za, Zn] at ho
      rw [Rmf c _ (by simp only [Zc, Zn]; omega), Qb]
      simp [Rfs]
  intro d
  induction d with
  | zero => exact main 0 (fun d' h => by omega)
  | succ d ih => exact main (d + 1) (fun d' h => by have : d = d' := by omega
                                                    subst this; exact ih)
theorem spec_bT {d : Nat} {l : List Stm} (h : l.all (sOk d) = true) (ho : (bT l).length + 2 ≤ 15000) : Rbx l = some (kL :: (bT l ++ [kR])) :=
 Rlj (fun s hs => Rxr d s (List.all_eq_true.1 h s hs)) ho
def bxT : List Int → List Tok
 | [] => []
 | n :: r => kBox :: Lib.itoa n :: kS :: bxT r
def tsT : List (List Stm) → List Tok
 | [] => []
 | l :: r => Rjg :: kL :: (bT l ++ kR :: tsT r)
def pT (p : Prg) : List Tok := bxT p.rooms ++ tsT p.tasks
theorem Rhf {p : Prg} (h : Rfd p = true) : Rdj p.rooms = true ∧ p.rooms.length ≤ 3 ∧ 1 ≤ p.tasks.length ∧ p.tasks.length ≤ 3 ∧ ∀ l ∈ p.tasks, l.all (sOk 3) = true ∧ cSs l ≤ 16 ∧ bSs p.rooms.length l = true := by
 simp only [Rfd, Zw, Ze] at h
 obtain ⟨⟨⟨a, b⟩, c, d⟩, e⟩ := h
 refine ⟨a, by omega, by omega, by omega, fun l hl => ?_⟩
 have := List.all_eq_true.1 e l hl
 simp only [stOk, Zw, Ze] at this
 exact ⟨this.1.1, by omega, this.2⟩
theorem Rhr {l : List Int} (h : Rdj l = true) {n : Int} (hn : n ∈ l) : 1 ≤ n ∧ n ≤ 4 := by
 have := List.all_eq_true.1 h n hn
 simpa using this
theorem Rtg : ∀ l : List Int, (∀ n ∈ l, 1 ≤ n ∧ n ≤ 4) → wl (bxT l) ≤ 12 * l.length ∧ (∀ t ∈ bxT l, tvb t = true)
 | [], _ => ⟨Nat.le_refl _, by simp [bxT]⟩
 | n :: r, h => by
  obtain ⟨i1, i2⟩ := Rtg r (fun m hm => h m (List.mem_cons_of_mem _ hm))
  obtain ⟨a, b⟩ := h n (List.mem_cons_self ..)
  obtain ⟨c, d, _⟩ := Rfl (n := n) (by omega) (by omega)
  obtain ⟨_, _, _, _, _, _, _, q8, _, _, _, q12, _⟩ := kws
  obtain ⟨_, _, _, _, _, _, _, t8, _, _, _, t12, _⟩ := kwt
  refine ⟨by simp only [bxT, wl, Zc] at *; omega, ?_⟩
  intro t ht
  simp only [bxT, Zo] at ht
  rcases ht with rfl | rfl | rfl | ht
  ·exact t8
  ·exact d
  ·exact t12
  ·exact i2 t ht
theorem Ryj : ∀ l : List (List Stm), (∀ x ∈ l, x.all (sOk 3) = true ∧ cSs x ≤ 16) → wl (tsT l) ≤ 4820 * l.length ∧ (∀ t ∈ tsT l, tvb t = true)
 | [], _ => ⟨Nat.le_refl _, by simp [tsT]⟩
 | x :: r, h => by
  obtain ⟨i1, i2⟩ := Ryj r (fun m hm => h m (List.mem_cons_of_mem _ hm))
  obtain ⟨a, b⟩ := h x (List.mem_cons_self ..)
  have c := bT_wl a
  obtain ⟨_, _, _, _, _, _, _, _, q9, q10, q11, _, _⟩ := kws
  obtain ⟨_, _, _, _, _, _, _, _, t9, t10, t11, _, _⟩ := kwt
  refine ⟨by simp only [tsT, Rdx, Rdn, Zc] at *; omega, ?_⟩
  intro t ht
  simp only [tsT, Zo, Zu] at ht
  rcases ht with rfl | rfl | ht | rfl | ht
  ·exact t9
  ·exact t10
  ·exact bT_tv a t ht
  ·exact t11
  ·exact i2 t ht
theorem pT_ok {p : Prg} (h : Rfd p = true) : wl (pT p) ≤ 14600 ∧ ∀ t ∈ pT p, tvb t = true := by
 obtain ⟨a, b, _, c, d⟩ := Rhf h
 obtain ⟨e1, e2⟩ := Rtg p.rooms (fun n hn => Rhr a hn)
 obtain ⟨f1, f2⟩ := Ryj p.tasks (fun x hx => ⟨(d x hx).1, (d x hx).2.1⟩)
 refine ⟨by unfold pT; rw [Rdn]; omega, fun t ht => ?_⟩
 rcases List.mem_append.1 ht with ht | ht
 ·exact e2 t ht
 ·exact f2 t ht
theorem Rtf {l : List Int} {i : Nat} (hi : i < l.length) : bxT (l.drop i) = kBox :: Lib.itoa l[i] :: kS :: bxT (l.drop (i + 1)) := by
 rw [List.drop_eq_getElem_cons hi]; simp only [bxT]
theorem Rty {l : List (List Stm)} {i : Nat} (hi : i < l.length) : tsT (l.drop i) = Rjg :: kL :: (bT l[i] ++ kR :: tsT (l.drop (i + 1))) := by
 rw [List.drop_eq_getElem_cons hi]; simp only [tsT]
theorem Rmz {l : List Int} {b1 : List (List Stm)} {b0 : List Int} (hl : l.length ≤ 3) (hr : ∀ n ∈ l, 1 ≤ n ∧ n ≤ 4) : ∀ (d i : Nat) (m : Bool) (o : List Tok), i + d = l.length → o.length ≤ 100 + 3 * i →
  ∃ m', Rbb m o l l.length i b0 b1 = some ((m', o ++ bxT (l.drop i)), b0, b1)
 | 0, i, m, o, hi, ho => by
  refine ⟨m, ?_⟩
  apply Rei
  have h1 : ¬ ((i : Int) < l.length) := by omega
  simp only [h1, Zz, Zf]
  rw [List.drop_eq_nil_of_le (by omega)]; simp [bxT]
 | d + 1, i, m, o, hi, ho => by
  have h1 : ((i : Int) < l.length) := by omega
  have hlt : i < l.length := by omega
  obtain ⟨m', h2⟩ := Rmz (b0 := b0) (b1 := b1) hl hr d (i + 1) true (o ++ [kBox, Lib.itoa l[i], kS]) (by omega) (by simp only [Za, Zc, Zn]; omega)
  refine ⟨m', ?_⟩
  apply Rei
  obtain ⟨a, b⟩ := hr _ (List.getElem_mem hlt)
  simp only [h1, Zy, Zt, Rda hlt, Qb]
  rw [nm5 (by omega) (by omega), Qb, Rj (by simp only [Zc, Zn]; omega), Qb, w1n (by omega)]
  rw [show (o ++ [[98, 111, 120], Lib.itoa l[i], [59]] : List Tok) = o ++ [kBox, Lib.itoa l[i], kS] from rfl, h2, Rtf hlt]
  simp
theorem Rnf {l : List Int} {b1 : List (List Stm)} (hl : l.length ≤ 3) (hr : ∀ n ∈ l, 1 ≤ n ∧ n ≤ 4) : ∀ (d i : Nat) (m : Bool) (o : List Tok), i + d = l.length → o.length ≤ 100 + 3 * i →
  ∃ m', Rbh m o i l b1 = some ((m', o ++ bxT (l.drop i)), l, b1)
 | 0, i, m, o, hi, ho => by
  refine ⟨m, ?_⟩
  apply Ren
  have h1 : ¬ ((i : Int) < l.length) := by omega
  simp only [h1, Zz, Zf]
  rw [List.drop_eq_nil_of_le (by omega)]; simp [bxT]
 | d + 1, i, m, o, hi, ho => by
  have h1 : ((i : Int) < l.length) := by omega
  have hlt : i < l.length := by omega
  obtain ⟨m', h2⟩ := Rnf (b1 := b1) hl hr d (i + 1) true (o ++ [kBox, Lib.itoa l[i], kS]) (by omega) (by simp only [Za, Zc, Zn]; omega)
  refine ⟨m', ?_⟩
  apply Ren
  obtain ⟨a, b⟩ := hr _ (List.getElem_mem hlt)
  simp only [h1, Zy, Zt, Rda hlt, Qb]
  rw [dec5 (by omega) (by omega), Qb, Rj (by simp only [Zc, Zn]; omega), Qb, w1n (by omega)]
  rw [show (o ++ [[98, 111, 120], Lib.itoa l[i], [59]] : List Tok) = o ++ [kBox, Lib.itoa l[i], kS] from rfl, h2, Rtf hlt]
  simp
theorem Rnc {l : List (List Stm)} (hl : l.length ≤ 3) (hr : ∀ x ∈ l, x.all (sOk 3) = true ∧ cSs x ≤ 16) : ∀ (d i : Nat) (m : Bool) (o : List Tok), i + d = l.length → o.length ≤ 100 + 4820 * i →
  ∃ m', Rbc m o l l.length i = some (m', o ++ tsT (l.drop i))
 | 0, i, m, o, hi, ho => by
  refine ⟨m, ?_⟩
  apply Rej
  have h1 : ¬ ((i : Int) < l.length) := by omega
  simp only [h1, Zz, Zf]
  rw [List.drop_eq_nil_of_le (by omega)]; simp [tsT]
 | d + 1, i, m, o, hi, ho => by
  have h1 : ((i : Int) < l.length) := by omega
  have hlt : i < l.length := by omega
  obtain ⟨a, b⟩ := hr _ (List.getElem_mem hlt)
  have c := bT_wl a
  have c2 := Rnm (bT l[i])
  obtain ⟨m', h2⟩ := Rnc hl hr d (i + 1) true (o ++ [Rjg] ++ kL :: (bT l[i] ++ [kR])) (by omega) (by simp only [Za, Zc, Zn]; omega)
  refine ⟨m', ?_⟩
  apply Rej
  simp only [h1, Zy, Zt, Rda hlt, Qb]
  rw [Rj (by simp only [Zc, Zn]; omega), Qb, impl_bT a _ (by simp only [Za, Zc, Zn]; omega), Qb, w1n (by omega)]
  rw [show (o ++ [[116, 97, 115, 107]] : List Tok) = o ++ [Rjg] from rfl, h2, Rty hlt]
  simp
theorem Rnk {l : List (List Stm)} {b0 : List Int} (hl : l.length ≤ 3) (hr : ∀ x ∈ l, x.all (sOk 3) = true ∧ cSs x ≤ 16) : ∀ (d i : Nat) (m : Bool) (o : List Tok), i + d = l.length → o.length ≤ 100 + 4820 * i →
  ∃ m', Rbi m o i b0 l = some (m', o ++ tsT (l.drop i))
 | 0, i, m, o, hi, ho => by
  refine ⟨m, ?_⟩
  apply Reo
  have h1 : ¬ ((i : Int) < l.length) := by omega
  simp only [h1, Zz, Zf]
  rw [List.drop_eq_nil_of_le (by omega)]; simp [tsT]
 | d + 1, i, m, o, hi, ho => by
  have h1 : ((i : Int) < l.length) := by omega
  have hlt : i < l.length := by omega
  obtain ⟨a, b⟩ := hr _ (List.getElem_mem hlt)
  have c := bT_wl a
  have c2 := Rnm (bT l[i])
  obtain ⟨m', h2⟩ := Rnk (b0 := b0) hl hr d (i + 1) true (o ++ [Rjg] ++ kL :: (bT l[i] ++ [kR])) (by omega) (by simp only [Za, Zc, Zn]; omega)
  refine ⟨m', ?_⟩
  apply Reo
  simp only [h1, Zy, Zt, Rda hlt, Qb]
  rw [Rj (by simp only [Zc, Zn]; omega), Qb, spec_bT a (by omega), Qb, Rj (by simp only [Za, Zc, Zn]; omega), Qb, w1n (by omega)]
  rw [show (o ++ [[116, 97, 115, 107]] : List Tok) = o ++ [Rjg] from rfl, h2, Rty hlt]
  simp
def pTxt (p : Prg) : List UInt8 := if Rfd p = true then jn (pT p) else []
theorem Rjt {p : Prg} (hr : (p.rooms.length : Int) ≤ 4294967296) (hl : (p.tasks.length : Int) ≤ 4294967296) (hm : ∀ x ∈ p.tasks, mSs x ≤ 4294967296) : Rfm p = some (pTxt p) := by
 apply Rju
 rw [Rfr hr hl hm, Qb]
 unfold pTxt
 cases h : Rfd p with
 | false => rfl
 | true =>
  obtain ⟨a, b, _, c, d⟩ := Rhf h
  obtain ⟨e, f⟩ := pT_ok h
  obtain ⟨m1, h1⟩ := Rmz (b0 := p.rooms) (b1 := p.tasks) b (fun n hn => Rhr a hn) p.rooms.length 0 false [] (by omega) (by simp)
  have hb := (Rtg p.rooms (fun n hn => Rhr a hn)).1
  have hb2 := Rnm (bxT p.rooms)
  obtain ⟨m2, h2⟩ := Rnc c (fun x hx => ⟨(d x hx).1, (d x hx).2.1⟩) p.tasks.length 0 m1 (bxT p.rooms) (by omega) (by omega)
  rw [List.drop_zero, List.nil_append] at h1
  rw [List.drop_zero] at h2
  simp only [Zv, Zf, if_true]
  rw [show Rbb false [] p.rooms p.rooms.length 0 p.rooms p.tasks = _ from h1, Qb]
  dsimp only
  rw [show Rbc m1 (bxT p.rooms) p.tasks p.tasks.length 0 = _ from h2, Qb]
  dsimp only
  rw [show bxT p.rooms ++ tsT p.tasks = pT p from rfl, Rmb (by omega), Qb, if_pos (List.all_eq_true.mpr f)]
theorem Rkf {p : Prg} (hr : (p.rooms.length : Int) ≤ 4294967296) (hl : (p.tasks.length : Int) ≤ 4294967296) (hm : ∀ x ∈ p.tasks, mSs x ≤ 4294967296) : Rfo p = some (pTxt p) := by
 apply Rkg
 rw [Rjj hr hl hm, Qb]
 unfold pTxt
 cases h : Rfd p with
 | false => rfl
 | true =>
  obtain ⟨a, b, _, c, d⟩ := Rhf h
  obtain ⟨e, f⟩ := pT_ok h
  obtain ⟨m1, h1⟩ := Rnf (b1 := p.tasks) b (fun n hn => Rhr a hn) p.rooms.length 0 true [] (by omega) (by simp)
  have hb := (Rtg p.rooms (fun n hn => Rhr a hn)).1
  have hb2 := Rnm (bxT p.rooms)
  obtain ⟨m2, h2⟩ := Rnk (b0 := p.rooms) c (fun x hx => ⟨(d x hx).1, (d x hx).2.1⟩) p.tasks.length 0 m1 (bxT p.rooms) (by omega) (by omega)
  rw [List.drop_zero, List.nil_append] at h1
  rw [List.drop_zero] at h2
  simp only [Zv, Zf, if_true]
  rw [show Rbh true [] 0 p.rooms p.tasks = _ from h1, Qb]
  dsimp only
  rw [show Rbi m1 (bxT p.rooms) 0 p.rooms p.tasks = _ from h2, Qb]
  dsimp only
  rw [show bxT p.rooms ++ tsT p.tasks = pT p from rfl, Rmn (by omega), Qb, if_pos (List.all_eq_true.mpr f)]
theorem Rqj {e : Exp} (h : Rac 5 e = true) {u : List Tok} (hu : nlev u = 0) : ex1 (eT 5 e ++ u) = some (e, u) :=
 ex1_is (P_ext hu (Rwy h) e [] rfl)
theorem Rvg (u : List Tok) : nlev (kS :: u) = 0 := rfl
theorem Rvf (u : List Tok) : nlev (kL :: u) = 0 := rfl
theorem Rwk {s : Stm} (h : hdr s) : ∃ t r, sT s = t :: r ∧ t ≠ Rfw ∧ t ≠ kR := by
 rcases Rhg h with ⟨k, a, b, _, c, _, _, e⟩ | ⟨k, _, _, c, e⟩ | ⟨k, _, _, c, _, e⟩ | ⟨k, _, a, b, c, _, _, e⟩ | ⟨k, a, b, a', b', _, _, _, e⟩ | ⟨k, _, _, _, _, _, e⟩ | ⟨k, _, _, c, _, _, e⟩
 ·refine ⟨_, _, e, fun hh => ?_, fun hh => ?_⟩
  ·have := (Rfq a b).2.2
   rw [hh] at this
   have h2 : varV Rfw = -1 := by decide
   omega
  ·have := (Rfq a b).2.2
   rw [hh] at this
   have h2 : varV kR = -1 := by decide
   omega
 ·exact ⟨_, _, e, by decide, by decide⟩
 ·exact ⟨_, _, e, by decide, by decide⟩
 ·exact ⟨_, _, e, by decide, by decide⟩
 ·exact ⟨_, _, e, by decide, by decide⟩
 ·exact ⟨_, _, e, by decide, by decide⟩
 ·exact ⟨_, _, e, by decide, by decide⟩
theorem Ruz {d : Nat} (ih : ∀ s, sOk d s = true → ∀ u, nd Rfw u = none → G .st (sT s ++ u) (some ([s], u))) : ∀ (l : List Stm), l.all (sOk d) = true → ∀ (a : List Stm) (u : List Tok), G (.lp a) (bT l ++ kR :: u) (some (a ++ l, u))
 | [], _, a, u => by
  rw [show bT [] ++ kR :: u = kR :: u from rfl, List.append_nil]
  exact .lpS
 | s :: r, h, a, u => by
  simp only [List.all_cons, Zw] at h
  have h2 := Ruz ih r h.2 (a ++ [s]) u
  have hn : nd Rfw (bT r ++ kR :: u) = none := by
   cases r with
   | nil => exact ndN (by decide)
   | cons s2 r2 =>
    have h3 := h.2
    simp only [List.all_cons, Zw] at h3
    obtain ⟨t, q, e, hne, _⟩ := Rwk (Rie h3.1)
    simp only [bT]
    rw [e]
    exact ndN hne
  have h1 := ih s h.1 (bT r ++ kR :: u) hn
  obtain ⟨t, q, e, _, hne⟩ := Rwk (Rie h.1)
  simp only [bT]
  rw [e] at h1
  rw [List.append_assoc, e]
  rw [show a ++ s :: r = a ++ [s] ++ r by simp]
  exact .lpC hne h1 h2
theorem Roj {d : Nat} (ih : ∀ s, sOk d s = true → ∀ u, nd Rfw u = none → G .st (sT s ++ u) (some ([s], u))) {l : List Stm} (h : l.all (sOk d) = true) (u : List Tok) : G .bk (kL :: (bT l ++ kR :: u)) (some (l, u)) :=
 .bk (Ruz ih l h [] u)
theorem st_back : ∀ (d : Nat) (s : Stm), sOk d s = true → ∀ u, nd Rfw u = none → G .st (sT s ++ u) (some ([s], u)) := by
  have main : ∀ (d : Nat), (∀ d', d = d' + 1 → ∀ s, sOk d' s = true → ∀ u, nd Rfw u = none → G .st (sT s ++ u) (some ([s], u))) → ∀ s, sOk d s = true → ∀ u, nd Rfw u = none → G .st (sT s ++ u) (some ([s], u)) := by
    intro d ih s h u hu
    have et := Rxs s
    rcases Rhg (Rie h) with ⟨k, a, b, x, c, y, z, e⟩ | ⟨k, x, y, c, e⟩ | ⟨k, x, y, c, z, e⟩ | ⟨k, x, a, b, c, y, z, e⟩ | ⟨k, a, b, a', b', x, y, z, e⟩ | ⟨k, x, y, w, z, v, e⟩ | ⟨k, x, y, c, z, v, e⟩
    · have hv := (Rfq a b).2.2
      rw [e, show vT s.var :: kE :: (eT 5 s.e ++ [kS]) ++ u = vT s.var :: kE :: (eT 5 s.e ++ kS :: u) by simp]
      refine .smp (fun hh => ?_) (fun hh => ?_) ?_
      · rw [hh] at hv; have h2 : varV kIf = -1 := by decide
        omega
      · rw [hh] at hv; have h2 : varV Rdb = -1 := by decide
        omega
      · rw [smp_set (by omega) (Rqj c (Rvg u)), hv]
        rw [k, x, y, z] at et
        rw [et]
    · obtain ⟨d', hd, hb, he⟩ := Ril h (Or.inl k)
      have ih' := ih d' hd
      rw [k, x, y] at et
      rw [e]
      by_cases hz : s.els.length = 0
      · rw [if_pos hz, show kIf :: (eT 5 s.e ++ kL :: (bT s.body ++ [kR])) ++ [] ++ u = kIf :: (eT 5 s.e ++ kL :: (bT s.body ++ kR :: u)) by simp]
        have := G.if1 (Rqj c (Rvf _)) (Roj ih' hb u) hu
        rw [List.eq_nil_of_length_eq_zero hz] at et
        rw [et] at this
        exact this
      · rw [if_neg hz, show kIf :: (eT 5 s.e ++ kL :: (bT s.body ++ [kR])) ++ Rfw :: kL :: (bT s.els ++ [kR]) ++ u = kIf :: (eT 5 s.e ++ kL :: (bT s.body ++ kR :: Rfw :: kL :: (bT s.els ++ kR :: u))) by simp]
        have := G.if2 (Rqj c (Rvf _)) (Roj ih' hb _) (Roj ih' he u)
        rw [et] at this
        exact this
    · obtain ⟨d', hd, hb, he⟩ := Ril h (Or.inr k)
      have ih' := ih d' hd
      rw [k, x, y, z] at et
      rw [e, show Rdb :: (eT 5 s.e ++ kL :: (bT s.body ++ [kR])) ++ u = Rdb :: (eT 5 s.e ++ kL :: (bT s.body ++ kR :: u)) by simp]
      have := G.wh (Rqj c (Rvf _)) (Roj ih' hb u)
      rw [et] at this
      exact this
    · obtain ⟨_, _, hv⟩ := Rfl a (show s.box < 5 by omega)
      rw [e, show Ria :: Lib.itoa s.box :: (eT 5 s.e ++ [kS]) ++ u = Ria :: Lib.itoa s.box :: (eT 5 s.e ++ kS :: u) by simp]
      refine .smp (by decide) (by decide) ?_
      rw [Rxq (by omega) (Rqj c (Rvg u)), hv]
      rw [k, x, y, z] at et
      rw [et]
    · obtain ⟨_, _, hv⟩ := Rfl a' (show s.box < 5 by omega)
      have hw := (Rfq a b).2.2
      rw [e]
      refine .smp (by decide) (by decide) ?_
      show smp (Rjf :: Lib.itoa s.box :: vT s.var :: kS :: u) = _
      rw [Rxp u (by omega) (by omega), hv, hw]
      rw [k, x, y, z] at et
      rw [et]
    · rw [e]
      refine .smp (by decide) (by decide) ?_
      show smp (Rgk :: kS :: u) = _
      rw [Rwm]
      rw [k, x, y, w, z, v] at et
      rw [et]
    · rw [e, show Rfs :: (eT 5 s.e ++ [kS]) ++ u = Rfs :: (eT 5 s.e ++ kS :: u) by simp]
      refine .smp (by decide) (by decide) ?_
      rw [Rwl (Rqj c (Rvg u))]
      rw [k, x, y, z, v] at et
      rw [et]
  intro d
  induction d with
  | zero => exact main 0 (fun d' h => by omega)
  | succ d ih => exact main (d + 1) (fun d' h => by have : d = d' := by omega
                                                    subst this; exact ih)
theorem Rtx : ∀ (l : List (List Stm)), (∀ x ∈ l, x.all (sOk 3) = true) → ∀ a, TR a (tsT l) (some (a ++ l, []))
 | [], _, a => by rw [List.append_nil]; exact .stop rfl
 | x :: r, h, a => by
  have h1 := Roj (st_back 3) (h x (List.mem_cons_self ..)) (tsT r)
  have h2 := Rtx r (fun y hy => h y (List.mem_cons_of_mem _ hy)) (a ++ [x])
  rw [show a ++ x :: r = a ++ [x] ++ r by simp]
  exact .go h1 h2
theorem tsT_box : ∀ l : List (List Stm), nd kBox (tsT l) = none
 | [] => rfl
 | x :: r => ndN (by decide)
theorem Rte {u : List Tok} (hu : nd kBox u = none) : ∀ (l : List Int), (∀ n ∈ l, 1 ≤ n ∧ n ≤ 4) → ∀ a, BR a (bxT l ++ u) (some (a ++ l, u))
 | [], _, a => by rw [List.append_nil]; exact .stop hu
 | n :: r, h, a => by
  obtain ⟨h1, h2⟩ := h n (List.mem_cons_self ..)
  obtain ⟨_, _, hv⟩ := Rfl (n := n) (by omega) (by omega)
  have h3 := Rte hu r (fun m hm => h m (List.mem_cons_of_mem _ hm)) (a ++ [n])
  rw [show a ++ n :: r = a ++ [n] ++ r by simp]
  have hn : nu (Lib.itoa n :: kS :: (bxT r ++ u)) = some (n, kS :: (bxT r ++ u)) := by rw [Rsv (by omega), hv]
  exact .go hn h3
theorem pT_back {p : Prg} (h : Rfd p = true) : PrF (pT p) p := by
 obtain ⟨a, b, _, c, d⟩ := Rhf h
 exact ⟨tsT p.tasks, Rte (tsT_box _) p.rooms (fun n hn => Rhr a hn) [], Rtx p.tasks (fun x hx => (d x hx).1) []⟩
theorem Rxo {p : Prg} (h : Rfd p = true) : Prm (pTxt p) p ∧ (pTxt p).length ≤ 14600 := by
 obtain ⟨e, f⟩ := pT_ok h
 have hl := Rxe (pT p)
 unfold pTxt
 rw [if_pos h]
 exact ⟨⟨by omega, ⟨_, Rwp _ f, pT_back h⟩, h⟩, by omega⟩
theorem Rki {a : List Int} (h : wfBs a) : Ok (Rdk a) Ryh := by
 apply Ok.le (Rif a)
 refine Ok.bnd (open_ok h) fun r1 h1 => ?_
 exact Ok.bnd (Rsu h1 (by omega)) fun r2 h2 => Ok.of h2.2
theorem Rld {l : List (List Stm)} {r r2 : List Int} (hl : (l.length : Int) ≤ 4294967296) (hm : ∀ x ∈ l, mSs x ≤ 4294967296) : ∀ (d i : Nat), i + d = l.length → Rcl i r l r2 l = some (.inl ())
 | 0, i, hd => by
  apply Rem
  have hi : ¬ ((i : Int) < l.length) := by omega
  simp [hi]
 | d + 1, i, hd => by
  apply Rem
  have hi : i < l.length := by omega
  have hi' : (i : Int) < l.length := by omega
  have ht := hm _ (List.getElem_mem hi)
  simp only [hi', Zy, Zt, Raq hi, Qb, Rkb ht, Zv, Zf, Rcg (show (i : Int) < 9223372036854775807 by omega)]
  exact Rld hl hm d (i + 1) (by omega)
def midP (p : Prg) : Prop := p.rooms.length ≤ 1000000 ∧ p.tasks.length ≤ 1000000 ∧ ∀ x ∈ p.tasks, mSs x ≤ 1000000
theorem Rit {p : Prg} (h : midP p) : Rfn p p = some true := by
 obtain ⟨h1, h2, h3⟩ := h
 apply Rka
 rw [Rla (by omega), Qb]
 simp only [Zv, Zf, Zy]
 rw [show (0 : Int) = ((0 : Nat) : Int) by rfl, Rld (by omega) (fun x hx => by have := h3 x hx; omega) p.tasks.length 0 (by omega), Qb]
 rfl
theorem Prm_mid {s : List UInt8} {p : Prg} (h : Prm s p) : midP p := by
 obtain ⟨hl, ⟨t, ht, hp⟩, _⟩ := h
 have := Rtw ht
 obtain ⟨a, b, c⟩ := Rxz hp 40000 (by omega)
 exact ⟨by omega, by omega, fun x hx => by have := c x hx; omega⟩
theorem Prm_det {s : List UInt8} {p q : Prg} (h1 : Prm s p) (h2 : Prm s q) : p = q := by
 obtain ⟨_, ⟨t, ht, hp⟩, _⟩ := h1
 obtain ⟨_, ⟨t', ht', hq⟩, _⟩ := h2
 rw [ht] at ht'; injection ht' with ht'; subst ht'
 exact Rug hp hq
theorem Rww {s : List UInt8} {p : Prg} (h : Prm s p) : Rav s = some (p, true) := by
 rcases impl_pf s with ⟨q, hq, h1⟩ | ⟨hn, _⟩
 ·rw [Prm_det h hq]; exact h1
 ·exact absurd h (hn p)
theorem laws_FnSourceBack_eq (a : List Int) (h : wfBs a) : laws_FnSourceBack a = some true := by
 apply Rjh
 apply Ok.some
 refine Ok.bif (fun _ => Ok.of rfl) (fun _ => ?_)
 refine Ok.bnd (Rki h) fun p hp => ?_
 obtain ⟨p1, p2, p3⟩ := hp
 have hm : ∀ x ∈ p.tasks, mSs x ≤ 4294967296 := fun x hx => by have := p3 x hx; omega
 rw [Rjt (by omega) (by omega) hm, Qb, Rkf (by omega) (by omega) hm, Qb]
 simp only [beq_self_eq_true, Zv, Zf]
 refine Ok.bif (fun _ => Ok.of rfl) (fun hb => ?_)
 have ho : Rfd p = true := by
  apply Classical.byContradiction
  intro hn
  rw [show pTxt p = [] by unfold pTxt; rw [if_neg hn]] at hb
  cases hb
 obtain ⟨hpr, hl⟩ := Rxo ho
 rw [Rww hpr, Qb, Zp (show ((pTxt p).length : Int) ≤ 20000 by omega)]
 simp only [Zt]
 rw [Rit (Prm_mid hpr), Qb]
 exact Ok.of rfl
end Go.TFnSourceBack