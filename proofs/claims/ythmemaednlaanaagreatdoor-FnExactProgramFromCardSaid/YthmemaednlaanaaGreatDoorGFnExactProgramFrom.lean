/- The plain law: what the functions answer. -/
import Derived.Test.YthmemaednlaanaaGreatDoorDFnExactProgramFromE0
import Derived.Test.YthmemaednlaanaaGreatDoorDFnExactProgramFromE1
import Derived.Test.YthmemaednlaanaaGreatDoorDFnExactProgramFromE2
import Derived.Test.YthmemaednlaanaaGreatDoorLkA
import Derived.Lib.ItoaLen
import Derived.Test.YthmemaednlaanaaGreatDoorLkU
set_option linter.unusedVariables false
set_option linter.unusedSimpArgs false
namespace Go.TFnExactProgramFrom
open Go Go.RowKit Go.Vs Go.Tv
theorem Rdw (a b c : Int) : Rej a b c = some (decide (b ≤ a ∧ a ≤ c)) := by
 apply Rrj
 by_cases h : b ≤ a <;> simp [h]
theorem Rhg (a : Int) : Rgj a = some (decide (1 ≤ a ∧ a ≤ 12)) := by
 apply Rol; simp [Rdw]
theorem Rnx (a : Int) : Rje a = some (decide (1 ≤ a ∧ a ≤ 12)) := by
 apply Rny
 by_cases h : 1 ≤ a <;> simp [h]
theorem Rbk {α : Type} {l : List α} {i : Nat} (h : i < l.length) : geti l (i : Int) = some l[i] := by
 rw [geti_nat', List.getElem?_eq_getElem h]
theorem Rav {i : Nat} (h : (i : Int) < 9223372036854775807) : wrap64 ((i : Int) + 1) = ((i + 1 : Nat) : Int) := by
 rw [wrap_id (by omega) (by omega)]; omega
theorem Rz (e : Exp) : (⟨e.op, e.n, e.args⟩ : Exp) = e := by cases e; rfl
theorem Rdt (s : Stm) : (⟨s.kind, s.var, s.box, ⟨s.e.op, s.e.n, s.e.args⟩, s.body, s.els⟩ : Stm) = s := by
 obtain ⟨k, v, b, e, bd, el⟩ := s
 cases e; rfl
mutual
theorem Exp.ind {P : Exp → Prop} (h : ∀ e : Exp, (∀ a ∈ e.args, P a) → P e) : ∀ e : Exp, P e
 | ⟨o, n, as⟩ => h ⟨o, n, as⟩ (Exp.inds h as)
theorem Exp.inds {P : Exp → Prop} (h : ∀ e : Exp, (∀ a ∈ e.args, P a) → P e) : ∀ l : List Exp, ∀ a ∈ l, P a
 | [], a, ha => by cases ha
 | e :: r, a, ha => by
  rcases List.mem_cons.1 ha with e1 | h1
  ·rw [e1]; exact Exp.ind h e
  ·exact Exp.inds h r a h1
end
mutual
theorem Stm.ind {P : Stm → Prop} (h : ∀ s : Stm, (∀ a ∈ s.body, P a) → (∀ a ∈ s.els, P a) → P s) : ∀ s : Stm, P s
 | ⟨k, v, b, e, bd, el⟩ => h ⟨k, v, b, e, bd, el⟩ (Stm.inds h bd) (Stm.inds h el)
theorem Stm.inds {P : Stm → Prop} (h : ∀ s : Stm, (∀ a ∈ s.body, P a) → (∀ a ∈ s.els, P a) → P s) : ∀ l : List Stm, ∀ a ∈ l, P a
 | [], a, ha => by cases ha
 | e :: r, a, ha => by
  rcases List.mem_cons.1 ha with e1 | h1
  ·rw [e1]; exact Stm.ind h e
  ·exact Stm.inds h r a h1
end
def Rcw : Nat → Exp → Bool
 | 0, _ => false
 | d + 1, e =>
  if e.op = 0 then decide (0 ≤ e.n ∧ e.n ≤ 99999) && e.args.isEmpty
  else if e.op = 13 then decide (0 ≤ e.n ∧ e.n < 4) && e.args.isEmpty
  else decide (1 ≤ e.op ∧ e.op ≤ 12) && decide (e.n = 0) && match e.args with | [a, b] => Rcw d a && Rcw d b | _ => false
theorem len0 {α : Type} (l : List α) : ((l.length : Int) = 0) ↔ l = [] := by
 constructor
 ·intro h; exact List.eq_nil_of_length_eq_zero (by omega)
 ·intro h; subst h; rfl
theorem Rlu {l : List Exp} : ((l.length : Int) = 2) ↔ ∃ a b, l = [a, b] := by
 constructor
 ·intro h
  match l, h with
  | [a, b], _ => exact ⟨a, b, rfl⟩
  | [], h => simp at h
  | [_], h => simp at h
  | _ :: _ :: _ :: _, h => simp at h; omega
 ·rintro ⟨a, b, rfl⟩; rfl
theorem Rky {α : Type} (a : α) (l : List α) : geti (a :: l) 0 = some a := by simp [geti]
theorem geti1 {α : Type} (a b : α) (l : List α) : geti (a :: b :: l) 1 = some b := by simp [geti]
theorem Rwt (d : Nat) (h : d ≤ 5) : wrap64 (((d + 1 : Nat) : Int) - 1) = (d : Int) := by rw [wrap_id (by omega) (by omega)]; omega
theorem Rhy : ∀ (d : Nat) (e : Exp), d ≤ 5 → Ref e (d : Int) = some (Rcw d e)
 | d, e, hd => by
  apply Rma
  simp only [Rnx, Qb, Rz]
  by_cases h0 : e.op = 0
  ·cases d with
   | zero => by_cases h1 : 0 ≤ e.n <;> by_cases h2 : e.n ≤ 99999 <;> by_cases h3 : e.args = [] <;> simp [h0, h1, h2, h3, Rcw, len0]
   | succ d => by_cases h1 : 0 ≤ e.n <;> by_cases h2 : e.n ≤ 99999 <;> by_cases h3 : e.args = [] <;> simp [h0, h1, h2, h3, Rcw, len0] <;> omega
  ·by_cases h13 : e.op = 13
   ·cases d with
    | zero => by_cases h1 : 0 ≤ e.n <;> by_cases h2 : e.n < 4 <;> by_cases h3 : e.args = [] <;> simp [h13, h1, h2, h3, Rcw, len0]
    | succ d => by_cases h1 : 0 ≤ e.n <;> by_cases h2 : e.n < 4 <;> by_cases h3 : e.args = [] <;> simp [h13, h1, h2, h3, Rcw, len0] <;> omega
   ·by_cases h1 : 1 ≤ e.op ∧ e.op ≤ 12
    ·by_cases h2 : e.n = 0
     ·by_cases h3 : (e.args.length : Int) = 2
      ·obtain ⟨a, b, hab⟩ := Rlu.1 h3
       cases d with
       | zero => simp [h0, h13, h1, h2, h3, Rcw]
       | succ d =>
        cases d with
        | zero => simp [h0, h13, h1, h2, h3, Rcw, hab]
        | succ d =>
         have hd1 : (1 : Int) < (d : Int) + 1 + 1 := by omega
         rw [Rwt (d + 1) (by omega), hab, Rky, geti1]
         simp only [Qb, Rhy (d + 1) _ (by omega)]
         have e1 : Rcw (d + 1 + 1) e = (Rcw (d + 1) a && Rcw (d + 1) b) := by
          rw [Rcw]; simp [h0, h13, h1, h2, hab]
         rw [e1]
         cases Rcw (d + 1) a <;> simp [h0, h13, h1, h2, hd1]
      ·have hm : (match e.args with | [a, b] => (fun d => Rcw d a && Rcw d b) | _ => fun _ => false) = fun _ => false := by
        split
        ·rename_i a b hab; exact absurd (Rlu.2 ⟨a, b, hab⟩) h3
        ·rfl
       have e1 : Rcw d e = false := by
        cases d with
        | zero => rfl
        | succ d =>
         rw [Rcw]; simp only [h0, h13, if_false]
         split
         ·rename_i a b hab; exact absurd (Rlu.2 ⟨a, b, hab⟩) h3
         ·simp
       rw [e1]; simp [h0, h13, h1, h2, h3]
     ·have e1 : Rcw d e = false := by cases d <;> simp [Rcw, h0, h13, h2]
      rw [e1]; simp [h0, h13, h1, h2]
    ·have e1 : Rcw d e = false := by cases d <;> simp [Rcw, h0, h13, h1]
     rw [e1]; simp [h0, h13, h1]
theorem Rly (e : Exp) : Rcx e = some (Rcw 5 e) := by
 apply Rlz
 rw [Rz, show (5 : Int) = ((5 : Nat) : Int) by rfl, Rhy 5 e (by omega)]
 rfl
theorem Rmv : ∀ (d : Nat) (e : Exp), d ≤ 5 → Rjp e (d : Int) = some (Rcw d e)
 | 0, e, hd => by
  apply Rmw
  simp [Rcw]
 | d + 1, e, hd => by
  apply Rmw
  have hd0 : ¬ (((d + 1 : Nat) : Int) < 1) := by omega
  simp only [Rdw, Rhg, Qb, Rz, hd0, Zz, Zf, Rcw]
  by_cases h0 : e.op = 0
  ·by_cases h1 : 0 ≤ e.n ∧ e.n ≤ 99999 <;> by_cases h3 : e.args = [] <;> simp [h0, h1, h3, len0]
  ·by_cases h13 : e.op = 13
   ·have e3 : (e.n < 4) = (e.n ≤ 3) := propext (by omega)
    by_cases h1 : 0 ≤ e.n ∧ e.n ≤ 3 <;> by_cases h3 : e.args = [] <;> simp [h13, h1, h3, len0, e3]
   ·by_cases h1 : 1 ≤ e.op ∧ e.op ≤ 12
    ·by_cases h2 : e.n = 0
     ·by_cases h3 : (e.args.length : Int) = 2
      ·obtain ⟨a, b, hab⟩ := Rlu.1 h3
       rw [Rwt d (by omega), hab, Rky, geti1]
       simp only [Qb, Rmv d _ (by omega)]
       cases Rcw d a <;> simp [h0, h13, h1, h2]
      ·have e1 : (match e.args with | [a, b] => Rcw d a && Rcw d b | _ => false) = false := by
        split
        ·rename_i a b hab; exact absurd (Rlu.2 ⟨a, b, hab⟩) h3
        ·rfl
       rw [e1]; simp [h0, h13, h1, h2, h3]
     ·simp [h0, h13, h1, h2]
    ·simp [h0, h13, h1]
theorem Rif (e : Exp) : Rbj e = some (Rcw 5 e) := by
 apply Rmj
 rw [Rz, show (5 : Int) = ((5 : Nat) : Int) by rfl, Rmv 5 e (by omega)]
 rfl
theorem w01 : wrap64 (0 + 1) = 1 := by unfold wrap64; omega
theorem w11 : wrap64 (1 + 1) = 2 := by unfold wrap64; omega
theorem w1 : wrap64 1 = 1 := by unfold wrap64; omega
theorem Rqv (o n : Int) : Rix o n = some (o, n, .own false, []) := by apply Rpd; rfl
theorem Rqu (o : Int) (a b : Exp) : Rkv o a b = some (o, 0, .full, [a, b]) := by apply Rpc; simp [Rz]
mutual
def emX : Exp → Nat
 | ⟨_, _, as⟩ => emXs as
def emXs : List Exp → Nat
 | [] => 0
 | e :: r => 1 + emX e + emXs r
end
mutual
def mS : Stm → Nat
 | ⟨_, _, _, e, bd, el⟩ => emX e + mSs bd + mSs el
def mSs : List Stm → Nat
 | [] => 0
 | s :: r => 1 + mS s + mSs r
end
theorem Rfa (e : Exp) : emX e = emXs e.args := by cases e; simp [emX]
theorem Rof (s : Stm) : mS s = emX s.e + mSs s.body + mSs s.els := by cases s; simp [mS]
theorem Rju : ∀ l : List Exp, l.length ≤ emXs l
 | [] => Nat.le_refl _
 | e :: r => by have := Rju r; simp only [emXs, Zc]; omega
theorem Res : ∀ l : List Stm, l.length ≤ mSs l
 | [] => Nat.le_refl _
 | e :: r => by have := Res r; simp only [mSs, Zc]; omega
theorem Rqc : ∀ {l : List Exp} {e : Exp}, e ∈ l → emX e < emXs l
 | [], e, h => by cases h
 | a :: r, e, h => by
  simp only [emXs]
  rcases List.mem_cons.1 h with rfl | h
  ·omega
  ·have := Rqc h; omega
theorem Rhe : ∀ {l : List Stm} {e : Stm}, e ∈ l → mS e < mSs l
 | [], e, h => by cases h
 | a :: r, e, h => by
  simp only [mSs]
  rcases List.mem_cons.1 h with rfl | h
  ·omega
  ·have := Rhe h; omega
def left (n : Int) (m : Nat) : Int := if (m : Int) ≤ n then n - m else -1
theorem Rqp {a : List Exp} (hl : (a.length : Int) ≤ 4294967296) (hp : ∀ e ∈ a, Rfu e e = some true) : ∀ (d i : Nat), i + d = a.length → Rff a a i = some (.inl ())
 | 0, i, hd => by
  apply Rho
  have hi : ¬ ((i : Int) < a.length) := by omega
  simp [hi]
 | d + 1, i, hd => by
  apply Rho
  have hi : i < a.length := by omega
  have hi' : (i : Int) < a.length := by omega
  rw [Rbk hi, Rav (by omega)]
  simp only [hi', Zy, Zt, Qb, Rz, hp _ (List.getElem_mem hi), Zv, Zf]
  exact Rqp hl hp d (i + 1) (by omega)
theorem Rme {a : List Exp} (hl : (a.length : Int) ≤ 4294967296) (hp : ∀ e ∈ a, Rfu e e = some true) : Rjh a a = some true := by
 apply Roc
 rw [show (0 : Int) = ((0 : Nat) : Int) by rfl, Rqp hl hp a.length 0 (by omega)]
 simp [selm]
theorem Rnc : ∀ e : Exp, emX e ≤ 4294967296 → Rfu e e = some true := by
 apply Exp.ind
 intro e ih hm
 apply Ror
 rw [Rfa] at hm
 have := Rju e.args
 rw [Rme (by omega) (fun a ha => ih a ha (by have := Rqc ha; omega))]
 simp
theorem Rqq {a : List Stm} (hl : (a.length : Int) ≤ 4294967296) (hp : ∀ e ∈ a, Rgy e e = some true) : ∀ (d i : Nat), i + d = a.length → Rfg a a i = some (.inl ())
 | 0, i, hd => by
  apply Rhp
  have hi : ¬ ((i : Int) < a.length) := by omega
  simp [hi]
 | d + 1, i, hd => by
  apply Rhp
  have hi : i < a.length := by omega
  have hi' : (i : Int) < a.length := by omega
  rw [Rbk hi, Rav (by omega)]
  simp only [hi', Zy, Zt, Qb, Rdt, hp _ (List.getElem_mem hi), Zv, Zf]
  exact Rqq hl hp d (i + 1) (by omega)
theorem Rfh {a : List Stm} (hl : (a.length : Int) ≤ 4294967296) (hp : ∀ e ∈ a, Rgy e e = some true) : Rdf a a = some true := by
 apply Rod
 rw [show (0 : Int) = ((0 : Nat) : Int) by rfl, Rqq hl hp a.length 0 (by omega)]
 simp [selm]
theorem Rnf : ∀ e : Stm, mS e ≤ 4294967296 → Rgy e e = some true := by
 apply Stm.ind
 intro e ih1 ih2 hm
 apply Rot
 rw [Rof] at hm
 have l1 := Res e.body
 have l2 := Res e.els
 rw [Rz, Rnc e.e (by omega), Rfh (by omega) (fun a ha => ih1 a ha (by have := Rhe ha; omega)),
  Rfh (by omega) (fun a ha => ih2 a ha (by have := Rhe ha; omega))]
 simp
theorem Rmg {a : List Stm} (h : mSs a ≤ 4294967296) : Rdf a a = some true :=
 Rfh (by have := Res a; omega) fun e he => Rnf e (by have := Rhe he; omega)
theorem Rsv {a : List Int} (hl : (a.length : Int) ≤ 4294967296) : ∀ (d i : Nat), i + d = a.length → Rgb a a i = some (.inl ())
 | 0, i, hd => by
  apply Ria
  have hi : ¬ ((i : Int) < a.length) := by omega
  simp [hi]
 | d + 1, i, hd => by
  apply Ria
  have hi : i < a.length := by omega
  have hi' : (i : Int) < a.length := by omega
  rw [Rbk hi, Rav (by omega)]
  simp only [hi', Zy, Zt, Qb, Zv, Zf]
  exact Rsv hl d (i + 1) (by omega)
theorem Rnd {a : List Int} (hl : (a.length : Int) ≤ 4294967296) : Rkn a a = some true := by
 apply Ros
 rw [show (0 : Int) = ((0 : Nat) : Int) by rfl, Rsv hl a.length 0 (by omega)]
 simp [selm]
mutual
def cS : Stm → Nat
 | ⟨_, _, _, _, bd, el⟩ => 1 + cSs bd + cSs el
def cSs : List Stm → Nat
 | [] => 0
 | s :: r => cS s + cSs r
end
theorem Rvy (s : Stm) : cS s = 1 + cSs s.body + cSs s.els := by cases s; simp [cS]
theorem Rsp {l : List Stm} {i : Nat} (hi : i < l.length) : cSs (l.drop i) = cS l[i] + cSs (l.drop (i + 1)) := by
 rw [List.drop_eq_getElem_cons hi]; simp only [cSs]
theorem Rqb : ∀ l : List Stm, l.length ≤ cSs l
 | [] => Nat.le_refl _
 | e :: r => by have := Rqb r; have := Rvy e; simp only [cSs, Zc]; omega
mutual
theorem cS_le : ∀ s : Stm, cS s ≤ 1 + mS s
 | ⟨_, _, _, e, bd, el⟩ => by have := Rsq bd; have := Rsq el; simp only [cS, mS]; omega
theorem Rsq : ∀ l : List Stm, cSs l ≤ mSs l
 | [] => Nat.le_refl _
 | s :: r => by have := cS_le s; have := Rsq r; simp only [cSs, mSs]; omega
end
theorem Rso : ∀ {l : List Stm} {e : Stm}, e ∈ l → cS e ≤ cSs l
 | [], e, h => by cases h
 | a :: r, e, h => by
  simp only [cSs]
  rcases List.mem_cons.1 h with rfl | h
  ·omega
  ·have := Rso h; omega
theorem Rsr {l : List Stm} (hp : ∀ s ∈ l, Raw s.body = some (cSs s.body : Int) ∧ Raw s.els = some (cSs s.els : Int)) (hb : cSs l ≤ 4294967296) :
  ∀ (d i : Nat) (k : Int), i + d = l.length → 0 ≤ k → k + cSs (l.drop i) ≤ 4294967296 → Ren l k i = some (k + cSs (l.drop i))
 | 0, i, k, hd, h0, h1 => by
  apply Rhi
  have hi : ¬ ((i : Int) < l.length) := by omega
  rw [List.drop_eq_nil_of_le (by omega)]
  simp [hi, cSs]
 | d + 1, i, k, hd, h0, h1 => by
  apply Rhi
  have hi : i < l.length := by omega
  have hi' : (i : Int) < l.length := by omega
  obtain ⟨p1, p2⟩ := hp _ (List.getElem_mem hi)
  have hlen := Rqb l
  have hc := Rsp hi
  have hs := Rvy l[i]
  rw [Rbk hi, Rav (by omega)]
  simp only [hi', Zy, Zt, Qb, p1, p2]
  rw [wrap_id (n := k + 1) (by omega) (by omega), wrap_id (n := k + 1 + (cSs l[i].body : Int)) (by omega) (by omega), wrap_id (by omega) (by omega),
   Rsr hp hb d (i + 1) _ (by omega) (by omega) (by omega)]
  congr 1; omega
theorem Rfx {l : List Stm} (hp : ∀ s ∈ l, Raw s.body = some (cSs s.body : Int) ∧ Raw s.els = some (cSs s.els : Int)) (hb : cSs l ≤ 4294967296) : Raw l = some (cSs l : Int) := by
 apply Rnj
 have := Rsr hp hb l.length 0 0 (by omega) (by omega) (by simp; omega)
 rw [show ((0 : Nat) : Int) = 0 by rfl] at this
 rw [this]; simp
theorem Rrm : ∀ s : Stm, cS s ≤ 4294967296 → Raw s.body = some (cSs s.body : Int) ∧ Raw s.els = some (cSs s.els : Int) := by
 apply Stm.ind
 intro s ih1 ih2 hb
 rw [Rvy] at hb
 exact ⟨Rfx (fun a ha => ih1 a ha (by have := Rso ha; omega)) (by omega), Rfx (fun a ha => ih2 a ha (by have := Rso ha; omega)) (by omega)⟩
theorem Rni {l : List Stm} (hb : cSs l ≤ 4294967296) : Raw l = some (cSs l : Int) :=
 Rfx (fun s hs => Rrm s (by have := Rso hs; omega)) hb
def hdr (s : Stm) : Prop :=
 (s.kind = 1 ∧ (0 ≤ s.var ∧ s.var < 4) ∧ s.box = 0 ∧ Rcw 5 s.e = true ∧ (s.body.length : Int) = 0 ∧ (s.els.length : Int) = 0) ∨
 (s.kind = 2 ∧ s.var = 0 ∧ s.box = 0 ∧ Rcw 5 s.e = true) ∨
 (s.kind = 3 ∧ s.var = 0 ∧ s.box = 0 ∧ Rcw 5 s.e = true ∧ (s.els.length : Int) = 0) ∨
 (s.kind = 4 ∧ s.var = 0 ∧ (0 ≤ s.box ∧ s.box < 3) ∧ Rcw 5 s.e = true ∧ (s.body.length : Int) = 0 ∧ (s.els.length : Int) = 0) ∨
 (s.kind = 5 ∧ (0 ≤ s.var ∧ s.var < 4) ∧ (0 ≤ s.box ∧ s.box < 3) ∧ (s.e.op = 0 ∧ s.e.n = 0 ∧ (s.e.args.length : Int) = 0) ∧ (s.body.length : Int) = 0 ∧ (s.els.length : Int) = 0) ∨
 (s.kind = 6 ∧ s.var = 0 ∧ s.box = 0 ∧ (s.e.op = 0 ∧ s.e.n = 0 ∧ (s.e.args.length : Int) = 0) ∧ (s.body.length : Int) = 0 ∧ (s.els.length : Int) = 0) ∨
 (s.kind = 7 ∧ s.var = 0 ∧ s.box = 0 ∧ Rcw 5 s.e = true ∧ (s.body.length : Int) = 0 ∧ (s.els.length : Int) = 0)
instance (s : Stm) : Decidable (hdr s) := by unfold hdr; infer_instance
def sOk : Nat → Stm → Bool
 | 0, s => decide (hdr s) && !decide (s.kind = 2 ∨ s.kind = 3)
 | d + 1, s => decide (hdr s) && (if s.kind = 2 ∨ s.kind = 3 then s.body.all (sOk d) && s.els.all (sOk d) else true)
theorem Rkj (x n : Int) (b : Bool) (hn : 1 ≤ n) : Rh x n b = some (decide (if b then 0 ≤ x ∧ x < n else x = 0)) := by
 apply Rer
 cases b
 ·by_cases h : x = 0 <;> simp [h]
 ·by_cases h : x = 0
  ·simp [h]; omega
  ·by_cases h2 : 0 < x
   ·simp [h, h2]; omega
   ·simp [h, h2]; omega
theorem Rki (s : Stm) (b : Bool) : Rce s b = some (decide (if b then 0 ≤ s.var ∧ s.var < 4 else s.var = 0)) := by
 apply Roy
 simp only [Rdw, Qb, cond_some]
 apply some_dec
 cases b <;> simp; omega
theorem Rkh (s : Stm) (b : Bool) : Rcd s b = some (decide (if b then 0 ≤ s.box ∧ s.box < 3 else s.box = 0)) := by
 apply Rox
 simp only [Rdw, Qb, cond_some]
 apply some_dec
 cases b <;> simp; omega
theorem Rnk (e : Exp) : Rgt e = some (decide (e.op = 0 ∧ e.n = 0 ∧ (e.args.length : Int) = 0)) := by
 apply Rnl
 simp only [cond_some]
 apply some_dec
 simp only [cond_iff, Ze, Bool.false_eq_true]
 by_cases h : e.op = 0 <;> by_cases h2 : e.n = 0 <;> simp [h, h2]
theorem Rih (s : Stm) (n2 : s.kind ≠ 2) (n3 : s.kind ≠ 3) : Rgd s = some (decide (hdr s)) := by
 apply Rmm
 simp only [Rdt, Rz, Rki, Rkh, Rnk, Rif, Qb, cond_some]
 apply some_dec
 obtain ⟨k, v, b, e, bd, el⟩ := s
 have a1 : (0 : Int) ≤ bd.length := by omega
 have a2 : (0 : Int) ≤ el.length := by omega
 have a3 : (0 : Int) ≤ e.args.length := by omega
 simp only [hdr, cond_iff, Ze, if_true, Bool.false_eq_true, if_false, Bool.not_eq_true', decide_eq_false_iff_not]
 generalize (bd.length : Int) = n1 at a1
 generalize (el.length : Int) = n2' at a2
 generalize (e.args.length : Int) = n3' at a3
 simp only [] at n2 n3
 cases hv : Rcw 5 e
 all_goals
  by_cases h1 : k = 1
  ·subst h1; simp; try omega
  by_cases h4 : k = 4
  ·subst h4; simp; try omega
  by_cases h5 : k = 5
  ·subst h5; simp; try omega
  by_cases h7 : k = 7
  ·subst h7; simp; try omega
  by_cases h6 : k = 6
  ·subst h6; simp; try omega
  simp [h1, n2, n3, h4, h5, h6, h7]
theorem hdr2 {s : Stm} (h : s.kind = 2) : hdr s ↔ s.var = 0 ∧ s.box = 0 ∧ Rcw 5 s.e = true := by simp [hdr, h]
theorem hdr3 {s : Stm} (h : s.kind = 3) : hdr s ↔ s.var = 0 ∧ s.box = 0 ∧ Rcw 5 s.e = true ∧ (s.els.length : Int) = 0 := by simp [hdr, h]
theorem Rsx {α : Type} {P Q : Prop} [Decidable P] [Decidable Q] {a b c : α} (h : P ↔ Q) (ha : a = b) : (if P then a else c) = if Q then b else c := by
 subst ha
 by_cases hp : P
 ·rw [if_pos hp, if_pos (h.1 hp)]
 ·rw [if_neg hp, if_neg fun x => hp (h.2 x)]
theorem Rsn {l : List Stm} {n : Int} {f : Stm → Bool} (hl : (l.length : Int) ≤ 4294967296) (hp : ∀ s ∈ l, Rig s n = some (f s)) :
  ∀ (d i : Nat), i + d = l.length → Rdz l n i = some (if (l.drop i).all f then .inl () else .inr false)
 | 0, i, hd => by
  apply Rgq
  have hi : ¬ ((i : Int) < l.length) := by omega
  rw [List.drop_eq_nil_of_le (by omega)]
  simp [hi]
 | d + 1, i, hd => by
  apply Rgq
  have hi : i < l.length := by omega
  have hi' : (i : Int) < l.length := by omega
  rw [Rbk hi, Rav (by omega), Rsn hl hp d (i + 1) (by omega)]
  have e1 : (l.drop i).all f = (f l[i] && (l.drop (i + 1)).all f) := by rw [List.drop_eq_getElem_cons hi, List.all_cons]
  rw [e1]
  simp only [hi', Zy, Zt, Qb, Rdt, hp _ (List.getElem_mem hi)]
  cases f l[i] <;> simp
theorem Rfm {l : List Stm} {n : Int} {f : Stm → Bool} (hl : (l.length : Int) ≤ 4294967296) (hp : ∀ s ∈ l, Rig s n = some (f s)) : Rab l n = some (l.all f) := by
 apply Rml
 rw [show (0 : Int) = ((0 : Nat) : Int) by rfl, Rsn hl hp l.length 0 (by omega), List.drop_zero]
 cases l.all f <;> simp [selm]
theorem Riu : ∀ (d : Nat) (s : Stm), d ≤ 3 → mS s ≤ 4294967296 → Rig s (d : Int) = some (sOk d s)
 | 0, s, hd, hm => by
  apply Rlo
  by_cases h2 : s.kind = 2
  ·simp [h2, sOk]
  ·by_cases h3 : s.kind = 3
   ·simp [h3, sOk]
   ·simp [h2, h3, sOk, Rdt, Rih s h2 h3]
 | d + 1, s, hd, hm => by
  apply Rlo
  have hm' := Rof s
  have l1 := Res s.body
  have l2 := Res s.els
  have hd0 : ¬ (((d + 1 : Nat) : Int) < 1) := by omega
  have b1 : Rab s.body (d : Int) = some (s.body.all (sOk d)) := Rfm (by omega) fun a ha => Riu d a (by omega) (by have := Rhe ha; omega)
  have b2 : Rab s.els (d : Int) = some (s.els.all (sOk d)) := Rfm (by omega) fun a ha => Riu d a (by omega) (by have := Rhe ha; omega)
  rw [show wrap64 (((d + 1 : Nat) : Int) - 1) = (d : Int) by rw [wrap_id (by omega) (by omega)]; omega]
  simp only [Rdt, Rz, Rki, Rkh, Rif, b1, b2, Qb, hd0, Zz, Zf]
  by_cases h2 : s.kind = 2
  ·have h3 : s.kind ≠ 3 := by omega
   have hh : decide (hdr s) = (decide (s.var = 0) && decide (s.box = 0) && Rcw 5 s.e) := by
    rw [Bool.eq_iff_iff]; simp [hdr2 h2, and_assoc]
   simp only [sOk, hh, h2, true_or, if_true]
   by_cases v : s.var = 0 <;> by_cases b : s.box = 0 <;> cases Rcw 5 s.e <;> cases s.body.all (sOk d) <;> simp [v, b]
  ·by_cases h3 : s.kind = 3
   ·by_cases he : (s.els.length : Int) = 0
    ·have hh : decide (hdr s) = (decide (s.var = 0) && decide (s.box = 0) && Rcw 5 s.e) := by
      rw [Bool.eq_iff_iff]; simp [hdr3 h3, and_assoc, he]
     simp only [sOk, hh, h3, or_true, if_true]
     by_cases v : s.var = 0 <;> by_cases b : s.box = 0 <;> cases Rcw 5 s.e <;> cases s.body.all (sOk d) <;> simp [v, b, he]
    ·have hh : decide (hdr s) = false := by
      simp [hdr3 h3]; intro _ _ _ h; exact absurd (by rw [h]; rfl) he
     have hpos : 0 < (s.els.length : Int) := by omega
     simp only [sOk, hh, h3, or_true, if_true, hpos]
     simp
   ·have hh := Rih s h2 h3
    simp only [sOk, h2, h3, or_false, if_false]
    simp [h2, h3]
    show bnd (Rgd s) _ = _
    rw [hh]; rfl
theorem Rmk {d : Nat} {l : List Stm} (hd : d ≤ 3) (hm : mSs l ≤ 4294967296) : Rab l (d : Int) = some (l.all (sOk d)) :=
 Rfm (by have := Res l; omega) fun s hs => Riu d s hd (by have := Rhe hs; omega)
def stOk (l : List Stm) : Bool := decide (l.all (sOk 3) = true ∧ (cSs l : Int) ≤ 16)
theorem Rlm (l : List Stm) (hm : mSs l ≤ 4294967296) : Rhh l = some (stOk l) := by
 apply Rln
 have hc := Rsq l
 rw [show (3 : Int) = ((3 : Nat) : Int) by rfl, Rmk (by omega) hm, Qb, Rni (by omega)]
 unfold stOk
 cases l.all (sOk 3) <;> simp
theorem mSs_one (s : Stm) : mSs [s] = 1 + mS s := by simp [mSs]
def hdN (many : Int) (s : Stm) : Prop := hdr s ∧ (s.kind = 4 ∨ s.kind = 5 → s.box < many)
instance (many : Int) (s : Stm) : Decidable (hdN many s) := by unfold hdN; infer_instance
def gOk (many : Int) : Nat → Stm → Bool
 | 0, s => decide (hdN many s) && !decide (s.kind = 2 ∨ s.kind = 3)
 | d + 1, s => decide (hdN many s) && (if s.kind = 2 ∨ s.kind = 3 then s.body.all (gOk many d) && s.els.all (gOk many d) else true)
theorem Rjg (x n : Int) (hn : 0 ≤ n) : Rh x n true = some (decide (x = 0 ∨ (0 ≤ x ∧ x < n))) := by
 apply Rer
 by_cases h : x = 0
 ·simp [h]
 ·by_cases h2 : 0 < x
  ·simp [h, h2]; omega
  ·simp [h, h2]; omega
theorem Rjc (x n : Int) : Rh x n false = some (decide (x = 0)) := by
 apply Rer
 by_cases h : x = 0 <;> simp [h]
theorem Rcm {many : Int} (hmn : 0 ≤ many ∧ many ≤ 3) (s : Stm) : Rhv s many = some (decide (hdN many s)) := by
 apply Rmb
 simp only [Rjg _ many hmn.1, Rkj _ 4 true (by omega), Rjc, Rly, Rz, Qb, cond_some]
 apply some_dec
 obtain ⟨k, v, b, e, bd, el⟩ := s
 have a1 : (0 : Int) ≤ bd.length := by omega
 have a2 : (0 : Int) ≤ el.length := by omega
 have a3 : (0 : Int) ≤ e.args.length := by omega
 simp only [hdN, hdr, cond_iff, Ze, if_true, Bool.false_eq_true, if_false, Bool.not_eq_true', decide_eq_false_iff_not]
 generalize (bd.length : Int) = n1 at a1
 generalize (el.length : Int) = n2 at a2
 generalize (e.args.length : Int) = n3 at a3
 cases hv : Rcw 5 e
 all_goals
  by_cases h1 : k = 1
  ·subst h1; simp; try omega
  by_cases h2 : k = 2
  ·subst h2; simp; try omega
  by_cases h3 : k = 3
  ·subst h3; simp; try omega
  by_cases h4 : k = 4
  ·subst h4; simp; try omega
  by_cases h5 : k = 5
  ·subst h5; simp; try omega
  by_cases h7 : k = 7
  ·subst h7; simp; try omega
  by_cases h6 : k = 6
  ·subst h6; simp; try omega
  simp [h1, h2, h3, h4, h5, h6, h7]
theorem Rrl {many : Int} (hmn : 0 ≤ many ∧ many ≤ 3) {l : List Stm} {d0 : Nat} (hl : (l.length : Int) ≤ 4294967296) (hd0 : d0 ≤ 3)
  (hp : ∀ d, d0 = d + 1 → ∀ (bl : List Stm) (n : Int), (∃ s ∈ l, bl = s.body ∨ bl = s.els) → 0 ≤ n → n ≤ 16 → ∃ c, Rbl bl many (3 - (d : Int)) n = some (decide (bl.all (gOk many d) = true ∧ n + cSs bl ≤ 16), c) ∧ (bl.all (gOk many d) = true → n + cSs bl ≤ 16 → c = n + cSs bl)) :
  ∀ (d i : Nat) (n : Int), i + d = l.length → 0 ≤ n → n ≤ 16 → ∃ c, Rbq l many (3 - (d0 : Int)) l.length i n = some (if (l.drop i).all (gOk many d0) = true ∧ n + (cSs (l.drop i) - (l.length - i : Int)) ≤ 16 then .inl (n + (cSs (l.drop i) - (l.length - i : Int))) else .inr (false, c))
 | 0, i, n, hd, h0, h1 => by
  refine ⟨0, ?_⟩
  apply Ram
  have hi : ¬ ((i : Int) < l.length) := by omega
  rw [List.drop_eq_nil_of_le (by omega), if_pos ⟨by simp, by simp [cSs]; omega⟩]
  simp [hi, cSs]; omega
 | d + 1, i, n, hd, h0, h1 => by
  have hi : i < l.length := by omega
  have hi' : (i : Int) < l.length := by omega
  have e1 : (l.drop i).all (gOk many d0) = (gOk many d0 l[i] && (l.drop (i + 1)).all (gOk many d0)) := by rw [List.drop_eq_getElem_cons hi, List.all_cons]
  have e2 := Rsp hi
  have e3 := Rvy l[i]
  have e4 := Rqb (l.drop (i + 1))
  rw [List.length_drop] at e4
  have hn3 : ¬ ((3 : Int) < 3 - (d0 : Int)) := by omega
  by_cases hh : hdN many l[i]
  ·by_cases hk : l[i].kind = 2 ∨ l[i].kind = 3
   ·cases d0 with
    | zero =>
     have s0 : gOk many 0 l[i] = false := by simp [gOk, hk]
     refine ⟨n, ?_⟩
     apply Ram
     rw [Rbk hi, e1, s0]
     simp only [hi', Zy, Zt, Qb, Rdt, Rcm hmn, hh, Zv, Zf]
     rcases hk with hk | hk <;> simp [hk]
    | succ d1 =>
     have hn4 : ¬ ((3 : Int) ≤ 3 - ((d1 + 1 : Nat) : Int)) := by omega
     have hw : wrap64 (3 - ((d1 + 1 : Nat) : Int) + 1) = 3 - (d1 : Int) := by rw [wrap_id (by omega) (by omega)]; omega
     have s1 : gOk many (d1 + 1) l[i] = (l[i].body.all (gOk many d1) && l[i].els.all (gOk many d1)) := by simp [gOk, hh, hk]
     obtain ⟨c1, k1, k2⟩ := hp d1 rfl l[i].body n ⟨l[i], List.getElem_mem hi, .inl rfl⟩ h0 h1
     by_cases g1 : l[i].body.all (gOk many d1) = true ∧ n + cSs l[i].body ≤ 16
     ·have hc1 := k2 g1.1 g1.2
      obtain ⟨c2, m1, m2⟩ := hp d1 rfl l[i].els (n + cSs l[i].body) ⟨l[i], List.getElem_mem hi, .inr rfl⟩ (by omega) g1.2
      by_cases g2 : l[i].els.all (gOk many d1) = true ∧ n + cSs l[i].body + cSs l[i].els ≤ 16
      ·have hc2 := m2 g2.1 g2.2
       obtain ⟨c, hc⟩ := Rrl hmn hl hd0 hp d (i + 1) (n + cSs l[i].body + cSs l[i].els) (by omega) (by omega) g2.2
       refine ⟨c, ?_⟩
       apply Ram
       rw [Rbk hi, e1, s1, g1.1, g2.1, Rav (by omega), hw]
       subst hc1 hc2
       have dk1 : decide (l[i].body.all (gOk many d1) = true ∧ n + (cSs l[i].body : Int) ≤ 16) = true := Zp g1
       have dk2 : decide (l[i].els.all (gOk many d1) = true ∧ n + (cSs l[i].body : Int) + (cSs l[i].els : Int) ≤ 16) = true := Zp g2
       rw [dk1] at k1
       rw [dk2] at m1
       have hcond : ((true && true && (l.drop (i + 1)).all (gOk many (d1 + 1))) = true ∧ n + ((cSs (l.drop i) : Int) - ((l.length : Int) - (i : Int))) ≤ 16) ↔ ((l.drop (i + 1)).all (gOk many (d1 + 1)) = true ∧ n + (cSs l[i].body : Int) + (cSs l[i].els : Int) + ((cSs (l.drop (i + 1)) : Int) - ((l.length : Int) - ((i + 1 : Nat) : Int))) ≤ 16) := by
        simp only [Bool.true_and, Bool.and_true]
        constructor
        ·rintro ⟨x, y⟩; exact ⟨x, by omega⟩
        ·rintro ⟨x, y⟩; exact ⟨x, by omega⟩
       have hval : n + ((cSs (l.drop i) : Int) - ((l.length : Int) - (i : Int))) = n + (cSs l[i].body : Int) + (cSs l[i].els : Int) + ((cSs (l.drop (i + 1)) : Int) - ((l.length : Int) - ((i + 1 : Nat) : Int))) := by omega
       rw [Rsx hcond (congrArg (Sum.inl (β := Bool × Int)) hval), ← hc]
       simp only [hi', Zy, Zt, Qb, Rdt, Rcm hmn, hh, Zv, Zf, hn3, hn4, Zz, k1, m1]
       rcases hk with hk | hk <;> simp [hk]
      ·refine ⟨c2, ?_⟩
       apply Ram
       rw [Rbk hi, e1, s1, g1.1, hw]
       subst hc1
       have dk1 : decide (l[i].body.all (gOk many d1) = true ∧ n + (cSs l[i].body : Int) ≤ 16) = true := Zp g1
       have dk2 : decide (l[i].els.all (gOk many d1) = true ∧ n + (cSs l[i].body : Int) + (cSs l[i].els : Int) ≤ 16) = false := Zq g2
       rw [dk1] at k1
       rw [dk2] at m1
       rw [if_neg (by
        rintro ⟨x, y⟩
        simp only [Bool.true_and, Zw] at x
        exact g2 ⟨x.1, by omega⟩)]
       simp only [hi', Zy, Zt, Qb, Rdt, Rcm hmn, hh, Zv, Zf, hn3, hn4, Zz, k1, m1]
       rcases hk with hk | hk <;> simp [hk]
     ·refine ⟨c1, ?_⟩
      apply Ram
      rw [Rbk hi, e1, s1, hw]
      have dk1 : decide (l[i].body.all (gOk many d1) = true ∧ n + (cSs l[i].body : Int) ≤ 16) = false := Zq g1
      rw [dk1] at k1
      rw [if_neg (by
       rintro ⟨x, y⟩
       simp only [Zw] at x
       exact g1 ⟨x.1.1, by omega⟩)]
      simp only [hi', Zy, Zt, Qb, Rdt, Rcm hmn, hh, Zv, Zf, hn3, hn4, Zz, k1]
      rcases hk with hk | hk <;> simp [hk]
   ·have n2 : l[i].kind ≠ 2 := fun h => hk (.inl h)
    have n3 : l[i].kind ≠ 3 := fun h => hk (.inr h)
    have s1 : gOk many d0 l[i] = true := by cases d0 <;> simp [gOk, hh, n2, n3]
    have hbe : l[i].body = [] ∧ l[i].els = [] := by
     have hh' := hh
     have hh' := hh'.1
     simp only [hdr, n2, n3, false_and, false_or] at hh'
     have : (l[i].body.length : Int) = 0 ∧ (l[i].els.length : Int) = 0 := by
      rcases hh' with h | h | h | h | h
      ·exact ⟨h.2.2.2.2.1, h.2.2.2.2.2⟩
      ·exact ⟨h.2.2.2.2.1, h.2.2.2.2.2⟩
      ·exact ⟨h.2.2.2.2.1, h.2.2.2.2.2⟩
      ·exact ⟨h.2.2.2.2.1, h.2.2.2.2.2⟩
      ·exact ⟨h.2.2.2.2.1, h.2.2.2.2.2⟩
     exact ⟨List.eq_nil_of_length_eq_zero (by omega), List.eq_nil_of_length_eq_zero (by omega)⟩
    rw [hbe.1, hbe.2] at e3
    simp only [cSs] at e3
    obtain ⟨c, hc⟩ := Rrl hmn hl hd0 hp d (i + 1) n (by omega) h0 h1
    refine ⟨c, ?_⟩
    apply Ram
    rw [Rbk hi, e1, s1, Rav (by omega)]
    have hcond : ((true && (l.drop (i + 1)).all (gOk many d0)) = true ∧ n + ((cSs (l.drop i) : Int) - ((l.length : Int) - (i : Int))) ≤ 16) ↔ ((l.drop (i + 1)).all (gOk many d0) = true ∧ n + ((cSs (l.drop (i + 1)) : Int) - ((l.length : Int) - ((i + 1 : Nat) : Int))) ≤ 16) := by
     simp only [Bool.true_and]
     constructor
     ·rintro ⟨x, y⟩; exact ⟨x, by omega⟩
     ·rintro ⟨x, y⟩; exact ⟨x, by omega⟩
    have hval : n + ((cSs (l.drop i) : Int) - ((l.length : Int) - (i : Int))) = n + ((cSs (l.drop (i + 1)) : Int) - ((l.length : Int) - ((i + 1 : Nat) : Int))) := by omega
    rw [Rsx hcond (congrArg (Sum.inl (β := Bool × Int)) hval), ← hc]
    simp only [hi', Zy, Zt, Qb, Rdt, Rcm hmn, hh, Zv, Zf, hn3, Zz]
    simp [n2, n3]
  ·have s1 : gOk many d0 l[i] = false := by cases d0 <;> simp [gOk, hh]
   refine ⟨n, ?_⟩
   apply Ram
   rw [Rbk hi, e1, s1]
   simp only [hi', Zy, Zt, Qb, Rdt, Rcm hmn, hh, Zz, Zx]
   simp
theorem Rhx {many : Int} (hmn : 0 ≤ many ∧ many ≤ 3) : ∀ (d : Nat) (l : List Stm) (n : Int), d ≤ 3 → mSs l ≤ 4294967296 → 0 ≤ n → n ≤ 16 →
  ∃ c, Rbl l many (3 - (d : Int)) n = some (decide (l.all (gOk many d) = true ∧ n + cSs l ≤ 16), c) ∧ (l.all (gOk many d) = true → n + cSs l ≤ 16 → c = n + cSs l)
 | d, l, n, hd, hm, h0, h1 => by
  have hlen := Res l
  have hcl := Rqb l
  by_cases hc : (16 : Int) < n + l.length
  ·refine ⟨n + l.length, ?_, fun _ h => by omega⟩
   apply Rfe
   rw [wrap_id (by omega) (by omega)]
   have : ¬ (l.all (gOk many d) = true ∧ n + (cSs l : Int) ≤ 16) := fun h => by omega
   rw [Zq this]
   simp [hc]
  ·obtain ⟨c, h⟩ := Rrl hmn (l := l) (d0 := d) (by omega) hd (fun d1 e1 bl m hb g0 g1 => by
    obtain ⟨s, hs, hbl⟩ := hb
    have := Rhe hs
    have := Rof s
    have hmb : mSs bl ≤ 4294967296 := by rcases hbl with rfl | rfl <;> omega
    exact Rhx hmn d1 bl m (by omega) hmb g0 g1) l.length 0 (n + l.length) (by omega) (by omega) (by omega)
   rw [List.drop_zero] at h
   by_cases g : l.all (gOk many d) = true ∧ n + (cSs l : Int) ≤ 16
   ·refine ⟨n + cSs l, ?_, fun _ _ => rfl⟩
    apply Rfe
    rw [wrap_id (by omega) (by omega), show (0 : Int) = ((0 : Nat) : Int) by rfl, h, if_pos ⟨g.1, by omega⟩, Zp g]
    simp only [hc, Zz, Zf, Qb, selm]
    congr 2; omega
   ·refine ⟨c, ?_, fun a b => absurd ⟨a, b⟩ g⟩
    apply Rfe
    rw [wrap_id (by omega) (by omega), show (0 : Int) = ((0 : Nat) : Int) by rfl, h, if_neg (fun x => g ⟨x.1, by omega⟩), Zq g]
    simp only [hc, Zz, Zf, Qb, selm]
 termination_by d => d
mutual
def bS (many : Int) : Stm → Bool
 | ⟨k, _, b, _, bd, el⟩ => !(decide (k = 4 ∨ k = 5) && decide (many ≤ b)) && bSs many bd && bSs many el
def bSs (many : Int) : List Stm → Bool
 | [] => true
 | s :: r => bS many s && bSs many r
end
theorem bS_eq (many : Int) (s : Stm) : bS many s = (!(decide (s.kind = 4 ∨ s.kind = 5) && decide (many ≤ s.box)) && bSs many s.body && bSs many s.els) := by cases s; simp [bS]
theorem Rsm (many : Int) : ∀ l : List Stm, bSs many l = l.all (bS many)
 | [] => rfl
 | s :: r => by simp [bSs, Rsm many r]
theorem Rsw {s : Stm} (h : hdr s) (n2 : s.kind ≠ 2) (n3 : s.kind ≠ 3) : s.body = [] ∧ s.els = [] := by
 simp only [hdr, n2, n3, false_and, false_or] at h
 have : (s.body.length : Int) = 0 ∧ (s.els.length : Int) = 0 := by
  rcases h with h | h | h | h | h
  ·exact ⟨h.2.2.2.2.1, h.2.2.2.2.2⟩
  ·exact ⟨h.2.2.2.2.1, h.2.2.2.2.2⟩
  ·exact ⟨h.2.2.2.2.1, h.2.2.2.2.2⟩
  ·exact ⟨h.2.2.2.2.1, h.2.2.2.2.2⟩
  ·exact ⟨h.2.2.2.2.1, h.2.2.2.2.2⟩
 exact ⟨List.eq_nil_of_length_eq_zero (by omega), List.eq_nil_of_length_eq_zero (by omega)⟩
theorem Rub (many : Int) (s : Stm) : decide (hdN many s) = (decide (hdr s) && !(decide (s.kind = 4 ∨ s.kind = 5) && decide (many ≤ s.box))) := by
 rw [Bool.eq_iff_iff]
 simp only [hdN, Ze, Zw, Bool.not_eq_true', Bool.and_eq_false_iff, decide_eq_false_iff_not]
 by_cases h : s.kind = 4 ∨ s.kind = 5
 ·simp [h]
 ·simp [h]
theorem Rqa {α : Type} {f g h : α → Bool} (hp : ∀ a, f a = (g a && h a)) : ∀ l : List α, l.all f = (l.all g && l.all h)
 | [] => rfl
 | a :: r => by
  simp only [List.all_cons, hp a, Rqa hp r]
  cases g a <;> cases h a <;> simp
theorem Rua (many : Int) : ∀ (d : Nat) (s : Stm), gOk many d s = (sOk d s && bS many s)
 | 0, s => by
  simp only [gOk, sOk, Rub, bS_eq]
  by_cases hh : hdr s
  ·by_cases hk : s.kind = 2 ∨ s.kind = 3
   ·simp [hk]
   ·have hl := Rsw hh (fun h => hk (.inl h)) (fun h => hk (.inr h))
    rw [hl.1, hl.2]
    simp [hh, hk, bSs]
  ·simp [hh]
 | d + 1, s => by
  simp only [gOk, sOk, Rub, bS_eq]
  by_cases hh : hdr s
  ·by_cases hk : s.kind = 2 ∨ s.kind = 3
   ·have hk4 : ¬ (s.kind = 4 ∨ s.kind = 5) := by omega
    rw [Rqa (Rua many d) s.body, Rqa (Rua many d) s.els, Rsm, Rsm]
    simp only [hk, if_true, hk4, Zz, Bool.false_and, Zx, hh, Zy, Bool.true_and, Bool.and_true]
    cases s.body.all (sOk d) <;> cases s.body.all (bS many) <;> cases s.els.all (sOk d) <;> simp
   ·have hl := Rsw hh (fun h => hk (.inl h)) (fun h => hk (.inr h))
    rw [hl.1, hl.2]
    simp [hh, hk, bSs]
  ·simp [hh]
theorem l12_l {l : List Stm} {many : Int} (hl : (l.length : Int) ≤ 4294967296) (hp : ∀ s ∈ l, Raa s.body many = some (bSs many s.body) ∧ Raa s.els many = some (bSs many s.els)) :
  ∀ (d i : Nat), i + d = l.length → Rcn l many i = some (if bSs many (l.drop i) then .inl () else .inr false)
 | 0, i, hd => by
  apply Rhj
  have hi : ¬ ((i : Int) < l.length) := by omega
  rw [List.drop_eq_nil_of_le (by omega)]
  simp [hi, bSs]
 | d + 1, i, hd => by
  apply Rhj
  have hi : i < l.length := by omega
  have hi' : (i : Int) < l.length := by omega
  obtain ⟨p1, p2⟩ := hp _ (List.getElem_mem hi)
  have e1 : bSs many (l.drop i) = (bS many l[i] && bSs many (l.drop (i + 1))) := by rw [List.drop_eq_getElem_cons hi]; simp only [bSs]
  rw [Rbk hi, Rav (by omega), l12_l hl hp d (i + 1) (by omega), e1, bS_eq]
  simp only [hi', Zy, Zt, Qb, p1, p2]
  by_cases h4 : l[i].kind = 4
  ·by_cases hb : many ≤ l[i].box <;> cases bSs many l[i].body <;> cases bSs many l[i].els <;> simp [h4, hb]
  ·by_cases h5 : l[i].kind = 5
   ·by_cases hb : many ≤ l[i].box <;> cases bSs many l[i].body <;> cases bSs many l[i].els <;> simp [h5, hb]
   ·cases bSs many l[i].body <;> cases bSs many l[i].els <;> simp [h4, h5]
theorem Rfy {l : List Stm} {many : Int} (hl : (l.length : Int) ≤ 4294967296) (hp : ∀ s ∈ l, Raa s.body many = some (bSs many s.body) ∧ Raa s.els many = some (bSs many s.els)) : Raa l many = some (bSs many l) := by
 apply Rnn
 rw [show (0 : Int) = ((0 : Nat) : Int) by rfl, l12_l hl hp l.length 0 (by omega), List.drop_zero]
 cases bSs many l <;> simp [selm]
theorem Ruf (many : Int) : ∀ s : Stm, mS s ≤ 4294967296 → Raa s.body many = some (bSs many s.body) ∧ Raa s.els many = some (bSs many s.els) := by
 apply Stm.ind
 intro s ih1 ih2 hb
 rw [Rof] at hb
 have l1 := Res s.body
 have l2 := Res s.els
 exact ⟨Rfy (by omega) (fun a ha => ih1 a ha (by have := Rhe ha; omega)), Rfy (by omega) (fun a ha => ih2 a ha (by have := Rhe ha; omega))⟩
theorem Rnm {l : List Stm} {many : Int} (hb : mSs l ≤ 4294967296) : Raa l many = some (bSs many l) :=
 Rfy (by have := Res l; omega) (fun s hs => Ruf many s (by have := Rhe hs; omega))
def gtOk (many : Int) (l : List Stm) : Bool := decide (l.all (gOk many 3) = true ∧ (cSs l : Int) ≤ 16)
theorem gtOk_eq (many : Int) (l : List Stm) : gtOk many l = (stOk l && bSs many l) := by
 unfold gtOk stOk
 rw [Rqa (Rua many 3) l, Rsm]
 cases l.all (sOk 3) <;> cases l.all (bS many) <;> simp
theorem Rmc {many : Int} (hmn : 0 ≤ many ∧ many ≤ 3) (l : List Stm) (hm : mSs l ≤ 4294967296) : Rgx l many = some (stOk l && bSs many l) := by
 apply Rlb
 obtain ⟨c, h, _⟩ := Rhx hmn 3 l 0 (by omega) hm (by omega) (by omega)
 rw [show (3 : Int) - ((3 : Nat) : Int) = 0 by omega] at h
 rw [h, Qb, ← gtOk_eq]
 simp [gtOk]
def opTs : List (List UInt8) := [[124], [94], [38], [61, 61], [60], [60, 60], [62, 62], [43], [45], [42], [47], [37]]
def opT (n : Int) : List UInt8 := if 1 ≤ n ∧ n ≤ 12 then opTs.getD (n - 1).toNat [] else []
theorem Rtj {n : Int} (h0 : 1 ≤ n) (h1 : n ≤ 12) : opTs[(n - 1).toNat]? = some (opT n) := by
 unfold opT
 rw [if_pos ⟨h0, h1⟩, List.getD_eq_getElem?_getD]
 have hl : (n - 1).toNat < opTs.length := by show (n - 1).toNat < 12; omega
 rw [List.getElem?_eq_getElem hl]; rfl
theorem Rou (n : Int) : Rkt n = some (opT n) := by
 apply Rov
 rw [Rhg, Qb]
 by_cases h : 1 ≤ n ∧ n ≤ 12
 ·simp only [h, and_self, Zy, Zv, Zf]
  rw [wrap_id (by omega) (by omega)]
  unfold geti
  rw [if_pos (by omega)]
  rw [show ([[124], [94], [38], [61, 61], [60], [60, 60], [62, 62], [43], [45], [42], [47], [37]] : List (List UInt8)) = opTs from rfl, Rtj h.1 h.2]; rfl
 ·simp only [h, Zz, Zx, Zt]
  unfold opT; rw [if_neg h]
abbrev Tok := List UInt8
def dg (c : UInt8) : Bool := decide (48 ≤ c.toNat ∧ c.toNat ≤ 57)
def lt (c : UInt8) : Bool := decide (97 ≤ c.toNat ∧ c.toNat ≤ 122)
def bl (c : UInt8) : Bool := decide (c.toNat = 32 ∨ c.toNat = 10)
def syms : List UInt8 := [43, 45, 42, 47, 37, 38, 124, 94, 60, 62, 40, 41, 123, 125, 61, 59]
def ones : List UInt8 := [124, 94, 38, 60, 43, 45, 42, 47, 37, 40, 41, 123, 125, 61, 59]
def twos : List (List UInt8) := [[61, 61], [60, 60], [62, 62]]
def Ry : List UInt8 → Nat
 | [] => 0
 | c :: r =>
  if dg c then 1 + (r.takeWhile dg).length
  else if lt c then 1 + (r.takeWhile lt).length
  else if twos.any (fun t => t.isPrefixOf (c :: r)) then 2
  else if c ∈ ones then 1 else 0
theorem Roo : ∀ l : List UInt8, Ry l ≤ l.length
 | [] => Nat.le_refl _
 | c :: r => by
  have h1 := (List.takeWhile_sublist (l := r) dg).length_le
  have h2 := (List.takeWhile_sublist (l := r) lt).length_le
  have h3 : twos.any (fun t => t.isPrefixOf (c :: r)) = true → 2 ≤ (c :: r).length := by
   intro h
   obtain ⟨t, ht, hp⟩ := List.any_eq_true.mp h
   have := (List.isPrefixOf_iff_prefix.mp hp).length_le
   have : t.length = 2 := by
    unfold twos at ht
    simp only [Zo, List.not_mem_nil, or_false] at ht
    rcases ht with rfl | rfl | rfl <;> rfl
   omega
  simp only [Ry]
  by_cases c1 : dg c = true
  ·simp only [c1, if_true, Zc]; omega
  ·simp only [c1, Bool.false_eq_true, if_false]
   by_cases c2 : lt c = true
   ·simp only [c2, if_true, Zc]; omega
   ·simp only [c2, Bool.false_eq_true, if_false]
    by_cases c3 : twos.any (fun t => t.isPrefixOf (c :: r)) = true
    ·simp only [c3, if_true]; exact h3 c3
    ·simp only [c3, Bool.false_eq_true, if_false]
     by_cases c4 : c ∈ ones
     ·simp only [c4, if_true, Zc]; simp
     ·simp [c4]
def toks : List UInt8 → Option (List Tok)
 | [] => some []
 | c :: r =>
  if bl c then toks r
  else if h : Ry (c :: r) = 0 then none
  else bnd (toks ((c :: r).drop (Ry (c :: r)))) fun t => some ((c :: r).take (Ry (c :: r)) :: t)
termination_by l => l.length
decreasing_by
 ·simp
 ·simp only [List.length_drop, Zc]; omega
theorem w1n {n : Nat} (h : n ≤ 1000000000000) : wrap64 ((n : Int) + 1) = ((n + 1 : Nat) : Int) := by rw [wrap_id (by omega) (by omega)]; rfl
theorem Rft {α : Type} {l : List α} {i : Nat} (h : i < l.length) : geti l (i : Int) = some l[i] := by rw [geti_nat', List.getElem?_eq_getElem h]
theorem Rbc (c : UInt8) : Rex (c.toNat : Int) = some (dg c) := by
 apply Rnz
 unfold dg
 by_cases h : 48 ≤ c.toNat
 ·have h' : (48 : Int) ≤ c.toNat := by omega
  simp only [h', Zy, Zt, h, true_and]
  congr 1; congr 1; apply propext; omega
 ·have h' : ¬ (48 : Int) ≤ c.toNat := by omega
  simp only [h', Zz, Zf, h, false_and]
theorem Rna (c : UInt8) : Rio (c.toNat : Int) = some (lt c) := by
 apply Rnb
 unfold lt
 by_cases h : 97 ≤ c.toNat
 ·have h' : (97 : Int) ≤ c.toNat := by omega
  simp only [h', Zy, Zt, h, true_and]
  congr 1; congr 1; apply propext; omega
 ·have h' : ¬ (97 : Int) ≤ c.toNat := by omega
  simp only [h', Zz, Zf, h, false_and]
theorem Rst {s : List UInt8} (hs : s.length ≤ 1000000000) (t9 t10 : Int) : ∀ (d i : Nat), i + d = s.length →
  Raj s i t9 t10 = some (s, ((i + ((s.drop i).takeWhile dg).length : Nat) : Int), t9, t10)
 | 0, i, h => by
  apply Rda
  have h1 : ¬ ((i : Int) < s.length) := by omega
  simp only [h1, Zz, Zf]
  rw [List.drop_eq_nil_of_le (by omega)]; rfl
 | d + 1, i, h => by
  apply Rda
  have h1 : (i : Int) < s.length := by omega
  have hl : i < s.length := by omega
  simp only [h1, Zy, Zt]
  rw [Rft hl, Qb, Rbc, Qb, List.drop_eq_getElem_cons hl, List.takeWhile_cons]
  cases hd : dg s[i]
  ·simp
  ·simp only [Zt, if_true]
   rw [w1n (by omega), Rst hs t9 t10 d (i + 1) (by omega)]
   simp only [Zc]
   rw [Nat.add_assoc, Nat.add_comm 1]
theorem Rqx {s : List UInt8} (hs : s.length ≤ 1000000000) (t9 t10 : Int) : ∀ (d i : Nat), i + d = s.length →
  Rak s i t9 t10 = some (s, ((i + ((s.drop i).takeWhile lt).length : Nat) : Int), t9, t10)
 | 0, i, h => by
  apply Rdb
  have h1 : ¬ ((i : Int) < s.length) := by omega
  simp only [h1, Zz, Zf]
  rw [List.drop_eq_nil_of_le (by omega)]; rfl
 | d + 1, i, h => by
  apply Rdb
  have h1 : (i : Int) < s.length := by omega
  have hl : i < s.length := by omega
  simp only [h1, Zy, Zt]
  rw [Rft hl, Qb, Rna, Qb, List.drop_eq_getElem_cons hl, List.takeWhile_cons]
  cases hd : lt s[i]
  ·simp
  ·simp only [Zt, if_true]
   rw [w1n (by omega), Rqx hs t9 t10 d (i + 1) (by omega)]
   simp only [Zc]
   rw [Nat.add_assoc, Nat.add_comm 1]
theorem Rmo {s : List UInt8} (hs : s.length ≤ 1000000000) : Rcb s 2 0 =
  some (if 0 < (s.takeWhile dg).length then .inr (s, ((s.takeWhile dg).length : Int)) else if 0 < (s.takeWhile lt).length then .inr (s, ((s.takeWhile lt).length : Int)) else .inl s) := by
 apply Rdq
 have e0 := Rst hs 2 0 s.length 0 (by omega)
 have e1 := Rqx hs 2 1 s.length 0 (by omega)
 simp only [List.drop_zero, Nat.zero_add, Int.ofNat_zero, Int.natCast_zero] at e0 e1
 simp only [show (0 : Int) < 2 by omega, Zy, Zt]
 rw [show (0 : Int) = ((0 : Nat) : Int) from rfl] at e0
 rw [show Raj s 0 2 0 = _ from e0, Qb]
 by_cases h0 : 0 < (s.takeWhile dg).length
 ·have h0' : (0 : Int) < ((s.takeWhile dg).length : Int) := by omega
  simp only [h0', Zy, Zt, h0, if_true]
 ·have h0' : ¬ (0 : Int) < ((s.takeWhile dg).length : Int) := by omega
  simp only [h0', Zz, Zf, h0, if_false]
  rw [show wrap64 (((0 : Nat) : Int) + 1) = 1 from w01]
  apply Rdq
  simp only [show (1 : Int) < 2 by omega, show ¬ (1 : Int) = 0 by omega, show (1 : Int) - 1 = 0 by omega, Zy, Zz, Zf, Zt]
  rw [show Rak s 0 2 1 = _ from e1, Qb]
  by_cases h1 : 0 < (s.takeWhile lt).length
  ·have h1' : (0 : Int) < ((s.takeWhile lt).length : Int) := by omega
   simp only [h1', Zy, Zt, h1, if_true]
  ·have h1' : ¬ (0 : Int) < ((s.takeWhile lt).length : Int) := by omega
   simp only [h1', Zz, Zf, h1, if_false]
   rw [show wrap64 (1 + 1) = 2 from w11]
   apply Rdq
   simp only [show ¬ (2 : Int) < 2 by omega, Zz, Zf]
theorem Rga {s : List UInt8} (m : Md) (l : List (List UInt8)) (hl : l.length ≤ 1000) : ∀ (d i : Nat), i + d = l.length →
  Rcc s m l l.length i = some (if (l.drop i).any (fun t => t.isPrefixOf s) then .inr (s, 2) else .inl s)
 | 0, i, h => by
  apply Rfq
  have h1 : ¬ ((i : Int) < l.length) := by omega
  simp only [h1, Zz, Zf]
  rw [List.drop_eq_nil_of_le (by omega)]; rfl
 | d + 1, i, h => by
  apply Rfq
  have h1 : (i : Int) < l.length := by omega
  have hi : i < l.length := by omega
  simp only [h1, Zy, Zt]
  have hp : strings_HasPrefix s l[i] = some (l[i].isPrefixOf s) := Rkd _ _ _ rfl
  rw [Rft hi, Qb, hp, Qb, List.drop_eq_getElem_cons hi, List.any_cons]
  cases l[i].isPrefixOf s
  ·simp only [Zf, Bool.false_or]
   rw [w1n (by omega), Rga m l hl d (i + 1) (by omega)]
  ·simp
theorem Roa (c : UInt8) : ∀ l : List UInt8, (0 ≤ Lib.indexByte l c ↔ c ∈ l) ∧ -1 ≤ Lib.indexByte l c
 | [] => by simp [Lib.indexByte]
 | a :: r => by
  have ih := Roa c r
  unfold Lib.indexByte
  by_cases h : a = c
  ·subst h; simp
  ·have h' : ¬ c = a := fun e => h e.symm
   simp only [h, h', if_false, Zo, false_or, beq_iff_eq]
   by_cases hc : c ∈ r
   ·have h2 := ih.1.mpr hc
    simp only [hc, iff_true]
    split <;> omega
   ·have h2 : ¬ 0 ≤ Lib.indexByte r c := fun h => hc (ih.1.mp h)
    simp only [hc, iff_false]
    split <;> omega
theorem Rkk {s : List UInt8} (hs : s.length ≤ 1000000000) : Rek s = some (Ry s : Int) := by
 apply Rkl
 rw [show ((([33100, 33200] : List Nat).length : Nat) : Int) = 2 from rfl, Rmo hs, Qb]
 cases s with
 | nil =>
  simp only [List.takeWhile_nil, Zn, Nat.lt_irrefl, if_false, selm]
  rw [show (0 : Int) = ((0 : Nat) : Int) from rfl, Rga _ _ (by decide) 3 0 (by decide), Qb]
  rfl
 | cons c r =>
  simp only [List.takeWhile_cons, Ry]
  cases hd : dg c
  ·simp only [Bool.false_eq_true, if_false, Zn, Nat.lt_irrefl]
   cases hl : lt c
   ·simp only [Bool.false_eq_true, if_false, Zn, Nat.lt_irrefl, selm]
    rw [show Rcc (c :: r) .full ([[61, 61], [60, 60], [62, 62]] : List (List UInt8)) (([[61, 61], [60, 60], [62, 62]] : List (List UInt8)).length : Int) 0 = _ from Rga _ _ (by decide) 3 0 (by decide), Qb]
    rw [List.drop_zero]
    change selm (if twos.any (fun t => t.isPrefixOf (c :: r)) = true then _ else _) _ _ = some (((if twos.any (fun t => t.isPrefixOf (c :: r)) = true then 2 else if c ∈ ones then 1 else 0 : Nat)) : Int)
    by_cases c3 : twos.any (fun t => t.isPrefixOf (c :: r)) = true
    ·simp only [c3, if_true, selm]; rfl
    ·simp only [c3, if_false, selm, Bool.false_eq_true]
     rw [show ((c :: r : List UInt8) == []) = false from rfl]
     simp only [Zx, Zt]
     rw [show geti (c :: r) 0 = some c from Rky _ _, Qb]
     have hi : strings_IndexByte ([124, 94, 38, 60, 43, 45, 42, 47, 37, 40, 41, 123, 125, 61, 59]) (c.toNat : Int) = some (Lib.indexByte ones c) := by
      apply Rke _ _
      have e : ((c.toNat : Int).toNat.toUInt8) = c := by
       rw [Int.toNat_natCast]; exact UInt8.ofNat_toNat
      rw [e]; rfl
     rw [hi, Qb]
     by_cases c4 : c ∈ ones
     ·have := (Roa c ones).1.mpr c4
      simp [this, c4]
     ·have : ¬ 0 ≤ Lib.indexByte ones c := fun h => c4 ((Roa c ones).1.mp h)
      simp [this, c4]
   ·simp only [if_true, Zc, selm, Nat.zero_lt_succ]
    rw [Nat.add_comm]
  ·simp only [if_true, Zc, selm, Nat.zero_lt_succ]
   rw [Nat.add_comm]
theorem Rdh {α : Type} {l : List α} {a : α} (h : l.length ≤ 1000000) : appL l [a] = some (l ++ [a]) := by
 unfold appL; rw [if_pos (by simp only [Zc, Zn]; omega)]
theorem Rkx {α : Type} {l : List α} {lo hi : Nat} (h1 : lo ≤ hi) (h2 : hi ≤ l.length) : cutL l (lo : Int) (hi : Int) = some ((l.take hi).drop lo) := by
 unfold cutL
 rw [if_pos (by omega), Int.toNat_natCast, Int.toNat_natCast]
theorem Rhu {α : Type} (l : List α) (i n : Nat) : (l.take (i + n)).drop i = (l.drop i).take n := by
 rw [List.drop_take]; congr 1; omega
theorem Rqm : toks [] = some [] := by unfold toks; rfl
theorem Rsb {c : UInt8} (r : List UInt8) (h : bl c = true) : toks (c :: r) = toks r := by
 conv => lhs; unfold toks
 rw [if_pos h]
theorem Rsd {c : UInt8} {r : List UInt8} (h : bl c = false) (h0 : Ry (c :: r) = 0) : toks (c :: r) = none := by
 unfold toks
 rw [if_neg (by simp [h]), dif_pos h0]
theorem Rqn {c : UInt8} {r : List UInt8} (h : bl c = false) (h0 : Ry (c :: r) ≠ 0) :
  toks (c :: r) = bnd (toks ((c :: r).drop (Ry (c :: r)))) fun t => some ((c :: r).take (Ry (c :: r)) :: t) := by
 conv => lhs; unfold toks
 rw [if_neg (by simp [h]), dif_neg h0]
theorem Rin {s : List UInt8} (hs : s.length ≤ 20000) : ∀ (d i : Nat) (b : Bool) (l : List Tok), s.length ≤ i + d → l.length ≤ i → i ≤ s.length →
  (∀ t, toks (s.drop i) = some t → ∃ b', Rag s b l i = some (.inl (b', l ++ t))) ∧
  (toks (s.drop i) = none → ∃ b' l', Rag s b l i = some (.inr ((false, []), false, (b', l'))))
 | d, i, b, l, h, hl, hi => by
  by_cases hlt : i < s.length
  ·have h1 : (i : Int) < s.length := by omega
   obtain ⟨d, rfl⟩ : ∃ d', d = d' + 1 := ⟨d - 1, by omega⟩
   have e := List.drop_eq_getElem_cons hlt
   have hg : geti s (i : Int) = some s[i] := Rft hlt
   generalize s[i] = c at e hg
   cases hb : bl c
   ·have hb' : ¬ ((c.toNat : Int) = 32) ∧ ¬ ((c.toNat : Int) = 10) := by
     unfold bl at hb
     have := of_decide_eq_false hb
     omega
    have hc : cutL s (i : Int) (s.length : Int) = some (s.drop i) := by
     rw [Rkx (by omega) (by omega), List.take_length]
    have ht : Rek (s.drop i) = some (Ry (s.drop i) : Int) := Rkk (by simp only [List.length_drop]; omega)
    have hle := Roo (s.drop i)
    rw [List.length_drop] at hle
    by_cases h0 : Ry (s.drop i) = 0
    ·have hn : toks (s.drop i) = none := by rw [e]; exact Rsd hb (by rw [← e]; exact h0)
     rw [hn]
     refine ⟨fun t h => by (cases h), fun _ => ⟨b, l, ?_⟩⟩
     apply Rdx
     simp only [h1, Zy, Zt, hg, Qb, hb'.1, hb'.2, Zz, Zf, hc, ht, h0, Int.ofNat_zero, Int.natCast_zero]
    ·have hn : toks (s.drop i) = bnd (toks (s.drop (i + Ry (s.drop i)))) fun t => some ((s.drop i).take (Ry (s.drop i)) :: t) := by
      conv => lhs; rw [e]
      rw [Rqn hb (by rw [← e]; exact h0), ← e, List.drop_drop]
     rw [hn]
     have ih := Rin hs d (i + Ry (s.drop i)) true (l ++ [(s.drop i).take (Ry (s.drop i))]) (by omega) (by simp only [Za, Zc, Zn]; omega) (by omega)
     have hw : wrap64 ((i : Int) + (Ry (s.drop i) : Int)) = ((i + Ry (s.drop i) : Nat) : Int) := by rw [wrap_id (by omega) (by omega)]; rfl
     have h0' : ¬ ((Ry (s.drop i) : Int) = 0) := by omega
     have hc2 : cutL s (i : Int) ((i + Ry (s.drop i) : Nat) : Int) = some ((s.drop i).take (Ry (s.drop i))) := by
      rw [Rkx (by omega) (by omega), Rhu]
     have step : ∀ x, Rag s true (l ++ [(s.drop i).take (Ry (s.drop i))]) ((i + Ry (s.drop i) : Nat) : Int) = some x → Rag s b l i = some x := by
      intro x hx
      apply Rdx
      simp only [h1, Zy, Zt, hg, Qb, hb'.1, hb'.2, Zz, Zf, hc, ht, h0', hw, hc2]
      rw [Rdh (by omega), Qb, hx]
     refine ⟨fun t h => ?_, fun h => ?_⟩
     ·cases ht2 : toks (s.drop (i + Ry (s.drop i))) with
      | none => rw [ht2] at h; cases h
      | some t2 =>
       rw [ht2, Qb] at h
       injection h with h
       subst h
       obtain ⟨b', hx⟩ := ih.1 t2 ht2
       refine ⟨b', step _ ?_⟩
       rw [hx, List.append_assoc]; rfl
     ·cases ht2 : toks (s.drop (i + Ry (s.drop i))) with
      | none =>
       obtain ⟨b', l', hx⟩ := ih.2 ht2
       exact ⟨b', l', step _ hx⟩
      | some t2 => rw [ht2, Qb] at h; cases h
   ·have hn : toks (s.drop i) = toks (s.drop (i + 1)) := by rw [e]; exact Rsb _ hb
    rw [hn]
    have ih := Rin hs d (i + 1) b l (by omega) (by omega) (by omega)
    have step : ∀ x, Rag s b l ((i + 1 : Nat) : Int) = some x → Rag s b l i = some x := by
     intro x hx
     apply Rdx
     have hb' := of_decide_eq_true hb
     by_cases h32 : (c.toNat : Int) = 32
     ·simp only [h1, Zy, Zt, hg, Qb, h32]
      rw [w1n (by omega), hx]
     ·have h10 : (c.toNat : Int) = 10 := by omega
      simp only [h1, Zy, Zt, hg, Qb, h10, show ¬ ((10 : Int) = 32) by omega, Zz, Zf]
      rw [w1n (by omega), hx]
    refine ⟨fun t h => ?_, fun h => ?_⟩
    ·obtain ⟨b', hx⟩ := ih.1 t h
     exact ⟨b', step _ hx⟩
    ·obtain ⟨b', l', hx⟩ := ih.2 h
     exact ⟨b', l', step _ hx⟩
  ·rw [List.drop_eq_nil_of_le (by omega), Rqm]
   refine ⟨fun t h => ⟨b, ?_⟩, fun h => by cases h⟩
   injection h with h
   subst h
   apply Rdx
   have h1 : ¬ ((i : Int) < s.length) := by omega
   simp only [h1, Zz, Zf, List.append_nil]
theorem Ree (s : List UInt8) : Rim s = some (if 20000 < s.length then ([], false) else match toks s with | some t => (t, true) | none => ([], false)) := by
 apply Rop
 by_cases h : 20000 < s.length
 ·have h' : (20000 : Int) < s.length := by omega
  simp only [h, h', Zy, Zt, if_true]
 ·have h' : ¬ (20000 : Int) < s.length := by omega
  simp only [h, h', Zz, Zf, if_false]
  have := Rin (s := s) (by omega) s.length 0 false [] (by omega) (by simp) (by omega)
  rw [List.drop_zero] at this
  cases ht : toks s with
  | some t =>
   obtain ⟨b', e⟩ := this.1 t ht
   rw [show Rag s false [] 0 = _ from e, Qb]; rfl
  | none =>
   obtain ⟨b', l', e⟩ := this.2 ht
   rw [show Rag s false [] 0 = _ from e, Qb]; rfl
def knd (c : UInt8) : Int := if dg c then 1 else if lt c then 2 else if bl c then 3 else if c ∈ syms then 4 else 0
theorem Rtb (c : UInt8) (l : List UInt8) (hl : l.length ≤ 1000) : ∀ (d i : Nat), i + d = l.length →
  Rbx (c.toNat : Int) l i = some (if c ∈ l.drop i then .inr 4 else .inl ())
 | 0, i, h => by
  apply Rii
  have h1 : ¬ ((i : Int) < l.length) := by omega
  simp only [h1, Zz, Zf]
  rw [List.drop_eq_nil_of_le (by omega)]; rfl
 | d + 1, i, h => by
  apply Rii
  have h1 : (i : Int) < l.length := by omega
  have hi : i < l.length := by omega
  simp only [h1, Zy, Zt]
  rw [Rft hi, Qb, List.drop_eq_getElem_cons hi]
  by_cases hc : l[i] = c
  ·simp only [hc, Zy, Zt, Zo, true_or, if_true]
  ·have hc' : ¬ ((l[i].toNat : Int) = (c.toNat : Int)) := fun e => hc (UInt8.toNat_inj.mp (by omega))
   have hc2 : ¬ c = l[i] := fun e => hc e.symm
   simp only [hc', Zz, Zf, Zo, hc2, false_or]
   rw [w1n (by omega), Rtb c l hl d (i + 1) (by omega)]
theorem Rgg (c : UInt8) : Rfz (c.toNat : Int) = some (knd c) := by
 apply Rpb
 have e := Rtb c syms (by decide) 16 0 (by decide)
 rw [List.drop_zero] at e
 have e' : Rbx (c.toNat : Int) ([43, 45, 42, 47, 37, 38, 124, 94, 60, 62, 40, 41, 123, 125, 61, 59]) 0 = some (if c ∈ syms then .inr 4 else .inl ()) := e
 rw [e']
 simp only [Qb]
 unfold knd dg lt bl
 by_cases h1 : (48 : Int) ≤ c.toNat <;> by_cases h2 : (c.toNat : Int) ≤ 57 <;> by_cases h3 : (97 : Int) ≤ c.toNat <;> by_cases h4 : (c.toNat : Int) ≤ 122 <;>
  by_cases h5 : (c.toNat : Int) = 32 <;> by_cases h6 : (c.toNat : Int) = 10 <;> try omega
 all_goals
  have g1 : (48 ≤ c.toNat) = ((48 : Int) ≤ c.toNat) := propext (by omega)
  have g2 : (c.toNat ≤ 57) = ((c.toNat : Int) ≤ 57) := propext (by omega)
  have g3 : (97 ≤ c.toNat) = ((97 : Int) ≤ c.toNat) := propext (by omega)
  have g4 : (c.toNat ≤ 122) = ((c.toNat : Int) ≤ 122) := propext (by omega)
  have g5 : (c.toNat = 32) = ((c.toNat : Int) = 32) := propext (by omega)
  have g6 : (c.toNat = 10) = ((c.toNat : Int) = 10) := propext (by omega)
  simp only [g1, g2, g3, g4, g5, g6, h1, h2, h3, h4, h5, h6, Zy, Zz, Zt, Zf, true_and, and_true, and_false, false_and, or_true, or_false, false_or, if_true, if_false, Bool.false_eq_true]
  try (first | rfl | (split <;> rfl))
theorem Rwm {c : UInt8} (h : dg c = true) : knd c = 1 := by unfold knd; rw [if_pos h]
theorem dg_lt {c : UInt8} (h : lt c = true) : dg c = false := by unfold dg lt at *; have := of_decide_eq_true h; apply Zq; omega
theorem Rwn {c : UInt8} (h : lt c = true) : knd c = 2 := by unfold knd; rw [if_neg (by simp [dg_lt h]), if_pos h]
theorem knd_one {c : UInt8} : (knd c = 1) ↔ dg c = true := by
 refine ⟨fun h => ?_, Rwm⟩
 unfold knd at h
 split at h
 ·assumption
 ·split at h; · cases h
  split at h; · cases h
  split at h <;> cases h
theorem knd_two {c : UInt8} : (knd c = 2) ↔ lt c = true := by
 refine ⟨fun h => ?_, Rwn⟩
 unfold knd at h
 split at h; · cases h
 split at h
 ·assumption
 ·split at h; · cases h
  split at h <;> cases h
theorem bl_not {c : UInt8} (h : bl c = true) : dg c = false ∧ lt c = false := by
 unfold dg lt bl at *; have := of_decide_eq_true h
 exact ⟨Zq (by omega), Zq (by omega)⟩
theorem Rqt {c : UInt8} : (knd c = 3) ↔ bl c = true := by
 refine ⟨fun h => ?_, fun h => ?_⟩
 ·unfold knd at h
  split at h; · cases h
  split at h; · cases h
  split at h
  ·assumption
  ·split at h <;> cases h
 ·obtain ⟨h1, h2⟩ := bl_not h
  unfold knd; simp [h, h1, h2]
theorem Rrt {s : List UInt8} (hs : s.length ≤ 1000000000) {at0 : Nat} (ha : at0 < s.length) {p : UInt8 → Bool} (hp : ∀ c, (knd c = knd s[at0]) ↔ p c = true) : ∀ (d i : Nat), i + d = s.length →
  Rgu s at0 i = some ((i + ((s.drop i).takeWhile p).length : Nat) : Int)
 | 0, i, h => by
  apply Rjb
  have h1 : ¬ ((i : Int) < s.length) := by omega
  simp only [h1, Zz, Zf]
  rw [List.drop_eq_nil_of_le (by omega)]; rfl
 | d + 1, i, h => by
  apply Rjb
  have h1 : (i : Int) < s.length := by omega
  have hl : i < s.length := by omega
  simp only [h1, Zy, Zt]
  rw [Rft hl, Qb, Rgg, Qb, Rft ha, Qb, Rgg, Qb, List.drop_eq_getElem_cons hl, List.takeWhile_cons]
  cases hd : p s[i]
  ·have : ¬ (knd s[i] = knd s[at0]) := by rw [hp]; simp [hd]
   simp only [this, Zz, Zf]; simp
  ·have : knd s[i] = knd s[at0] := (hp _).mpr hd
   simp only [this, Zy, Zt, if_true]
   rw [w1n (by omega), Rrt hs ha hp d (i + 1) (by omega)]
   simp only [Zc]
   rw [Nat.add_assoc, Nat.add_comm 1]
theorem Rwd (s : List UInt8) : Rmn s = some (twos.contains s) := by
 apply Rqk
 unfold twos
 by_cases h1 : s = [60, 60]
 ·subst h1; rfl
 ·by_cases h2 : s = [62, 62]
  ·subst h2; rfl
  ·by_cases h3 : s = [61, 61]
   ·subst h3; rfl
   ·have e1 : (s == [60, 60]) = false := by rw [beq_eq_false_iff_ne]; exact h1
    have e2 : (s == [62, 62]) = false := by rw [beq_eq_false_iff_ne]; exact h2
    have e3 : (s == [61, 61]) = false := by rw [beq_eq_false_iff_ne]; exact h3
    rw [e1, e2, e3]
    simp only [Zf, List.contains_cons, e1, e2, e3, Bool.or_false, List.contains_nil]
theorem Rto (c d : UInt8) (r : List UInt8) : twos.any (fun t => t.isPrefixOf (c :: d :: r)) = twos.contains [c, d] := by
 unfold twos
 have key : ∀ x : UInt8, ([x, x] : List UInt8).isPrefixOf (c :: d :: r) = ([c, d] == [x, x]) := by
  intro x
  have e1 : (x == c) = (c == x) := by rw [Bool.eq_iff_iff]; simp only [beq_iff_eq]; exact eq_comm
  have e2 : (x == d) = (d == x) := by rw [Bool.eq_iff_iff]; simp only [beq_iff_eq]; exact eq_comm
  simp only [List.isPrefixOf, Bool.and_true, e1, e2]
  show _ = (c == x && (d == x && true))
  rw [Bool.and_true]
 simp only [List.any_cons, List.any_nil, key, List.contains_cons, List.contains_nil]
theorem Rtn (c : UInt8) : twos.any (fun t => t.isPrefixOf [c]) = false := by
 unfold twos
 simp [List.isPrefixOf]
theorem Rvr {c : UInt8} {r : List UInt8} (h : ¬ c ∈ syms) : twos.any (fun t => t.isPrefixOf (c :: r)) = false := by
 cases r with
 | nil => exact Rtn c
 | cons d r =>
  rw [Rto]
  cases hc : twos.contains [c, d] with
  | false => rfl
  | true =>
   exfalso
   rw [List.contains_iff_mem] at hc
   unfold twos at hc
   simp only [Zo, List.cons.injEq, List.not_mem_nil, or_false] at hc
   apply h
   rcases hc with ⟨rfl, _⟩ | ⟨rfl, _⟩ | ⟨rfl, _⟩ <;> decide
theorem Rrf {c : UInt8} : (c ∈ ones ↔ c ∈ syms ∧ c ≠ 62) := by
 unfold ones syms
 simp only [Zo, List.not_mem_nil, or_false]
 constructor
 ·intro h
  rcases h with rfl | rfl | rfl | rfl | rfl | rfl | rfl | rfl | rfl | rfl | rfl | rfl | rfl | rfl | rfl <;> decide
 ·intro ⟨h, h2⟩
  rcases h with rfl | rfl | rfl | rfl | rfl | rfl | rfl | rfl | rfl | rfl | rfl | rfl | rfl | rfl | rfl | rfl <;> first | decide | exact absurd rfl h2
theorem Rug {s : List UInt8} (hs : s.length ≤ 1000000000) {i : Nat} {c : UInt8} (hi : i < s.length) (hg : geti s (i : Int) = some c) {r : List UInt8} (ed : s.drop i = c :: r) (h1 : dg c = false) (h2 : lt c = false) (hb : bl c = false) :
  Rjw s i = some (if Ry (s.drop i) = 0 then -1 else ((i + Ry (s.drop i) : Nat) : Int)) := by
 apply Riw
 rw [hg, Qb, Rgg, Qb]
 have hk : knd c = if c ∈ syms then 4 else 0 := by unfold knd; rw [if_neg (by simp [h1]), if_neg (by simp [h2]), if_neg (by simp [hb])]
 have ht : Ry (c :: r) = if twos.any (fun t => t.isPrefixOf (c :: r)) then 2 else if c ∈ ones then 1 else 0 := by
  simp only [Ry, h1, h2, Bool.false_eq_true, if_false]
 have hlen : s.length = i + (r.length + 1) := by
  have := congrArg List.length ed
  rw [List.length_drop, Zc] at this; omega
 have hw1 : wrap64 ((i : Int) + 1) = ((i + 1 : Nat) : Int) := w1n (by omega)
 have hw2 : wrap64 ((i : Int) + 2) = ((i + 2 : Nat) : Int) := by rw [wrap_id (by omega) (by omega)]; rfl
 rw [hk, hw1, hw2, ed]
 by_cases h4 : c ∈ syms
 ·have tail : (bif decide ((c.toNat : Int) = 62) then some (-1) else some ((i + 1 : Nat) : Int)) = some (if (if c ∈ ones then 1 else 0) = 0 then (-1 : Int) else ((i + (if c ∈ ones then 1 else 0) : Nat) : Int)) := by
   by_cases h62 : c = 62
   ·subst h62; rfl
   ·have ho : c ∈ ones := Rrf.mpr ⟨h4, h62⟩
    have hn : ¬ ((c.toNat : Int) = 62) := fun e => h62 (UInt8.toNat_inj.mp (by show c.toNat = 62; omega))
    simp only [hn, ho, Zz, Zf, if_true]
    rw [if_neg (by omega)]
  simp only [h4, if_true, show ¬ ((4 : Int) = 1) by omega, show ¬ ((4 : Int) = 2) by omega, Zy, Zz, Zf, Zv]
  cases r with
  | nil =>
   have hle : ¬ (((i + 2 : Nat) : Int) ≤ (s.length : Int)) := by
    rw [hlen]; simp only [Zn]; omega
   simp only [hle, Zz, Zf]
   rw [ht, Rtn, Qb, tail]
   simp
  | cons d r =>
   have hle : (((i + 2 : Nat) : Int) ≤ (s.length : Int)) := by
    rw [hlen]; simp only [Zc]; omega
   have hcut : cutL s (i : Int) ((i + 2 : Nat) : Int) = some [c, d] := by
    rw [Rkx (by omega) (by omega), Rhu, ed]; rfl
   simp only [hle, Zy, Zt]
   rw [hcut, Qb, Rwd, Qb, ht, Rto]
   cases hc : twos.contains [c, d] with
   | true =>
    simp only [Zt, if_true]
    rw [if_neg (by omega)]
   | false =>
    simp only [Zf, Bool.false_eq_true, if_false]
    rw [Qb, tail]
 ·have hn : twos.any (fun t => t.isPrefixOf (c :: r)) = false := Rvr h4
  have ho : ¬ c ∈ ones := fun h => h4 (Rrf.mp h).1
  rw [ht, hn]
  simp only [h4, ho, Bool.false_eq_true, if_false, show ¬ ((0 : Int) = 1) by omega, show ¬ ((0 : Int) = 2) by omega, show ¬ ((0 : Int) = 4) by omega, Zz, Zf, Zx, Zt, if_true]
theorem Rwc {s : List UInt8} (hs : s.length ≤ 1000000000) {i : Nat} (hi : i < s.length) (hb : bl s[i] = false) :
  Rjw s i = some (if Ry (s.drop i) = 0 then -1 else ((i + Ry (s.drop i) : Nat) : Int)) := by
 have hg : geti s (i : Int) = some s[i] := Rft hi
 have ed := List.drop_eq_getElem_cons hi
 by_cases h1 : dg s[i] = true
 ·have hk := Rwm h1
  have hr : Rij s i = some ((i + ((s.drop i).takeWhile dg).length : Nat) : Int) := by
   apply Rlq
   rw [Rrt hs hi (p := dg) (fun c => by rw [hk, knd_one]) (s.length - i) i (by omega), Qb]
  apply Riw
  rw [hg, Qb, Rgg, Qb]
  simp only [hk, Zy, Zt]
  rw [hr, Qb, ed]
  simp only [Ry, List.takeWhile_cons, h1, if_true, Zc]
  rw [if_neg (by omega), Nat.add_comm 1]
 by_cases h2 : lt s[i] = true
 ·have hk := Rwn h2
  have hr : Rij s i = some ((i + ((s.drop i).takeWhile lt).length : Nat) : Int) := by
   apply Rlq
   rw [Rrt hs hi (p := lt) (fun c => by rw [hk, knd_two]) (s.length - i) i (by omega), Qb]
  apply Riw
  rw [hg, Qb, Rgg, Qb]
  simp only [hk, Zy, Zt, show ¬ ((2 : Int) = 1) by omega, Zz, Zf]
  rw [hr, Qb, ed]
  simp only [Ry, List.takeWhile_cons, h1, h2, if_true, Zc, Bool.false_eq_true, if_false]
  rw [if_neg (by omega), Nat.add_comm 1]
 exact Rug hs hi hg ed (by simpa using h1) (by simpa using h2) hb
theorem Rit {s : List UInt8} (hs : s.length ≤ 20000) : ∀ (d i : Nat) (b : Bool) (l : List Tok), s.length ≤ i + d → l.length ≤ i → i ≤ s.length →
  (∀ t, toks (s.drop i) = some t → ∃ b', Rar s b l i = some (.inl (b', l ++ t))) ∧
  (toks (s.drop i) = none → ∃ b' l', Rar s b l i = some (.inr ((false, []), false, (b', l'))))
 | d, i, b, l, h, hl, hi => by
  by_cases hlt : i < s.length
  ·have h1 : (i : Int) < s.length := by omega
   obtain ⟨d, rfl⟩ : ∃ d', d = d' + 1 := ⟨d - 1, by omega⟩
   have e := List.drop_eq_getElem_cons hlt
   have hg : geti s (i : Int) = some s[i] := Rft hlt
   cases hb : bl s[i]
   ·have hend := Rwc (by omega) hlt hb
    generalize s[i] = c at e hg hb
    have hb' : ¬ (knd c = 3) := by rw [Rqt]; simp [hb]
    have hle := Roo (s.drop i)
    rw [List.length_drop] at hle
    by_cases h0 : Ry (s.drop i) = 0
    ·have hn : toks (s.drop i) = none := by rw [e]; exact Rsd hb (by rw [← e]; exact h0)
     rw [hn]
     refine ⟨fun t h => by (cases h), fun _ => ⟨b, l, ?_⟩⟩
     apply Rdy
     rw [if_pos h0] at hend
     simp only [h1, Zy, Zt, hg, Qb, Rgg, hb', Zz, Zf, hend, show (-1 : Int) < 0 by omega]
    ·have hn : toks (s.drop i) = bnd (toks (s.drop (i + Ry (s.drop i)))) fun t => some ((s.drop i).take (Ry (s.drop i)) :: t) := by
      conv => lhs; rw [e]
      rw [Rqn hb (by rw [← e]; exact h0), ← e, List.drop_drop]
     rw [hn]
     rw [if_neg h0] at hend
     have ih := Rit hs d (i + Ry (s.drop i)) true (l ++ [(s.drop i).take (Ry (s.drop i))]) (by omega) (by simp only [Za, Zc, Zn]; omega) (by omega)
     have h0' : ¬ (((i + Ry (s.drop i) : Nat) : Int) < 0) := by omega
     have hc2 : cutL s (i : Int) ((i + Ry (s.drop i) : Nat) : Int) = some ((s.drop i).take (Ry (s.drop i))) := by
      rw [Rkx (by omega) (by omega), Rhu]
     have step : ∀ x, Rar s true (l ++ [(s.drop i).take (Ry (s.drop i))]) ((i + Ry (s.drop i) : Nat) : Int) = some x → Rar s b l i = some x := by
      intro x hx
      apply Rdy
      simp only [h1, Zy, Zt, hg, Qb, Rgg, hb', Zz, Zf, hend, h0', hc2]
      rw [Rdh (by omega), Qb, hx]
     refine ⟨fun t h => ?_, fun h => ?_⟩
     ·cases ht2 : toks (s.drop (i + Ry (s.drop i))) with
      | none => rw [ht2] at h; cases h
      | some t2 =>
       rw [ht2, Qb] at h
       injection h with h
       subst h
       obtain ⟨b', hx⟩ := ih.1 t2 ht2
       refine ⟨b', step _ ?_⟩
       rw [hx, List.append_assoc]; rfl
     ·cases ht2 : toks (s.drop (i + Ry (s.drop i))) with
      | none =>
       obtain ⟨b', l', hx⟩ := ih.2 ht2
       exact ⟨b', l', step _ hx⟩
      | some t2 => rw [ht2, Qb] at h; cases h
   ·generalize s[i] = c at e hg hb
    have hn : toks (s.drop i) = toks (s.drop (i + 1)) := by rw [e]; exact Rsb _ hb
    rw [hn]
    have ih := Rit hs d (i + 1) b l (by omega) (by omega) (by omega)
    have step : ∀ x, Rar s b l ((i + 1 : Nat) : Int) = some x → Rar s b l i = some x := by
     intro x hx
     apply Rdy
     have hb' : knd c = 3 := Rqt.mpr hb
     simp only [h1, Zy, Zt, hg, Qb, Rgg, hb']
     rw [w1n (by omega), hx]
    refine ⟨fun t h => ?_, fun h => ?_⟩
    ·obtain ⟨b', hx⟩ := ih.1 t h
     exact ⟨b', step _ hx⟩
    ·obtain ⟨b', l', hx⟩ := ih.2 h
     exact ⟨b', l', step _ hx⟩
  ·rw [List.drop_eq_nil_of_le (by omega), Rqm]
   refine ⟨fun t h => ⟨b, ?_⟩, fun h => by cases h⟩
   injection h with h
   subst h
   apply Rdy
   have h1 : ¬ ((i : Int) < s.length) := by omega
   simp only [h1, Zz, Zf, List.append_nil]
theorem Rhw (s : List UInt8) : Rku s = some (if 20000 < s.length then ([], false) else match toks s with | some t => (t, true) | none => ([], false)) := by
 apply Row
 by_cases h : 20000 < s.length
 ·have h' : (20000 : Int) < s.length := by omega
  simp only [h, h', Zy, Zt, if_true]
 ·have h' : ¬ (20000 : Int) < s.length := by omega
  simp only [h, h', Zz, Zf, if_false]
  have := Rit (s := s) (by omega) s.length 0 true [] (by omega) (by simp) (by omega)
  rw [List.drop_zero] at this
  cases ht : toks s with
  | some t =>
   obtain ⟨b', e⟩ := this.1 t ht
   rw [show Rar s true ([] : List (List UInt8)) 0 = _ from e, Qb]; rfl
  | none =>
   obtain ⟨b', l', e⟩ := this.2 ht
   rw [show Rar s true ([] : List (List UInt8)) 0 = _ from e, Qb]; rfl
def opAt : List Tok → Nat → Tok → Nat
 | [], _, _ => 0
 | x :: r, n, t => if x = t then n else opAt r (n + 1) t
def opN (t : Tok) : Nat := opAt opTs 1 t
def levN (n : Nat) : Nat := [0, 1, 2, 3, 4, 5, 6, 6, 7, 7, 8, 8, 8].getD n 0
def nlev : List Tok → Nat
 | [] => 0
 | t :: _ => levN (opN t)
def lp : Tok := [40]
def rp : Tok := [41]
def numV (t : Tok) : Int := if 1 ≤ t.length ∧ t.length ≤ 5 then (match Lib.decFrom 0 t with | some n => (n : Int) | none => -1) else -1
def varV (t : Tok) : Int := match t with
 | [c] => if 97 ≤ c.toNat ∧ c.toNat ≤ 100 then (c.toNat : Int) - 97 else -1
 | _ => -1
def atom (t : Tok) : Option Exp := if 0 ≤ numV t then some ⟨0, numV t, []⟩ else if 0 ≤ varV t then some ⟨13, varV t, []⟩ else none
inductive J where
 | lev (k : Nat)
 | opd
 | loop (k : Nat) (e : Exp)
abbrev Out := Option (Exp × List Tok)
inductive P : J → List Tok → Out → Prop
 | nil : P .opd [] none
 | atom {t : Tok} {l : List Tok} {e : Exp} : t ≠ lp → atom t = some e → P .opd (t :: l) (some (e, l))
 | bad {t : Tok} {l : List Tok} : t ≠ lp → atom t = none → P .opd (t :: l) none
 | par {l r : List Tok} {e : Exp} : P (.lev 1) l (some (e, rp :: r)) → P .opd (lp :: l) (some (e, r))
 | parN {l : List Tok} : P (.lev 1) l none → P .opd (lp :: l) none
 | parE {l : List Tok} {e : Exp} : P (.lev 1) l (some (e, [])) → P .opd (lp :: l) none
 | parB {l r : List Tok} {t : Tok} {e : Exp} : P (.lev 1) l (some (e, t :: r)) → t ≠ rp → P .opd (lp :: l) none
 | top {k : Nat} {l : List Tok} {o : Out} : 8 < k → P .opd l o → P (.lev k) l o
 | levN {k : Nat} {l : List Tok} : k ≤ 8 → P (.lev (k + 1)) l none → P (.lev k) l none
 | levS {k : Nat} {l r : List Tok} {e : Exp} {o : Out} : k ≤ 8 → P (.lev (k + 1)) l (some (e, r)) → P (.loop k e) r o → P (.lev k) l o
 | stop {k : Nat} {e : Exp} {l : List Tok} : nlev l ≠ k → P (.loop k e) l (some (e, l))
 | step {k : Nat} {e b : Exp} {t : Tok} {l r : List Tok} {o : Out} : levN (opN t) = k → P (.lev (k + 1)) l (some (b, r)) → P (.loop k ⟨(opN t : Int), 0, [e, b]⟩) r o → P (.loop k e) (t :: l) o
 | stepN {k : Nat} {e : Exp} {t : Tok} {l : List Tok} : levN (opN t) = k → P (.lev (k + 1)) l none → P (.loop k e) (t :: l) none
inductive C : J → List Tok → Out → Prop
 | nil : C .opd [] none
 | atom {t : Tok} {l : List Tok} {e : Exp} : t ≠ lp → atom t = some e → C .opd (t :: l) (some (e, l))
 | bad {t : Tok} {l : List Tok} : t ≠ lp → atom t = none → C .opd (t :: l) none
 | par {l r : List Tok} {e : Exp} : C (.lev 1) l (some (e, rp :: r)) → C .opd (lp :: l) (some (e, r))
 | parN {l : List Tok} : C (.lev 1) l none → C .opd (lp :: l) none
 | parE {l : List Tok} {e : Exp} : C (.lev 1) l (some (e, [])) → C .opd (lp :: l) none
 | parB {l r : List Tok} {t : Tok} {e : Exp} : C (.lev 1) l (some (e, t :: r)) → t ≠ rp → C .opd (lp :: l) none
 | exN {k : Nat} {l : List Tok} : C .opd l none → C (.lev k) l none
 | ex {k : Nat} {l r : List Tok} {e : Exp} {o : Out} : C .opd l (some (e, r)) → C (.loop k e) r o → C (.lev k) l o
 | stop {k : Nat} {e : Exp} {l : List Tok} : nlev l < k → C (.loop k e) l (some (e, l))
 | step {k : Nat} {e b : Exp} {t : Tok} {l r : List Tok} {o : Out} : k ≤ levN (opN t) → C (.lev (levN (opN t) + 1)) l (some (b, r)) → C (.loop k ⟨(opN t : Int), 0, [e, b]⟩) r o → C (.loop k e) (t :: l) o
 | stepN {k : Nat} {e : Exp} {t : Tok} {l : List Tok} : k ≤ levN (opN t) → C (.lev (levN (opN t) + 1)) l none → C (.loop k e) (t :: l) none
theorem Roe (n : Nat) : levN n ≤ 8 := by
 by_cases h : n < 13
 ·have : ∀ i : Fin 13, levN i.val ≤ 8 := by decide
  exact this ⟨n, h⟩
 ·unfold levN
  rw [List.getD_eq_getElem?_getD, List.getElem?_eq_none (by simp; omega)]; simp
theorem Ruk (l : List Tok) : nlev l ≤ 8 := by
 cases l with
 | nil => exact Nat.zero_le _
 | cons t l => exact Roe _
theorem Rwi : ∀ {j : J} {l : List Tok} {o : Out}, P j l o → ∀ e r, o = some (e, r) → match j with
  | .lev k => nlev r < k
  | .opd => True
  | .loop k _ => nlev l < k + 1 → nlev r < k := by
 intro j l o h
 induction h with
 | top hk h ih =>
  intro e r ho
  have := Ruk r
  show nlev r < _
  omega
 | levN hk h ih => intro e r ho; cases ho
 | levS hk h1 h2 ih1 ih2 =>
  intro e r ho
  exact ih2 e r ho (ih1 _ _ rfl)
 | stop hn =>
  intro e r ho hl
  injection ho with ho; injection ho with h1 h2; subst h2
  omega
 | step hl h1 h2 ih1 ih2 =>
  intro e r ho hn
  exact ih2 e r ho (ih1 _ _ rfl)
 | stepN hl h ih => intro e r ho; cases ho
 | nil => intro e r ho; trivial
 | atom _ _ => intro e r ho; trivial
 | bad _ _ => intro e r ho; trivial
 | par _ _ => intro e r ho; trivial
 | parN _ _ => intro e r ho; trivial
 | parE _ _ => intro e r ho; trivial
 | parB _ _ _ => intro e r ho; trivial
theorem Rwh : ∀ {j : J} {l : List Tok} {o1 : Out}, C j l o1 → match j with
  | .loop k e => ∀ k', k' ≤ k → (o1 = none → C (.loop k' e) l none) ∧ (∀ e' r' o, o1 = some (e', r') → C (.loop k' e') r' o → C (.loop k' e) l o)
  | _ => True := by
 intro j l o1 h
 induction h with
 | stop hn =>
  intro k' hk
  refine ⟨fun h => (by cases h), fun e' r' o ho hc => ?_⟩
  injection ho with ho; injection ho with h1 h2; subst h1; subst h2; exact hc
 | step hl h1 h2 ih1 ih2 =>
  intro k' hk
  refine ⟨fun h => .step (by omega) h1 ((ih2 k' hk).1 h), fun e' r' o ho hc => .step (by omega) h1 ((ih2 k' hk).2 e' r' o ho hc)⟩
 | stepN hl h1 ih =>
  intro k' hk
  exact ⟨fun _ => .stepN (by omega) h1, fun e' r' o ho => (by cases ho)⟩
 | _ => trivial
theorem P_C : ∀ {j : J} {l : List Tok} {o : Out}, P j l o → match j with
  | .lev k => C (.lev k) l o
  | .opd => C .opd l o
  | .loop k e => nlev l < k + 1 → C (.loop k e) l o := by
 intro j l o h
 induction h with
 | nil => exact .nil
 | atom h1 h2 => exact .atom h1 h2
 | bad h1 h2 => exact .bad h1 h2
 | par h ih => exact .par ih
 | parN h ih => exact .parN ih
 | parE h ih => exact .parE ih
 | parB h hn ih => exact .parB ih hn
 | top hk h ih =>
  rename_i k l o
  cases o with
  | none => exact .exN ih
  | some p =>
   obtain ⟨e, r⟩ := p
   exact .ex ih (.stop (by have := Ruk r; omega))
 | levN hk h ih =>
  cases ih with
  | exN h1 => exact .exN h1
  | ex h1 h2 => exact .ex h1 ((Rwh h2 _ (Nat.le_succ _)).1 rfl)
 | levS hk h1 h2 ih1 ih2 =>
  have hn := Rwi h1 _ _ rfl
  cases ih1 with
  | ex h3 h4 => exact .ex h3 ((Rwh h4 _ (Nat.le_succ _)).2 _ _ _ rfl (ih2 hn))
 | stop hn => intro hl; exact .stop (by omega)
 | step hl h1 h2 ih1 ih2 =>
  intro _
  exact .step (by omega) (by rw [hl]; exact ih1) (ih2 (Rwi h1 _ _ rfl))
 | stepN hl h ih =>
  intro _
  exact .stepN (by omega) (by rw [hl]; exact ih)
theorem Rrk : ∀ {j : J} {l : List Tok} {o : Out}, P j l o → ∀ e r, o = some (e, r) → (∃ p, l = p ++ r) ∧ (match j with | .loop _ _ => r.length ≤ l.length | _ => r.length < l.length) := by
 intro j l o h
 induction h with
 | nil => intro e r ho; cases ho
 | atom _ _ =>
  intro e r ho
  injection ho with ho; injection ho with h1 h2; subst h2
  exact ⟨⟨[_], rfl⟩, by simp⟩
 | bad _ _ => intro e r ho; cases ho
 | par _ ih =>
  intro e r ho
  injection ho with ho; injection ho with h1 h2; subst h2
  obtain ⟨⟨p, hp⟩, hl⟩ := ih _ _ rfl
  refine ⟨⟨lp :: p ++ [rp], by rw [hp]; simp⟩, ?_⟩
  simp only [Zc] at *; omega
 | parN _ _ => intro e r ho; cases ho
 | parE _ _ => intro e r ho; cases ho
 | parB _ _ _ => intro e r ho; cases ho
 | top hk h ih => intro e r ho; exact ih e r ho
 | levN hk h ih => intro e r ho; cases ho
 | levS hk h1 h2 ih1 ih2 =>
  intro e r ho
  obtain ⟨⟨p, hp⟩, hl⟩ := ih1 _ _ rfl
  obtain ⟨⟨q, hq⟩, hl2⟩ := ih2 e r ho
  refine ⟨⟨p ++ q, by rw [hp, hq, List.append_assoc]⟩, ?_⟩
  simp only at *; omega
 | stop hn =>
  intro e r ho
  injection ho with ho; injection ho with h1 h2; subst h2
  exact ⟨⟨[], rfl⟩, Nat.le_refl _⟩
 | step hl h1 h2 ih1 ih2 =>
  intro e r ho
  obtain ⟨⟨p, hp⟩, hl⟩ := ih1 _ _ rfl
  obtain ⟨⟨q, hq⟩, hl2⟩ := ih2 e r ho
  refine ⟨⟨_ :: (p ++ q), by rw [hp, hq]; simp; rfl⟩, ?_⟩
  simp only [Zc] at *; omega
 | stepN hl h ih => intro e r ho; cases ho
def J.ok : J → Prop
 | .lev k => 1 ≤ k
 | .opd => True
 | .loop k _ => 1 ≤ k
theorem Rlw : ∀ (n : Nat) (j : J) (l : List Tok), j.ok → l.length < n → (∃ o, P j l o)
 | 0, _, _, _, h => by omega
 | n + 1, j, l, hj, hn => by
  have opd : ∃ o, P .opd l o := by
   cases l with
   | nil => exact ⟨_, .nil⟩
   | cons t l =>
    by_cases ht : t = lp
    ·subst ht
     obtain ⟨o, ho⟩ := Rlw n (.lev 1) l (Nat.le_refl 1) (by simp only [Zc] at hn; omega)
     cases o with
     | none => exact ⟨_, .parN ho⟩
     | some p =>
      obtain ⟨e, r⟩ := p
      cases r with
      | nil => exact ⟨_, .parE ho⟩
      | cons u r =>
       by_cases hu : u = rp
       ·subst hu; exact ⟨_, .par ho⟩
       ·exact ⟨_, .parB ho hu⟩
    ·cases ha : atom t with
     | none => exact ⟨_, .bad ht ha⟩
     | some e => exact ⟨_, .atom ht ha⟩
  have lev : ∀ d k, 1 ≤ k → k + d = 9 → ∃ o, P (.lev k) l o := by
   intro d
   induction d with
   | zero =>
    intro k h1 hk
    obtain ⟨o, ho⟩ := opd
    exact ⟨o, .top (by omega) ho⟩
   | succ d ih =>
    intro k h1 hk
    obtain ⟨o, ho⟩ := ih (k + 1) (by omega) (by omega)
    cases o with
    | none => exact ⟨_, .levN (by omega) ho⟩
    | some p =>
     obtain ⟨e, r⟩ := p
     have hs := (Rrk ho e r rfl).2
     simp only at hs
     obtain ⟨o2, ho2⟩ := Rlw n (.loop k e) r h1 (by omega)
     exact ⟨o2, .levS (by omega) ho ho2⟩
  cases j with
  | opd => exact opd
  | lev k =>
   by_cases hk : k ≤ 9
   ·exact lev (9 - k) k hj (by omega)
   ·obtain ⟨o, ho⟩ := opd
    exact ⟨o, .top (by omega) ho⟩
  | loop k e =>
   by_cases hl : nlev l = k
   ·cases l with
    | nil =>
     exfalso
     have h1 : 1 ≤ k := hj
     have h2 : 0 = k := hl
     omega
    | cons t l =>
     obtain ⟨o, ho⟩ := Rlw n (.lev (k + 1)) l (Nat.succ_le_succ (Nat.zero_le k)) (by simp only [Zc] at hn; omega)
     cases o with
     | none => exact ⟨_, .stepN hl ho⟩
     | some p =>
      obtain ⟨b, r⟩ := p
      have hs := (Rrk ho b r rfl).2
      simp only at hs
      obtain ⟨o2, ho2⟩ := Rlw n (.loop k ⟨(opN t : Int), 0, [e, b]⟩) r hj (by simp only [Zc] at hn; omega)
      exact ⟨o2, .step hl ho ho2⟩
   ·exact ⟨_, .stop hl⟩
theorem Rli (t : Tok) : opN t ≤ 12 := by
 unfold opN
 rcases Nat.lt_or_ge (opAt opTs 1 t) 13 with h | h
 ·omega
 ·exfalso
  have key : ∀ (l : List Tok) (n : Nat), opAt l n t < n + l.length ∨ l = [] ∨ opAt l n t = 0 := by
   intro l
   induction l with
   | nil => intro n; exact Or.inr (Or.inl rfl)
   | cons x r ih =>
    intro n
    unfold opAt
    split
    ·left; simp only [Zc]; omega
    ·rcases ih (n + 1) with h | h | h
     ·left; simp only [Zc]; omega
     ·subst h; right; right; rfl
     ·right; right; exact h
  rcases key opTs 1 with h2 | h2 | h2
  ·have : opTs.length = 12 := rfl
   omega
  ·cases h2
  ·omega
theorem Rti (t : Tok) : ∀ (d i : Nat), i + d = 12 → Reg t i = some (if opAt (opTs.drop i) (i + 1) t = 0 then .inl () else .inr (opAt (opTs.drop i) (i + 1) t : Int))
 | 0, i, h => by
  apply Rhz
  have h1 : ¬ ((i : Int) < 12) := by omega
  simp only [h1, Zz, Zf]
  rw [List.drop_eq_nil_of_le (show opTs.length ≤ i by show 12 ≤ i; omega)]; rfl
 | d + 1, i, h => by
  apply Rhz
  have h1 : ((i : Int) < 12) := by omega
  have hi : i < opTs.length := by show i < 12; omega
  simp only [h1, Zy, Zt]
  rw [show geti ([[124], [94], [38], [61, 61], [60], [60, 60], [62, 62], [43], [45], [42], [47], [37]] : List (List UInt8)) (i : Int) = some opTs[i] from Rft hi, Qb, List.drop_eq_getElem_cons hi]
  unfold opAt
  by_cases hc : opTs[i] = t
  ·have hb : (opTs[i] == t) = true := by rw [beq_iff_eq]; exact hc
   simp only [hc, if_true, beq_self_eq_true, Zt]
   rw [if_neg (by omega), show wrap64 (1 + (i : Int)) = ((i + 1 : Nat) : Int) by rw [wrap_id (by omega) (by omega)]; omega]
  ·have hb : (opTs[i] == t) = false := by rw [beq_eq_false_iff_ne]; exact hc
   simp only [hb, Zf, hc, if_false]
   rw [w1n (by omega), Rti t d (i + 1) (by omega)]
theorem Rbw (t : Tok) : Rip t = some (opN t : Int) := by
 apply Roq
 rw [show Reg t 0 = _ from Rti t 12 0 (by omega), Qb, List.drop_zero]
 change selm (if opN t = 0 then _ else _) _ _ = _
 by_cases h : opN t = 0
 ·simp only [h, if_true, selm]; rfl
 ·simp only [h, if_false, selm]; rfl
theorem Rwo (t : Tok) : ∀ (d i : Nat), i + d = 12 → Rgk t ((i + 1 : Nat) : Int) = some (if opAt (opTs.drop i) (i + 1) t = 0 then .inl () else .inr (opAt (opTs.drop i) (i + 1) t : Int))
 | 0, i, h => by
  apply Rjr
  have h1 : ¬ (((i + 1 : Nat) : Int) ≤ 12) := by omega
  simp only [h1, Zz, Zf]
  rw [List.drop_eq_nil_of_le (show opTs.length ≤ i by show 12 ≤ i; omega)]; rfl
 | d + 1, i, h => by
  apply Rjr
  have h1 : (((i + 1 : Nat) : Int) ≤ 12) := by omega
  have hi : i < opTs.length := by show i < 12; omega
  simp only [h1, Zy, Zt]
  have ho : opT ((i + 1 : Nat) : Int) = opTs[i] := by
   have := Rtj (n := ((i + 1 : Nat) : Int)) (by omega) (by omega)
   rw [show (((i + 1 : Nat) : Int) - 1).toNat = i by omega, List.getElem?_eq_getElem hi] at this
   injection this with this
   exact this.symm
  rw [Rou, Qb, ho, List.drop_eq_getElem_cons hi]
  unfold opAt
  by_cases hc : opTs[i] = t
  ·have hb : (t == opTs[i]) = true := by rw [beq_iff_eq]; exact hc.symm
   simp only [hc, if_true, beq_self_eq_true, Zt]
   rw [if_neg (by omega)]
  ·have hb : (t == opTs[i]) = false := by rw [beq_eq_false_iff_ne]; exact fun e => hc e.symm
   simp only [hb, Zf, hc, if_false]
   rw [w1n (by omega), Rwo t d (i + 1) (by omega)]
theorem Rjq (t : Tok) : Rlr t = some (opN t : Int) := by
 apply Rri
 rw [show Rgk t 1 = _ from Rwo t 12 0 (by omega), Qb, List.drop_zero]
 change selm (if opN t = 0 then _ else _) _ _ = _
 by_cases h : opN t = 0
 ·simp only [h, if_true, selm]; rfl
 ·simp only [h, if_false, selm]; rfl
theorem Rcj {n : Nat} (h : n ≤ 12) : Rew (n : Int) = some (levN n : Int) := by
 apply Rnw
 have : n = 0 ∨ n = 1 ∨ n = 2 ∨ n = 3 ∨ n = 4 ∨ n = 5 ∨ n = 6 ∨ n = 7 ∨ n = 8 ∨ n = 9 ∨ n = 10 ∨ n = 11 ∨ n = 12 := by omega
 rcases this with rfl | rfl | rfl | rfl | rfl | rfl | rfl | rfl | rfl | rfl | rfl | rfl | rfl <;> rfl
theorem Rgl {n : Nat} (h : n ≤ 12) : Rjn (n : Int) = some (levN n : Int) := by
 apply Rok
 rw [Rhg, Qb]
 have : n = 0 ∨ n = 1 ∨ n = 2 ∨ n = 3 ∨ n = 4 ∨ n = 5 ∨ n = 6 ∨ n = 7 ∨ n = 8 ∨ n = 9 ∨ n = 10 ∨ n = 11 ∨ n = 12 := by omega
 by_cases h0 : n = 0
 ·subst h0; rfl
 ·have hv : (1 : Int) ≤ n ∧ (n : Int) ≤ 12 := by omega
  simp only [hv, and_self, Zy, Zv, Zf]
  rw [wrap_id (by omega) (by omega)]
  rcases this with rfl | rfl | rfl | rfl | rfl | rfl | rfl | rfl | rfl | rfl | rfl | rfl | rfl
  ·exact absurd rfl h0
  all_goals rfl
theorem Rtx {c : UInt8} (h : dg c = true) : Lib.digitVal c = some (c.toNat - 48) := by
 unfold Lib.digitVal; rw [if_pos (of_decide_eq_true h)]
theorem Rss {c : UInt8} (h : dg c = false) : Lib.digitVal c = none := by
 unfold Lib.digitVal; rw [if_neg (of_decide_eq_false h)]
theorem Rtg {t : Tok} (ht : t.length ≤ 5) : ∀ (d i a : Nat), i + d = t.length → a < 10 ^ i →
  (∃ x, Rdp t (a : Int) i = some x ∧ selm x (fun y => some y) (fun z => some z.1) = some (match Lib.decFrom a (t.drop i) with | some n => (n : Int) | none => -1))
 | 0, i, a, h, ha => by
  refine ⟨.inl (a : Int), ?_, ?_⟩
  ·apply Rev
   have h1 : ¬ ((i : Int) < t.length) := by omega
   simp only [h1, Zz, Zf]
  ·rw [List.drop_eq_nil_of_le (by omega)]; rfl
 | d + 1, i, a, h, ha => by
  have h1 : (i : Int) < t.length := by omega
  have hl : i < t.length := by omega
  have hg := Rft hl
  have ed := List.drop_eq_getElem_cons hl
  generalize t[i] = c at hg ed
  rw [ed]
  cases hd : dg c
  ·refine ⟨.inr (-1, (a : Int)), ?_, ?_⟩
   ·apply Rev
    have := of_decide_eq_false hd
    simp only [h1, Zy, Zt, hg, Qb]
    by_cases h48 : (c.toNat : Int) < 48
    ·simp only [h48, Zy, Zt]
    ·have h57 : (57 : Int) < c.toNat := by omega
     simp only [h48, h57, Zy, Zz, Zt, Zf]
   ·simp only [selm, Lib.decFrom, Rss hd]
  ·have hr := of_decide_eq_true hd
   have hp : (10 : Nat) ^ i ≤ 10 ^ 4 := Nat.pow_le_pow_right (by decide) (by omega)
   have hp4 : (10 : Nat) ^ 4 = 10000 := by decide
   have hw : wrap64 ((wrap64 (10 * (a : Int))) + (wrap64 ((((c.toNat : Int) - 48) % 256)))) = ((a * 10 + (c.toNat - 48) : Nat) : Int) := by
    rw [wrap_id (n := 10 * (a : Int)) (by omega) (by omega), wrap_id (n := ((c.toNat : Int) - 48) % 256) (by omega) (by omega), wrap_id (by omega) (by omega)]
    omega
   obtain ⟨x, hx1, hx2⟩ := Rtg ht d (i + 1) (a * 10 + (c.toNat - 48)) (by omega) (by rw [Nat.pow_succ]; omega)
   refine ⟨x, ?_, ?_⟩
   ·apply Rev
    have h48 : ¬ (c.toNat : Int) < 48 := by omega
    have h57 : ¬ (57 : Int) < c.toNat := by omega
    simp only [h1, Zy, Zt, hg, Qb, h48, h57, Zz, Zf, hw]
    rw [w1n (by omega), hx1]
   ·rw [hx2]
    simp only [Lib.decFrom, Rtx hd]
theorem Rgm (t : Tok) : Rfn t = some (numV t) := by
 apply Rnq
 rw [Rdw, Qb]
 unfold numV
 by_cases h : 1 ≤ t.length ∧ t.length ≤ 5
 ·have h' : (1 : Int) ≤ t.length ∧ (t.length : Int) ≤ 5 := by omega
  simp only [h, h', and_self, Zy, Zv, Zf, if_true]
  obtain ⟨x, hx1, hx2⟩ := Rtg h.2 t.length 0 0 (by omega) (by decide)
  rw [List.drop_zero] at hx2
  rw [show Rdp t 0 0 = some x from hx1, Qb, hx2]
  try rfl
 ·have h' : ¬ ((1 : Int) ≤ t.length ∧ (t.length : Int) ≤ 5) := by omega
  simp only [h, h', Zz, Zx, Zt, if_false]
theorem Rqw {v : Nat} (h : v ≤ 100) : Rkw (v : Int) = some [UInt8.ofNat (97 + v)] := by
 apply Rpe
 rw [wrap_id (by omega) (by omega)]
 have : ((97 + (v : Int)) % 256) = ((97 + v : Nat) : Int) := by omega
 rw [this]; rfl
theorem Rws (t : Tok) : ∀ (d i : Nat), i + d = 4 → (∀ c, t = [c] → ¬ (97 ≤ c.toNat ∧ c.toNat < 97 + i)) →
  (∃ x, Rfp t (i : Int) = some x ∧ selm x (fun _ => some (-1)) (fun z => some z) = some (varV t))
 | 0, i, h, hc => by
  refine ⟨.inl (), ?_, ?_⟩
  ·apply Rgn
   have h1 : ¬ ((i : Int) < 4) := by omega
   simp only [h1, Zz, Zf]
  ·simp only [selm]
   unfold varV
   split
   ·rename_i c
    rw [if_neg (by have := hc c rfl; omega)]
   ·rfl
 | d + 1, i, h, hc => by
  have h1 : ((i : Int) < 4) := by omega
  by_cases he : t = [UInt8.ofNat (97 + i)]
  ·refine ⟨.inr (i : Int), ?_, ?_⟩
   ·apply Rgn
    simp only [h1, Zy, Zt]
    rw [Rqw (by omega), Qb, he]
    simp
   ·subst he
    have hn : (UInt8.ofNat (97 + i)).toNat = 97 + i := by rw [UInt8.toNat_ofNat']; omega
    simp only [selm, varV, hn]
    rw [if_pos (by omega)]
    congr 1; omega
  ·obtain ⟨x, hx1, hx2⟩ := Rws t d (i + 1) (by omega) (by
    intro c e hcc
    have := hc c e
    have hcn : c.toNat = 97 + i := by omega
    apply he
    rw [e]; congr 1
    apply UInt8.toNat_inj.mp
    rw [UInt8.toNat_ofNat']; omega)
   refine ⟨x, ?_, hx2⟩
   apply Rgn
   simp only [h1, Zy, Zt]
   have hb : (t == [UInt8.ofNat (97 + i)]) = false := by rw [beq_eq_false_iff_ne]; exact he
   rw [Rqw (by omega), Qb, hb, Zf, w1n (by omega), hx1]
theorem Rcv (t : Tok) : Rf t = some (varV t) := by
 apply Rql
 obtain ⟨x, hx1, hx2⟩ := Rws t 4 0 (by omega) (by intro c _; omega)
 rw [show Rfp t 0 = some x from hx1, Qb, hx2]
def plc (L l : List Tok) : Nat := L.length - l.length
def Suf (L l : List Tok) : Prop := ∃ p, L = p ++ l
theorem Suf.tail {L l : List Tok} {t : Tok} (h : Suf L (t :: l)) : Suf L l ∧ plc L (t :: l) + 1 = plc L l ∧ plc L (t :: l) < L.length ∧ geti L (plc L (t :: l) : Int) = some t := by
 obtain ⟨p, rfl⟩ := h
 refine ⟨⟨p ++ [t], by simp⟩, ?_, ?_, ?_⟩
 ·unfold plc; simp only [Za, Zc]; omega
 ·unfold plc; simp only [Za, Zc]; omega
 ·rw [geti_nat', show plc (p ++ t :: l) (t :: l) = p.length by unfold plc; simp only [Za]; omega]
  simp
theorem Suf.trans {L l r : List Tok} (h : Suf L l) (h2 : ∃ p, l = p ++ r) : Suf L r := by
 obtain ⟨p, rfl⟩ := h
 obtain ⟨q, rfl⟩ := h2
 exact ⟨p ++ q, by rw [List.append_assoc]⟩
theorem Rdc (L : List Tok) : plc L [] = L.length := by unfold plc; simp
def SA (L : List Tok) (f : Option (Exp × Int)) (o : Out) : Prop := match o with
 | some (e, r) => f = some (e, (plc L r : Int))
 | none => ∃ x, f = some (x, -1)
def SLo (L : List Tok) (f : Option (Int × Int × Int × (Bool × List Exp) × Int × Int × (Md × List Exp))) (o : Out) : Prop := match o with
 | some (e, r) => ∃ m, f = some ((plc L r : Int), 0, 0, (false, []), e.op, e.n, (m, e.args))
 | none => ∃ a b m c, f = some (-1, 0, 0, (false, []), a, b, (m, c))
theorem Rnr {t : Tok} {e : Exp} (h : atom t = some e) (h0 : 0 ≤ numV t) : e = ⟨0, numV t, []⟩ := by
 unfold atom at h; rw [if_pos h0] at h; injection h with h; exact h.symm
theorem Rjs {t : Tok} {e : Exp} (h : atom t = some e) (h0 : ¬ 0 ≤ numV t) : 0 ≤ varV t ∧ e = ⟨13, varV t, []⟩ := by
 unfold atom at h; rw [if_neg h0] at h
 split at h
 ·injection h with h; exact ⟨by assumption, h.symm⟩
 ·cases h
theorem Rwv : ∀ {j : J} {l : List Tok} {o : Out}, P j l o → ∀ L : List Tok, L.length ≤ 20000 → Suf L l → match j with
    | .opd => SA L (Rez L (plc L l)) o
    | .lev k => 1 ≤ k → k ≤ 9 → SA L (Rae L (plc L l) (k : Int)) o
    | .loop k e => 1 ≤ k → k ≤ 8 → ∀ m, SLo L (Rbo L (k : Int) (plc L l) 0 0 false [] e.op e.n m e.args) o := by
  intro j l o h
  induction h with
  | nil =>
    intro L hL hs
    refine ⟨⟨0, 0, []⟩, ?_⟩
    apply Rcf
    rw [Rdc]
    simp
  | @atom t l e h1 h2 =>
    intro L hL hs
    obtain ⟨hs2, hp, hlt, hg⟩ := hs.tail
    show Rez L (plc L (t :: l)) = _
    apply Rcf
    have c1 : ¬ ((L.length : Int) ≤ (plc L (t :: l) : Int)) := by omega
    have hb : (t == [40]) = false := by rw [beq_eq_false_iff_ne]; exact h1
    simp only [c1, Zz, Zf, hg, Qb, hb, Rgm]
    by_cases hn : 0 ≤ numV t
    · simp only [hn, Zy, Zt, Rqv, Qb, Rnr h2 hn]
      rw [w1n (by omega), hp]
    · obtain ⟨hv, he⟩ := Rjs h2 hn
      simp only [hn, Zz, Zf, Rcv, Qb, hv, Zy, Zt, Rqv, he]
      rw [w1n (by omega), hp]
  | @bad t l h1 h2 =>
    intro L hL hs
    obtain ⟨hs2, hp, hlt, hg⟩ := hs.tail
    refine ⟨⟨0, 0, []⟩, ?_⟩
    apply Rcf
    have c1 : ¬ ((L.length : Int) ≤ (plc L (t :: l) : Int)) := by omega
    have hb : (t == [40]) = false := by rw [beq_eq_false_iff_ne]; exact h1
    unfold atom at h2
    have hn : ¬ 0 ≤ numV t := by intro h; rw [if_pos h] at h2; cases h2
    rw [if_neg hn] at h2
    have hv : ¬ 0 ≤ varV t := by intro h; rw [if_pos h] at h2; cases h2
    simp only [c1, Zz, Zf, hg, Qb, hb, Rgm, hn, Rcv, hv]
  | @par l r e h ih =>
    intro L hL hs
    obtain ⟨hs2, hp, hlt, hg⟩ := hs.tail
    have h1 := ih L hL hs2 (Nat.le_refl 1) (by omega)
    have hs3 := hs2.trans (Rrk h _ _ rfl).1
    obtain ⟨hs4, hp2, hlt2, hg2⟩ := hs3.tail
    show Rez L (plc L (lp :: l)) = _
    apply Rcf
    have c1 : ¬ ((L.length : Int) ≤ (plc L (lp :: l) : Int)) := by omega
    have c2 : ¬ ((plc L (rp :: r) : Int) < 0) := by omega
    have c3 : ¬ ((L.length : Int) ≤ (plc L (rp :: r) : Int)) := by omega
    have hb : (lp == [40]) = true := rfl
    have hb2 : (rp == [41]) = true := rfl
    simp only [c1, Zz, Zf, hg, Qb, hb, Zt]
    rw [w1n (by omega), hp, show Rae L (plc L l) 1 = _ from h1]
    simp only [Qb, c2, c3, Zz, Zf, hg2, hb2, Zv, Rz]
    rw [w1n (by omega), hp2]
  | @parN l h ih =>
    intro L hL hs
    obtain ⟨hs2, hp, hlt, hg⟩ := hs.tail
    obtain ⟨x, h1⟩ := ih L hL hs2 (Nat.le_refl 1) (by omega)
    refine ⟨⟨0, 0, []⟩, ?_⟩
    apply Rcf
    have c1 : ¬ ((L.length : Int) ≤ (plc L (lp :: l) : Int)) := by omega
    have hb : (lp == [40]) = true := rfl
    simp only [c1, Zz, Zf, hg, Qb, hb, Zt]
    rw [w1n (by omega), hp, show Rae L (plc L l) 1 = _ from h1]
    simp only [Qb, show (-1 : Int) < 0 by omega, Zy, Zt]
  | @parE l e h ih =>
    intro L hL hs
    obtain ⟨hs2, hp, hlt, hg⟩ := hs.tail
    have h1 := ih L hL hs2 (Nat.le_refl 1) (by omega)
    refine ⟨⟨0, 0, []⟩, ?_⟩
    apply Rcf
    have c1 : ¬ ((L.length : Int) ≤ (plc L (lp :: l) : Int)) := by omega
    have hb : (lp == [40]) = true := rfl
    simp only [c1, Zz, Zf, hg, Qb, hb, Zt]
    rw [w1n (by omega), hp, show Rae L (plc L l) 1 = _ from h1, Rdc]
    have c2 : ¬ ((L.length : Int) < 0) := by omega
    simp only [Qb, c2, Zz, Zf, Int.le_refl, Zy, Zt]
  | @parB l r t e h hn ih =>
    intro L hL hs
    obtain ⟨hs2, hp, hlt, hg⟩ := hs.tail
    have h1 := ih L hL hs2 (Nat.le_refl 1) (by omega)
    have hs3 := hs2.trans (Rrk h _ _ rfl).1
    obtain ⟨hs4, hp2, hlt2, hg2⟩ := hs3.tail
    refine ⟨⟨0, 0, []⟩, ?_⟩
    apply Rcf
    have c1 : ¬ ((L.length : Int) ≤ (plc L (lp :: l) : Int)) := by omega
    have c2 : ¬ ((plc L (t :: r) : Int) < 0) := by omega
    have c3 : ¬ ((L.length : Int) ≤ (plc L (t :: r) : Int)) := by omega
    have hb : (lp == [40]) = true := rfl
    have hb2 : (t == [41]) = false := by rw [beq_eq_false_iff_ne]; exact hn
    simp only [c1, Zz, Zf, hg, Qb, hb, Zt]
    rw [w1n (by omega), hp, show Rae L (plc L l) 1 = _ from h1]
    simp only [Qb, c2, c3, Zz, Zf, hg2, hb2, Zx, Zt]
  | @top k l o hk h ih =>
    intro L hL hs k1 k9
    have h1 := ih L hL hs
    have c1 : (8 : Int) < k := by omega
    cases o with
    | none =>
      obtain ⟨x, h1⟩ := h1
      refine ⟨x, ?_⟩
      apply Rfo
      simp only [c1, Zy, Zt, h1, Qb, Rz]
    | some p =>
      obtain ⟨e, r⟩ := p
      show Rae _ _ _ = _
      apply Rfo
      simp only [c1, Zy, Zt, show Rez L (plc L l) = _ from h1, Qb, Rz]
  | @levN k l hk h ih =>
    intro L hL hs k1 k9
    obtain ⟨x, h1⟩ := ih L hL hs (by omega) (by omega)
    have c1 : ¬ (8 : Int) < k := by omega
    refine ⟨x, ?_⟩
    apply Rfo
    simp only [c1, Zz, Zf]
    rw [w1n (by omega), h1, Qb]
    have hlo : Rbo L (k : Int) (-1) 0 0 false [] x.op x.n .share x.args = some (-1, 0, 0, (false, []), x.op, x.n, (.share, x.args)) := by
      apply Rcu
      simp only [show ¬ (0 : Int) ≤ -1 by omega, Zz, Zf]
    rw [hlo, Qb]
    simp only [Rz]
  | @levS k l r e o hk h1 h2 ih1 ih2 =>
    intro L hL hs k1 k9
    have hs2 := hs.trans (Rrk h1 _ _ rfl).1
    have e1 := ih1 L hL hs (by omega) (by omega)
    have e2 := ih2 L hL hs2 k1 hk .share
    have c1 : ¬ (8 : Int) < k := by omega
    have step : ∀ y, (bnd (Rbo L (k : Int) (plc L r) 0 0 false [] e.op e.n .share e.args) fun r3 => some ((⟨r3.2.2.2.2.1, r3.2.2.2.2.2.1, r3.2.2.2.2.2.2.2⟩ : Exp), r3.1)) = some y → Rae L (plc L l) (k : Int) = some y := by
      intro y hy
      apply Rfo
      simp only [c1, Zz, Zf]
      rw [w1n (by omega), show Rae L (plc L l) ((k + 1 : Nat) : Int) = _ from e1, Qb]
      exact hy
    cases o with
    | none =>
      obtain ⟨a, b, m, c, e2⟩ := e2
      refine ⟨⟨a, b, c⟩, step _ ?_⟩
      rw [e2, Qb]
    | some p =>
      obtain ⟨e', r'⟩ := p
      obtain ⟨m, e2⟩ := e2
      refine step _ ?_
      rw [e2, Qb]
      simp only [Rz]
  | @stop k e l hn =>
    intro L hL hs k1 k8 m
    refine ⟨m, ?_⟩
    apply Rcu
    have c0 : (0 : Int) ≤ (plc L l : Int) := by omega
    simp only [c0, Zy, Zt]
    cases l with
    | nil =>
      rw [Rdc]
      simp only [Int.lt_irrefl, Zz, Zf]
    | cons t l =>
      obtain ⟨hs2, hp, hlt, hg⟩ := hs.tail
      have c1 : ((plc L (t :: l) : Int) < L.length) := by omega
      have c2 : ¬ ((levN (opN t) : Int) = (k : Int)) := fun h => hn (by have : levN (opN t) = k := by omega
                                                                        exact this)
      simp only [c1, Zy, Zt, hg, Qb, Rjq, Rgl (Rli t), c2, Zz, Zf]
  | @step k e b t l r o hl h1 h2 ih1 ih2 =>
    intro L hL hs k1 k8 m
    obtain ⟨hs2, hp, hlt, hg⟩ := hs.tail
    have hs3 := hs2.trans (Rrk h1 _ _ rfl).1
    have e1 := ih1 L hL hs2 (by omega) (by omega)
    have e2 := ih2 L hL hs3 k1 k8 (Md.dem .full)
    have c0 : (0 : Int) ≤ (plc L (t :: l) : Int) := by omega
    have c1 : ((plc L (t :: l) : Int) < L.length) := by omega
    have c2 : ((levN (opN t) : Int) = (k : Int)) := by omega
    have step : ∀ y, Rbo L (k : Int) (plc L r) 0 0 false [] (opN t : Int) 0 (Md.dem .full) [e, b] = some y → Rbo L (k : Int) (plc L (t :: l)) 0 0 false [] e.op e.n m e.args = some y := by
      intro y hy
      apply Rcu
      simp only [c0, c1, c2, Zy, Zt, hg, Qb, Rjq, Rgl (Rli t)]
      rw [w1n (n := plc L (t :: l)) (by omega), w1n (n := k) (by omega), hp, show Rae L (plc L l) ((k + 1 : Nat) : Int) = _ from e1, Qb, Rqu, Qb]
      simp only [Rz]
      exact hy
    cases o with
    | none =>
      obtain ⟨a, b, m, c, e2⟩ := e2
      exact ⟨a, b, m, c, step _ e2⟩
    | some p =>
      obtain ⟨e', r'⟩ := p
      obtain ⟨m, e2⟩ := e2
      exact ⟨m, step _ e2⟩
  | @stepN k e t l hl h ih =>
    intro L hL hs k1 k8 m
    obtain ⟨hs2, hp, hlt, hg⟩ := hs.tail
    obtain ⟨x, e1⟩ := ih L hL hs2 (by omega) (by omega)
    have c0 : (0 : Int) ≤ (plc L (t :: l) : Int) := by omega
    have c1 : ((plc L (t :: l) : Int) < L.length) := by omega
    have c2 : ((levN (opN t) : Int) = (k : Int)) := by omega
    refine ⟨(opN t : Int), 0, Md.dem .full, [e, x], ?_⟩
    apply Rcu
    simp only [c0, c1, c2, Zy, Zt, hg, Qb, Rjq, Rgl (Rli t)]
    rw [w1n (n := plc L (t :: l)) (by omega), w1n (n := k) (by omega), hp, e1, Qb, Rqu, Qb]
    simp only [Rz]
    apply Rcu
    simp only [show ¬ (0 : Int) ≤ -1 by omega, Zz, Zf]
def gt (t : Tok) : Prop := ∃ c r, t = c :: r ∧ (dg c = true → ∀ x ∈ t, dg x = true)
theorem Ris (L : List Tok) : Raq L (L.length : Int) false = some ([], L, (L.length : Int), false) := by
 apply Rep
 simp only [Int.lt_irrefl, Zz, Zf]
theorem Rap {L l : List Tok} {t : Tok} (h : Suf L (t :: l)) : Raq L (plc L (t :: l) : Int) false = some (t, L, (plc L (t :: l) : Int), false) := by
 obtain ⟨hs2, hp, hlt, hg⟩ := h.tail
 apply Rep
 have c1 : ((plc L (t :: l) : Int) < L.length) := by omega
 simp only [c1, Zy, Zt, Zx, hg, Qb]
theorem Rjm (L : List Tok) (p : Int) : Raq L p true = some ([], L, p, true) := by
 apply Rep
 by_cases h : p < L.length
 ·simp only [h, Zy, Zt, Zv, Zf]
 ·simp only [h, Zz, Zf]
theorem Rrc (L : List Tok) (p : Int) : Rc [41] L p true = some (L, p, true) := by
 apply Rbh
 have : Rb [41] L p true = some (false, L, p, true) := by
  apply Rba
  rw [Rjm, Qb]; rfl
 rw [this, Qb]; rfl
theorem Rte (L : List Tok) : Rc [41] L (L.length : Int) false = some (L, (L.length : Int), true) := by
 apply Rbh
 have : Rb [41] L (L.length : Int) false = some (false, L, (L.length : Int), false) := by
  apply Rba
  rw [Ris, Qb]; rfl
 rw [this, Qb]; rfl
theorem Rtd {L l : List Tok} {t : Tok} (h : Suf L (t :: l)) (hn : t ≠ rp) : Rc [41] L (plc L (t :: l) : Int) false = some (L, (plc L (t :: l) : Int), true) := by
 apply Rbh
 have : Rb [41] L (plc L (t :: l) : Int) false = some (false, L, (plc L (t :: l) : Int), false) := by
  apply Rba
  have hb : (t == [41]) = false := by rw [beq_eq_false_iff_ne]; exact hn
  rw [Rap h, Qb]
  simp only [hb, Zx, Zt]
 rw [this, Qb]; rfl
theorem Rrd {L l : List Tok} (hL : L.length ≤ 20000) (h : Suf L (rp :: l)) : Rc [41] L (plc L (rp :: l) : Int) false = some (L, (plc L l : Int), false) := by
 obtain ⟨hs2, hp, hlt, hg⟩ := h.tail
 apply Rbh
 have : Rb [41] L (plc L (rp :: l) : Int) false = some (true, L, (plc L l : Int), false) := by
  apply Rba
  have hb : (rp == [41]) = true := rfl
  rw [Rap h, Qb]
  simp only [hb, Zv, Zf]
  rw [w1n (by omega), hp]
 rw [this, Qb]; rfl
theorem Rns (L : List Tok) : ∃ p, Rcl L (L.length : Int) false = some ([], L, p, true) := by
 refine ⟨wrap64 ((L.length : Int) + 1), ?_⟩
 apply Req
 rw [Ris, Qb]
 simp only [show (([] : List UInt8) == []) = true from rfl, Zt]
theorem Rls {L l : List Tok} {t : Tok} (hL : L.length ≤ 20000) (h : Suf L (t :: l)) (ht : t ≠ []) : Rcl L (plc L (t :: l) : Int) false = some (t, L, (plc L l : Int), false) := by
 obtain ⟨hs2, hp, hlt, hg⟩ := h.tail
 apply Req
 have hb : (t == []) = false := by rw [beq_eq_false_iff_ne]; exact ht
 rw [Rap h, Qb]
 simp only [hb, Zf]
 rw [w1n (by omega), hp]
theorem Rph : ∀ (t : Tok) (a : Nat), (∀ x ∈ t, dg x = true) → ∃ n, Lib.decFrom a t = some n
 | [], a, _ => ⟨a, rfl⟩
 | c :: r, a, h => by
  obtain ⟨n, hn⟩ := Rph r (a * 10 + (c.toNat - 48)) (fun x hx => h x (List.mem_cons_of_mem _ hx))
  refine ⟨n, ?_⟩
  simp only [Lib.decFrom, Rtx (h c (List.mem_cons_self ..))]
  exact hn
theorem Rpi : ∀ (t : Tok) (a n : Nat), Lib.decFrom a t = some n → (∀ x ∈ t, dg x = true)
 | [], a, n, _ => by intro x hx; cases hx
 | c :: r, a, n, h => by
  intro x hx
  simp only [Lib.decFrom] at h
  cases hd : dg c with
  | false => rw [Rss hd] at h; cases h
  | true =>
   rw [Rtx hd] at h
   rcases List.mem_cons.mp hx with rfl | hx
   ·exact hd
   ·exact Rpi r _ n h x hx
theorem Rrz {t : Tok} (h : 0 ≤ numV t) : ∀ x ∈ t, dg x = true := by
 unfold numV at h
 split at h
 ·split at h
  ·rename_i n hn; exact Rpi t 0 n hn
  ·omega
 ·omega
theorem Rfw {L l : List Tok} {c : UInt8} {r : List UInt8} (hL : L.length ≤ 20000) (h : Suf L ((c :: r) :: l)) (hd : ∀ x ∈ (c :: r), dg x = true) :
  (0 ≤ numV (c :: r) → Rl L (plc L ((c :: r) :: l) : Int) false = some (numV (c :: r), L, (plc L l : Int), false)) ∧
  (¬ 0 ≤ numV (c :: r) → Rl L (plc L ((c :: r) :: l) : Int) false = some (0, L, (plc L l : Int), true)) := by
 obtain ⟨n, hn⟩ := Rph (c :: r) 0 hd
 have hb : ((c :: r : Tok) == []) = false := rfl
 refine ⟨fun h0 => ?_, fun h0 => ?_⟩
 ·have hlen : (c :: r).length ≤ 5 := by
   unfold numV at h0; split at h0
   ·rename_i hh; exact hh.2
   ·omega
  have hv : numV (c :: r) = (n : Int) := by
   unfold numV; rw [if_pos ⟨by simp, hlen⟩, hn]
  apply Rcp
  rw [Rls hL h (by simp), Qb]
  have c5 : ¬ ((5 : Int) < ((c :: r : Tok).length : Int)) := by omega
  have hc := of_decide_eq_true (hd c (List.mem_cons_self ..))
  have ha : Lib.atoi (c :: r) = some (n : Int) := by
   unfold Lib.atoi
   have h1 : (c == 45) = false := by rw [beq_eq_false_iff_ne]; intro e; subst e; exact absurd hc (by decide)
   have h2 : (c == 43) = false := by rw [beq_eq_false_iff_ne]; intro e; subst e; exact absurd hc (by decide)
   simp only [h1, h2, Bool.false_eq_true, if_false]
   unfold Lib.decNat
   rw [if_neg (by simp), hn]; rfl
  have hat : strconv_Atoi (c :: r) = some (n : Int) := by
   apply Ron
   rw [if_pos (by omega)]; exact ha
  simp only [hb, Zf, c5, Zz, Rky, Qb, Rbc, hd c (List.mem_cons_self ..), Zv, hat, hv]
 ·have hlen : 5 < (c :: r).length := by
   apply Classical.byContradiction
   intro hle
   apply h0
   unfold numV; rw [if_pos ⟨by simp, by omega⟩, hn]
   show (0 : Int) ≤ (n : Int); omega
  apply Rcp
  rw [Rls hL h (by simp), Qb]
  have c5 : ((5 : Int) < ((c :: r : Tok).length : Int)) := by omega
  simp only [hb, Zf, c5, Zy, Zt]
theorem Rea {L l : List Tok} {t : Tok} (hL : L.length ≤ 20000) (h : Suf L (t :: l)) (ht : t ≠ []) :
  (0 ≤ varV t → Re L (plc L (t :: l) : Int) false = some (varV t, L, (plc L l : Int), false)) ∧
  (¬ 0 ≤ varV t → Re L (plc L (t :: l) : Int) false = some (0, L, (plc L l : Int), true)) := by
 have body : ∀ x, (bif (!decide ((t.length : Int) = 1)) then some (0, L, (plc L l : Int), true) else
   bnd (geti t 0) fun c2 => (bif (decide ((c2.toNat : Int) < 97)) then some (0, L, (plc L l : Int), true) else
   bnd (geti t 0) fun c3 => (bif (decide (101 ≤ (c3.toNat : Int))) then some (0, L, (plc L l : Int), true) else
   bnd (geti t 0) fun c4 => some ((wrap64 ((((c4.toNat : Int) - 97) % 256))), L, (plc L l : Int), false)))) = some x → Re L (plc L (t :: l) : Int) false = some x := by
  intro x hx
  apply Rbe
  rw [Rls hL h ht, Qb]
  exact hx
 by_cases h1 : t.length = 1
 ·obtain ⟨c, rfl⟩ : ∃ c, t = [c] := by
   match t, h1 with
   | [c], _ => exact ⟨c, rfl⟩
  have c1 : ((([c] : Tok).length : Nat) : Int) = 1 := rfl
  by_cases hr : 97 ≤ c.toNat ∧ c.toNat ≤ 100
  ·have hv : varV [c] = (c.toNat : Int) - 97 := by unfold varV; simp only; rw [if_pos hr]
   refine ⟨fun _ => body _ ?_, fun h => absurd (by rw [hv]; omega) h⟩
   have d1 : ¬ (c.toNat : Int) < 97 := by omega
   have d2 : ¬ (101 : Int) ≤ c.toNat := by omega
   simp only [c1, Zy, Zv, Zf, Rky, Qb, d1, d2, Zz]
   rw [hv, wrap_id (by omega) (by omega)]
   congr 2; omega
  ·have hv : varV [c] = -1 := by unfold varV; simp only; rw [if_neg hr]
   refine ⟨fun h => absurd h (by rw [hv]; omega), fun _ => body _ ?_⟩
   by_cases d1 : (c.toNat : Int) < 97
   ·simp only [c1, Zy, Zv, Zf, Rky, Qb, d1, Zt]
   ·have d2 : (101 : Int) ≤ c.toNat := by omega
    simp only [c1, Zy, Zv, Zf, Rky, Qb, d1, d2, Zz, Zt]
 ·have hv : varV t = -1 := by
   unfold varV
   split
   ·simp at h1
   ·rfl
  have c1 : ¬ ((t.length : Int) = 1) := by omega
  refine ⟨fun h => absurd h (by rw [hv]; omega), fun _ => body _ ?_⟩
  simp only [c1, Zz, Zx, Zt]
def IA (L : List Tok) (f : Option (Exp × List Tok × Int × Bool)) (o : Out) : Prop := match o with
 | some (e, r) => f = some (e, L, (plc L r : Int), false)
 | none => ∃ x p, f = some (x, L, p, true)
def ILo (L : List Tok) (f : Option (List Tok × Int × Bool × Int × Int × (Bool × List Exp) × Int × Int × (Md × List Exp))) (o : Out) : Prop := match o with
 | some (e, r) => ∃ m, f = some (L, (plc L r : Int), false, 0, 0, (false, []), e.op, e.n, (m, e.args))
 | none => ∃ p a b m c, f = some (L, p, true, 0, 0, (false, []), a, b, (m, c))
theorem Rqo : ∀ {j : J} {l : List Tok} {o : Out}, C j l o → ∀ e r, o = some (e, r) → ∃ p, l = p ++ r := by
 intro j l o h
 induction h with
 | nil => intro e r ho; cases ho
 | atom _ _ =>
  intro e r ho
  injection ho with ho; injection ho with h1 h2; subst h2
  exact ⟨[_], rfl⟩
 | bad _ _ => intro e r ho; cases ho
 | par _ ih =>
  intro e r ho
  injection ho with ho; injection ho with h1 h2; subst h2
  obtain ⟨p, hp⟩ := ih _ _ rfl
  exact ⟨lp :: p ++ [rp], by rw [hp]; simp⟩
 | parN _ _ => intro e r ho; cases ho
 | parE _ _ => intro e r ho; cases ho
 | parB _ _ _ => intro e r ho; cases ho
 | exN h ih => intro e r ho; cases ho
 | ex h1 h2 ih1 ih2 =>
  intro e r ho
  obtain ⟨p, hp⟩ := ih1 _ _ rfl
  obtain ⟨q, hq⟩ := ih2 e r ho
  exact ⟨p ++ q, by rw [hp, hq, List.append_assoc]⟩
 | stop hn =>
  intro e r ho
  injection ho with ho; injection ho with h1 h2; subst h2
  exact ⟨[], rfl⟩
 | step hl h1 h2 ih1 ih2 =>
  intro e r ho
  obtain ⟨p, hp⟩ := ih1 _ _ rfl
  obtain ⟨q, hq⟩ := ih2 e r ho
  exact ⟨_ :: (p ++ q), by rw [hp, hq]; simp; rfl⟩
 | stepN hl h ih => intro e r ho; cases ho
theorem Suf.mem {L l : List Tok} {t : Tok} (h : Suf L (t :: l)) : t ∈ L := by
 obtain ⟨p, rfl⟩ := h; simp
theorem Rul : opN [] = 0 := rfl
theorem impl_C : ∀ {j : J} {l : List Tok} {o : Out}, C j l o → ∀ L : List Tok, L.length ≤ 20000 → (∀ t ∈ L, gt t) → Suf L l → match j with
  | .opd => IA L (Rao L (plc L l) false) o
  | .lev k => k ≤ 9 → 1 ≤ k → IA L (Rg (k : Int) L (plc L l) false) o
  | .loop k e => k ≤ 9 → 1 ≤ k → ∀ m, ILo L (Ran (k : Int) L (plc L l) false 0 0 false [] e.op e.n m e.args) o := by
 intro j l o h
 induction h with
 | nil =>
  intro L hL hg hs
  obtain ⟨p, hp⟩ := Rns L
  have hv : Re L (L.length : Int) false = some (0, L, p, true) := by
   apply Rbe
   rw [hp, Qb]
   simp
  refine ⟨⟨13, 0, []⟩, p, ?_⟩
  apply Ro
  rw [Rdc, Ris, Qb]
  simp only [show (([] : List UInt8) == [40]) = false from rfl, Zf, show (([] : List UInt8) == []) = true from rfl, Zv, hv, Qb]
 | @atom t l e h1 h2 =>
  intro L hL hg hs
  obtain ⟨c, r, rfl, hd⟩ := hg t hs.mem
  show Rao L (plc L ((c :: r) :: l)) false = _
  apply Ro
  have hb : ((c :: r : Tok) == [40]) = false := by rw [beq_eq_false_iff_ne]; exact h1
  rw [Rap hs, Qb]
  simp only [hb, Zf, show ((c :: r : List UInt8) == []) = false from rfl, Zx, Zt, Rky, Qb, Rbc]
  cases hc : dg c
  ·have hn : ¬ 0 ≤ numV (c :: r) := fun h => by have := Rrz h c (List.mem_cons_self ..); rw [hc] at this; cases this
   obtain ⟨hv, he⟩ := Rjs h2 hn
   simp only [Zf, (Rea hL hs (by simp)).1 hv, Qb, he]
  ·by_cases hn : 0 ≤ numV (c :: r)
   ·simp only [Zt, (Rfw hL hs (hd hc)).1 hn, Qb, Rnr h2 hn]
   ·exfalso
    obtain ⟨hv, he⟩ := Rjs h2 hn
    have hcr := of_decide_eq_true hc
    unfold varV at hv
    split at hv
    ·rename_i c' heq
     injection heq with e1 e2; subst e1
     rw [if_neg (by omega)] at hv; omega
    ·omega
 | @bad t l h1 h2 =>
  intro L hL hg hs
  obtain ⟨c, r, rfl, hd⟩ := hg t hs.mem
  unfold atom at h2
  have hn : ¬ 0 ≤ numV (c :: r) := by intro h; rw [if_pos h] at h2; cases h2
  rw [if_neg hn] at h2
  have hv : ¬ 0 ≤ varV (c :: r) := by intro h; rw [if_pos h] at h2; cases h2
  have hb : ((c :: r : Tok) == [40]) = false := by rw [beq_eq_false_iff_ne]; exact h1
  cases hc : dg c
  ·refine ⟨⟨13, 0, []⟩, (plc L l : Int), ?_⟩
   apply Ro
   rw [Rap hs, Qb]
   simp only [hb, Zf, show ((c :: r : List UInt8) == []) = false from rfl, Zx, Zt, Rky, Qb, Rbc, hc, (Rea hL hs (by simp)).2 hv]
  ·refine ⟨⟨0, 0, []⟩, (plc L l : Int), ?_⟩
   apply Ro
   rw [Rap hs, Qb]
   simp only [hb, Zf, show ((c :: r : List UInt8) == []) = false from rfl, Zx, Zt, Rky, Qb, Rbc, hc, (Rfw hL hs (hd hc)).2 hn]
 | @par l r e h ih =>
  intro L hL hg hs
  obtain ⟨hs2, hp, hlt, _⟩ := hs.tail
  have h1 := ih L hL hg hs2 (by omega) (Nat.le_refl 1)
  have hs3 := hs2.trans (Rqo h _ _ rfl)
  show Rao L (plc L (lp :: l)) false = _
  apply Ro
  rw [Rap hs, Qb]
  simp only [show (lp == [40]) = true from rfl, Zt]
  rw [w1n (by omega), hp, show Rg 1 L (plc L l) false = _ from h1, Qb, Rrd hL hs3, Qb]
  simp only [Rz]
 | @parN l h ih =>
  intro L hL hg hs
  obtain ⟨hs2, hp, hlt, _⟩ := hs.tail
  obtain ⟨x, p, h1⟩ := ih L hL hg hs2 (by omega) (Nat.le_refl 1)
  refine ⟨x, p, ?_⟩
  apply Ro
  rw [Rap hs, Qb]
  simp only [show (lp == [40]) = true from rfl, Zt]
  rw [w1n (by omega), hp, show Rg 1 L (plc L l) false = _ from h1, Qb, Rrc, Qb]
  simp only [Rz]
 | @parE l e h ih =>
  intro L hL hg hs
  obtain ⟨hs2, hp, hlt, _⟩ := hs.tail
  have h1 := ih L hL hg hs2 (by omega) (Nat.le_refl 1)
  refine ⟨e, (L.length : Int), ?_⟩
  apply Ro
  rw [Rap hs, Qb]
  simp only [show (lp == [40]) = true from rfl, Zt]
  rw [w1n (by omega), hp, show Rg 1 L (plc L l) false = _ from h1, Qb, Rdc, Rte, Qb]
  simp only [Rz]
 | @parB l r t e h hn ih =>
  intro L hL hg hs
  obtain ⟨hs2, hp, hlt, _⟩ := hs.tail
  have h1 := ih L hL hg hs2 (by omega) (Nat.le_refl 1)
  have hs3 := hs2.trans (Rqo h _ _ rfl)
  refine ⟨e, (plc L (t :: r) : Int), ?_⟩
  apply Ro
  rw [Rap hs, Qb]
  simp only [show (lp == [40]) = true from rfl, Zt]
  rw [w1n (by omega), hp, show Rg 1 L (plc L l) false = _ from h1, Qb, Rtd hs3 hn, Qb]
  simp only [Rz]
 | @exN k l h ih =>
  intro L hL hg hs k9 k1
  obtain ⟨x, p, h1⟩ := ih L hL hg hs
  refine ⟨x, p, ?_⟩
  apply Rdi
  have hl : Ran (k : Int) L p true 0 0 false [] x.op x.n .share x.args = some (L, p, true, 0, 0, (false, []), x.op, x.n, (.share, x.args)) := by
   apply Rat
   simp only [Zv, Zf]
  rw [h1, Qb, hl, Qb]
  simp only [Rz]
 | @ex k l r e o h1 h2 ih1 ih2 =>
  intro L hL hg hs k9 k1
  have e1 := ih1 L hL hg hs
  have e2 := ih2 L hL hg (hs.trans (Rqo h1 _ _ rfl)) k9 k1 .share
  cases o with
  | none =>
   obtain ⟨p, a, b, m, c, e2⟩ := e2
   refine ⟨⟨a, b, c⟩, p, ?_⟩
   apply Rdi
   rw [show Rao L (plc L l) false = _ from e1, Qb, e2, Qb]
  | some q =>
   obtain ⟨e', r'⟩ := q
   obtain ⟨m, e2⟩ := e2
   show Rg _ _ _ _ = _
   apply Rdi
   rw [show Rao L (plc L l) false = _ from e1, Qb, e2, Qb]
   simp only [Rz]
 | @stop k e l hn =>
  intro L hL hg hs k9 k1 m
  refine ⟨m, ?_⟩
  apply Rat
  simp only [Zx, Zt]
  cases l with
  | nil =>
   rw [Rdc, Ris, Qb, Rbw, Rul, Qb]
   simp only [Int.ofNat_zero, Int.natCast_zero, Zy, Zt]
  | cons t l =>
   rw [Rap hs, Qb, Rbw, Qb]
   by_cases h0 : opN t = 0
   ·simp only [h0, Int.ofNat_zero, Int.natCast_zero, Zy, Zt]
   ·have c0 : ¬ ((opN t : Int) = 0) := by omega
    have c1 : ((levN (opN t) : Int) < (k : Int)) := by
     have : levN (opN t) < k := hn
     omega
    simp only [c0, Zz, Zf, Rcj (Rli t), Qb, c1, Zy, Zt]
 | @step k e b t l r o hl h1 h2 ih1 ih2 =>
  intro L hL hg hs k9 k1 m
  obtain ⟨hs2, hp, hlt, _⟩ := hs.tail
  have hs3 := hs2.trans (Rqo h1 _ _ rfl)
  have l8 := Roe (opN t)
  have e1 := ih1 L hL hg hs2 (by omega) (by omega)
  have e2 := ih2 L hL hg hs3 k9 k1 .full
  have h0 : ¬ opN t = 0 := by intro h; rw [h] at hl; have : levN 0 = 0 := rfl; omega
  have c0 : ¬ ((opN t : Int) = 0) := by omega
  have c1 : ¬ ((levN (opN t) : Int) < (k : Int)) := by omega
  have step : ∀ y, Ran (k : Int) L (plc L r) false 0 0 false [] (opN t : Int) 0 .full [e, b] = some y → Ran (k : Int) L (plc L (t :: l)) false 0 0 false [] e.op e.n m e.args = some y := by
   intro y hy
   apply Rat
   simp only [Zx, Zt]
   rw [Rap hs, Qb, Rbw, Qb]
   simp only [c0, Zz, Zf, Rcj (Rli t), Qb, c1]
   rw [w1n (n := levN (opN t)) (by omega), w1n (n := plc L (t :: l)) (by omega), hp, show Rg ((levN (opN t) + 1 : Nat) : Int) L (plc L l) false = _ from e1, Qb]
   simp only [Rz]
   exact hy
  cases o with
  | none =>
   obtain ⟨p, a, b, m, c, e2⟩ := e2
   exact ⟨p, a, b, m, c, step _ e2⟩
  | some q =>
   obtain ⟨e', r'⟩ := q
   obtain ⟨m, e2⟩ := e2
   exact ⟨m, step _ e2⟩
 | @stepN k e t l hl h ih =>
  intro L hL hg hs k9 k1 m
  obtain ⟨hs2, hp, hlt, _⟩ := hs.tail
  have l8 := Roe (opN t)
  obtain ⟨x, p, e1⟩ := ih L hL hg hs2 (by omega) (by omega)
  have h0 : ¬ opN t = 0 := by intro h; rw [h] at hl; have : levN 0 = 0 := rfl; omega
  have c0 : ¬ ((opN t : Int) = 0) := by omega
  have c1 : ¬ ((levN (opN t) : Int) < (k : Int)) := by omega
  refine ⟨p, (opN t : Int), 0, .full, [e, x], ?_⟩
  apply Rat
  simp only [Zx, Zt]
  rw [Rap hs, Qb, Rbw, Qb]
  simp only [c0, Zz, Zf, Rcj (Rli t), Qb, c1]
  rw [w1n (n := levN (opN t)) (by omega), w1n (n := plc L (t :: l)) (by omega), hp, show Rg ((levN (opN t) + 1 : Nat) : Int) L (plc L l) false = _ from e1, Qb]
  simp only [Rz]
  apply Rat
  simp only [Zv, Zf]
theorem Rnt {Q : List UInt8 → List Tok → Prop} (h0 : Q [] []) (h1 : ∀ c r t, bl c = true → toks r = some t → Q r t → Q (c :: r) t)
  (h2 : ∀ c r t, bl c = false → Ry (c :: r) ≠ 0 → toks ((c :: r).drop (Ry (c :: r))) = some t → Q ((c :: r).drop (Ry (c :: r))) t → Q (c :: r) ((c :: r).take (Ry (c :: r)) :: t)) :
  ∀ (n : Nat) (s : List UInt8) (t : List Tok), s.length ≤ n → toks s = some t → Q s t
 | n, [], t, _, h => by rw [Rqm] at h; injection h with h; subst h; exact h0
 | 0, c :: r, t, hn, h => by simp at hn
 | n + 1, c :: r, t, hn, h => by
  cases hb : bl c with
  | true =>
   rw [Rsb r hb] at h
   exact h1 c r t hb h (Rnt h0 h1 h2 n r t (by simp only [Zc] at hn; omega) h)
  | false =>
   by_cases hl : Ry (c :: r) = 0
   ·rw [Rsd hb hl] at h; cases h
   ·rw [Rqn hb hl] at h
    cases ht : toks ((c :: r).drop (Ry (c :: r))) with
    | none => rw [ht] at h; cases h
    | some t2 =>
     rw [ht, Qb] at h
     injection h with h; subst h
     exact h2 c r t2 hb hl ht (Rnt h0 h1 h2 n _ t2 (by rw [List.length_drop]; omega) ht)
theorem tok_gt (c : UInt8) (r : List UInt8) (h : Ry (c :: r) ≠ 0) : gt ((c :: r).take (Ry (c :: r))) := by
 obtain ⟨n, hn⟩ : ∃ n, Ry (c :: r) = n + 1 := ⟨Ry (c :: r) - 1, by omega⟩
 refine ⟨c, r.take n, by rw [hn, List.take_succ_cons], ?_⟩
 intro hd x hx
 rw [hn, List.take_succ_cons] at hx
 have : n = (r.takeWhile dg).length := by
  simp only [Ry, hd, if_true] at hn; omega
 rcases List.mem_cons.mp hx with rfl | hx
 ·exact hd
 ·have he : r.take n = r.takeWhile dg := by
   rw [this]
   exact (List.prefix_iff_eq_take.mp (List.takeWhile_prefix dg)).symm
  rw [he] at hx
  exact List.all_eq_true.mp List.all_takeWhile x hx
theorem Rsc {s : List UInt8} {t : List Tok} (h : toks s = some t) : ∀ x ∈ t, gt x :=
 Rnt (Q := fun s t => ∀ x ∈ t, gt x) (fun x hx => by cases hx) (fun c r t _ _ ih => ih) (fun c r t _ hl _ ih x hx => by
  rcases List.mem_cons.mp hx with rfl | hx
  ·exact tok_gt c r hl
  ·exact ih x hx) s.length s t (Nat.le_refl _) h
theorem Rlt {s : List UInt8} {t : List Tok} (h : toks s = some t) : t.length ≤ s.length :=
 Rnt (Q := fun s t => t.length ≤ s.length) (Nat.le_refl _) (fun c r t _ _ ih => by simp only [Zc]; omega) (fun c r t _ hl _ ih => by
  rw [List.length_drop] at ih
  have := Roo (c :: r)
  simp only [Zc] at *; omega) s.length s t (Nat.le_refl _) h
theorem Rsa (L : List Tok) : Suf L L ∧ plc L L = 0 := ⟨⟨[], rfl⟩, by unfold plc; omega⟩
structure Marked (c : TC) (h : Hd) (A B : List Ent) (l : List (Den c)) : Prop where
 get : Qs B c h.id = some l
 ext : Ext (fun n => h.id = some n) A B
 len : B.length = A.length
theorem Marked.none {c : TC} {h : Hd} {A : List Ent} {l : List (Den c)} (hg : Qs A c h.id = some l) : Marked c h A A l := ⟨hg, Ext.refl _ _, rfl⟩
theorem Marked.set {c : TC} {h : Hd} {A B : List Ent} {l : List (Den c)} (hm : Marked c h A B l) {i : Nat} (hi : i < l.length) (x : Den c) : Marked c h A (Qia B c h.id i x) (l.set i x) := by
 obtain ⟨id, n⟩ := h
 cases id with
 | none =>
  have h0 := hm.get
  rw [Qas] at h0
  injection h0 with h0
  subst h0
  exact hm
 | some k => exact ⟨Qjv hm.get, hm.ext.trans (Quq fun n hn => hn), by rw [length_set]; exact hm.len⟩
theorem Rqi {α : Type} (d : List α) (e x : α) (r : List α) : (d ++ e :: r).set d.length x = d ++ x :: r := by
 rw [List.set_append_right _ _ (Nat.le_refl _)]; simp
theorem Rjd {α : Type} (d : List α) (e : α) (r : List α) : (d ++ e :: r)[d.length]? = some e := by
 rw [List.getElem?_append_right (Nat.le_refl _)]; simp
def mkI : Int → List Int → List Int
 | _, [] => []
 | k, _ :: r => k :: mkI (k + 1) r
theorem Roh : ∀ (k : Int) (l : List Int), (mkI k l).length = l.length
 | _, [] => rfl
 | k, _ :: r => by simp [mkI, Roh]
theorem Ruj {h : Hd} {A : List Ent} : ∀ (rest done : List Int) (k : Int) (B : List Ent), Marked .int h A B (done ++ rest) → h.n = done.length + rest.length → h.n ≤ 4294967296 → 0 ≤ k → k + rest.length ≤ 4611686018427387904 → Ok (Rdu h k done.length B) fun r => r.1 = k + rest.length ∧ Marked .int h A r.2 (done ++ mkI k rest)
 | [], done, k, B, hm, hn, hb, h0, hk => by
  apply Ok.le (Rgi _ _ _ _)
  have hi : ¬ ((done.length : Int) < ((h.n : Nat) : Int)) := by simp only [Zn] at hn; omega
  simp only [hi, Zz, Zf]
  exact Ok.of ⟨by simp, hm⟩
 | e :: rest, done, k, B, hm, hn, hb, h0, hk => by
  apply Ok.le (Rgi _ _ _ _)
  simp only [Zc] at hn hk
  have hi : (done.length : Int) < ((h.n : Nat) : Int) := by omega
  simp only [hi, Zy, Zt, idxN_eq (show 0 ≤ (done.length : Int) by omega) hi, Int.toNat_natCast, Qb, Qrz hm.get (Rjd done e rest)]
  have h1 := hm.set (i := done.length) (by simp) k
  rw [Rqi] at h1
  rw [wrap_id (n := k + 1) (by omega) (by omega), Rav (show (done.length : Int) < 9223372036854775807 by omega)]
  have ih := Ruj rest (done ++ [k]) (k + 1) _ (by rw [List.append_assoc]; exact h1) (by simp; omega) hb (by omega) (by omega)
  simp only [Za, Zc, Zn, Nat.zero_add] at ih
  refine ih.mono fun r hr => ⟨by rw [hr.1]; simp; omega, ?_⟩
  have := hr.2
  rw [List.append_assoc] at this
  exact this
theorem Rlh {h : Hd} {A : List Ent} {l : List Int} {k : Int} (hg : Qs A .int h.id = some l) (hn : h.n = l.length) (hl : l.length ≤ 4294967296) (h0 : 0 ≤ k) (hk : k + l.length ≤ 4611686018427387904) : Ok (Rfi h k A) fun r => r.1 = k + l.length ∧ Marked .int h A r.2 (mkI k l) := by
 apply Ok.le (Rlg _ _ _)
 exact Ok.bnd (Ruj (h := h) l [] k A (Marked.none hg) (by simpa using hn) (by omega) h0 hk) fun r hr => Ok.of hr
theorem Ruc {L : List Int} : ∀ (rest done : List Int) (k : Int), L = done ++ mkI k rest → L.length ≤ 4294967296 → 0 ≤ k → k + rest.length ≤ 4611686018427387904 → Rdl L k done.length = some (.inl (k + rest.length))
 | [], done, k, hL, hl, h0, hk => by
  subst hL
  apply Rha
  simp [mkI]
 | e :: rest, done, k, hL, hl, h0, hk => by
  apply Rha
  simp only [Zc] at hk
  have hlen : L.length = done.length + (rest.length + 1) := by rw [hL]; simp [Roh]
  have hi : (done.length : Int) < (L.length : Int) := by omega
  have hget : L[done.length]? = some k := by rw [hL]; exact Rjd done k _
  have ih := Ruc (L := L) rest (done ++ [k]) (k + 1) (by rw [List.append_assoc]; exact hL) hl (by omega) (by omega)
  simp only [Za, Zc, Zn, Nat.zero_add] at ih
  simp only [hi, Zy, Zt, geti_nat', hget, Qb, Zv, Zf]
  rw [wrap_id (n := k + 1) (by omega) (by omega), Rav (show (done.length : Int) < 9223372036854775807 by omega), ih]
  simp; omega
theorem Rng {l : List Int} {k : Int} (hl : l.length ≤ 4294967296) (h0 : 0 ≤ k) (hk : k + l.length ≤ 4611686018427387904) : Rir (mkI k l) k = some (k + l.length) := by
 apply Rnh
 have := Ruc (L := mkI k l) l [] k rfl (by rw [Roh]; exact hl) h0 hk
 have e : Rdl (mkI k l) k 0 = some (.inl (k + l.length)) := this
 rw [e]; simp [selm]
theorem Rvz (a b : Exp) : emXs [a, b] = 2 + emX a + emX b := by simp [emXs]; omega
theorem Rpk : ∀ a b : List Stm, mSs (a ++ b) = mSs a + mSs b
 | [], b => by simp [mSs]
 | s :: a, b => by simp only [List.cons_append, mSs, Rpk a b]; omega
theorem mS_mk (k v x o n : Int) (as : List Exp) (bd el : List Stm) : mS ⟨k, v, x, ⟨o, n, as⟩, bd, el⟩ = emXs as + mSs bd + mSs el := by simp [Rof, Rfa]
def Ret (l : List Int) : Bool := l.all fun n => decide (1 ≤ n ∧ n ≤ 4)
theorem Rmu {l : List Int} {i : Nat} (hi : i < l.length) : Ret (l.drop i) = (decide (1 ≤ l[i] ∧ l[i] ≤ 4) && Ret (l.drop (i + 1))) := by
 unfold Ret; rw [List.drop_eq_getElem_cons hi, List.all_cons]
theorem Rms {l : List Int} (hl : (l.length : Int) ≤ 4294967296) : ∀ (d i : Nat), i + d = l.length → Rcr l l l.length i = some (if Ret (l.drop i) then .inl l else .inr (l, false))
 | 0, i, hd => by
  apply Rgf
  have hi : ¬ ((i : Int) < l.length) := by omega
  rw [List.drop_eq_nil_of_le (by omega)]
  simp [hi, Ret]
 | d + 1, i, hd => by
  apply Rgf
  have hi : i < l.length := by omega
  have hi' : (i : Int) < l.length := by omega
  rw [Rmu hi]
  simp only [hi', Zy, Zt, Rbk hi, Qb, Rav (show (i : Int) < 9223372036854775807 by omega), Rms hl d (i + 1) (by omega)]
  by_cases h1 : l[i] < 1
  ·have : ¬ (1 ≤ l[i] ∧ l[i] ≤ 4) := by omega
   simp [h1, this]
  by_cases h2 : 4 < l[i]
  ·have : ¬ (1 ≤ l[i] ∧ l[i] ≤ 4) := by omega
   simp [h1, h2, this]
  ·have : 1 ≤ l[i] ∧ l[i] ≤ 4 := by omega
   simp [h1, h2, this]
theorem Rkz {l : List Int} (hl : (l.length : Int) ≤ 4294967296) : Rgw l = some (Ret l && decide ((l.length : Int) ≤ 3)) := by
 apply Rla
 have h : Rcr l l (l.length : Int) 0 = _ := Rms hl l.length 0 (by omega)
 rw [h, Qb, List.drop_zero]
 cases Ret l <;> simp [selm]
theorem Rmy {l : List Int} (hl : (l.length : Int) ≤ 4294967296) : ∀ (d i : Nat), i + d = l.length → Rdo l i = some (if Ret (l.drop i) then .inl l else .inr (l, false))
 | 0, i, hd => by
  apply Rhk
  have hi : ¬ ((i : Int) < l.length) := by omega
  rw [List.drop_eq_nil_of_le (by omega)]
  simp [hi, Ret]
 | d + 1, i, hd => by
  apply Rhk
  have hi : i < l.length := by omega
  have hi' : (i : Int) < l.length := by omega
  rw [Rmu hi]
  simp only [hi', Zy, Zt, Rbk hi, Qb, Rdw, Rav (show (i : Int) < 9223372036854775807 by omega), Rmy hl d (i + 1) (by omega)]
  by_cases h1 : 1 ≤ l[i] ∧ l[i] ≤ 4 <;> simp [h1]
theorem Rno {l : List Int} (hl : (l.length : Int) ≤ 4294967296) : Riv l = some (Ret l && decide ((l.length : Int) ≤ 3)) := by
 apply Rnp
 have h : Rdo l 0 = _ := Rmy hl l.length 0 (by omega)
 rw [h, Qb, List.drop_zero]
 cases Ret l <;> simp [selm]
def lsOk (n : Int) (l : List (List Stm)) : Bool := l.all fun x => stOk x && bSs n x
theorem Rqy {n : Int} {l : List (List Stm)} {i : Nat} (hi : i < l.length) : lsOk n (l.drop i) = ((stOk l[i] && bSs n l[i]) && lsOk n (l.drop (i + 1))) := by
 unfold lsOk; rw [List.drop_eq_getElem_cons hi, List.all_cons]
theorem Rmr {r : List Int} (hr : (r.length : Int) ≤ 3) {l : List (List Stm)} (hl : (l.length : Int) ≤ 4294967296) (hm : ∀ x ∈ l, mSs x ≤ 4294967296) : ∀ (d i : Nat), i + d = l.length → Rbu l l.length i r l = some (if lsOk r.length (l.drop i) then .inl () else .inr false)
 | 0, i, hd => by
  apply Rfd
  have hi : ¬ ((i : Int) < l.length) := by omega
  rw [List.drop_eq_nil_of_le (by omega)]
  simp [hi, lsOk]
 | d + 1, i, hd => by
  apply Rfd
  have hi : i < l.length := by omega
  have hi' : (i : Int) < l.length := by omega
  rw [Rqy hi]
  simp only [hi', Zy, Zt, Rbk hi, Qb, Rmc (show (0 : Int) ≤ (r.length : Int) ∧ (r.length : Int) ≤ 3 by omega) _ (hm _ (List.getElem_mem hi)), Rav (show (i : Int) < 9223372036854775807 by omega), Rmr hr hl hm d (i + 1) (by omega)]
  cases stOk l[i] && bSs (r.length : Int) l[i] <;> simp
theorem Rmx {r : List Int} {l : List (List Stm)} (hl : (l.length : Int) ≤ 4294967296) (hm : ∀ x ∈ l, mSs x ≤ 4294967296) : ∀ (d i : Nat), i + d = l.length → Rbv i r l = some (if lsOk r.length (l.drop i) then .inl () else .inr false)
 | 0, i, hd => by
  apply Rfl
  have hi : ¬ ((i : Int) < l.length) := by omega
  rw [List.drop_eq_nil_of_le (by omega)]
  simp [hi, lsOk]
 | d + 1, i, hd => by
  apply Rfl
  have hi : i < l.length := by omega
  have hi' : (i : Int) < l.length := by omega
  rw [Rqy hi]
  simp only [hi', Zy, Zt, Rbk hi, Qb, Rlm _ (hm _ (List.getElem_mem hi)), Rnm (hm _ (List.getElem_mem hi)), Rav (show (i : Int) < 9223372036854775807 by omega), Rmx hl hm d (i + 1) (by omega)]
  cases stOk l[i] <;> cases bSs (r.length : Int) l[i] <;> simp
def Rie (p : Prg) : Bool := (Ret p.rooms && decide ((p.rooms.length : Int) ≤ 3)) && decide (1 ≤ (p.tasks.length : Int) ∧ (p.tasks.length : Int) ≤ 3) && lsOk p.rooms.length p.tasks
theorem Reb {p : Prg} (hr : (p.rooms.length : Int) ≤ 4294967296) (hl : (p.tasks.length : Int) ≤ 4294967296) (hm : ∀ x ∈ p.tasks, mSs x ≤ 4294967296) : Raz p = some (Rie p) := by
 apply Rjx
 rw [Rkz hr, Qb]
 unfold Rie
 by_cases h3 : (p.rooms.length : Int) ≤ 3
 ·have h : Rbu p.tasks (p.tasks.length : Int) 0 p.rooms p.tasks = _ := Rmr h3 hl hm p.tasks.length 0 (by omega)
  rw [h, Qb, List.drop_zero]
  cases Ret p.rooms
  ·simp
  by_cases h1 : (p.tasks.length : Int) < 1
  ·have : ¬ (1 ≤ (p.tasks.length : Int) ∧ (p.tasks.length : Int) ≤ 3) := by omega
   simp only [this, h1, h3, Zy, Zz, Bool.and_true, Zv, Zf, Zt, Bool.and_false, Bool.false_and]
  by_cases h2 : 3 < (p.tasks.length : Int)
  ·have : ¬ (1 ≤ (p.tasks.length : Int) ∧ (p.tasks.length : Int) ≤ 3) := by omega
   simp only [this, h1, h2, h3, Zy, Zz, Bool.and_true, Zv, Zf, Zt, Bool.and_false, Bool.false_and]
  ·have : 1 ≤ (p.tasks.length : Int) ∧ (p.tasks.length : Int) ≤ 3 := by omega
   simp only [this, h1, h2, h3, Zy, Zz, Bool.and_true, Bool.true_and, Zv, Zf, and_self]
   cases lsOk (p.rooms.length : Int) p.tasks <;> simp [selm]
 ·simp [h3]
theorem Rkb {p : Prg} (hr : (p.rooms.length : Int) ≤ 4294967296) (hl : (p.tasks.length : Int) ≤ 4294967296) (hm : ∀ x ∈ p.tasks, mSs x ≤ 4294967296) : Rca p = some (Rie p) := by
 apply Rkc
 have h : Rbv 0 p.rooms p.tasks = _ := Rmx hl hm p.tasks.length 0 (by omega)
 rw [Rno hr, Qb, Rdw, Qb, h, Qb, List.drop_zero]
 unfold Rie
 cases Ret p.rooms && decide ((p.rooms.length : Int) ≤ 3)
 ·simp
 by_cases h1 : 1 ≤ (p.tasks.length : Int) ∧ (p.tasks.length : Int) ≤ 3
 ·simp only [h1, and_self, Zy, Zv, Zf, Bool.true_and]
  cases lsOk (p.rooms.length : Int) p.tasks <;> simp [selm]
 ·simp only [h1, Zz, Zx, Zt, Zv, Zf, Bool.and_false, Bool.false_and]
mutual
def mkX : Int → Exp → Exp
 | k, ⟨_, _, as⟩ => ⟨k, k + 1, mkXs (k + 2) as⟩
def mkXs : Int → List Exp → List Exp
 | _, [] => []
 | k, e :: r => mkX k e :: mkXs (k + 2 + 2 * emX e) r
end
mutual
def nS : Stm → Nat
 | ⟨_, _, _, e, bd, el⟩ => 5 + 2 * emX e + nSs bd + nSs el
def nSs : List Stm → Nat
 | [] => 0
 | s :: r => nS s + nSs r
end
mutual
def mkS : Int → Stm → Stm
 | k, ⟨_, _, _, e, bd, el⟩ => ⟨k, k + 1, k + 2, ⟨k + 3, k + 4, mkXs (k + 5) e.args⟩, mkSs (k + 5 + 2 * emX e) bd, mkSs (k + 5 + 2 * emX e + nSs bd) el⟩
def mkSs : Int → List Stm → List Stm
 | _, [] => []
 | k, s :: r => mkS k s :: mkSs (k + nS s) r
end
theorem nS_eq (s : Stm) : nS s = 5 + 2 * emX s.e + nSs s.body + nSs s.els := by cases s; simp [nS]
theorem Rwq (k : Int) (s : Stm) : mkS k s = ⟨k, k + 1, k + 2, ⟨k + 3, k + 4, mkXs (k + 5) s.e.args⟩, mkSs (k + 5 + 2 * emX s.e) s.body, mkSs (k + 5 + 2 * emX s.e + nSs s.body) s.els⟩ := by cases s; simp [mkS]
theorem Rwr (k : Int) (e : Exp) : mkX k e = ⟨k, k + 1, mkXs (k + 2) e.args⟩ := by cases e; simp [mkX]
mutual
theorem nS_le : ∀ s : Stm, nS s ≤ 5 + 5 * mS s
 | ⟨_, _, _, e, bd, el⟩ => by
  have h1 := Rjk bd
  have h2 := Rjk el
  simp only [nS, mS]; omega
theorem Rjk : ∀ l : List Stm, nSs l ≤ 5 * mSs l
 | [] => by simp [nSs]
 | s :: r => by
  have h1 := nS_le s
  have h2 := Rjk r
  simp only [nSs, mSs]; omega
end
theorem Rqg : ∀ (k : Int) (l : List Exp), (mkXs k l).length = l.length
 | k, [] => by simp [mkXs]
 | k, e :: r => by simp only [mkXs, Zc, Rqg]
theorem Rqf : ∀ (k : Int) (l : List Stm), (mkSs k l).length = l.length
 | k, [] => by simp [mkSs]
 | k, e :: r => by simp only [mkSs, Zc, Rqf]
def MarkX (l : List Exp) : Prop := ∀ (h : Hd) (ids : List Nat) (A : List Ent) (k : Int), Tr A .expH h l ids → ids.Nodup → 0 ≤ k → k + 2 * emXs l ≤ 4611686018427387904 → Ok (Rem h k A) fun r => r.1 = k + 2 * emXs l ∧ Tr r.2 .expH h (mkXs k l) ids ∧ Only ids A r.2
theorem Rrw {h : Hd} {ids : List Nat} {A : List Ent} (nd : ids.Nodup) (hb : ((h.n : Nat) : Int) ≤ 4611686018427387904) : ∀ (rest done : List Exp) (k : Int) (B : List Ent), (∀ e ∈ rest, MarkX e.args) → Tr B .expH h (done ++ rest) ids → Only ids A B → 0 ≤ k → k + 2 * emXs rest ≤ 4611686018427387904 →
  Ok (Rdj h k done.length B) fun r => r.1 = k + 2 * emXs rest ∧ Tr r.2 .expH h (done ++ mkXs k rest) ids ∧ Only ids A r.2
 | [], done, k, B, _, hT, ho, h0, hk => by
  apply Ok.le (Rfr _ _ _ _)
  have hn := hT.cnt
  simp only [Za, Zn] at hn
  have hi : ¬ ((done.length : Int) < ((h.n : Nat) : Int)) := by omega
  simp only [hi, Zz, Zf]
  exact Ok.of ⟨by simp [emXs], hT, ho⟩
 | e :: rest, done, k, B, hp, hT, ho, h0, hk => by
  apply Ok.le (Rfr _ _ _ _)
  have hn := hT.cnt
  simp only [Za, Zc] at hn
  have hi : (done.length : Int) < ((h.n : Nat) : Int) := by omega
  obtain ⟨M⟩ := hT.mid nd (j := done.length) (y := e) (Rjd done e rest)
  have hlt := (List.getElem?_eq_some_iff.1 M.at_).1
  obtain ⟨as, hT', he⟩ := (show ∃ as, Tr B .expH M.x.args as M.s ∧ e = ⟨M.x.op, M.x.n, as⟩ from M.row)
  have ea : as = e.args := by rw [he]
  subst ea
  simp only [emXs, Rfa] at hk
  simp only [hi, Zy, Zt, idxN_eq (show 0 ≤ (done.length : Int) by omega) hi, Int.toNat_natCast, Qb, M.hid, Qrz M.get M.at_, arRow_set M.get hlt, arSet_set M.get, wrap_id (n := k + 1) (by omega) (by omega), wrap_id (n := k + 1 + 1) (by omega) (by omega)]
  have o1 : Only [M.i] B (Qia B .expH (some M.i) done.length (⟨k, k + 1, M.x.args⟩ : ExpH)) := set_only (c := .expH) (by simp)
  refine Ok.bnd (hp _ List.mem_cons_self M.x.args M.s _ (k + 1 + 1) (hT'.only o1 (fun n hn hm => M.out (by simp at hm; rw [← hm]; exact hn))) M.nds (by omega) (by omega)) fun r ⟨e1, t1, o2⟩ => ?_
  have oB : Only (M.i :: M.s) B r.2 := (o1.mono (by simp)).trans (o2.mono (fun n hn => List.mem_cons_of_mem _ hn))
  have hb2 := M.back (B := r.2) (x' := (⟨k, k + 1, M.x.args⟩ : ExpH)) (y' := ⟨k, k + 1, mkXs (k + 1 + 1) e.args⟩) (Qnj (fun n hn => by injection hn with hn; rw [← hn]; exact o2.same _ M.out) (Qjv (c := .expH) M.get)) ⟨_, t1, rfl⟩ oB
  rw [Rqi] at hb2
  have ho2 : Only ids A r.2 := ho.trans (oB.mono fun n hn => by
   rcases List.mem_cons.1 hn with rfl | hn
   ·exact M.iin
   ·exact M.ins n hn)
  rw [Rav (show (done.length : Int) < 9223372036854775807 by omega)]
  have ih := Rrw nd hb rest (done ++ [⟨k, k + 1, mkXs (k + 1 + 1) e.args⟩]) r.1 r.2 (fun e he => hp e (List.mem_cons_of_mem _ he)) (by rw [List.append_assoc]; exact hb2) ho2 (by rw [e1]; omega) (by rw [e1]; omega)
  simp only [Za, Zc, Zn, Nat.zero_add] at ih
  refine ih.mono fun q ⟨q1, q2, q3⟩ => ⟨?_, ?_, q3⟩
  ·rw [q1, e1]; simp only [emXs, Rfa]; omega
  ·have ek : k + 1 + 1 = k + 2 := by omega
   rw [List.append_assoc, e1, ek] at q2
   simp only [mkXs, Rwr, Rfa]
   exact q2
theorem Rqz : ∀ (N : Nat) (l : List Exp), emXs l ≤ N → MarkX l
 | 0, l, hN => by
  intro h ids A k hT nd h0 hk
  apply Ok.le (Rhc _ _ _)
  have hl := Rju l
  have hc := hT.cnt
  have hnil : l = [] := List.eq_nil_of_length_eq_zero (by omega)
  subst hnil
  refine Ok.bnd (Rrw (A := A) nd (by rw [hc]; simp) [] [] k A (by simp) hT (Only.refl _ _) h0 hk) fun r hr => Ok.of hr
 | N + 1, l, hN => by
  intro h ids A k hT nd h0 hk
  apply Ok.le (Rhc _ _ _)
  have hl := Rju l
  have hc := hT.cnt
  refine Ok.bnd (Rrw (A := A) nd (by rw [hc]; omega) l [] k A (fun e he => Rqz N e.args (by have := Rqc he; rw [Rfa] at this; omega)) hT (Only.refl _ _) h0 hk) fun r hr => Ok.of hr
theorem Rkr {l : List Exp} : MarkX l := Rqz _ l (Nat.le_refl _)
def Rvt (l : List Stm) : Prop := ∀ (h : Hd) (ids : List Nat) (A : List Ent) (k : Int), Tr A .stmH h l ids → ids.Nodup → 0 ≤ k → k + 5 * mSs l ≤ 4611686018427387904 → Ok (Rdn h k A) fun r => r.1 = k + nSs l ∧ Tr r.2 .stmH h (mkSs k l) ids ∧ Only ids A r.2
theorem Rrv {h : Hd} {ids : List Nat} {A : List Ent} (nd : ids.Nodup) (hb : ((h.n : Nat) : Int) ≤ 4611686018427387904) : ∀ (rest done : List Stm) (k : Int) (B : List Ent), (∀ e ∈ rest, Rvt e.body ∧ Rvt e.els) → Tr B .stmH h (done ++ rest) ids → Only ids A B → 0 ≤ k → k + 5 * mSs rest ≤ 4611686018427387904 →
  Ok (Rdk h k done.length B) fun r => r.1 = k + nSs rest ∧ Tr r.2 .stmH h (done ++ mkSs k rest) ids ∧ Only ids A r.2
 | [], done, k, B, _, hT, ho, h0, hk => by
  apply Ok.le (Rfs _ _ _ _)
  have hn := hT.cnt
  simp only [Za, Zn] at hn
  have hi : ¬ ((done.length : Int) < ((h.n : Nat) : Int)) := by omega
  simp only [hi, Zz, Zf]
  exact Ok.of ⟨by simp [nSs], hT, ho⟩
 | e :: rest, done, k, B, hp, hT, ho, h0, hk => by
  apply Ok.le (Rfs _ _ _ _)
  have hn := hT.cnt
  simp only [Za, Zc] at hn
  have hi : (done.length : Int) < ((h.n : Nat) : Int) := by omega
  obtain ⟨M⟩ := hT.mid nd (j := done.length) (y := e) (Rjd done e rest)
  have hlt := (List.getElem?_eq_some_iff.1 M.at_).1
  obtain ⟨as, bd, el, s1, s2, s3, hT1, hT2, hT3, he, hs⟩ := (show ∃ as bd el s1 s2 s3, Tr B .expH M.x.args as s1 ∧ Tr B .stmH M.x.body bd s2 ∧ Tr B .stmH M.x.els el s3 ∧ e = ⟨M.x.kind, M.x.var, M.x.box, ⟨M.x.eop, M.x.en, as⟩, bd, el⟩ ∧ M.s = s1 ++ (s2 ++ s3) from M.row)
  have ea0 : as = e.e.args := by rw [he]
  have eb0 : bd = e.body := by rw [he]
  have ec0 : el = e.els := by rw [he]
  have hsz : mS e = emXs as + mSs bd + mSs el := by rw [Rof, Rfa, ea0, eb0, ec0]
  have hnz : nS e = 5 + 2 * emXs as + nSs bd + nSs el := by rw [nS_eq, Rfa, ea0, eb0, ec0]
  have hle1 := Rjk bd
  have hle2 := Rjk el
  simp only [mSs, hsz] at hk
  obtain ⟨p1, p2⟩ := hp _ List.mem_cons_self
  rw [← eb0] at p1
  rw [← ec0] at p2
  have hnd := M.nds
  rw [hs, List.nodup_append] at hnd
  obtain ⟨n1, n23, d1⟩ := hnd
  rw [List.nodup_append] at n23
  obtain ⟨n2, n3, d23⟩ := n23
  have hout := M.out
  rw [hs] at hout
  simp only [hi, Zy, Zt, idxN_eq (show 0 ≤ (done.length : Int) by omega) hi, Int.toNat_natCast, Qb, M.hid, Qrz M.get M.at_, arRow_set M.get hlt, arSet_set M.get, wrap_id (n := k + 1) (by omega) (by omega), wrap_id (n := k + 1 + 1) (by omega) (by omega), wrap_id (n := k + 1 + 1 + 1) (by omega) (by omega), wrap_id (n := k + 1 + 1 + 1 + 1) (by omega) (by omega), wrap_id (n := k + 1 + 1 + 1 + 1 + 1) (by omega) (by omega)]
  have o1 : Only [M.i] B (Qia B .stmH (some M.i) done.length (⟨k, k + 1, k + 1 + 1, k + 1 + 1 + 1, k + 1 + 1 + 1 + 1, M.x.args, M.x.body, M.x.els⟩ : StmH)) := set_only (c := .stmH) (by simp)
  have ne1 : ∀ n ∈ s1, n ∉ [M.i] := fun n hn hm => hout (by simp at hm; rw [← hm]; simp [hn])
  have ne2 : ∀ n ∈ s2, n ∉ [M.i] := fun n hn hm => hout (by simp at hm; rw [← hm]; simp [hn])
  have ne3 : ∀ n ∈ s3, n ∉ [M.i] := fun n hn hm => hout (by simp at hm; rw [← hm]; simp [hn])
  refine Ok.bnd (Rkr (l := as) M.x.args s1 _ (k + 1 + 1 + 1 + 1 + 1) (hT1.only o1 ne1) n1 (by omega) (by omega)) fun r ⟨e1, t1, o2⟩ => ?_
  have hget : ∀ {D : List Ent} {s : List Nat}, Only s (Qia B .stmH (some M.i) done.length (⟨k, k + 1, k + 1 + 1, k + 1 + 1 + 1, k + 1 + 1 + 1 + 1, M.x.args, M.x.body, M.x.els⟩ : StmH)) D → M.i ∉ s → Qs D .stmH (some M.i) = some (M.rows.set done.length (⟨k, k + 1, k + 1 + 1, k + 1 + 1 + 1, k + 1 + 1 + 1 + 1, M.x.args, M.x.body, M.x.els⟩ : StmH)) := fun o hm => Qnj (fun n hn => by injection hn with hn; rw [← hn]; exact o.same _ hm) (Qjv (c := .stmH) M.get)
  have hrow : ∀ {D : List Ent}, Qs D .stmH (some M.i) = some (M.rows.set done.length (⟨k, k + 1, k + 1 + 1, k + 1 + 1 + 1, k + 1 + 1 + 1 + 1, M.x.args, M.x.body, M.x.els⟩ : StmH)) → Qlr D .stmH (some M.i) done.length = some (⟨k, k + 1, k + 1 + 1, k + 1 + 1 + 1, k + 1 + 1 + 1 + 1, M.x.args, M.x.body, M.x.els⟩ : StmH) := fun hg => Qrz hg (List.getElem?_set_self hlt)
  have g2 := hget o2 (fun hm => hout (by simp [hm]))
  rw [hrow g2, Qb]
  refine Ok.bnd (p1 M.x.body s2 r.2 r.1 ((hT2.only o1 ne2).only o2 (fun n hn hm => d1 n hm n (by simp [hn]) rfl)) n2 (by rw [e1]; omega) (by rw [e1]; omega)) fun r2 ⟨e2, t2, o3⟩ => ?_
  have g3 : Qs r2.2 .stmH (some M.i) = some (M.rows.set done.length (⟨k, k + 1, k + 1 + 1, k + 1 + 1 + 1, k + 1 + 1 + 1 + 1, M.x.args, M.x.body, M.x.els⟩ : StmH)) := Qnj (fun n hn => by injection hn with hn; rw [← hn]; exact o3.same _ (fun hm => hout (by simp [hm]))) g2
  rw [hrow g3, Qb]
  refine Ok.bnd (p2 M.x.els s3 r2.2 r2.1 (((hT3.only o1 ne3).only o2 (fun n hn hm => d1 n hm n (by simp [hn]) rfl)).only o3 (fun n hn hm => d23 n hm n hn rfl)) n3 (by rw [e2, e1]; omega) (by rw [e2, e1]; omega)) fun r3 ⟨e3, t3, o4⟩ => ?_
  have g4 : Qs r3.2 .stmH (some M.i) = some (M.rows.set done.length (⟨k, k + 1, k + 1 + 1, k + 1 + 1 + 1, k + 1 + 1 + 1 + 1, M.x.args, M.x.body, M.x.els⟩ : StmH)) := Qnj (fun n hn => by injection hn with hn; rw [← hn]; exact o4.same _ (fun hm => hout (by simp [hm]))) g3
  have tt1 : Tr r3.2 .expH M.x.args (mkXs (k + 1 + 1 + 1 + 1 + 1) as) s1 := (t1.only o3 (fun n hn hm => d1 n hn n (by simp [hm]) rfl)).only o4 (fun n hn hm => d1 n hn n (by simp [hm]) rfl)
  have tt2 : Tr r3.2 .stmH M.x.body (mkSs r.1 bd) s2 := t2.only o4 (fun n hn hm => d23 n hn n hm rfl)
  have oB : Only (M.i :: M.s) B r3.2 := by
   rw [hs]
   exact (((o1.mono (by simp)).trans (o2.mono fun n hn => by simp [hn])).trans (o3.mono fun n hn => by simp [hn])).trans (o4.mono fun n hn => by simp [hn])
  have hb2 := M.back (B := r3.2) (x' := (⟨k, k + 1, k + 1 + 1, k + 1 + 1 + 1, k + 1 + 1 + 1 + 1, M.x.args, M.x.body, M.x.els⟩ : StmH)) (y' := ⟨k, k + 1, k + 1 + 1, ⟨k + 1 + 1 + 1, k + 1 + 1 + 1 + 1, mkXs (k + 1 + 1 + 1 + 1 + 1) as⟩, mkSs r.1 bd, mkSs r2.1 el⟩) g4 ⟨_, _, _, s1, s2, s3, tt1, tt2, t3, rfl, hs⟩ oB
  rw [Rqi] at hb2
  have ho2 : Only ids A r3.2 := ho.trans (oB.mono fun n hn => by
   rcases List.mem_cons.1 hn with rfl | hn
   ·exact M.iin
   ·exact M.ins n hn)
  rw [Rav (show (done.length : Int) < 9223372036854775807 by omega)]
  have ih := Rrv nd hb rest (done ++ [⟨k, k + 1, k + 1 + 1, ⟨k + 1 + 1 + 1, k + 1 + 1 + 1 + 1, mkXs (k + 1 + 1 + 1 + 1 + 1) as⟩, mkSs r.1 bd, mkSs r2.1 el⟩]) r3.1 r3.2 (fun e he => hp e (List.mem_cons_of_mem _ he)) (by rw [List.append_assoc]; exact hb2) ho2 (by rw [e3, e2, e1]; omega) (by rw [e3, e2, e1]; omega)
  simp only [Za, Zc, Zn, Nat.zero_add] at ih
  refine ih.mono fun q ⟨q1, q2, q3⟩ => ⟨?_, ?_, q3⟩
  ·rw [q1, e3, e2, e1]; simp only [nSs, hnz]; omega
  ·have ek : k + 1 + 1 = k + 2 := by omega
   have ek3 : k + 1 + 1 + 1 = k + 3 := by omega
   have ek4 : k + 1 + 1 + 1 + 1 = k + 4 := by omega
   have ek5 : k + 1 + 1 + 1 + 1 + 1 = k + 5 := by omega
   have ea : r.1 = k + 5 + 2 * emXs as := by rw [e1]; omega
   have eb : r2.1 = k + 5 + 2 * emXs as + nSs bd := by rw [e2, e1]; omega
   have ec : r3.1 = k + nS e := by rw [e3, e2, e1, hnz]; omega
   rw [List.append_assoc, eb, ec, ea, ek5, ek4, ek3, ek] at q2
   have em : mkS k e = ⟨k, k + 1, k + 2, ⟨k + 3, k + 4, mkXs (k + 5) as⟩, mkSs (k + 5 + 2 * emXs as) bd, mkSs (k + 5 + 2 * emXs as + nSs bd) el⟩ := by rw [Rwq, Rfa, ea0, eb0, ec0]
   rw [mkSs, em]
   exact q2
theorem Rog : ∀ (N : Nat) (l : List Stm), mSs l ≤ N → Rvt l
 | 0, l, hN => by
  intro h ids A k hT nd h0 hk
  apply Ok.le (Rhd _ _ _)
  have hl := Res l
  have hc := hT.cnt
  have hnil : l = [] := List.eq_nil_of_length_eq_zero (by omega)
  subst hnil
  refine Ok.bnd (Rrv (A := A) nd (by rw [hc]; simp) [] [] k A (by simp) hT (Only.refl _ _) h0 hk) fun r hr => Ok.of hr
 | N + 1, l, hN => by
  intro h ids A k hT nd h0 hk
  apply Ok.le (Rhd _ _ _)
  have hl := Res l
  have hc := hT.cnt
  refine Ok.bnd (Rrv (A := A) nd (by rw [hc]; omega) l [] k A (fun e he => ⟨Rog N e.body (by have := Rhe he; rw [Rof] at this; omega), Rog N e.els (by have := Rhe he; rw [Rof] at this; omega)⟩) hT (Only.refl _ _) h0 hk) fun r hr => Ok.of hr
theorem Rks {l : List Stm} : Rvt l := Rog _ l (Nat.le_refl _)
theorem Rwe {h : Hd} {ids : List Nat} {A : List Ent} {l : List Int} {k : Int} (hT : Tr A .int h l ids) (hl : (l.length : Int) ≤ 4294967296) (h0 : 0 ≤ k) (hk : k + l.length ≤ 4611686018427387904) : Ok (Rfi h k A) fun r => r.1 = k + l.length ∧ Tr r.2 .int h (mkI k l) ids ∧ Only ids A r.2 := by
 obtain ⟨rows, ss, T, hids⟩ := Qov.1 hT
 have hlen := T.len
 have hls := T.lens
 have hrow : ∀ j, j < rows.length → l[j]? = rows[j]? ∧ ss[j]? = some [] := by
  intro j hj
  have h1 : rows[j]? = some rows[j] := List.getElem?_eq_getElem hj
  have h2 : l[j]? = some (l[j]'(by omega)) := List.getElem?_eq_getElem _
  have h3 : ss[j]? = some (ss[j]'(by omega)) := List.getElem?_eq_getElem _
  obtain ⟨q1, q2⟩ := (show l[j]'(by omega) = rows[j] ∧ ss[j]'(by omega) = [] from T.row j _ _ _ h1 h2 h3)
  exact ⟨by rw [h1, h2, q1], by rw [h3, q2]⟩
 have hlr : l = rows := by
  apply List.ext_getElem?
  intro j
  by_cases hj : j < rows.length
  ·exact (hrow j hj).1
  ·rw [List.getElem?_eq_none (by omega), List.getElem?_eq_none (by omega)]
 subst hlr
 have hss : ss.flatten = [] := by
  rw [List.flatten_eq_nil_iff]
  intro s hs
  obtain ⟨j, hj⟩ := List.getElem?_of_mem hs
  have hlt := (List.getElem?_eq_some_iff.1 hj).1
  have := (hrow j (by omega)).2
  rw [hj] at this
  injection this
 rw [hss, List.append_nil] at hids
 refine (Rlh T.get T.cnt (by omega) h0 hk).mono fun r ⟨e1, hm⟩ => ⟨e1, ?_, hm.len, fun n hn => ?_⟩
 ·have T2 : Ls r.2 .int h (mkI k l) (mkI k l) (List.replicate l.length []) := ⟨hm.get, by rw [Roh]; exact T.cnt, rfl, by simp [Roh], fun j x y s hx hy hs => by
   rw [hx] at hy
   injection hy with hy
   rw [List.getElem?_replicate] at hs
   split at hs
   ·injection hs with hs; exact ⟨hy.symm, hs.symm⟩
   ·cases hs⟩
  have := T2.tr
  rw [hids]
  simpa using this
 ·by_cases hlt : n < A.length
  ·exact hm.ext.same n hlt fun e => hn (by rw [hids, e]; simp)
  ·rw [List.getElem?_eq_none (by rw [hm.len]; omega), List.getElem?_eq_none (by omega)]
def HeldX (l : List Exp) : Prop := ∀ k : Int, 0 ≤ k → k + 2 * emXs l ≤ 4611686018427387904 → Rgc (mkXs k l) k = some (k + 2 * emXs l)
theorem Rrr {L : List Exp} (hL : (L.length : Int) ≤ 4611686018427387904) : ∀ (rest done : List Exp) (k : Int), (∀ e ∈ rest, HeldX e.args) → L = done ++ mkXs k rest → 0 ≤ k → k + 2 * emXs rest ≤ 4611686018427387904 → Rby L k done.length = some (.inl (k + 2 * emXs rest))
 | [], done, k, _, hl, h0, hk => by
  subst hl
  apply Rgo
  simp [mkXs, emXs]
 | e :: rest, done, k, hp, hl, h0, hk => by
  apply Rgo
  simp only [emXs, Rfa] at hk
  have hlen : L.length = done.length + (rest.length + 1) := by rw [hl]; simp [Rqg]
  have hi : (done.length : Int) < (L.length : Int) := by omega
  have hget : L[done.length]? = some (mkX k e) := by rw [hl]; exact Rjd done _ _
  have hh := hp e List.mem_cons_self (k + 2) (by omega) (by omega)
  have ek : k + 1 + 1 = k + 2 := by omega
  have ih := Rrr hL rest (done ++ [mkX k e]) (k + 2 + 2 * emX e) (fun e he => hp e (List.mem_cons_of_mem _ he)) (by rw [List.append_assoc]; exact hl) (by omega) (by rw [Rfa]; omega)
  simp only [Za, Zc, Zn, Nat.zero_add, Rfa] at ih
  have hneg : ¬ (k + 2 + 2 * (emXs e.args : Int) < 0) := by omega
  simp only [hi, Zy, Zt, geti_nat', hget, Qb, Rwr, Zv, Zf, wrap_id (n := k + 1) (by omega) (by omega), ek, wrap_id (n := k + 2) (by omega) (by omega), hh, hneg, Zz, Rav (show (done.length : Int) < 9223372036854775807 by omega), ih, emXs]
  rw [show k + 2 + 2 * (emXs e.args : Int) + 2 * emXs rest = k + 2 * ((1 + emXs e.args + emXs rest : Nat) : Int) by omega, ← Rfa]
theorem Rqr : ∀ (N : Nat) (l : List Exp), emXs l ≤ N → HeldX l
 | 0, l, hN => by
  intro k h0 hk
  have hl := Rju l
  have hnil : l = [] := List.eq_nil_of_length_eq_zero (by omega)
  subst hnil
  apply Rib
  have e : Rby (mkXs k []) k 0 = some (.inl (k + 2 * emXs [])) := Rrr (by simp [mkXs]) [] [] k (by simp) rfl h0 hk
  rw [e]; simp [selm]
 | N + 1, l, hN => by
  intro k h0 hk
  have hl := Rju l
  apply Rib
  have e : Rby (mkXs k l) k 0 = some (.inl (k + 2 * emXs l)) := Rrr (by rw [Rqg]; omega) l [] k (fun e he => Rqr N e.args (by have := Rqc he; rw [Rfa] at this; omega)) rfl h0 hk
  rw [e]; simp [selm]
theorem Rmh {l : List Exp} : HeldX l := Rqr _ l (Nat.le_refl _)
def Rvs (l : List Stm) : Prop := ∀ k : Int, 0 ≤ k → k + 5 * mSs l ≤ 4611686018427387904 → Rei (mkSs k l) k = some (k + nSs l)
theorem Rrq {L : List Stm} (hL : (L.length : Int) ≤ 4611686018427387904) : ∀ (rest done : List Stm) (k : Int), (∀ e ∈ rest, Rvs e.body ∧ Rvs e.els) → L = done ++ mkSs k rest → 0 ≤ k → k + 5 * mSs rest ≤ 4611686018427387904 → Rbz L k done.length = some (.inl (k + nSs rest))
 | [], done, k, _, hl, h0, hk => by
  subst hl
  apply Rgp
  simp [mkSs, nSs]
 | e :: rest, done, k, hp, hl, h0, hk => by
  apply Rgp
  simp only [mSs, Rof, Rfa] at hk
  have hle1 := Rjk e.body
  have hle2 := Rjk e.els
  have hlen : L.length = done.length + (rest.length + 1) := by rw [hl]; simp [Rqf]
  have hi : (done.length : Int) < (L.length : Int) := by omega
  have hget : L[done.length]? = some (mkS k e) := by rw [hl]; exact Rjd done _ _
  have hx := Rmh (l := e.e.args) (k + 5) (by omega) (by omega)
  have h1 := (hp e List.mem_cons_self).1 (k + 5 + 2 * emXs e.e.args) (by omega) (by omega)
  have h2 := (hp e List.mem_cons_self).2 (k + 5 + 2 * emXs e.e.args + nSs e.body) (by omega) (by omega)
  have ek2 : k + 1 + 1 = k + 2 := by omega
  have ek3 : k + 2 + 1 = k + 3 := by omega
  have ek4 : k + 3 + 1 = k + 4 := by omega
  have ek5 : k + 4 + 1 = k + 5 := by omega
  have ih := Rrq hL rest (done ++ [mkS k e]) (k + nS e) (fun e he => hp e (List.mem_cons_of_mem _ he)) (by rw [List.append_assoc]; exact hl) (by omega) (by rw [nS_eq, Rfa]; omega)
  simp only [Za, Zc, Zn, Nat.zero_add] at ih
  have n1 : ¬ (k + 5 + 2 * (emXs e.e.args : Int) < 0) := by omega
  have n2 : ¬ (k + 5 + 2 * (emXs e.e.args : Int) + nSs e.body < 0) := by omega
  have n3 : ¬ (k + (nS e : Int) < 0) := by omega
  have en : k + 5 + 2 * (emXs e.e.args : Int) + nSs e.body + nSs e.els = k + nS e := by rw [nS_eq, Rfa]; omega
  simp only [hi, Zy, Zt, geti_nat', hget, Qb, Rwq, Zv, Zf, wrap_id (n := k + 1) (by omega) (by omega), ek2, wrap_id (n := k + 2) (by omega) (by omega), ek3, wrap_id (n := k + 3) (by omega) (by omega), ek4, wrap_id (n := k + 4) (by omega) (by omega), ek5, wrap_id (n := k + 5) (by omega) (by omega), hx, n1, Zz, Rfa, h1, n2, h2, en, n3, Rav (show (done.length : Int) < 9223372036854775807 by omega), ih, nSs]
  rw [show k + (nS e : Int) + nSs rest = k + ((nS e + nSs rest : Nat) : Int) by omega]
theorem Rnv : ∀ (N : Nat) (l : List Stm), mSs l ≤ N → Rvs l
 | 0, l, hN => by
  intro k h0 hk
  have hl := Res l
  have hnil : l = [] := List.eq_nil_of_length_eq_zero (by omega)
  subst hnil
  apply Ric
  have e : Rbz (mkSs k []) k 0 = some (.inl (k + nSs [])) := Rrq (by simp [mkSs]) [] [] k (by simp) rfl h0 hk
  rw [e]; simp [selm]
 | N + 1, l, hN => by
  intro k h0 hk
  have hl := Res l
  apply Ric
  have e : Rbz (mkSs k l) k 0 = some (.inl (k + nSs l)) := Rrq (by rw [Rqf]; omega) l [] k (fun e he => ⟨Rnv N e.body (by have := Rhe he; rw [Rof] at this; omega), Rnv N e.els (by have := Rhe he; rw [Rof] at this; omega)⟩) rfl h0 hk
  rw [e]; simp [selm]
theorem Rmi {l : List Stm} : Rvs l := Rnv _ l (Nat.le_refl _)
def mks {α : Type} (w : α → Nat) (mk : Int → α → α) : Int → List α → List α
 | _, [] => []
 | k, y :: r => mk k y :: mks w mk (k + w y) r
end Go.TFnExactProgramFrom
