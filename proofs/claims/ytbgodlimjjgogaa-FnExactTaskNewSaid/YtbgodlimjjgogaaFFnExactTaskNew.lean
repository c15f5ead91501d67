/- The plain law: what the functions answer. -/
import Derived.Test.YtbgodlimjjgogaaDFnExactTaskNewE0
import Derived.Test.YtbgodlimjjgogaaDFnExactTaskNewE1
import Derived.Test.YtbgodlimjjgogaaTvRow2
import Derived.Test.YtbgodlimjjgogaaLkU
set_option linter.unusedVariables false
set_option linter.unusedSimpArgs false
namespace Go.TFnExactTaskNew
open Go Go.RowKit Go.Vs Go.Tv
theorem Rdo (a b c : Int) : Rdf a b c = some (decide (b ≤ a ∧ a ≤ c)) := by
 apply Rjs
 by_cases h : b ≤ a <;> simp [h]
theorem Rib (a : Int) : Ren a = some (decide (1 ≤ a ∧ a ≤ 12)) := by
 apply Ric; simp [Rdo]
theorem Rhn (a : Int) : Rei a = some (decide (1 ≤ a ∧ a ≤ 12)) := by
 apply Rho
 by_cases h : 1 ≤ a <;> simp [h]
theorem Rc {α : Type} {l : List α} {i : Nat} (h : i < l.length) : geti l (i : Int) = some l[i] := by
 rw [geti_nat', List.getElem?_eq_getElem h]
theorem Re {i : Nat} (h : (i : Int) < 9223372036854775807) : wrap64 ((i : Int) + 1) = ((i + 1 : Nat) : Int) := by
 rw [wrap_id (by omega) (by omega)]; omega
theorem Rjq {n : Nat} (h : (n : Int) ≤ 4294967296) : made (n : Int) = some n := by simp [made]; omega
theorem Qvg {α : Type} {a b : List α} {i : Nat} (hl : b.length = a.length) (hi : i < a.length) (h : b.take i = a.take i) : (b.set i a[i]).take (i + 1) = a.take (i + 1) := by
 rw [List.take_set]
 apply List.ext_getElem?
 intro j
 rw [List.getElem?_set]
 by_cases hj : i = j
 ·subst hj
  simp [hl, hi]; omega
 ·rw [if_neg hj]
  by_cases hlt : j < i
  ·have := congrArg (fun l : List α => l[j]?) h
   simp only [List.getElem?_take] at this ⊢
   rw [if_pos hlt, if_pos hlt] at this
   rw [if_pos (by omega), if_pos (by omega)]; exact this
  ·simp only [List.getElem?_take]
   rw [if_neg (by omega), if_neg (by omega)]
theorem Rv (e : Exp) : (⟨e.op, e.n, e.args⟩ : Exp) = e := by cases e; rfl
theorem Ray (s : Stm) : (⟨s.kind, s.var, s.box, ⟨s.e.op, s.e.n, s.e.args⟩, s.body, s.els⟩ : Stm) = s := by
 obtain ⟨k, v, b, e, bd, el⟩ := s
 cases e; rfl
mutual
theorem Exp.ind {P : Exp → Prop} (h : ∀ e : Exp, (∀ a ∈ e.args, P a) → P e) : ∀ e : Exp, P e
 | ⟨o, n, as⟩ => h ⟨o, n, as⟩ (Exp.inds h as)
theorem Exp.inds {P : Exp → Prop} (h : ∀ e : Exp, (∀ a ∈ e.args, P a) → P e) : ∀ l : List Exp, ∀ a ∈ l, P a
 | [], a, ha => by cases ha
 | e :: r, a, ha => by
  rcases List.mem_cons.1 ha with e1 | h1
  ·rw [e1]; exact Exp.ind h e
  ·exact Exp.inds h r a h1
end
mutual
theorem Stm.ind {P : Stm → Prop} (h : ∀ s : Stm, (∀ a ∈ s.body, P a) → (∀ a ∈ s.els, P a) → P s) : ∀ s : Stm, P s
 | ⟨k, v, b, e, bd, el⟩ => h ⟨k, v, b, e, bd, el⟩ (Stm.inds h bd) (Stm.inds h el)
theorem Stm.inds {P : Stm → Prop} (h : ∀ s : Stm, (∀ a ∈ s.body, P a) → (∀ a ∈ s.els, P a) → P s) : ∀ l : List Stm, ∀ a ∈ l, P a
 | [], a, ha => by cases ha
 | e :: r, a, ha => by
  rcases List.mem_cons.1 ha with e1 | h1
  ·rw [e1]; exact Stm.ind h e
  ·exact Stm.inds h r a h1
end
def Rs : Nat → Exp → Bool
 | 0, _ => false
 | d + 1, e =>
  if e.op = 0 then decide (0 ≤ e.n ∧ e.n ≤ 99999) && e.args.isEmpty
  else if e.op = 13 then decide (0 ≤ e.n ∧ e.n < 4) && e.args.isEmpty
  else decide (1 ≤ e.op ∧ e.op ≤ 12) && decide (e.n = 0) && match e.args with | [a, b] => Rs d a && Rs d b | _ => false
theorem len0 {α : Type} (l : List α) : ((l.length : Int) = 0) ↔ l = [] := by
 constructor
 ·intro h; exact List.eq_nil_of_length_eq_zero (by omega)
 ·intro h; subst h; rfl
theorem Rfp {l : List Exp} : ((l.length : Int) = 2) ↔ ∃ a b, l = [a, b] := by
 constructor
 ·intro h
  match l, h with
  | [a, b], _ => exact ⟨a, b, rfl⟩
  | [], h => simp at h
  | [_], h => simp at h
  | _ :: _ :: _ :: _, h => simp at h; omega
 ·rintro ⟨a, b, rfl⟩; rfl
theorem geti0 {α : Type} (a : α) (l : List α) : geti (a :: l) 0 = some a := by simp [geti]
theorem geti1 {α : Type} (a b : α) (l : List α) : geti (a :: b :: l) 1 = some b := by simp [geti]
theorem Rlp (d : Nat) (h : d ≤ 5) : wrap64 (((d + 1 : Nat) : Int) - 1) = (d : Int) := by rw [wrap_id (by omega) (by omega)]; omega
theorem Rds : ∀ (d : Nat) (e : Exp), d ≤ 5 → Ras e (d : Int) = some (Rs d e)
 | d, e, hd => by
  apply Rfv
  simp only [Rhn, Qb, Rv]
  by_cases h0 : e.op = 0
  ·cases d with
   | zero => by_cases h1 : 0 ≤ e.n <;> by_cases h2 : e.n ≤ 99999 <;> by_cases h3 : e.args = [] <;> simp [h0, h1, h2, h3, Rs, len0]
   | succ d => by_cases h1 : 0 ≤ e.n <;> by_cases h2 : e.n ≤ 99999 <;> by_cases h3 : e.args = [] <;> simp [h0, h1, h2, h3, Rs, len0] <;> omega
  ·by_cases h13 : e.op = 13
   ·cases d with
    | zero => by_cases h1 : 0 ≤ e.n <;> by_cases h2 : e.n < 4 <;> by_cases h3 : e.args = [] <;> simp [h13, h1, h2, h3, Rs, len0]
    | succ d => by_cases h1 : 0 ≤ e.n <;> by_cases h2 : e.n < 4 <;> by_cases h3 : e.args = [] <;> simp [h13, h1, h2, h3, Rs, len0] <;> omega
   ·by_cases h1 : 1 ≤ e.op ∧ e.op ≤ 12
    ·by_cases h2 : e.n = 0
     ·by_cases h3 : (e.args.length : Int) = 2
      ·obtain ⟨a, b, hab⟩ := Rfp.1 h3
       cases d with
       | zero => simp [h0, h13, h1, h2, h3, Rs]
       | succ d =>
        cases d with
        | zero => simp [h0, h13, h1, h2, h3, Rs, hab]
        | succ d =>
         have hd1 : (1 : Int) < (d : Int) + 1 + 1 := by omega
         rw [Rlp (d + 1) (by omega), hab, geti0, geti1]
         simp only [Qb, Rds (d + 1) _ (by omega)]
         have e1 : Rs (d + 1 + 1) e = (Rs (d + 1) a && Rs (d + 1) b) := by
          rw [Rs]; simp [h0, h13, h1, h2, hab]
         rw [e1]
         cases Rs (d + 1) a <;> simp [h0, h13, h1, h2, hd1]
      ·have hm : (match e.args with | [a, b] => (fun d => Rs d a && Rs d b) | _ => fun _ => false) = fun _ => false := by
        split
        ·rename_i a b hab; exact absurd (Rfp.2 ⟨a, b, hab⟩) h3
        ·rfl
       have e1 : Rs d e = false := by
        cases d with
        | zero => rfl
        | succ d =>
         rw [Rs]; simp only [h0, h13, if_false]
         split
         ·rename_i a b hab; exact absurd (Rfp.2 ⟨a, b, hab⟩) h3
         ·simp
       rw [e1]; simp [h0, h13, h1, h2, h3]
     ·have e1 : Rs d e = false := by cases d <;> simp [Rs, h0, h13, h2]
      rw [e1]; simp [h0, h13, h1, h2]
    ·have e1 : Rs d e = false := by cases d <;> simp [Rs, h0, h13, h1]
     rw [e1]; simp [h0, h13, h1]
theorem Rfr (e : Exp) : Rx e = some (Rs 5 e) := by
 apply Rfs
 rw [Rv, show (5 : Int) = ((5 : Nat) : Int) by rfl, Rds 5 e (by omega)]
 rfl
theorem Rgl : ∀ (d : Nat) (e : Exp), d ≤ 5 → Rep e (d : Int) = some (Rs d e)
 | 0, e, hd => by
  apply Rgm
  simp [Rs]
 | d + 1, e, hd => by
  apply Rgm
  have hd0 : ¬ (((d + 1 : Nat) : Int) < 1) := by omega
  simp only [Rdo, Rib, Qb, Rv, hd0, Zz, Zf, Rs]
  by_cases h0 : e.op = 0
  ·by_cases h1 : 0 ≤ e.n ∧ e.n ≤ 99999 <;> by_cases h3 : e.args = [] <;> simp [h0, h1, h3, len0]
  ·by_cases h13 : e.op = 13
   ·have e3 : (e.n < 4) = (e.n ≤ 3) := propext (by omega)
    by_cases h1 : 0 ≤ e.n ∧ e.n ≤ 3 <;> by_cases h3 : e.args = [] <;> simp [h13, h1, h3, len0, e3]
   ·by_cases h1 : 1 ≤ e.op ∧ e.op ≤ 12
    ·by_cases h2 : e.n = 0
     ·by_cases h3 : (e.args.length : Int) = 2
      ·obtain ⟨a, b, hab⟩ := Rfp.1 h3
       rw [Rlp d (by omega), hab, geti0, geti1]
       simp only [Qb, Rgl d _ (by omega)]
       cases Rs d a <;> simp [h0, h13, h1, h2]
      ·have e1 : (match e.args with | [a, b] => Rs d a && Rs d b | _ => false) = false := by
        split
        ·rename_i a b hab; exact absurd (Rfp.2 ⟨a, b, hab⟩) h3
        ·rfl
       rw [e1]; simp [h0, h13, h1, h2, h3]
     ·simp [h0, h13, h1, h2]
    ·simp [h0, h13, h1]
theorem Rdx (e : Exp) : Rk e = some (Rs 5 e) := by
 apply Rgg
 rw [Rv, show (5 : Int) = ((5 : Nat) : Int) by rfl, Rgl 5 e (by omega)]
 rfl
theorem w1 : wrap64 1 = 1 := by unfold wrap64; omega
theorem Rhj {α : Type} {x y : List α} (h : x.length + y.length ≤ 4294967296) : appL x y = some (x ++ y) := by unfold appL; rw [if_pos h]
theorem Rkx (o n : Int) : Rfc o n = some (o, n, .own false, []) := by apply Riz; rfl
theorem Rkw (o : Int) (a b : Exp) : Rfb o a b = some (o, 0, .full, [a, b]) := by apply Riw; simp [Rv]
mutual
def emX : Exp → Nat
 | ⟨_, _, as⟩ => emXs as
def emXs : List Exp → Nat
 | [] => 0
 | e :: r => 1 + emX e + emXs r
end
mutual
def mS : Stm → Nat
 | ⟨_, _, _, e, bd, el⟩ => emX e + mSs bd + mSs el
def mSs : List Stm → Nat
 | [] => 0
 | s :: r => 1 + mS s + mSs r
end
theorem Rar (e : Exp) : emX e = emXs e.args := by cases e; simp [emX]
theorem Rez (s : Stm) : mS s = emX s.e + mSs s.body + mSs s.els := by cases s; simp [mS]
theorem Rku {l : List Exp} {i : Nat} (hi : i < l.length) : emXs (l.drop i) = 1 + emX l[i] + emXs (l.drop (i + 1)) := by
 rw [List.drop_eq_getElem_cons hi]; simp only [emXs]
theorem Rll {l : List Stm} {i : Nat} (hi : i < l.length) : mSs (l.drop i) = 1 + mS l[i] + mSs (l.drop (i + 1)) := by
 rw [List.drop_eq_getElem_cons hi]; simp only [mSs]
theorem Rau : ∀ l : List Exp, l.length ≤ emXs l
 | [] => Nat.le_refl _
 | e :: r => by have := Rau r; simp only [emXs, Zc]; omega
theorem Ri : ∀ l : List Stm, l.length ≤ mSs l
 | [] => Nat.le_refl _
 | e :: r => by have := Ri r; simp only [mSs, Zc]; omega
theorem Reh : ∀ {l : List Exp} {e : Exp}, e ∈ l → emX e < emXs l
 | [], e, h => by cases h
 | a :: r, e, h => by
  simp only [emXs]
  rcases List.mem_cons.1 h with rfl | h
  ·omega
  ·have := Reh h; omega
theorem Rz : ∀ {l : List Stm} {e : Stm}, e ∈ l → mS e < mSs l
 | [], e, h => by cases h
 | a :: r, e, h => by
  simp only [mSs]
  rcases List.mem_cons.1 h with rfl | h
  ·omega
  ·have := Rz h; omega
def left (n : Int) (m : Nat) : Int := if (m : Int) ≤ n then n - m else -1
theorem Rlk {n : Int} {m : Nat} (h0 : 0 ≤ n) : left n m < 0 ↔ n < m := by unfold left; split <;> omega
theorem Req {n : Int} {m : Nat} (h : (m : Int) ≤ n) : left n m = n - m := by unfold left; rw [if_pos h]
theorem Rbz {n : Int} {m : Nat} (h : n < (m : Int)) : left n m = -1 := by unfold left; rw [if_neg (by omega)]
theorem Rjt {l : List Exp} (hl : (l.length : Int) ≤ 1048576) (hp : ∀ e ∈ l, ∀ n : Int, 0 ≤ n → n ≤ 1048576 → Rbs e n = some (left n (emX e))) :
  ∀ (d i : Nat) (n : Int), i + d = l.length → 0 ≤ n → n ≤ 1048576 → ∃ k, Rbf l n i = some (if (emXs (l.drop i) : Int) ≤ n + (l.length - i : Int) then .inl (n + (l.length - i : Int) - emXs (l.drop i)) else .inr (k, -1))
 | 0, i, n, hd, h0, h1 => by
  refine ⟨0, ?_⟩
  apply Rbg
  have hi : ¬ ((i : Int) < l.length) := by omega
  rw [List.drop_eq_nil_of_le (by omega), if_pos (by simp [emXs]; omega)]
  simp [hi, emXs]; omega
 | d + 1, i, n, hd, h0, h1 => by
  have hi : i < l.length := by omega
  have hi' : (i : Int) < l.length := by omega
  have hp' := hp _ (List.getElem_mem hi) n h0 h1
  rw [Rku hi]
  by_cases hc : (emX l[i] : Int) ≤ n
  ·obtain ⟨k, hk⟩ := Rjt hl hp d (i + 1) (n - emX l[i]) (by omega) (by omega) (by omega)
   refine ⟨k, ?_⟩
   apply Rbg
   rw [Rc hi, Re (by omega)]
   simp only [hi', Zy, Zt, Qb, Rv, hp', Req hc, hk]
   have hn : ¬ (n - (emX l[i] : Int) < 0) := by omega
   simp only [hn, Zz, Zf]
   by_cases hq : ((emXs (l.drop (i + 1)) : Nat) : Int) ≤ n - (emX l[i] : Int) + ((l.length : Int) - ((i + 1 : Nat) : Int))
   ·rw [if_pos hq, if_pos (by omega)]; congr 2; omega
   ·rw [if_neg hq, if_neg (by omega)]
  ·refine ⟨-1, ?_⟩
   apply Rbg
   rw [Rc hi]
   simp only [hi', Zy, Zt, Qb, Rv, hp', Rbz (show n < (emX l[i] : Int) by omega)]
   have := Rau (l.drop (i + 1))
   rw [List.length_drop] at this
   rw [if_neg (by omega)]
   simp
theorem Rht {l : List Exp} (hl : (l.length : Int) ≤ 9223372036854775807) (hp : ∀ e ∈ l, ∀ n : Int, 0 ≤ n → n ≤ 1048576 → Rbs e n = some (left n (emX e))) {n : Int} (h0 : 0 ≤ n) (h1 : n ≤ 1048576) : Rel l n = some (left n (emXs l)) := by
 apply Rhu
 rw [wrap_id (by omega) (by omega)]
 have hlen := Rau l
 by_cases hc : n - (l.length : Int) < 0
 ·simp only [hc, Zy, Zt]; rw [Rbz (by omega)]
 ·simp only [hc, Zz, Zf]
  obtain ⟨k, hk⟩ := Rjt (by omega) hp l.length 0 (n - l.length) (by omega) (by omega) (by omega)
  rw [show (0 : Int) = ((0 : Nat) : Int) by rfl, hk]
  simp only [List.drop_zero, Qb, left]
  by_cases hq : (emXs l : Int) ≤ n
  ·rw [if_pos (by omega), if_pos hq]; simp only [selm]; congr 1; omega
  ·rw [if_neg (by omega), if_neg hq]; simp only [selm]
theorem Rim : ∀ (e : Exp), wfX e → ∀ n : Int, 0 ≤ n → n ≤ 1048576 → Rbs e n = some (left n (emX e)) := by
 apply Exp.ind
 intro e ih hw n h0 h1
 apply Rin
 have h2 := wfX_mk hw
 rw [Rht h2.2.2.1 (fun a ha => ih a ha (Qsn.1 h2.2.2.2 a ha)) h0 h1, Qb, Rar]
 by_cases hq : (emXs e.args : Int) ≤ n
 ·rw [Req hq]
  have : ¬ (n - (emXs e.args : Int) < 0) := by omega
  simp only [this, Zz, Zf]
 ·rw [Rbz (by omega)]; simp
theorem Rju {l : List Stm} (hl : (l.length : Int) ≤ 1048576) (hp : ∀ e ∈ l, ∀ n : Int, 0 ≤ n → n ≤ 1048576 → Rcy e n = some (left n (mS e))) :
  ∀ (d i : Nat) (n : Int), i + d = l.length → 0 ≤ n → n ≤ 1048576 → ∃ k, Rbh l n i = some (if (mSs (l.drop i) : Int) ≤ n + (l.length - i : Int) then .inl (n + (l.length - i : Int) - mSs (l.drop i)) else .inr (k, -1))
 | 0, i, n, hd, h0, h1 => by
  refine ⟨0, ?_⟩
  apply Rbi
  have hi : ¬ ((i : Int) < l.length) := by omega
  rw [List.drop_eq_nil_of_le (by omega), if_pos (by simp [mSs]; omega)]
  simp [hi, mSs]; omega
 | d + 1, i, n, hd, h0, h1 => by
  have hi : i < l.length := by omega
  have hi' : (i : Int) < l.length := by omega
  have hp' := hp _ (List.getElem_mem hi) n h0 h1
  rw [Rll hi]
  by_cases hc : (mS l[i] : Int) ≤ n
  ·obtain ⟨k, hk⟩ := Rju hl hp d (i + 1) (n - mS l[i]) (by omega) (by omega) (by omega)
   refine ⟨k, ?_⟩
   apply Rbi
   rw [Rc hi, Re (by omega)]
   simp only [hi', Zy, Zt, Qb, Ray, hp', Req hc, hk]
   have hn : ¬ (n - (mS l[i] : Int) < 0) := by omega
   simp only [hn, Zz, Zf]
   by_cases hq : ((mSs (l.drop (i + 1)) : Nat) : Int) ≤ n - (mS l[i] : Int) + ((l.length : Int) - ((i + 1 : Nat) : Int))
   ·rw [if_pos hq, if_pos (by omega)]; congr 2; omega
   ·rw [if_neg hq, if_neg (by omega)]
  ·refine ⟨-1, ?_⟩
   apply Rbi
   rw [Rc hi]
   simp only [hi', Zy, Zt, Qb, Ray, hp', Rbz (show n < (mS l[i] : Int) by omega)]
   have := Ri (l.drop (i + 1))
   rw [List.length_drop] at this
   rw [if_neg (by omega)]
   simp
theorem Rcz {l : List Stm} (hl : (l.length : Int) ≤ 9223372036854775807) (hp : ∀ e ∈ l, ∀ n : Int, 0 ≤ n → n ≤ 1048576 → Rcy e n = some (left n (mS e))) {n : Int} (h0 : 0 ≤ n) (h1 : n ≤ 1048576) : Rcd l n = some (left n (mSs l)) := by
 apply Rhv
 rw [wrap_id (by omega) (by omega)]
 have hlen := Ri l
 by_cases hc : n - (l.length : Int) < 0
 ·simp only [hc, Zy, Zt]; rw [Rbz (by omega)]
 ·simp only [hc, Zz, Zf]
  obtain ⟨k, hk⟩ := Rju (by omega) hp l.length 0 (n - l.length) (by omega) (by omega) (by omega)
  rw [show (0 : Int) = ((0 : Nat) : Int) by rfl, hk]
  simp only [List.drop_zero, Qb, left]
  by_cases hq : (mSs l : Int) ≤ n
  ·rw [if_pos (by omega), if_pos hq]; simp only [selm]; congr 1; omega
  ·rw [if_neg (by omega), if_neg hq]; simp only [selm]
theorem Rjp {n : Int} {a b : Nat} (h : (a : Int) ≤ n) : left (n - a) b = left n (a + b) := by
 unfold left
 by_cases hb : (b : Int) ≤ n - a
 ·rw [if_pos hb, if_pos (by omega)]; omega
 ·rw [if_neg hb, if_neg (by omega)]
theorem Rio : ∀ (e : Stm), wfS e → ∀ n : Int, 0 ≤ n → n ≤ 1048576 → Rcy e n = some (left n (mS e)) := by
 apply Stm.ind
 intro e ih1 ih2 hw n h0 h1
 apply Rip
 obtain ⟨_, _, _, w1, w2, w3, w4, w5⟩ := wfS_mk hw
 rw [Rez, Rv, Rim e.e w1 n h0 h1, Qb]
 by_cases c1 : (emX e.e : Int) ≤ n
 ·rw [Req c1]
  have g1 : ¬ (n - (emX e.e : Int) < 0) := by omega
  simp only [g1, Zz, Zf]
  rw [Rcz w2 (fun a ha => ih1 a ha (Qoi.1 w3 a ha)) (by omega) (by omega), Qb, Rjp c1]
  by_cases c2 : ((emX e.e + mSs e.body : Nat) : Int) ≤ n
  ·rw [Req c2]
   have g2 : ¬ (n - ((emX e.e + mSs e.body : Nat) : Int) < 0) := by omega
   simp only [g2, Zz, Zf]
   rw [Rcz w4 (fun a ha => ih2 a ha (Qoi.1 w5 a ha)) (by omega) (by omega), Qb, Rjp c2]
   by_cases c3 : ((emX e.e + mSs e.body + mSs e.els : Nat) : Int) ≤ n
   ·rw [Req c3]
    have g3 : ¬ (n - ((emX e.e + mSs e.body + mSs e.els : Nat) : Int) < 0) := by omega
    simp only [g3, Zz, Zf]
   ·rw [Rbz (by omega)]; simp
  ·rw [Rbz (show n < ((emX e.e + mSs e.body : Nat) : Int) by omega), Rbz (by omega)]; simp
 ·rw [Rbz (show n < (emX e.e : Int) by omega), Rbz (by omega)]; simp
theorem Rjv {a : List Exp} (hl : (a.length : Int) ≤ 4294967296) (hp : ∀ e ∈ a, Rbt e = some e) : ∀ (d i : Nat) (b : List Exp), i + d = a.length → b.length = a.length → b.take i = a.take i → Rbj a i b = some a
 | 0, i, b, hd, hb, ht => by
  apply Rdl
  have hi : ¬ ((i : Int) < a.length) := by omega
  have : b = a := by rw [List.take_of_length_le (by omega), List.take_of_length_le (by omega)] at ht; exact ht
  simp [hi, this]
 | d + 1, i, b, hd, hb, ht => by
  apply Rdl
  have hi : i < a.length := by omega
  have hi' : (i : Int) < a.length := by omega
  rw [Rc hi, Rc (l := b) (by omega), Re (by omega)]
  simp only [hi', Zy, Zt, Qb, Rv, hp _ (List.getElem_mem hi), Int.toNat_natCast, List.getElem?_eq_getElem (show i < b.length by omega)]
  exact Rjv hl hp d (i + 1) _ (by omega) (by simpa using hb) (Qvg hb hi ht)
theorem Rhw {a : List Exp} (hl : (a.length : Int) ≤ 4294967296) (hp : ∀ e ∈ a, Rbt e = some e) : Rem a = some a := by
 apply Rhx
 rw [Rjq hl, Qb, show (0 : Int) = ((0 : Nat) : Int) by rfl, Rjv hl hp a.length 0 _ (by omega) (by simp) (by simp)]
 rfl
theorem Riq : ∀ e : Exp, emX e ≤ 4294967296 → Rbt e = some e := by
 apply Exp.ind
 intro e ih hm
 apply Rir
 rw [Rar] at hm
 have := Rau e.args
 rw [Rhw (by omega) (fun a ha => ih a ha (by have := Reh ha; omega)), Qb, Rv]
theorem Rjw {a : List Stm} (hl : (a.length : Int) ≤ 4294967296) (hp : ∀ e ∈ a, Rda e = some e) : ∀ (d i : Nat) (b : List Stm), i + d = a.length → b.length = a.length → b.take i = a.take i → Rbk a i b = some a
 | 0, i, b, hd, hb, ht => by
  apply Rdm
  have hi : ¬ ((i : Int) < a.length) := by omega
  have : b = a := by rw [List.take_of_length_le (by omega), List.take_of_length_le (by omega)] at ht; exact ht
  simp [hi, this]
 | d + 1, i, b, hd, hb, ht => by
  apply Rdm
  have hi : i < a.length := by omega
  have hi' : (i : Int) < a.length := by omega
  rw [Rc hi, Rc (l := b) (by omega), Re (by omega)]
  simp only [hi', Zy, Zt, Qb, Ray, hp _ (List.getElem_mem hi), Int.toNat_natCast, List.getElem?_eq_getElem (show i < b.length by omega)]
  exact Rjw hl hp d (i + 1) _ (by omega) (by simpa using hb) (Qvg hb hi ht)
theorem Rce {a : List Stm} (hl : (a.length : Int) ≤ 4294967296) (hp : ∀ e ∈ a, Rda e = some e) : Raa a = some a := by
 apply Rhy
 rw [Rjq hl, Qb, show (0 : Int) = ((0 : Nat) : Int) by rfl, Rjw hl hp a.length 0 _ (by omega) (by simp) (by simp)]
 rfl
theorem Ris : ∀ e : Stm, mS e ≤ 4294967296 → Rda e = some e := by
 apply Stm.ind
 intro e ih1 ih2 hm
 apply Rit
 rw [Rez] at hm
 have l1 := Ri e.body
 have l2 := Ri e.els
 rw [Rv, Riq e.e (by omega), Qb, Rce (by omega) (fun a ha => ih1 a ha (by have := Rz ha; omega)), Qb,
  Rce (by omega) (fun a ha => ih2 a ha (by have := Rz ha; omega)), Qb, Ray]
theorem Rdb {a : List Stm} (h : mSs a ≤ 4294967296) : Raa a = some a :=
 Rce (by have := Ri a; omega) fun e he => Ris e (by have := Rz he; omega)
theorem Rjk {a : List Exp} (hl : (a.length : Int) ≤ 4294967296) (hp : ∀ e ∈ a, Rbq e e = some true) : ∀ (d i : Nat), i + d = a.length → Rbb a a i = some (.inl ())
 | 0, i, hd => by
  apply Rdj
  have hi : ¬ ((i : Int) < a.length) := by omega
  simp [hi]
 | d + 1, i, hd => by
  apply Rdj
  have hi : i < a.length := by omega
  have hi' : (i : Int) < a.length := by omega
  rw [Rc hi, Re (by omega)]
  simp only [hi', Zy, Zt, Qb, Rv, hp _ (List.getElem_mem hi), Zv, Zf]
  exact Rjk hl hp d (i + 1) (by omega)
theorem Rfz {a : List Exp} (hl : (a.length : Int) ≤ 4294967296) (hp : ∀ e ∈ a, Rbq e e = some true) : Rek a a = some true := by
 apply Rhr
 rw [show (0 : Int) = ((0 : Nat) : Int) by rfl, Rjk hl hp a.length 0 (by omega)]
 simp [selm]
theorem Rgq : ∀ e : Exp, emX e ≤ 4294967296 → Rbq e e = some true := by
 apply Exp.ind
 intro e ih hm
 apply Rii
 rw [Rar] at hm
 have := Rau e.args
 rw [Rfz (by omega) (fun a ha => ih a ha (by have := Reh ha; omega))]
 simp
theorem Rjl {a : List Stm} (hl : (a.length : Int) ≤ 4294967296) (hp : ∀ e ∈ a, Rcs e e = some true) : ∀ (d i : Nat), i + d = a.length → Rbc a a i = some (.inl ())
 | 0, i, hd => by
  apply Rdk
  have hi : ¬ ((i : Int) < a.length) := by omega
  simp [hi]
 | d + 1, i, hd => by
  apply Rdk
  have hi : i < a.length := by omega
  have hi' : (i : Int) < a.length := by omega
  rw [Rc hi, Re (by omega)]
  simp only [hi', Zy, Zt, Qb, Ray, hp _ (List.getElem_mem hi), Zv, Zf]
  exact Rjl hl hp d (i + 1) (by omega)
theorem Rbd {a : List Stm} (hl : (a.length : Int) ≤ 4294967296) (hp : ∀ e ∈ a, Rcs e e = some true) : Ral a a = some true := by
 apply Rhs
 rw [show (0 : Int) = ((0 : Nat) : Int) by rfl, Rjl hl hp a.length 0 (by omega)]
 simp [selm]
theorem Rgs : ∀ e : Stm, mS e ≤ 4294967296 → Rcs e e = some true := by
 apply Stm.ind
 intro e ih1 ih2 hm
 apply Rik
 rw [Rez] at hm
 have l1 := Ri e.body
 have l2 := Ri e.els
 rw [Rv, Rgq e.e (by omega), Rbd (by omega) (fun a ha => ih1 a ha (by have := Rz ha; omega)),
  Rbd (by omega) (fun a ha => ih2 a ha (by have := Rz ha; omega))]
 simp
theorem Rdu {a : List Stm} (h : mSs a ≤ 4294967296) : Ral a a = some true :=
 Rbd (by have := Ri a; omega) fun e he => Rgs e (by have := Rz he; omega)
theorem Rkn {a : List Int} (hl : (a.length : Int) ≤ 4294967296) : ∀ (d i : Nat), i + d = a.length → Rbx a a i = some (.inl ())
 | 0, i, hd => by
  apply Rdt
  have hi : ¬ ((i : Int) < a.length) := by omega
  simp [hi]
 | d + 1, i, hd => by
  apply Rdt
  have hi : i < a.length := by omega
  have hi' : (i : Int) < a.length := by omega
  rw [Rc hi, Re (by omega)]
  simp only [hi', Zy, Zt, Qb, Zv, Zf]
  exact Rkn hl d (i + 1) (by omega)
theorem Rgr {a : List Int} (hl : (a.length : Int) ≤ 4294967296) : Rex a a = some true := by
 apply Rij
 rw [show (0 : Int) = ((0 : Nat) : Int) by rfl, Rkn hl a.length 0 (by omega)]
 simp [selm]
theorem Rgt {t : Tk} (h : t.vars.length + mSs t.rest ≤ 4294967296) : Rbr t t = some true := by
 apply Ril
 rw [Rgr (by omega), Rdu (by omega)]
 simp
mutual
def cS : Stm → Nat
 | ⟨_, _, _, _, bd, el⟩ => 1 + cSs bd + cSs el
def cSs : List Stm → Nat
 | [] => 0
 | s :: r => cS s + cSs r
end
theorem Rli (s : Stm) : cS s = 1 + cSs s.body + cSs s.els := by cases s; simp [cS]
theorem Rkk {l : List Stm} {i : Nat} (hi : i < l.length) : cSs (l.drop i) = cS l[i] + cSs (l.drop (i + 1)) := by
 rw [List.drop_eq_getElem_cons hi]; simp only [cSs]
theorem Rjf : ∀ l : List Stm, l.length ≤ cSs l
 | [] => Nat.le_refl _
 | e :: r => by have := Rjf r; have := Rli e; simp only [cSs, Zc]; omega
mutual
theorem cS_le : ∀ s : Stm, cS s ≤ 1 + mS s
 | ⟨_, _, _, e, bd, el⟩ => by have := Rkl bd; have := Rkl el; simp only [cS, mS]; omega
theorem Rkl : ∀ l : List Stm, cSs l ≤ mSs l
 | [] => Nat.le_refl _
 | s :: r => by have := cS_le s; have := Rkl r; simp only [cSs, mSs]; omega
end
theorem Rkj : ∀ {l : List Stm} {e : Stm}, e ∈ l → cS e ≤ cSs l
 | [], e, h => by cases h
 | a :: r, e, h => by
  simp only [cSs]
  rcases List.mem_cons.1 h with rfl | h
  ·omega
  ·have := Rkj h; omega
theorem Rkm {l : List Stm} (hp : ∀ s ∈ l, Rh s.body = some (cSs s.body : Int) ∧ Rh s.els = some (cSs s.els : Int)) (hb : cSs l ≤ 4294967296) :
  ∀ (d i : Nat) (k : Int), i + d = l.length → 0 ≤ k → k + cSs (l.drop i) ≤ 4294967296 → Raw l k i = some (k + cSs (l.drop i))
 | 0, i, k, hd, h0, h1 => by
  apply Rde
  have hi : ¬ ((i : Int) < l.length) := by omega
  rw [List.drop_eq_nil_of_le (by omega)]
  simp [hi, cSs]
 | d + 1, i, k, hd, h0, h1 => by
  apply Rde
  have hi : i < l.length := by omega
  have hi' : (i : Int) < l.length := by omega
  obtain ⟨p1, p2⟩ := hp _ (List.getElem_mem hi)
  have hlen := Rjf l
  have hc := Rkk hi
  have hs := Rli l[i]
  rw [Rc hi, Re (by omega)]
  simp only [hi', Zy, Zt, Qb, p1, p2]
  rw [wrap_id (n := k + 1) (by omega) (by omega), wrap_id (n := k + 1 + (cSs l[i].body : Int)) (by omega) (by omega), wrap_id (by omega) (by omega),
   Rkm hp hb d (i + 1) _ (by omega) (by omega) (by omega)]
  congr 1; omega
theorem Rbw {l : List Stm} (hp : ∀ s ∈ l, Rh s.body = some (cSs s.body : Int) ∧ Rh s.els = some (cSs s.els : Int)) (hb : cSs l ≤ 4294967296) : Rh l = some (cSs l : Int) := by
 apply Rhe
 have := Rkm hp hb l.length 0 0 (by omega) (by omega) (by simp; omega)
 rw [show ((0 : Nat) : Int) = 0 by rfl] at this
 rw [this]; simp
theorem Rkb : ∀ s : Stm, cS s ≤ 4294967296 → Rh s.body = some (cSs s.body : Int) ∧ Rh s.els = some (cSs s.els : Int) := by
 apply Stm.ind
 intro s ih1 ih2 hb
 rw [Rli] at hb
 exact ⟨Rbw (fun a ha => ih1 a ha (by have := Rkj ha; omega)) (by omega), Rbw (fun a ha => ih2 a ha (by have := Rkj ha; omega)) (by omega)⟩
theorem Rhd {l : List Stm} (hb : cSs l ≤ 4294967296) : Rh l = some (cSs l : Int) :=
 Rbw (fun s hs => Rkb s (by have := Rkj hs; omega)) hb
def hdr (s : Stm) : Prop :=
 (s.kind = 1 ∧ (0 ≤ s.var ∧ s.var < 4) ∧ s.box = 0 ∧ Rs 5 s.e = true ∧ (s.body.length : Int) = 0 ∧ (s.els.length : Int) = 0) ∨
 (s.kind = 2 ∧ s.var = 0 ∧ s.box = 0 ∧ Rs 5 s.e = true) ∨
 (s.kind = 3 ∧ s.var = 0 ∧ s.box = 0 ∧ Rs 5 s.e = true ∧ (s.els.length : Int) = 0) ∨
 (s.kind = 4 ∧ s.var = 0 ∧ (0 ≤ s.box ∧ s.box < 3) ∧ Rs 5 s.e = true ∧ (s.body.length : Int) = 0 ∧ (s.els.length : Int) = 0) ∨
 (s.kind = 5 ∧ (0 ≤ s.var ∧ s.var < 4) ∧ (0 ≤ s.box ∧ s.box < 3) ∧ (s.e.op = 0 ∧ s.e.n = 0 ∧ (s.e.args.length : Int) = 0) ∧ (s.body.length : Int) = 0 ∧ (s.els.length : Int) = 0) ∨
 (s.kind = 6 ∧ s.var = 0 ∧ s.box = 0 ∧ (s.e.op = 0 ∧ s.e.n = 0 ∧ (s.e.args.length : Int) = 0) ∧ (s.body.length : Int) = 0 ∧ (s.els.length : Int) = 0) ∨
 (s.kind = 7 ∧ s.var = 0 ∧ s.box = 0 ∧ Rs 5 s.e = true ∧ (s.body.length : Int) = 0 ∧ (s.els.length : Int) = 0)
instance (s : Stm) : Decidable (hdr s) := by unfold hdr; infer_instance
def sOk : Nat → Stm → Bool
 | 0, s => decide (hdr s) && !decide (s.kind = 2 ∨ s.kind = 3)
 | d + 1, s => decide (hdr s) && (if s.kind = 2 ∨ s.kind = 3 then s.body.all (sOk d) && s.els.all (sOk d) else true)
theorem Rcq (x n : Int) (b : Bool) (hn : 1 ≤ n) : Ra x n b = some (decide (if b then 0 ≤ x ∧ x < n else x = 0)) := by
 apply Reu
 cases b
 ·by_cases h : x = 0 <;> simp [h]
 ·by_cases h : x = 0
  ·simp [h]; omega
  ·by_cases h2 : 0 < x
   ·simp [h, h2]; omega
   ·simp [h, h2]; omega
theorem Rn (s : Stm) : Rdq s 3 = some (decide (hdr s)) := by
 apply Rfw
 simp only [Rcq _ 4 _ (by omega), Rcq _ 3 _ (by omega), Rfr, Rv, Qb, cond_some]
 apply some_dec
 obtain ⟨k, v, b, e, bd, el⟩ := s
 have a1 : (0 : Int) ≤ bd.length := by omega
 have a2 : (0 : Int) ≤ el.length := by omega
 have a3 : (0 : Int) ≤ e.args.length := by omega
 simp only [hdr, cond_iff, Ze, if_true, Bool.false_eq_true, if_false, Bool.not_eq_true', decide_eq_false_iff_not]
 generalize (bd.length : Int) = n1 at a1
 generalize (el.length : Int) = n2 at a2
 generalize (e.args.length : Int) = n3 at a3
 cases hv : Rs 5 e
 all_goals
  by_cases h1 : k = 1
  ·subst h1; simp; try omega
  by_cases h2 : k = 2
  ·subst h2; simp; try omega
  by_cases h3 : k = 3
  ·subst h3; simp; try omega
  by_cases h4 : k = 4
  ·subst h4; simp; try omega
  by_cases h5 : k = 5
  ·subst h5; simp; try omega
  by_cases h7 : k = 7
  ·subst h7; simp; try omega
  by_cases h6 : k = 6
  ·subst h6; simp; try omega
  simp [h1, h2, h3, h4, h5, h6, h7]
theorem Ret (s : Stm) (b : Bool) : Rr s b = some (decide (if b then 0 ≤ s.var ∧ s.var < 4 else s.var = 0)) := by
 apply Riv
 simp only [Rdo, Qb, cond_some]
 apply some_dec
 cases b <;> simp; omega
theorem Res (s : Stm) (b : Bool) : Rq s b = some (decide (if b then 0 ≤ s.box ∧ s.box < 3 else s.box = 0)) := by
 apply Riu
 simp only [Rdo, Qb, cond_some]
 apply some_dec
 cases b <;> simp; omega
theorem Rhf (e : Exp) : Rcn e = some (decide (e.op = 0 ∧ e.n = 0 ∧ (e.args.length : Int) = 0)) := by
 apply Rhg
 simp only [cond_some]
 apply some_dec
 simp only [cond_iff, Ze, Bool.false_eq_true]
 by_cases h : e.op = 0 <;> by_cases h2 : e.n = 0 <;> simp [h, h2]
theorem Rdz (s : Stm) (n2 : s.kind ≠ 2) (n3 : s.kind ≠ 3) : Rca s = some (decide (hdr s)) := by
 apply Rgj
 simp only [Ray, Rv, Ret, Res, Rhf, Rdx, Qb, cond_some]
 apply some_dec
 obtain ⟨k, v, b, e, bd, el⟩ := s
 have a1 : (0 : Int) ≤ bd.length := by omega
 have a2 : (0 : Int) ≤ el.length := by omega
 have a3 : (0 : Int) ≤ e.args.length := by omega
 simp only [hdr, cond_iff, Ze, if_true, Bool.false_eq_true, if_false, Bool.not_eq_true', decide_eq_false_iff_not]
 generalize (bd.length : Int) = n1 at a1
 generalize (el.length : Int) = n2' at a2
 generalize (e.args.length : Int) = n3' at a3
 simp only [] at n2 n3
 cases hv : Rs 5 e
 all_goals
  by_cases h1 : k = 1
  ·subst h1; simp; try omega
  by_cases h4 : k = 4
  ·subst h4; simp; try omega
  by_cases h5 : k = 5
  ·subst h5; simp; try omega
  by_cases h7 : k = 7
  ·subst h7; simp; try omega
  by_cases h6 : k = 6
  ·subst h6; simp; try omega
  simp [h1, n2, n3, h4, h5, h6, h7]
theorem hdr2 {s : Stm} (h : s.kind = 2) : hdr s ↔ s.var = 0 ∧ s.box = 0 ∧ Rs 5 s.e = true := by simp [hdr, h]
theorem hdr3 {s : Stm} (h : s.kind = 3) : hdr s ↔ s.var = 0 ∧ s.box = 0 ∧ Rs 5 s.e = true ∧ (s.els.length : Int) = 0 := by simp [hdr, h]
theorem Rko {α : Type} {P Q : Prop} [Decidable P] [Decidable Q] {a b c : α} (h : P ↔ Q) (ha : a = b) : (if P then a else c) = if Q then b else c := by
 subst ha
 by_cases hp : P
 ·rw [if_pos hp, if_pos (h.1 hp)]
 ·rw [if_neg hp, if_neg fun x => hp (h.2 x)]
theorem Rki {l : List Stm} {n : Int} {f : Stm → Bool} (hl : (l.length : Int) ≤ 4294967296) (hp : ∀ s ∈ l, Rdy s n = some (f s)) :
  ∀ (d i : Nat), i + d = l.length → Raq l n i = some (if (l.drop i).all f then .inl () else .inr false)
 | 0, i, hd => by
  apply Rck
  have hi : ¬ ((i : Int) < l.length) := by omega
  rw [List.drop_eq_nil_of_le (by omega)]
  simp [hi]
 | d + 1, i, hd => by
  apply Rck
  have hi : i < l.length := by omega
  have hi' : (i : Int) < l.length := by omega
  rw [Rc hi, Re (by omega), Rki hl hp d (i + 1) (by omega)]
  have e1 : (l.drop i).all f = (f l[i] && (l.drop (i + 1)).all f) := by rw [List.drop_eq_getElem_cons hi, List.all_cons]
  rw [e1]
  simp only [hi', Zy, Zt, Qb, Ray, hp _ (List.getElem_mem hi)]
  cases f l[i] <;> simp
theorem Rbl {l : List Stm} {n : Int} {f : Stm → Bool} (hl : (l.length : Int) ≤ 4294967296) (hp : ∀ s ∈ l, Rdy s n = some (f s)) : Rb l n = some (l.all f) := by
 apply Rgi
 rw [show (0 : Int) = ((0 : Nat) : Int) by rfl, Rki hl hp l.length 0 (by omega), List.drop_zero]
 cases l.all f <;> simp [selm]
theorem Rec : ∀ (d : Nat) (s : Stm), d ≤ 3 → mS s ≤ 4294967296 → Rdy s (d : Int) = some (sOk d s)
 | 0, s, hd, hm => by
  apply Rfo
  by_cases h2 : s.kind = 2
  ·simp [h2, sOk]
  ·by_cases h3 : s.kind = 3
   ·simp [h3, sOk]
   ·simp [h2, h3, sOk, Ray, Rdz s h2 h3]
 | d + 1, s, hd, hm => by
  apply Rfo
  have hm' := Rez s
  have l1 := Ri s.body
  have l2 := Ri s.els
  have hd0 : ¬ (((d + 1 : Nat) : Int) < 1) := by omega
  have b1 : Rb s.body (d : Int) = some (s.body.all (sOk d)) := Rbl (by omega) fun a ha => Rec d a (by omega) (by have := Rz ha; omega)
  have b2 : Rb s.els (d : Int) = some (s.els.all (sOk d)) := Rbl (by omega) fun a ha => Rec d a (by omega) (by have := Rz ha; omega)
  rw [show wrap64 (((d + 1 : Nat) : Int) - 1) = (d : Int) by rw [wrap_id (by omega) (by omega)]; omega]
  simp only [Ray, Rv, Ret, Res, Rdx, b1, b2, Qb, hd0, Zz, Zf]
  by_cases h2 : s.kind = 2
  ·have h3 : s.kind ≠ 3 := by omega
   have hh : decide (hdr s) = (decide (s.var = 0) && decide (s.box = 0) && Rs 5 s.e) := by
    rw [Bool.eq_iff_iff]; simp [hdr2 h2, and_assoc]
   simp only [sOk, hh, h2, true_or, if_true]
   by_cases v : s.var = 0 <;> by_cases b : s.box = 0 <;> cases Rs 5 s.e <;> cases s.body.all (sOk d) <;> simp [v, b]
  ·by_cases h3 : s.kind = 3
   ·by_cases he : (s.els.length : Int) = 0
    ·have hh : decide (hdr s) = (decide (s.var = 0) && decide (s.box = 0) && Rs 5 s.e) := by
      rw [Bool.eq_iff_iff]; simp [hdr3 h3, and_assoc, he]
     simp only [sOk, hh, h3, or_true, if_true]
     by_cases v : s.var = 0 <;> by_cases b : s.box = 0 <;> cases Rs 5 s.e <;> cases s.body.all (sOk d) <;> simp [v, b, he]
    ·have hh : decide (hdr s) = false := by
      simp [hdr3 h3]; intro _ _ _ h; exact absurd (by rw [h]; rfl) he
     have hpos : 0 < (s.els.length : Int) := by omega
     simp only [sOk, hh, h3, or_true, if_true, hpos]
     simp
   ·have hh := Rdz s h2 h3
    simp only [sOk, h2, h3, or_false, if_false]
    simp [h2, h3]
    show bnd (Rca s) _ = _
    rw [hh]; rfl
theorem Rgh {d : Nat} {l : List Stm} (hd : d ≤ 3) (hm : mSs l ≤ 4294967296) : Rb l (d : Int) = some (l.all (sOk d)) :=
 Rbl (by have := Ri l; omega) fun s hs => Rec d s hd (by have := Rz hs; omega)
theorem Rka {l : List Stm} {d0 : Nat} (hl : (l.length : Int) ≤ 4294967296) (hd0 : d0 ≤ 3)
  (hp : ∀ d, d0 = d + 1 → ∀ (bl : List Stm) (n : Int), (∃ s ∈ l, bl = s.body ∨ bl = s.els) → 0 ≤ n → n ≤ 16 → ∃ c, Rl bl 3 (3 - (d : Int)) n = some (decide (bl.all (sOk d) = true ∧ n + cSs bl ≤ 16), c) ∧ (bl.all (sOk d) = true → n + cSs bl ≤ 16 → c = n + cSs bl)) :
  ∀ (d i : Nat) (n : Int), i + d = l.length → 0 ≤ n → n ≤ 16 → ∃ c, Rm l 3 (3 - (d0 : Int)) l.length i n = some (if (l.drop i).all (sOk d0) = true ∧ n + (cSs (l.drop i) - (l.length - i : Int)) ≤ 16 then .inl (n + (cSs (l.drop i) - (l.length - i : Int))) else .inr (false, c))
 | 0, i, n, hd, h0, h1 => by
  refine ⟨0, ?_⟩
  apply Rf
  have hi : ¬ ((i : Int) < l.length) := by omega
  rw [List.drop_eq_nil_of_le (by omega), if_pos ⟨by simp, by simp [cSs]; omega⟩]
  simp [hi, cSs]; omega
 | d + 1, i, n, hd, h0, h1 => by
  have hi : i < l.length := by omega
  have hi' : (i : Int) < l.length := by omega
  have e1 : (l.drop i).all (sOk d0) = (sOk d0 l[i] && (l.drop (i + 1)).all (sOk d0)) := by rw [List.drop_eq_getElem_cons hi, List.all_cons]
  have e2 := Rkk hi
  have e3 := Rli l[i]
  have e4 := Rjf (l.drop (i + 1))
  rw [List.length_drop] at e4
  have hn3 : ¬ ((3 : Int) < 3 - (d0 : Int)) := by omega
  by_cases hh : hdr l[i]
  ·by_cases hk : l[i].kind = 2 ∨ l[i].kind = 3
   ·cases d0 with
    | zero =>
     have s0 : sOk 0 l[i] = false := by simp [sOk, hk]
     refine ⟨n, ?_⟩
     apply Rf
     rw [Rc hi, e1, s0]
     simp only [hi', Zy, Zt, Qb, Ray, Rn, hh, Zv, Zf]
     rcases hk with hk | hk <;> simp [hk]
    | succ d1 =>
     have hn4 : ¬ ((3 : Int) ≤ 3 - ((d1 + 1 : Nat) : Int)) := by omega
     have hw : wrap64 (3 - ((d1 + 1 : Nat) : Int) + 1) = 3 - (d1 : Int) := by rw [wrap_id (by omega) (by omega)]; omega
     have s1 : sOk (d1 + 1) l[i] = (l[i].body.all (sOk d1) && l[i].els.all (sOk d1)) := by simp [sOk, hh, hk]
     obtain ⟨c1, k1, k2⟩ := hp d1 rfl l[i].body n ⟨l[i], List.getElem_mem hi, .inl rfl⟩ h0 h1
     by_cases g1 : l[i].body.all (sOk d1) = true ∧ n + cSs l[i].body ≤ 16
     ·have hc1 := k2 g1.1 g1.2
      obtain ⟨c2, m1, m2⟩ := hp d1 rfl l[i].els (n + cSs l[i].body) ⟨l[i], List.getElem_mem hi, .inr rfl⟩ (by omega) g1.2
      by_cases g2 : l[i].els.all (sOk d1) = true ∧ n + cSs l[i].body + cSs l[i].els ≤ 16
      ·have hc2 := m2 g2.1 g2.2
       obtain ⟨c, hc⟩ := Rka hl hd0 hp d (i + 1) (n + cSs l[i].body + cSs l[i].els) (by omega) (by omega) g2.2
       refine ⟨c, ?_⟩
       apply Rf
       rw [Rc hi, e1, s1, g1.1, g2.1, Re (by omega), hw]
       subst hc1 hc2
       have dk1 : decide (l[i].body.all (sOk d1) = true ∧ n + (cSs l[i].body : Int) ≤ 16) = true := Zp g1
       have dk2 : decide (l[i].els.all (sOk d1) = true ∧ n + (cSs l[i].body : Int) + (cSs l[i].els : Int) ≤ 16) = true := Zp g2
       rw [dk1] at k1
       rw [dk2] at m1
       have hcond : ((true && true && (l.drop (i + 1)).all (sOk (d1 + 1))) = true ∧ n + ((cSs (l.drop i) : Int) - ((l.length : Int) - (i : Int))) ≤ 16) ↔ ((l.drop (i + 1)).all (sOk (d1 + 1)) = true ∧ n + (cSs l[i].body : Int) + (cSs l[i].els : Int) + ((cSs (l.drop (i + 1)) : Int) - ((l.length : Int) - ((i + 1 : Nat) : Int))) ≤ 16) := by
        simp only [Bool.true_and, Bool.and_true]
        constructor
        ·rintro ⟨x, y⟩; exact ⟨x, by omega⟩
        ·rintro ⟨x, y⟩; exact ⟨x, by omega⟩
       have hval : n + ((cSs (l.drop i) : Int) - ((l.length : Int) - (i : Int))) = n + (cSs l[i].body : Int) + (cSs l[i].els : Int) + ((cSs (l.drop (i + 1)) : Int) - ((l.length : Int) - ((i + 1 : Nat) : Int))) := by omega
       rw [Rko hcond (congrArg (Sum.inl (β := Bool × Int)) hval), ← hc]
       simp only [hi', Zy, Zt, Qb, Ray, Rn, hh, Zv, Zf, hn3, hn4, Zz, k1, m1]
       rcases hk with hk | hk <;> simp [hk]
      ·refine ⟨c2, ?_⟩
       apply Rf
       rw [Rc hi, e1, s1, g1.1, hw]
       subst hc1
       have dk1 : decide (l[i].body.all (sOk d1) = true ∧ n + (cSs l[i].body : Int) ≤ 16) = true := Zp g1
       have dk2 : decide (l[i].els.all (sOk d1) = true ∧ n + (cSs l[i].body : Int) + (cSs l[i].els : Int) ≤ 16) = false := Zq g2
       rw [dk1] at k1
       rw [dk2] at m1
       rw [if_neg (by
        rintro ⟨x, y⟩
        simp only [Bool.true_and, Zw] at x
        exact g2 ⟨x.1, by omega⟩)]
       simp only [hi', Zy, Zt, Qb, Ray, Rn, hh, Zv, Zf, hn3, hn4, Zz, k1, m1]
       rcases hk with hk | hk <;> simp [hk]
     ·refine ⟨c1, ?_⟩
      apply Rf
      rw [Rc hi, e1, s1, hw]
      have dk1 : decide (l[i].body.all (sOk d1) = true ∧ n + (cSs l[i].body : Int) ≤ 16) = false := Zq g1
      rw [dk1] at k1
      rw [if_neg (by
       rintro ⟨x, y⟩
       simp only [Zw] at x
       exact g1 ⟨x.1.1, by omega⟩)]
      simp only [hi', Zy, Zt, Qb, Ray, Rn, hh, Zv, Zf, hn3, hn4, Zz, k1]
      rcases hk with hk | hk <;> simp [hk]
   ·have n2 : l[i].kind ≠ 2 := fun h => hk (.inl h)
    have n3 : l[i].kind ≠ 3 := fun h => hk (.inr h)
    have s1 : sOk d0 l[i] = true := by cases d0 <;> simp [sOk, hh, n2, n3]
    have hbe : l[i].body = [] ∧ l[i].els = [] := by
     have hh' := hh
     simp only [hdr, n2, n3, false_and, false_or] at hh'
     have : (l[i].body.length : Int) = 0 ∧ (l[i].els.length : Int) = 0 := by
      rcases hh' with h | h | h | h | h
      ·exact ⟨h.2.2.2.2.1, h.2.2.2.2.2⟩
      ·exact ⟨h.2.2.2.2.1, h.2.2.2.2.2⟩
      ·exact ⟨h.2.2.2.2.1, h.2.2.2.2.2⟩
      ·exact ⟨h.2.2.2.2.1, h.2.2.2.2.2⟩
      ·exact ⟨h.2.2.2.2.1, h.2.2.2.2.2⟩
     exact ⟨List.eq_nil_of_length_eq_zero (by omega), List.eq_nil_of_length_eq_zero (by omega)⟩
    rw [hbe.1, hbe.2] at e3
    simp only [cSs] at e3
    obtain ⟨c, hc⟩ := Rka hl hd0 hp d (i + 1) n (by omega) h0 h1
    refine ⟨c, ?_⟩
    apply Rf
    rw [Rc hi, e1, s1, Re (by omega)]
    have hcond : ((true && (l.drop (i + 1)).all (sOk d0)) = true ∧ n + ((cSs (l.drop i) : Int) - ((l.length : Int) - (i : Int))) ≤ 16) ↔ ((l.drop (i + 1)).all (sOk d0) = true ∧ n + ((cSs (l.drop (i + 1)) : Int) - ((l.length : Int) - ((i + 1 : Nat) : Int))) ≤ 16) := by
     simp only [Bool.true_and]
     constructor
     ·rintro ⟨x, y⟩; exact ⟨x, by omega⟩
     ·rintro ⟨x, y⟩; exact ⟨x, by omega⟩
    have hval : n + ((cSs (l.drop i) : Int) - ((l.length : Int) - (i : Int))) = n + ((cSs (l.drop (i + 1)) : Int) - ((l.length : Int) - ((i + 1 : Nat) : Int))) := by omega
    rw [Rko hcond (congrArg (Sum.inl (β := Bool × Int)) hval), ← hc]
    simp only [hi', Zy, Zt, Qb, Ray, Rn, hh, Zv, Zf, hn3, Zz]
    simp [n2, n3]
  ·have s1 : sOk d0 l[i] = false := by cases d0 <;> simp [sOk, hh]
   refine ⟨n, ?_⟩
   apply Rf
   rw [Rc hi, e1, s1]
   simp only [hi', Zy, Zt, Qb, Ray, Rn, hh, Zz, Zx]
   simp
theorem Rdh : ∀ (d : Nat) (l : List Stm) (n : Int), d ≤ 3 → mSs l ≤ 4294967296 → 0 ≤ n → n ≤ 16 →
  ∃ c, Rl l 3 (3 - (d : Int)) n = some (decide (l.all (sOk d) = true ∧ n + cSs l ≤ 16), c) ∧ (l.all (sOk d) = true → n + cSs l ≤ 16 → c = n + cSs l)
 | d, l, n, hd, hm, h0, h1 => by
  have hlen := Ri l
  have hcl := Rjf l
  by_cases hc : (16 : Int) < n + l.length
  ·refine ⟨n + l.length, ?_, fun _ h => by omega⟩
   apply Raz
   rw [wrap_id (by omega) (by omega)]
   have : ¬ (l.all (sOk d) = true ∧ n + (cSs l : Int) ≤ 16) := fun h => by omega
   rw [Zq this]
   simp [hc]
  ·obtain ⟨c, h⟩ := Rka (l := l) (d0 := d) (by omega) hd (fun d1 e1 bl m hb g0 g1 => by
    obtain ⟨s, hs, hbl⟩ := hb
    have := Rz hs
    have := Rez s
    have hmb : mSs bl ≤ 4294967296 := by rcases hbl with rfl | rfl <;> omega
    exact Rdh d1 bl m (by omega) hmb g0 g1) l.length 0 (n + l.length) (by omega) (by omega) (by omega)
   rw [List.drop_zero] at h
   by_cases g : l.all (sOk d) = true ∧ n + (cSs l : Int) ≤ 16
   ·refine ⟨n + cSs l, ?_, fun _ _ => rfl⟩
    apply Raz
    rw [wrap_id (by omega) (by omega), show (0 : Int) = ((0 : Nat) : Int) by rfl, h, if_pos ⟨g.1, by omega⟩, Zp g]
    simp only [hc, Zz, Zf, Qb, selm]
    congr 2; omega
   ·refine ⟨c, ?_, fun a b => absurd ⟨a, b⟩ g⟩
    apply Raz
    rw [wrap_id (by omega) (by omega), show (0 : Int) = ((0 : Nat) : Int) by rfl, h, if_neg (fun x => g ⟨x.1, by omega⟩), Zq g]
    simp only [hc, Zz, Zf, Qb, selm]
 termination_by d => d
def stOk (l : List Stm) : Bool := decide (l.all (sOk 3) = true ∧ (cSs l : Int) ≤ 16)
theorem Rdi (l : List Stm) (hm : mSs l ≤ 4294967296) : Rcr l 3 = some (stOk l) := by
 apply Rff
 obtain ⟨c, h, _⟩ := Rdh 3 l 0 (by omega) hm (by omega) (by omega)
 rw [show (3 : Int) - ((3 : Nat) : Int) = 0 by omega] at h
 rw [h, Qb]
 simp [stOk]
theorem Rfl (l : List Stm) (hm : mSs l ≤ 4294967296) : Rdc l = some (stOk l) := by
 apply Rfm
 have hc := Rkl l
 rw [show (3 : Int) = ((3 : Nat) : Int) by rfl, Rgh (by omega) hm, Qb, Rhd (by omega)]
 unfold stOk
 cases l.all (sOk 3) <;> simp
theorem Rlj {s : Stm} (h : hdr s) (n2 : s.kind ≠ 2) (n3 : s.kind ≠ 3) : s.body = [] ∧ s.els = [] := by
 simp only [hdr, n2, n3, false_and, false_or] at h
 have : (s.body.length : Int) = 0 ∧ (s.els.length : Int) = 0 := by
  rcases h with h | h | h | h | h
  ·exact ⟨h.2.2.2.2.1, h.2.2.2.2.2⟩
  ·exact ⟨h.2.2.2.2.1, h.2.2.2.2.2⟩
  ·exact ⟨h.2.2.2.2.1, h.2.2.2.2.2⟩
  ·exact ⟨h.2.2.2.2.1, h.2.2.2.2.2⟩
  ·exact ⟨h.2.2.2.2.1, h.2.2.2.2.2⟩
 exact ⟨List.eq_nil_of_length_eq_zero (by omega), List.eq_nil_of_length_eq_zero (by omega)⟩
theorem Rhi {α : Type} {l : List α} {i : Nat} (hi : i < l.length) : l.take (i + 1) = l.take i ++ [l[i]] := by rw [List.take_add_one, List.getElem?_eq_getElem hi]; rfl
structure Marked (c : TC) (h : Hd) (A B : List Ent) (l : List (Den c)) : Prop where
 get : Qae B c h.id = some l
 ext : Ext (fun n => h.id = some n) A B
 len : B.length = A.length
theorem Marked.none {c : TC} {h : Hd} {A : List Ent} {l : List (Den c)} (hg : Qae A c h.id = some l) : Marked c h A A l := ⟨hg, Ext.refl _ _, rfl⟩
theorem Marked.set {c : TC} {h : Hd} {A B : List Ent} {l : List (Den c)} (hm : Marked c h A B l) {i : Nat} (hi : i < l.length) (x : Den c) : Marked c h A (Qdz B c h.id i x) (l.set i x) := by
 obtain ⟨id, n⟩ := h
 cases id with
 | none =>
  have h0 := hm.get
  rw [Qar] at h0
  injection h0 with h0
  subst h0
  exact hm
 | some k => exact ⟨Qet hm.get, hm.ext.trans (Quk fun n hn => hn), by rw [length_set]; exact hm.len⟩
theorem Rkg {α : Type} (d : List α) (e x : α) (r : List α) : (d ++ e :: r).set d.length x = d ++ x :: r := by
 rw [List.set_append_right _ _ (Nat.le_refl _)]; simp
theorem Rfq {α : Type} (d : List α) (e : α) (r : List α) : (d ++ e :: r)[d.length]? = some e := by
 rw [List.getElem?_append_right (Nat.le_refl _)]; simp
def mkI : Int → List Int → List Int
 | _, [] => []
 | k, _ :: r => k :: mkI (k + 1) r
theorem Ria : ∀ (k : Int) (l : List Int), (mkI k l).length = l.length
 | _, [] => rfl
 | k, _ :: r => by simp [mkI, Ria]
theorem Rkz {h : Hd} {A : List Ent} : ∀ (rest done : List Int) (k : Int) (B : List Ent), Marked .int h A B (done ++ rest) → h.n = done.length + rest.length → h.n ≤ 4294967296 → 0 ≤ k → k + rest.length ≤ 4611686018427387904 → Ok (Raj h k done.length B) fun r => r.1 = k + rest.length ∧ Marked .int h A r.2 (done ++ mkI k rest)
 | [], done, k, B, hm, hn, hb, h0, hk => by
  apply Ok.le (Rcc _ _ _ _)
  have hi : ¬ ((done.length : Int) < ((h.n : Nat) : Int)) := by simp only [Zn] at hn; omega
  simp only [hi, Zz, Zf]
  exact Ok.of ⟨by simp, hm⟩
 | e :: rest, done, k, B, hm, hn, hb, h0, hk => by
  apply Ok.le (Rcc _ _ _ _)
  simp only [Zc] at hn hk
  have hi : (done.length : Int) < ((h.n : Nat) : Int) := by omega
  simp only [hi, Zy, Zt, idxN_eq (show 0 ≤ (done.length : Int) by omega) hi, Int.toNat_natCast, Qb, Qng hm.get (Rfq done e rest)]
  have h1 := hm.set (i := done.length) (by simp) k
  rw [Rkg] at h1
  rw [wrap_id (n := k + 1) (by omega) (by omega), Re (show (done.length : Int) < 9223372036854775807 by omega)]
  have ih := Rkz rest (done ++ [k]) (k + 1) _ (by rw [List.append_assoc]; exact h1) (by simp; omega) hb (by omega) (by omega)
  simp only [Za, Zc, Zn, Nat.zero_add] at ih
  refine ih.mono fun r hr => ⟨by rw [hr.1]; simp; omega, ?_⟩
  have := hr.2
  rw [List.append_assoc] at this
  exact this
theorem Rfh {h : Hd} {A : List Ent} {l : List Int} {k : Int} (hg : Qae A .int h.id = some l) (hn : h.n = l.length) (hl : l.length ≤ 4294967296) (h0 : 0 ≤ k) (hk : k + l.length ≤ 4611686018427387904) : Ok (Rbe h k A) fun r => r.1 = k + l.length ∧ Marked .int h A r.2 (mkI k l) := by
 apply Ok.le (Rfg _ _ _)
 exact Ok.bnd (Rkz (h := h) l [] k A (Marked.none hg) (by simpa using hn) (by omega) h0 hk) fun r hr => Ok.of hr
theorem Rkv {L : List Int} : ∀ (rest done : List Int) (k : Int), L = done ++ mkI k rest → L.length ≤ 4294967296 → 0 ≤ k → k + rest.length ≤ 4611686018427387904 → Rag L k done.length = some (.inl (k + rest.length))
 | [], done, k, hL, hl, h0, hk => by
  subst hL
  apply Rct
  simp [mkI]
 | e :: rest, done, k, hL, hl, h0, hk => by
  apply Rct
  simp only [Zc] at hk
  have hlen : L.length = done.length + (rest.length + 1) := by rw [hL]; simp [Ria]
  have hi : (done.length : Int) < (L.length : Int) := by omega
  have hget : L[done.length]? = some k := by rw [hL]; exact Rfq done k _
  have ih := Rkv (L := L) rest (done ++ [k]) (k + 1) (by rw [List.append_assoc]; exact hL) hl (by omega) (by omega)
  simp only [Za, Zc, Zn, Nat.zero_add] at ih
  simp only [hi, Zy, Zt, geti_nat', hget, Qb, Zv, Zf]
  rw [wrap_id (n := k + 1) (by omega) (by omega), Re (show (done.length : Int) < 9223372036854775807 by omega), ih]
  simp; omega
theorem Rgu {l : List Int} {k : Int} (hl : l.length ≤ 4294967296) (h0 : 0 ≤ k) (hk : k + l.length ≤ 4611686018427387904) : Rea (mkI k l) k = some (k + l.length) := by
 apply Rgv
 have := Rkv (L := mkI k l) l [] k rfl (by rw [Ria]; exact hl) h0 hk
 have e : Rag (mkI k l) k 0 = some (.inl (k + l.length)) := this
 rw [e]; simp [selm]
mutual
def binX : Exp → Bool
 | ⟨_, n, as⟩ => decide (as.length = 0 ∨ (as.length = 2 ∧ n = 0)) && Rkq as
def Rkq : List Exp → Bool
 | [] => true
 | e :: r => binX e && Rkq r
end
mutual
def binS : Stm → Bool
 | ⟨_, _, _, e, bd, el⟩ => binX e && Rje bd && Rje el
def Rje : List Stm → Bool
 | [] => true
 | s :: r => binS s && Rje r
end
theorem Rjy (e : Exp) : binX e = (decide (e.args.length = 0 ∨ (e.args.length = 2 ∧ e.n = 0)) && Rkq e.args) := by cases e; simp [binX]
theorem Rjx (s : Stm) : binS s = (binX s.e && Rje s.body && Rje s.els) := by cases s; simp [binS]
theorem Rjj : ∀ l : List Exp, Rkq l = l.all binX
 | [] => rfl
 | e :: r => by simp [Rkq, Rjj r]
theorem Rco : ∀ l : List Stm, Rje l = l.all binS
 | [] => rfl
 | e :: r => by simp [Rje, Rco r]
theorem Rhk {e : Exp} (h : e.args = []) : binX e = true := by rw [Rjy, h]; rfl
theorem Rjz : ∀ (d : Nat) (e : Exp), Rs d e = true → binX e = true
 | 0, e, h => by simp [Rs] at h
 | d + 1, e, h => by
  unfold Rs at h
  split at h
  ·simp only [Zw] at h
   exact Rhk (by simpa using h.2)
  split at h
  ·simp only [Zw] at h
   exact Rhk (by simpa using h.2)
  ·simp only [Zw] at h
   obtain ⟨⟨_, hn⟩, h⟩ := h
   have hn := of_decide_eq_true hn
   split at h
   ·rename_i a b hab
    simp only [Zw] at h
    rw [Rjy, hab]
    simp [Rkq, Rjz d a h.1, Rjz d b h.2, hn]
   ·cases h
theorem Rkh {s : Stm} (h : hdr s) : binX s.e = true := by
 have e0 : ∀ {e : Exp}, (e.args.length : Int) = 0 → binX e = true := fun h => Rhk (List.eq_nil_of_length_eq_zero (by omega))
 rcases h with ⟨_, _, _, h, _⟩ | ⟨_, _, _, h⟩ | ⟨_, _, _, h, _⟩ | ⟨_, _, _, h, _⟩ | ⟨_, _, _, ⟨_, _, h⟩, _⟩ | ⟨_, _, _, ⟨_, _, h⟩, _⟩ | ⟨_, _, _, h, _⟩
 all_goals first | exact Rjz _ _ h | exact e0 h
theorem binS_ok : ∀ (d : Nat) (s : Stm), sOk d s = true → binS s = true := by
 have leaf : ∀ {s : Stm}, hdr s → s.kind ≠ 2 → s.kind ≠ 3 → binS s = true := by
  intro s h h2 h3
  obtain ⟨e1, e2⟩ := Rlj h h2 h3
  rw [Rjx, e1, e2, Rkh h]; rfl
 intro d
 induction d with
 | zero =>
  intro s h
  simp only [sOk, Zw, Ze, Bool.not_eq_true', decide_eq_false_iff_not] at h
  exact leaf h.1 (fun hh => h.2 (.inl hh)) (fun hh => h.2 (.inr hh))
 | succ d ih =>
  intro s h
  simp only [sOk, Zw, Ze] at h
  obtain ⟨h1, h2⟩ := h
  by_cases hk : s.kind = 2 ∨ s.kind = 3
  ·rw [if_pos hk, Zw, List.all_eq_true, List.all_eq_true] at h2
   rw [Rjx, Rkh h1, Rco, Rco, List.all_eq_true.2 fun s hs => ih s (h2.1 s hs), List.all_eq_true.2 fun s hs => ih s (h2.2 s hs)]; rfl
  ·exact leaf h1 (fun hh => hk (.inl hh)) (fun hh => hk (.inr hh))
theorem Rlh {l : List Stm} (h : stOk l = true) : Rje l = true := by
 unfold stOk at h
 simp only [Ze] at h
 rw [Rco, List.all_eq_true]
 exact fun s hs => binS_ok 3 s (List.all_eq_true.1 h.1 s hs)
theorem Rix : ∀ e : Exp, binX e = true → Ran e = some e := by
 apply Exp.ind
 intro e ih hb
 apply Riy
 rw [Rjy, Rjj] at hb
 simp only [Zw, Ze, List.all_eq_true] at hb
 obtain ⟨h1, h2⟩ := hb
 obtain ⟨o, n, as⟩ := e
 match as, h1, ih, h2 with
 | [], _, _, _ => simp [Rkx]
 | [a, b], _, ih, h2 =>
  have ha := ih a (by simp) (h2 a (by simp))
  have hb := ih b (by simp) (h2 b (by simp))
  have g0 : geti [a, b] 0 = some a := rfl
  have g1 : geti [a, b] 1 = some b := rfl
  have hn : n = 0 := by
   rename_i h1
   rcases h1 with h1 | h1
   ·simp at h1
   ·exact h1.2
  subst hn
  simp only [g0, g1, Qb, Rv, ha, hb, Rkw]
  simp
theorem Rhh (s : Stm) : (⟨s.kind, s.var, s.box, s.e, s.body, s.els⟩ : Stm) = s := by cases s; rfl
theorem Rja {l : List Exp} {x0 x1 o n : Int} {f0 : Bool} {l0 : List Exp} (hl : (l.length : Int) ≤ 4294967296) (hp : ∀ e ∈ l, Ru e = some e) : ∀ (d i : Nat) (f : Bool), i + d = l.length →
  Ok (Rae l l.length i x0 x1 f0 l0 o n f (l.take i)) fun r => r.2.2.2.1 = o ∧ r.2.2.2.2.1 = n ∧ r.2.2.2.2.2.2 = l
 | 0, i, f, hd => by
  apply Ok.le (Rcp _ _ _ _ _ _ _ _ _ _ _)
  have hi : ¬ ((i : Int) < l.length) := by omega
  simp only [hi, Zz, Zf]
  exact Ok.of ⟨rfl, rfl, List.take_of_length_le (by omega)⟩
 | d + 1, i, f, hd => by
  apply Ok.le (Rcp _ _ _ _ _ _ _ _ _ _ _)
  have hi : i < l.length := by omega
  have hi' : (i : Int) < l.length := by omega
  simp only [hi', Zy, Zt, Rc hi, Qb, Rv, hp _ (List.getElem_mem hi), Re (show (i : Int) < 9223372036854775807 by omega), Rhj (show (l.take i).length + [l[i]].length ≤ 4294967296 by simp; omega)]
  have e : l.take i ++ [l[i]] = l.take (i + 1) := by rw [List.take_add_one, List.getElem?_eq_getElem hi]; rfl
  rw [e]
  exact Rja hl hp d (i + 1) true (by omega)
theorem Rgo : ∀ e : Exp, emX e ≤ 4294967296 → Ru e = some e := by
 apply Exp.ind
 intro e ih hm
 apply Rgp
 rw [Rar] at hm
 have hl := Rau e.args
 obtain ⟨r, h1, h2, h3, h4⟩ := Rja (l := e.args) (x0 := 0) (x1 := 0) (o := e.op) (n := e.n) (f0 := false) (l0 := []) (by omega) (fun a ha => ih a ha (by have := Reh ha; omega)) e.args.length 0 false (by omega)
 have h1' : Rae e.args (e.args.length : Int) 0 0 0 false [] e.op e.n false [] = some r := h1
 rw [h1', Qb, h2, h3, h4, Rv]
theorem Rih {l : List Stm} (hl : (l.length : Int) ≤ 4294967296) (hp : ∀ s ∈ l, Rg s.body = some s.body ∧ Rg s.els = some s.els ∧ Ru s.e = some s.e) : ∀ (d i : Nat) (f : Bool), i + d = l.length →
  Ok (Ry f (l.take i) l l.length i) fun r => r.2 = l
 | 0, i, f, hd => by
  apply Ok.le (Rcf _ _ _ _ _)
  have hi : ¬ ((i : Int) < l.length) := by omega
  simp only [hi, Zz, Zf]
  exact Ok.of (List.take_of_length_le (by omega))
 | d + 1, i, f, hd => by
  apply Ok.le (Rcf _ _ _ _ _)
  have hi : i < l.length := by omega
  have hi' : (i : Int) < l.length := by omega
  obtain ⟨h1, h2, h3⟩ := hp _ (List.getElem_mem hi)
  simp only [hi', Zy, Zt, Rc hi, Qb, Rv, h1, h2, h3, Rhh, Re (show (i : Int) < 9223372036854775807 by omega), Rhj (show (l.take i).length + [l[i]].length ≤ 4294967296 by simp; omega)]
  have e : l.take i ++ [l[i]] = l.take (i + 1) := by rw [List.take_add_one, List.getElem?_eq_getElem hi]; rfl
  rw [e]
  exact Rih hl hp d (i + 1) true (by omega)
theorem Rbp {l : List Stm} (hl : (l.length : Int) ≤ 4294967296) (hp : ∀ s ∈ l, Rg s.body = some s.body ∧ Rg s.els = some s.els ∧ Ru s.e = some s.e) : Rg l = some l := by
 apply Rfy
 obtain ⟨r, h1, h2⟩ := Rih hl hp l.length 0 false (by omega)
 have h1' : Ry false [] l (l.length : Int) 0 = some r := h1
 rw [h1', Qb, h2]
theorem Rer : ∀ s : Stm, mS s ≤ 4294967296 → Rg s.body = some s.body ∧ Rg s.els = some s.els ∧ Ru s.e = some s.e := by
 apply Stm.ind
 intro s ih1 ih2 hm
 rw [Rez] at hm
 have l1 := Ri s.body
 have l2 := Ri s.els
 exact ⟨Rbp (by omega) (fun a ha => ih1 a ha (by have := Rz ha; omega)), Rbp (by omega) (fun a ha => ih2 a ha (by have := Rz ha; omega)), Rgo _ (by omega)⟩
theorem Rfx {l : List Stm} (hm : mSs l ≤ 4294967296) : Rg l = some l :=
 Rbp (by have := Ri l; omega) fun s hs => Rer s (by have := Rz hs; omega)
theorem Rjo {l : List Stm} (hl : (l.length : Int) ≤ 4294967296) (hp : ∀ s ∈ l, Rj s.body = some s.body ∧ Rj s.els = some s.els ∧ Ran s.e = some s.e) : ∀ (d i : Nat) (f : Bool), i + d = l.length →
  Ok (Ram l f (l.take i) i) fun r => r.2 = l
 | 0, i, f, hd => by
  apply Ok.le (Rdn _ _ _ _)
  have hi : ¬ ((i : Int) < l.length) := by omega
  simp only [hi, Zz, Zf]
  exact Ok.of (List.take_of_length_le (by omega))
 | d + 1, i, f, hd => by
  apply Ok.le (Rdn _ _ _ _)
  have hi : i < l.length := by omega
  have hi' : (i : Int) < l.length := by omega
  obtain ⟨h1, h2, h3⟩ := hp _ (List.getElem_mem hi)
  simp only [hi', Zy, Zt, Rc hi, Qb, Rv, h1, h2, h3, Rhh, Re (show (i : Int) < 9223372036854775807 by omega), Rhj (show (l.take i).length + [l[i]].length ≤ 4294967296 by simp; omega)]
  have e : l.take i ++ [l[i]] = l.take (i + 1) := by rw [List.take_add_one, List.getElem?_eq_getElem hi]; rfl
  rw [e]
  exact Rjo hl hp d (i + 1) true (by omega)
theorem Rdd {l : List Stm} (hl : (l.length : Int) ≤ 4294967296) (hp : ∀ s ∈ l, Rj s.body = some s.body ∧ Rj s.els = some s.els ∧ Ran s.e = some s.e) : Rj l = some l := by
 apply Rig
 obtain ⟨r, h1, h2⟩ := Rjo hl hp l.length 0 true (by omega)
 have h1' : Ram l true ([] : List Stm) 0 = some r := h1
 rw [h1', Qb, h2]
theorem Rfn : ∀ s : Stm, mS s ≤ 4294967296 → binS s = true → Rj s.body = some s.body ∧ Rj s.els = some s.els ∧ Ran s.e = some s.e := by
 apply Stm.ind
 intro s ih1 ih2 hm hb
 rw [Rez] at hm
 rw [Rjx, Rco, Rco] at hb
 simp only [Zw, List.all_eq_true] at hb
 have l1 := Ri s.body
 have l2 := Ri s.els
 exact ⟨Rdd (by omega) (fun a ha => ih1 a ha (by have := Rz ha; omega) (hb.1.2 a ha)), Rdd (by omega) (fun a ha => ih2 a ha (by have := Rz ha; omega) (hb.2 a ha)), Rix _ hb.1.1⟩
theorem Rif {l : List Stm} (hm : mSs l ≤ 4294967296) (hb : Rje l = true) : Rj l = some l := by
 rw [Rco, List.all_eq_true] at hb
 exact Rdd (by have := Ri l; omega) fun s hs => Rfn s (by have := Rz hs; omega) (hb s hs)
def Reg (l : List Stm) : Tk × Bool := if stOk l = true then (⟨[0, 0, 0, 0], l⟩, true) else (⟨[], []⟩, false)
theorem Rhp {l : List Stm} (hm : mSs l ≤ 4294967296) : Rej l = some (Reg l) := by
 apply Rhq
 have hv : Rak l = some (stOk l) := by
  apply Rdg
  rw [Rdi l hm]; rfl
 rw [hv, Qb, Rfx hm, Qb]
 unfold Reg
 cases stOk l <;> rfl
theorem Rid {l : List Stm} (hm : mSs l ≤ 4294967296) : Reo l = some (Reg l) := by
 apply Rie
 rw [Rfl l hm, Qb]
 unfold Reg
 cases hs : stOk l
 ·rfl
 ·rw [Rif hm (Rlh hs), Qb]; rfl
mutual
def mkX : Int → Exp → Exp
 | k, ⟨_, _, as⟩ => ⟨k, k + 1, mkXs (k + 2) as⟩
def mkXs : Int → List Exp → List Exp
 | _, [] => []
 | k, e :: r => mkX k e :: mkXs (k + 2 + 2 * emX e) r
end
mutual
def nS : Stm → Nat
 | ⟨_, _, _, e, bd, el⟩ => 5 + 2 * emX e + nSs bd + nSs el
def nSs : List Stm → Nat
 | [] => 0
 | s :: r => nS s + nSs r
end
mutual
def mkS : Int → Stm → Stm
 | k, ⟨_, _, _, e, bd, el⟩ => ⟨k, k + 1, k + 2, ⟨k + 3, k + 4, mkXs (k + 5) e.args⟩, mkSs (k + 5 + 2 * emX e) bd, mkSs (k + 5 + 2 * emX e + nSs bd) el⟩
def mkSs : Int → List Stm → List Stm
 | _, [] => []
 | k, s :: r => mkS k s :: mkSs (k + nS s) r
end
theorem nS_eq (s : Stm) : nS s = 5 + 2 * emX s.e + nSs s.body + nSs s.els := by cases s; simp [nS]
theorem Rln (k : Int) (s : Stm) : mkS k s = ⟨k, k + 1, k + 2, ⟨k + 3, k + 4, mkXs (k + 5) s.e.args⟩, mkSs (k + 5 + 2 * emX s.e) s.body, mkSs (k + 5 + 2 * emX s.e + nSs s.body) s.els⟩ := by cases s; simp [mkS]
theorem Rlo (k : Int) (e : Exp) : mkX k e = ⟨k, k + 1, mkXs (k + 2) e.args⟩ := by cases e; simp [mkX]
mutual
theorem nS_le : ∀ s : Stm, nS s ≤ 5 + 5 * mS s
 | ⟨_, _, _, e, bd, el⟩ => by
  have h1 := Rgk bd
  have h2 := Rgk el
  simp only [nS, mS]; omega
theorem Rgk : ∀ l : List Stm, nSs l ≤ 5 * mSs l
 | [] => by simp [nSs]
 | s :: r => by
  have h1 := nS_le s
  have h2 := Rgk r
  simp only [nSs, mSs]; omega
end
theorem Rjh : ∀ (k : Int) (l : List Exp), (mkXs k l).length = l.length
 | k, [] => by simp [mkXs]
 | k, e :: r => by simp only [mkXs, Zc, Rjh]
theorem Rjg : ∀ (k : Int) (l : List Stm), (mkSs k l).length = l.length
 | k, [] => by simp [mkSs]
 | k, e :: r => by simp only [mkSs, Zc, Rjg]
def MarkX (l : List Exp) : Prop := ∀ (h : Hd) (ids : List Nat) (A : List Ent) (k : Int), Tr A .expH h l ids → ids.Nodup → 0 ≤ k → k + 2 * emXs l ≤ 4611686018427387904 → Ok (Rav h k A) fun r => r.1 = k + 2 * emXs l ∧ Tr r.2 .expH h (mkXs k l) ids ∧ Only ids A r.2
theorem Rkf {h : Hd} {ids : List Nat} {A : List Ent} (nd : ids.Nodup) (hb : ((h.n : Nat) : Int) ≤ 4611686018427387904) : ∀ (rest done : List Exp) (k : Int) (B : List Ent), (∀ e ∈ rest, MarkX e.args) → Tr B .expH h (done ++ rest) ids → Only ids A B → 0 ≤ k → k + 2 * emXs rest ≤ 4611686018427387904 →
  Ok (Rac h k done.length B) fun r => r.1 = k + 2 * emXs rest ∧ Tr r.2 .expH h (done ++ mkXs k rest) ids ∧ Only ids A r.2
 | [], done, k, B, _, hT, ho, h0, hk => by
  apply Ok.le (Rbn _ _ _ _)
  have hn := hT.cnt
  simp only [Za, Zn] at hn
  have hi : ¬ ((done.length : Int) < ((h.n : Nat) : Int)) := by omega
  simp only [hi, Zz, Zf]
  exact Ok.of ⟨by simp [emXs], hT, ho⟩
 | e :: rest, done, k, B, hp, hT, ho, h0, hk => by
  apply Ok.le (Rbn _ _ _ _)
  have hn := hT.cnt
  simp only [Za, Zc] at hn
  have hi : (done.length : Int) < ((h.n : Nat) : Int) := by omega
  obtain ⟨M⟩ := hT.mid nd (j := done.length) (y := e) (Rfq done e rest)
  have hlt := (List.getElem?_eq_some_iff.1 M.at_).1
  obtain ⟨as, hT', he⟩ := (show ∃ as, Tr B .expH M.x.args as M.s ∧ e = ⟨M.x.op, M.x.n, as⟩ from M.row)
  have ea : as = e.args := by rw [he]
  subst ea
  simp only [emXs, Rar] at hk
  simp only [hi, Zy, Zt, idxN_eq (show 0 ≤ (done.length : Int) by omega) hi, Int.toNat_natCast, Qb, M.hid, Qng M.get M.at_, arRow_set M.get hlt, arSet_set M.get, wrap_id (n := k + 1) (by omega) (by omega), wrap_id (n := k + 1 + 1) (by omega) (by omega)]
  have o1 : Only [M.i] B (Qdz B .expH (some M.i) done.length (⟨k, k + 1, M.x.args⟩ : ExpH)) := set_only (c := .expH) (by simp)
  refine Ok.bnd (hp _ List.mem_cons_self M.x.args M.s _ (k + 1 + 1) (hT'.only o1 (fun n hn hm => M.out (by simp at hm; rw [← hm]; exact hn))) M.nds (by omega) (by omega)) fun r ⟨e1, t1, o2⟩ => ?_
  have oB : Only (M.i :: M.s) B r.2 := (o1.mono (by simp)).trans (o2.mono (fun n hn => List.mem_cons_of_mem _ hn))
  have hb2 := M.back (B := r.2) (x' := (⟨k, k + 1, M.x.args⟩ : ExpH)) (y' := ⟨k, k + 1, mkXs (k + 1 + 1) e.args⟩) (Qnf (fun n hn => by injection hn with hn; rw [← hn]; exact o2.same _ M.out) (Qet (c := .expH) M.get)) ⟨_, t1, rfl⟩ oB
  rw [Rkg] at hb2
  have ho2 : Only ids A r.2 := ho.trans (oB.mono fun n hn => by
   rcases List.mem_cons.1 hn with rfl | hn
   ·exact M.iin
   ·exact M.ins n hn)
  rw [Re (show (done.length : Int) < 9223372036854775807 by omega)]
  have ih := Rkf nd hb rest (done ++ [⟨k, k + 1, mkXs (k + 1 + 1) e.args⟩]) r.1 r.2 (fun e he => hp e (List.mem_cons_of_mem _ he)) (by rw [List.append_assoc]; exact hb2) ho2 (by rw [e1]; omega) (by rw [e1]; omega)
  simp only [Za, Zc, Zn, Nat.zero_add] at ih
  refine ih.mono fun q ⟨q1, q2, q3⟩ => ⟨?_, ?_, q3⟩
  ·rw [q1, e1]; simp only [emXs, Rar]; omega
  ·have ek : k + 1 + 1 = k + 2 := by omega
   rw [List.append_assoc, e1, ek] at q2
   simp only [mkXs, Rlo, Rar]
   exact q2
theorem Rjr : ∀ (N : Nat) (l : List Exp), emXs l ≤ N → MarkX l
 | 0, l, hN => by
  intro h ids A k hT nd h0 hk
  apply Ok.le (Rcu _ _ _)
  have hl := Rau l
  have hc := hT.cnt
  have hnil : l = [] := List.eq_nil_of_length_eq_zero (by omega)
  subst hnil
  refine Ok.bnd (Rkf (A := A) nd (by rw [hc]; simp) [] [] k A (by simp) hT (Only.refl _ _) h0 hk) fun r hr => Ok.of hr
 | N + 1, l, hN => by
  intro h ids A k hT nd h0 hk
  apply Ok.le (Rcu _ _ _)
  have hl := Rau l
  have hc := hT.cnt
  refine Ok.bnd (Rkf (A := A) nd (by rw [hc]; omega) l [] k A (fun e he => Rjr N e.args (by have := Reh he; rw [Rar] at this; omega)) hT (Only.refl _ _) h0 hk) fun r hr => Ok.of hr
theorem Rey {l : List Exp} : MarkX l := Rjr _ l (Nat.le_refl _)
def Rlg (l : List Stm) : Prop := ∀ (h : Hd) (ids : List Nat) (A : List Ent) (k : Int), Tr A .stmH h l ids → ids.Nodup → 0 ≤ k → k + 5 * mSs l ≤ 4611686018427387904 → Ok (Rt h k A) fun r => r.1 = k + nSs l ∧ Tr r.2 .stmH h (mkSs k l) ids ∧ Only ids A r.2
theorem Rke {h : Hd} {ids : List Nat} {A : List Ent} (nd : ids.Nodup) (hb : ((h.n : Nat) : Int) ≤ 4611686018427387904) : ∀ (rest done : List Stm) (k : Int) (B : List Ent), (∀ e ∈ rest, Rlg e.body ∧ Rlg e.els) → Tr B .stmH h (done ++ rest) ids → Only ids A B → 0 ≤ k → k + 5 * mSs rest ≤ 4611686018427387904 →
  Ok (Rad h k done.length B) fun r => r.1 = k + nSs rest ∧ Tr r.2 .stmH h (done ++ mkSs k rest) ids ∧ Only ids A r.2
 | [], done, k, B, _, hT, ho, h0, hk => by
  apply Ok.le (Rbo _ _ _ _)
  have hn := hT.cnt
  simp only [Za, Zn] at hn
  have hi : ¬ ((done.length : Int) < ((h.n : Nat) : Int)) := by omega
  simp only [hi, Zz, Zf]
  exact Ok.of ⟨by simp [nSs], hT, ho⟩
 | e :: rest, done, k, B, hp, hT, ho, h0, hk => by
  apply Ok.le (Rbo _ _ _ _)
  have hn := hT.cnt
  simp only [Za, Zc] at hn
  have hi : (done.length : Int) < ((h.n : Nat) : Int) := by omega
  obtain ⟨M⟩ := hT.mid nd (j := done.length) (y := e) (Rfq done e rest)
  have hlt := (List.getElem?_eq_some_iff.1 M.at_).1
  obtain ⟨as, bd, el, s1, s2, s3, hT1, hT2, hT3, he, hs⟩ := (show ∃ as bd el s1 s2 s3, Tr B .expH M.x.args as s1 ∧ Tr B .stmH M.x.body bd s2 ∧ Tr B .stmH M.x.els el s3 ∧ e = ⟨M.x.kind, M.x.var, M.x.box, ⟨M.x.eop, M.x.en, as⟩, bd, el⟩ ∧ M.s = s1 ++ (s2 ++ s3) from M.row)
  have ea0 : as = e.e.args := by rw [he]
  have eb0 : bd = e.body := by rw [he]
  have ec0 : el = e.els := by rw [he]
  have hsz : mS e = emXs as + mSs bd + mSs el := by rw [Rez, Rar, ea0, eb0, ec0]
  have hnz : nS e = 5 + 2 * emXs as + nSs bd + nSs el := by rw [nS_eq, Rar, ea0, eb0, ec0]
  have hle1 := Rgk bd
  have hle2 := Rgk el
  simp only [mSs, hsz] at hk
  obtain ⟨p1, p2⟩ := hp _ List.mem_cons_self
  rw [← eb0] at p1
  rw [← ec0] at p2
  have hnd := M.nds
  rw [hs, List.nodup_append] at hnd
  obtain ⟨n1, n23, d1⟩ := hnd
  rw [List.nodup_append] at n23
  obtain ⟨n2, n3, d23⟩ := n23
  have hout := M.out
  rw [hs] at hout
  simp only [hi, Zy, Zt, idxN_eq (show 0 ≤ (done.length : Int) by omega) hi, Int.toNat_natCast, Qb, M.hid, Qng M.get M.at_, arRow_set M.get hlt, arSet_set M.get, wrap_id (n := k + 1) (by omega) (by omega), wrap_id (n := k + 1 + 1) (by omega) (by omega), wrap_id (n := k + 1 + 1 + 1) (by omega) (by omega), wrap_id (n := k + 1 + 1 + 1 + 1) (by omega) (by omega), wrap_id (n := k + 1 + 1 + 1 + 1 + 1) (by omega) (by omega)]
  have o1 : Only [M.i] B (Qdz B .stmH (some M.i) done.length (⟨k, k + 1, k + 1 + 1, k + 1 + 1 + 1, k + 1 + 1 + 1 + 1, M.x.args, M.x.body, M.x.els⟩ : StmH)) := set_only (c := .stmH) (by simp)
  have ne1 : ∀ n ∈ s1, n ∉ [M.i] := fun n hn hm => hout (by simp at hm; rw [← hm]; simp [hn])
  have ne2 : ∀ n ∈ s2, n ∉ [M.i] := fun n hn hm => hout (by simp at hm; rw [← hm]; simp [hn])
  have ne3 : ∀ n ∈ s3, n ∉ [M.i] := fun n hn hm => hout (by simp at hm; rw [← hm]; simp [hn])
  refine Ok.bnd (Rey (l := as) M.x.args s1 _ (k + 1 + 1 + 1 + 1 + 1) (hT1.only o1 ne1) n1 (by omega) (by omega)) fun r ⟨e1, t1, o2⟩ => ?_
  have hget : ∀ {D : List Ent} {s : List Nat}, Only s (Qdz B .stmH (some M.i) done.length (⟨k, k + 1, k + 1 + 1, k + 1 + 1 + 1, k + 1 + 1 + 1 + 1, M.x.args, M.x.body, M.x.els⟩ : StmH)) D → M.i ∉ s → Qae D .stmH (some M.i) = some (M.rows.set done.length (⟨k, k + 1, k + 1 + 1, k + 1 + 1 + 1, k + 1 + 1 + 1 + 1, M.x.args, M.x.body, M.x.els⟩ : StmH)) := fun o hm => Qnf (fun n hn => by injection hn with hn; rw [← hn]; exact o.same _ hm) (Qet (c := .stmH) M.get)
  have hrow : ∀ {D : List Ent}, Qae D .stmH (some M.i) = some (M.rows.set done.length (⟨k, k + 1, k + 1 + 1, k + 1 + 1 + 1, k + 1 + 1 + 1 + 1, M.x.args, M.x.body, M.x.els⟩ : StmH)) → Qjs D .stmH (some M.i) done.length = some (⟨k, k + 1, k + 1 + 1, k + 1 + 1 + 1, k + 1 + 1 + 1 + 1, M.x.args, M.x.body, M.x.els⟩ : StmH) := fun hg => Qng hg (List.getElem?_set_self hlt)
  have g2 := hget o2 (fun hm => hout (by simp [hm]))
  rw [hrow g2, Qb]
  refine Ok.bnd (p1 M.x.body s2 r.2 r.1 ((hT2.only o1 ne2).only o2 (fun n hn hm => d1 n hm n (by simp [hn]) rfl)) n2 (by rw [e1]; omega) (by rw [e1]; omega)) fun r2 ⟨e2, t2, o3⟩ => ?_
  have g3 : Qae r2.2 .stmH (some M.i) = some (M.rows.set done.length (⟨k, k + 1, k + 1 + 1, k + 1 + 1 + 1, k + 1 + 1 + 1 + 1, M.x.args, M.x.body, M.x.els⟩ : StmH)) := Qnf (fun n hn => by injection hn with hn; rw [← hn]; exact o3.same _ (fun hm => hout (by simp [hm]))) g2
  rw [hrow g3, Qb]
  refine Ok.bnd (p2 M.x.els s3 r2.2 r2.1 (((hT3.only o1 ne3).only o2 (fun n hn hm => d1 n hm n (by simp [hn]) rfl)).only o3 (fun n hn hm => d23 n hm n hn rfl)) n3 (by rw [e2, e1]; omega) (by rw [e2, e1]; omega)) fun r3 ⟨e3, t3, o4⟩ => ?_
  have g4 : Qae r3.2 .stmH (some M.i) = some (M.rows.set done.length (⟨k, k + 1, k + 1 + 1, k + 1 + 1 + 1, k + 1 + 1 + 1 + 1, M.x.args, M.x.body, M.x.els⟩ : StmH)) := Qnf (fun n hn => by injection hn with hn; rw [← hn]; exact o4.same _ (fun hm => hout (by simp [hm]))) g3
  have tt1 : Tr r3.2 .expH M.x.args (mkXs (k + 1 + 1 + 1 + 1 + 1) as) s1 := (t1.only o3 (fun n hn hm => d1 n hn n (by simp [hm]) rfl)).only o4 (fun n hn hm => d1 n hn n (by simp [hm]) rfl)
  have tt2 : Tr r3.2 .stmH M.x.body (mkSs r.1 bd) s2 := t2.only o4 (fun n hn hm => d23 n hn n hm rfl)
  have oB : Only (M.i :: M.s) B r3.2 := by
   rw [hs]
   exact (((o1.mono (by simp)).trans (o2.mono fun n hn => by simp [hn])).trans (o3.mono fun n hn => by simp [hn])).trans (o4.mono fun n hn => by simp [hn])
  have hb2 := M.back (B := r3.2) (x' := (⟨k, k + 1, k + 1 + 1, k + 1 + 1 + 1, k + 1 + 1 + 1 + 1, M.x.args, M.x.body, M.x.els⟩ : StmH)) (y' := ⟨k, k + 1, k + 1 + 1, ⟨k + 1 + 1 + 1, k + 1 + 1 + 1 + 1, mkXs (k + 1 + 1 + 1 + 1 + 1) as⟩, mkSs r.1 bd, mkSs r2.1 el⟩) g4 ⟨_, _, _, s1, s2, s3, tt1, tt2, t3, rfl, hs⟩ oB
  rw [Rkg] at hb2
  have ho2 : Only ids A r3.2 := ho.trans (oB.mono fun n hn => by
   rcases List.mem_cons.1 hn with rfl | hn
   ·exact M.iin
   ·exact M.ins n hn)
  rw [Re (show (done.length : Int) < 9223372036854775807 by omega)]
  have ih := Rke nd hb rest (done ++ [⟨k, k + 1, k + 1 + 1, ⟨k + 1 + 1 + 1, k + 1 + 1 + 1 + 1, mkXs (k + 1 + 1 + 1 + 1 + 1) as⟩, mkSs r.1 bd, mkSs r2.1 el⟩]) r3.1 r3.2 (fun e he => hp e (List.mem_cons_of_mem _ he)) (by rw [List.append_assoc]; exact hb2) ho2 (by rw [e3, e2, e1]; omega) (by rw [e3, e2, e1]; omega)
  simp only [Za, Zc, Zn, Nat.zero_add] at ih
  refine ih.mono fun q ⟨q1, q2, q3⟩ => ⟨?_, ?_, q3⟩
  ·rw [q1, e3, e2, e1]; simp only [nSs, hnz]; omega
  ·have ek : k + 1 + 1 = k + 2 := by omega
   have ek3 : k + 1 + 1 + 1 = k + 3 := by omega
   have ek4 : k + 1 + 1 + 1 + 1 = k + 4 := by omega
   have ek5 : k + 1 + 1 + 1 + 1 + 1 = k + 5 := by omega
   have ea : r.1 = k + 5 + 2 * emXs as := by rw [e1]; omega
   have eb : r2.1 = k + 5 + 2 * emXs as + nSs bd := by rw [e2, e1]; omega
   have ec : r3.1 = k + nS e := by rw [e3, e2, e1, hnz]; omega
   rw [List.append_assoc, eb, ec, ea, ek5, ek4, ek3, ek] at q2
   have em : mkS k e = ⟨k, k + 1, k + 2, ⟨k + 3, k + 4, mkXs (k + 5) as⟩, mkSs (k + 5 + 2 * emXs as) bd, mkSs (k + 5 + 2 * emXs as + nSs bd) el⟩ := by rw [Rln, Rar, ea0, eb0, ec0]
   rw [mkSs, em]
   exact q2
theorem Rhz : ∀ (N : Nat) (l : List Stm), mSs l ≤ N → Rlg l
 | 0, l, hN => by
  intro h ids A k hT nd h0 hk
  apply Ok.le (Rcv _ _ _)
  have hl := Ri l
  have hc := hT.cnt
  have hnil : l = [] := List.eq_nil_of_length_eq_zero (by omega)
  subst hnil
  refine Ok.bnd (Rke (A := A) nd (by rw [hc]; simp) [] [] k A (by simp) hT (Only.refl _ _) h0 hk) fun r hr => Ok.of hr
 | N + 1, l, hN => by
  intro h ids A k hT nd h0 hk
  apply Ok.le (Rcv _ _ _)
  have hl := Ri l
  have hc := hT.cnt
  refine Ok.bnd (Rke (A := A) nd (by rw [hc]; omega) l [] k A (fun e he => ⟨Rhz N e.body (by have := Rz he; rw [Rez] at this; omega), Rhz N e.els (by have := Rz he; rw [Rez] at this; omega)⟩) hT (Only.refl _ _) h0 hk) fun r hr => Ok.of hr
theorem Rcw {l : List Stm} : Rlg l := Rhz _ l (Nat.le_refl _)
theorem Rlm {h : Hd} {ids : List Nat} {A : List Ent} {l : List Int} {k : Int} (hT : Tr A .int h l ids) (hl : (l.length : Int) ≤ 4294967296) (h0 : 0 ≤ k) (hk : k + l.length ≤ 4611686018427387904) : Ok (Rbe h k A) fun r => r.1 = k + l.length ∧ Tr r.2 .int h (mkI k l) ids ∧ Only ids A r.2 := by
 obtain ⟨rows, ss, T, hids⟩ := Qlu.1 hT
 have hlen := T.len
 have hls := T.lens
 have hrow : ∀ j, j < rows.length → l[j]? = rows[j]? ∧ ss[j]? = some [] := by
  intro j hj
  have h1 : rows[j]? = some rows[j] := List.getElem?_eq_getElem hj
  have h2 : l[j]? = some (l[j]'(by omega)) := List.getElem?_eq_getElem _
  have h3 : ss[j]? = some (ss[j]'(by omega)) := List.getElem?_eq_getElem _
  obtain ⟨q1, q2⟩ := (show l[j]'(by omega) = rows[j] ∧ ss[j]'(by omega) = [] from T.row j _ _ _ h1 h2 h3)
  exact ⟨by rw [h1, h2, q1], by rw [h3, q2]⟩
 have hlr : l = rows := by
  apply List.ext_getElem?
  intro j
  by_cases hj : j < rows.length
  ·exact (hrow j hj).1
  ·rw [List.getElem?_eq_none (by omega), List.getElem?_eq_none (by omega)]
 subst hlr
 have hss : ss.flatten = [] := by
  rw [List.flatten_eq_nil_iff]
  intro s hs
  obtain ⟨j, hj⟩ := List.getElem?_of_mem hs
  have hlt := (List.getElem?_eq_some_iff.1 hj).1
  have := (hrow j (by omega)).2
  rw [hj] at this
  injection this
 rw [hss, List.append_nil] at hids
 refine (Rfh T.get T.cnt (by omega) h0 hk).mono fun r ⟨e1, hm⟩ => ⟨e1, ?_, hm.len, fun n hn => ?_⟩
 ·have T2 : Ls r.2 .int h (mkI k l) (mkI k l) (List.replicate l.length []) := ⟨hm.get, by rw [Ria]; exact T.cnt, rfl, by simp [Ria], fun j x y s hx hy hs => by
   rw [hx] at hy
   injection hy with hy
   rw [List.getElem?_replicate] at hs
   split at hs
   ·injection hs with hs; exact ⟨hy.symm, hs.symm⟩
   ·cases hs⟩
  have := T2.tr
  rw [hids]
  simpa using this
 ·by_cases hlt : n < A.length
  ·exact hm.ext.same n hlt fun e => hn (by rw [hids, e]; simp)
  ·rw [List.getElem?_eq_none (by rw [hm.len]; omega), List.getElem?_eq_none (by omega)]
def HeldX (l : List Exp) : Prop := ∀ k : Int, 0 ≤ k → k + 2 * emXs l ≤ 4611686018427387904 → Rby (mkXs k l) k = some (k + 2 * emXs l)
theorem Rkd {L : List Exp} (hL : (L.length : Int) ≤ 4611686018427387904) : ∀ (rest done : List Exp) (k : Int), (∀ e ∈ rest, HeldX e.args) → L = done ++ mkXs k rest → 0 ≤ k → k + 2 * emXs rest ≤ 4611686018427387904 → Ro L k done.length = some (.inl (k + 2 * emXs rest))
 | [], done, k, _, hl, h0, hk => by
  subst hl
  apply Rcg
  simp [mkXs, emXs]
 | e :: rest, done, k, hp, hl, h0, hk => by
  apply Rcg
  simp only [emXs, Rar] at hk
  have hlen : L.length = done.length + (rest.length + 1) := by rw [hl]; simp [Rjh]
  have hi : (done.length : Int) < (L.length : Int) := by omega
  have hget : L[done.length]? = some (mkX k e) := by rw [hl]; exact Rfq done _ _
  have hh := hp e List.mem_cons_self (k + 2) (by omega) (by omega)
  have ek : k + 1 + 1 = k + 2 := by omega
  have ih := Rkd hL rest (done ++ [mkX k e]) (k + 2 + 2 * emX e) (fun e he => hp e (List.mem_cons_of_mem _ he)) (by rw [List.append_assoc]; exact hl) (by omega) (by rw [Rar]; omega)
  simp only [Za, Zc, Zn, Nat.zero_add, Rar] at ih
  have hneg : ¬ (k + 2 + 2 * (emXs e.args : Int) < 0) := by omega
  simp only [hi, Zy, Zt, geti_nat', hget, Qb, Rlo, Zv, Zf, wrap_id (n := k + 1) (by omega) (by omega), ek, wrap_id (n := k + 2) (by omega) (by omega), hh, hneg, Zz, Re (show (done.length : Int) < 9223372036854775807 by omega), ih, emXs]
  rw [show k + 2 + 2 * (emXs e.args : Int) + 2 * emXs rest = k + 2 * ((1 + emXs e.args + emXs rest : Nat) : Int) by omega, ← Rar]
theorem Rjn : ∀ (N : Nat) (l : List Exp), emXs l ≤ N → HeldX l
 | 0, l, hN => by
  intro k h0 hk
  have hl := Rau l
  have hnil : l = [] := List.eq_nil_of_length_eq_zero (by omega)
  subst hnil
  apply Rdv
  have e : Ro (mkXs k []) k 0 = some (.inl (k + 2 * emXs [])) := Rkd (by simp [mkXs]) [] [] k (by simp) rfl h0 hk
  rw [e]; simp [selm]
 | N + 1, l, hN => by
  intro k h0 hk
  have hl := Rau l
  apply Rdv
  have e : Ro (mkXs k l) k 0 = some (.inl (k + 2 * emXs l)) := Rkd (by rw [Rjh]; omega) l [] k (fun e he => Rjn N e.args (by have := Reh he; rw [Rar] at this; omega)) rfl h0 hk
  rw [e]; simp [selm]
theorem Rga {l : List Exp} : HeldX l := Rjn _ l (Nat.le_refl _)
def Rlf (l : List Stm) : Prop := ∀ k : Int, 0 ≤ k → k + 5 * mSs l ≤ 4611686018427387904 → Rat (mkSs k l) k = some (k + nSs l)
theorem Rkc {L : List Stm} (hL : (L.length : Int) ≤ 4611686018427387904) : ∀ (rest done : List Stm) (k : Int), (∀ e ∈ rest, Rlf e.body ∧ Rlf e.els) → L = done ++ mkSs k rest → 0 ≤ k → k + 5 * mSs rest ≤ 4611686018427387904 → Rp L k done.length = some (.inl (k + nSs rest))
 | [], done, k, _, hl, h0, hk => by
  subst hl
  apply Rch
  simp [mkSs, nSs]
 | e :: rest, done, k, hp, hl, h0, hk => by
  apply Rch
  simp only [mSs, Rez, Rar] at hk
  have hle1 := Rgk e.body
  have hle2 := Rgk e.els
  have hlen : L.length = done.length + (rest.length + 1) := by rw [hl]; simp [Rjg]
  have hi : (done.length : Int) < (L.length : Int) := by omega
  have hget : L[done.length]? = some (mkS k e) := by rw [hl]; exact Rfq done _ _
  have hx := Rga (l := e.e.args) (k + 5) (by omega) (by omega)
  have h1 := (hp e List.mem_cons_self).1 (k + 5 + 2 * emXs e.e.args) (by omega) (by omega)
  have h2 := (hp e List.mem_cons_self).2 (k + 5 + 2 * emXs e.e.args + nSs e.body) (by omega) (by omega)
  have ek2 : k + 1 + 1 = k + 2 := by omega
  have ek3 : k + 2 + 1 = k + 3 := by omega
  have ek4 : k + 3 + 1 = k + 4 := by omega
  have ek5 : k + 4 + 1 = k + 5 := by omega
  have ih := Rkc hL rest (done ++ [mkS k e]) (k + nS e) (fun e he => hp e (List.mem_cons_of_mem _ he)) (by rw [List.append_assoc]; exact hl) (by omega) (by rw [nS_eq, Rar]; omega)
  simp only [Za, Zc, Zn, Nat.zero_add] at ih
  have n1 : ¬ (k + 5 + 2 * (emXs e.e.args : Int) < 0) := by omega
  have n2 : ¬ (k + 5 + 2 * (emXs e.e.args : Int) + nSs e.body < 0) := by omega
  have n3 : ¬ (k + (nS e : Int) < 0) := by omega
  have en : k + 5 + 2 * (emXs e.e.args : Int) + nSs e.body + nSs e.els = k + nS e := by rw [nS_eq, Rar]; omega
  simp only [hi, Zy, Zt, geti_nat', hget, Qb, Rln, Zv, Zf, wrap_id (n := k + 1) (by omega) (by omega), ek2, wrap_id (n := k + 2) (by omega) (by omega), ek3, wrap_id (n := k + 3) (by omega) (by omega), ek4, wrap_id (n := k + 4) (by omega) (by omega), ek5, wrap_id (n := k + 5) (by omega) (by omega), hx, n1, Zz, Rar, h1, n2, h2, en, n3, Re (show (done.length : Int) < 9223372036854775807 by omega), ih, nSs]
  rw [show k + (nS e : Int) + nSs rest = k + ((nS e + nSs rest : Nat) : Int) by omega]
theorem Rhm : ∀ (N : Nat) (l : List Stm), mSs l ≤ N → Rlf l
 | 0, l, hN => by
  intro k h0 hk
  have hl := Ri l
  have hnil : l = [] := List.eq_nil_of_length_eq_zero (by omega)
  subst hnil
  apply Rdw
  have e : Rp (mkSs k []) k 0 = some (.inl (k + nSs [])) := Rkc (by simp [mkSs]) [] [] k (by simp) rfl h0 hk
  rw [e]; simp [selm]
 | N + 1, l, hN => by
  intro k h0 hk
  have hl := Ri l
  apply Rdw
  have e : Rp (mkSs k l) k 0 = some (.inl (k + nSs l)) := Rkc (by rw [Rjg]; omega) l [] k (fun e he => ⟨Rhm N e.body (by have := Rz he; rw [Rez] at this; omega), Rhm N e.els (by have := Rz he; rw [Rez] at this; omega)⟩) rfl h0 hk
  rw [e]; simp [selm]
theorem Rgb {l : List Stm} : Rlf l := Rhm _ l (Nat.le_refl _)
def ToX (e : Exp) : Prop := ∀ A : List Ent, Ok (Rcm e A) fun r => ∃ s, MkR A .expH r.1 e r.2 s
theorem Rkp {α : Type} {b l : List α} {i : Nat} (hi : i < l.length) (hb : b.length = l.length) (ht : b.take i = l.take i) : (b.set i l[i]).take (i + 1) = l.take (i + 1) := by
 rw [Rhi (by simpa using (by omega : i < b.length)), Rhi hi, List.take_set_of_le (by omega), ht]
 simp
theorem Rlr {l : List Exp} {A : List Ent} {h : Hd} (hl : (l.length : Int) ≤ 4294967296) (hp : ∀ e ∈ l, ToX e) : ∀ (d i : Nat) (b : List Exp) (B : List Ent), i + d = l.length → b.length = l.length → b.take i = l.take i → (∃ ids, Mk A .expH b h B ids) →
  Ok (Rao l h i B) fun r => r.1 = h ∧ ∃ ids, Mk A .expH l h r.2 ids
 | 0, i, b, B, hd, hb, ht, hm => by
  apply Ok.le (Rci _ _ _ _)
  have hi : ¬ ((i : Int) < l.length) := by omega
  have : b = l := by rw [List.take_of_length_le (by omega), List.take_of_length_le (by omega)] at ht; exact ht
  subst this
  simp only [hi, Zz, Zf]
  exact Ok.of ⟨rfl, hm⟩
 | d + 1, i, b, B, hd, hb, ht, ⟨ids, hm⟩ => by
  apply Ok.le (Rci _ _ _ _)
  have hi : i < l.length := by omega
  have hi' : (i : Int) < l.length := by omega
  have hc := hm.tr.cnt
  have hn : (i : Int) < ((h.n : Nat) : Int) := by omega
  simp only [hi', Zy, Zt, Rc hi, Qb, Re (show (i : Int) < 9223372036854775807 by omega)]
  refine Ok.bnd (hp _ (List.getElem_mem hi) B) fun r ⟨s, hr⟩ => ?_
  rw [idxN_eq (show 0 ≤ (i : Int) by omega) hn, Qb, Int.toNat_natCast]
  obtain ⟨⟨z, hz⟩, hput⟩ := hm.put flatC_expH (j := i) (by omega) hr
  rw [hz, Qb]
  exact Rlr hl hp d (i + 1) (b.set i l[i]) _ (by omega) (by simpa using hb) (Rkp hi hb ht) hput
theorem Rky {n : Nat} (h : (n : Int) ≤ 4294967296) : made (n : Int) = some n := by unfold made; rw [if_pos (by omega)]; simp
theorem Rgd {l : List Exp} (hl : (l.length : Int) ≤ 4294967296) (hp : ∀ e ∈ l, ToX e) (A : List Ent) : Ok (Rdr l A) fun r => ∃ ids, Mk A .expH l r.1 r.2 ids := by
 apply Ok.le (Rgc _ _)
 rw [Rky hl, Qb]
 have h0 := Mk.zero (A := A) flatC_expH zero_exp l.length
 refine Ok.bnd (Rlr hl hp l.length 0 _ _ (by omega) (by simp) (by simp) h0) fun r ⟨e1, hr⟩ => ?_
 exact Ok.of (by dsimp only; rw [e1]; exact hr)
theorem Rgz : ∀ e : Exp, emX e ≤ 4294967296 → ToX e := by
 refine Exp.ind fun e ih hm A => ?_
 apply Ok.le (Rgy e A)
 rw [Rar] at hm
 have hlen := Rau e.args
 refine Ok.bnd (Rgd (l := e.args) (by omega) (fun a ha => ih a ha (by have := Reh ha; omega)) A) fun r ⟨ids, hr⟩ => ?_
 have ee : (⟨e.op, e.n, e.args⟩ : Exp) = e := by cases e; rfl
 have hR := MkR.exp hr e.op e.n
 rw [ee] at hR
 exact Ok.of ⟨ids, hR⟩
def ToS (e : Stm) : Prop := ∀ A : List Ent, Ok (Reb e A) fun r => ∃ s, MkR A .stmH r.1 e r.2 s
theorem Rlq {l : List Stm} {A : List Ent} {h : Hd} (hl : (l.length : Int) ≤ 4294967296) (hp : ∀ e ∈ l, ToS e) : ∀ (d i : Nat) (b : List Stm) (B : List Ent), i + d = l.length → b.length = l.length → b.take i = l.take i → (∃ ids, Mk A .stmH b h B ids) →
  Ok (Rap l h i B) fun r => r.1 = h ∧ ∃ ids, Mk A .stmH l h r.2 ids
 | 0, i, b, B, hd, hb, ht, hm => by
  apply Ok.le (Rcj _ _ _ _)
  have hi : ¬ ((i : Int) < l.length) := by omega
  have : b = l := by rw [List.take_of_length_le (by omega), List.take_of_length_le (by omega)] at ht; exact ht
  subst this
  simp only [hi, Zz, Zf]
  exact Ok.of ⟨rfl, hm⟩
 | d + 1, i, b, B, hd, hb, ht, ⟨ids, hm⟩ => by
  apply Ok.le (Rcj _ _ _ _)
  have hi : i < l.length := by omega
  have hi' : (i : Int) < l.length := by omega
  have hc := hm.tr.cnt
  have hn : (i : Int) < ((h.n : Nat) : Int) := by omega
  simp only [hi', Zy, Zt, Rc hi, Qb, Re (show (i : Int) < 9223372036854775807 by omega)]
  refine Ok.bnd (hp _ (List.getElem_mem hi) B) fun r ⟨s, hr⟩ => ?_
  rw [idxN_eq (show 0 ≤ (i : Int) by omega) hn, Qb, Int.toNat_natCast]
  obtain ⟨⟨z, hz⟩, hput⟩ := hm.put flatC_stmH (j := i) (by omega) hr
  rw [hz, Qb]
  exact Rlq hl hp d (i + 1) (b.set i l[i]) _ (by omega) (by simpa using hb) (Rkp hi hb ht) hput
theorem Rbu {l : List Stm} (hl : (l.length : Int) ≤ 4294967296) (hp : ∀ e ∈ l, ToS e) (A : List Ent) : Ok (Rah l A) fun r => ∃ ids, Mk A .stmH l r.1 r.2 ids := by
 apply Ok.le (Rge _ _)
 rw [Rky hl, Qb]
 have h0 := Mk.zero (A := A) flatC_stmH zero_stm l.length
 refine Ok.bnd (Rlq hl hp l.length 0 _ _ (by omega) (by simp) (by simp) h0) fun r ⟨e1, hr⟩ => ?_
 exact Ok.of (by dsimp only; rw [e1]; exact hr)
theorem Rhb : ∀ e : Stm, mS e ≤ 4294967296 → ToS e := by
 refine Stm.ind fun e ih1 ih2 hm A => ?_
 apply Ok.le (Rha e A)
 rw [Rez] at hm
 have hl1 := Ri e.body
 have hl2 := Ri e.els
 refine Ok.bnd (Rgz e.e (by omega) A) fun r ⟨s1, h1⟩ => ?_
 refine Ok.bnd (Rbu (l := e.body) (by omega) (fun a ha => ih1 a ha (by have := Rz ha; omega)) r.2) fun r2 ⟨s2, h2⟩ => ?_
 refine Ok.bnd (Rbu (l := e.els) (by omega) (fun a ha => ih2 a ha (by have := Rz ha; omega)) r2.2) fun r3 ⟨s3, h3⟩ => ?_
 obtain ⟨as, t1, e1⟩ := (show ∃ as, Tr r.2 .expH r.1.args as s1 ∧ e.e = ⟨r.1.op, r.1.n, as⟩ from h1.rw_)
 have m1 : Mk A .expH as r.1.args r.2 s1 := ⟨t1, h1.nd, h1.new, h1.grow⟩
 have g2 := h2.grow
 have g3 := h3.grow
 have m1' := (m1.keep g2).keep g3
 have m2' := (h2.base m1.grow).keep g3
 have m3' := h3.base (m1.grow.trans g2)
 have hR := MkR.stm m1' m2' m3' (m1.apart h2.new) (m1.apart fun n hn => Nat.le_trans g2.len (h3.new n hn)) (h2.apart h3.new) e.kind e.var e.box r.1.op r.1.n
 have ee : (⟨e.kind, e.var, e.box, ⟨r.1.op, r.1.n, as⟩, e.body, e.els⟩ : Stm) = e := by
  rw [← e1]; exact Rhh _
 rw [ee] at hR
 exact Ok.of ⟨_, hR⟩
theorem Rgf {l : List Stm} (hm : mSs l ≤ 4294967296) (A : List Ent) : Ok (Rah l A) fun r => ∃ ids, Mk A .stmH l r.1 r.2 ids :=
 Rbu (by have := Ri l; omega) (fun e he => Rhb e (by have := Rz he; omega)) A
def CpX (e : Exp) : Prop := ∀ A : List Ent, Ok (Rba e A) fun r => ∃ s, MkR A .expH r.1 e r.2 s
theorem Rhl {l : List Exp} {A : List Ent} {x0 x1 o n : Int} {l0 : Hd} (hl : (l.length : Int) ≤ 4294967295) (hp : ∀ e ∈ l, CpX e) : ∀ (d i : Nat) (h : Hd) (B : List Ent), i + d = l.length → (∃ ids, Mk A .expH (l.take i) h B ids) →
  Ok (Rai l l.length i x0 x1 l0 o n h B) fun r => r.2.2.2.1 = o ∧ r.2.2.2.2.1 = n ∧ ∃ ids, Mk A .expH l r.2.2.2.2.2.1 r.2.2.2.2.2.2 ids
 | 0, i, h, B, hd, hm => by
  apply Ok.le (Rcb _ _ _ _ _ _ _ _ _ _)
  have hi : ¬ ((i : Int) < l.length) := by omega
  simp only [hi, Zz, Zf]
  rw [List.take_of_length_le (by omega)] at hm
  exact Ok.of ⟨rfl, rfl, hm⟩
 | d + 1, i, h, B, hd, ⟨ids, hm⟩ => by
  apply Ok.le (Rcb _ _ _ _ _ _ _ _ _ _)
  have hi : i < l.length := by omega
  have hi' : (i : Int) < l.length := by omega
  have hc := hm.tr.cnt
  simp only [List.length_take] at hc
  simp only [hi', Zy, Zt, Rc hi, Qb, Re (show (i : Int) < 9223372036854775807 by omega)]
  refine Ok.bnd (hp _ (List.getElem_mem hi) B) fun r ⟨s, hr⟩ => ?_
  refine Ok.bnd (hm.app flatC_expH hr (by omega)) fun B3 hB3 => ?_
  rw [← Rhi hi] at hB3
  exact Rhl hl hp d (i + 1) _ B3 (by omega) hB3
theorem Rfe : ∀ e : Exp, emX e ≤ 4294967295 → CpX e := by
 refine Exp.ind fun e ih hm A => ?_
 apply Ok.le (Rfd e A)
 rw [Rar] at hm
 have hlen := Rau e.args
 refine Ok.bnd (Rhl (l := e.args) (A := A) (x0 := 0) (x1 := 0) (o := e.op) (n := e.n) (l0 := ⟨none, 0⟩) (by omega) (fun a ha => ih a ha (by have := Reh ha; omega)) e.args.length 0 ⟨none, 0⟩ A (by omega) ⟨[], Mk.nil _ (Grow.refl A)⟩) fun r ⟨e1, e2, ids, hr⟩ => ?_
 have ee : (⟨e.op, e.n, e.args⟩ : Exp) = e := by cases e; rfl
 have hR := MkR.exp hr e.op e.n
 rw [ee] at hR
 exact Ok.of ⟨ids, by dsimp only; rw [e1, e2]; exact hR⟩
def CpS (l : List Stm) : Prop := ∀ A : List Ent, Ok (Raf l A) fun r => ∃ ids, Mk A .stmH l r.1 r.2 ids
theorem Rgn {l : List Stm} {A : List Ent} (hl : (l.length : Int) ≤ 4294967295) (hp : ∀ e ∈ l, CpS e.body ∧ CpS e.els ∧ emX e.e ≤ 4294967295) : ∀ (d i : Nat) (h : Hd) (B : List Ent), i + d = l.length → (∃ ids, Mk A .stmH (l.take i) h B ids) →
  Ok (Rab h l l.length i B) fun r => ∃ ids, Mk A .stmH l r.1 r.2 ids
 | 0, i, h, B, hd, hm => by
  apply Ok.le (Rbm _ _ _ _ _)
  have hi : ¬ ((i : Int) < l.length) := by omega
  simp only [hi, Zz, Zf]
  rw [List.take_of_length_le (by omega)] at hm
  exact Ok.of hm
 | d + 1, i, h, B, hd, ⟨ids, hm⟩ => by
  apply Ok.le (Rbm _ _ _ _ _)
  have hi : i < l.length := by omega
  have hi' : (i : Int) < l.length := by omega
  have hc := hm.tr.cnt
  simp only [List.length_take] at hc
  obtain ⟨p1, p2, p3⟩ := hp _ (List.getElem_mem hi)
  simp only [hi', Zy, Zt, Rc hi, Qb, Re (show (i : Int) < 9223372036854775807 by omega)]
  refine Ok.bnd (p1 B) fun r1 ⟨s1, h1⟩ => ?_
  refine Ok.bnd (p2 r1.2) fun r2 ⟨s2, h2⟩ => ?_
  refine Ok.bnd (Rfe l[i].e p3 r2.2) fun r3 ⟨s3, h3⟩ => ?_
  obtain ⟨as, t3, e3⟩ := (show ∃ as, Tr r3.2 .expH r3.1.args as s3 ∧ l[i].e = ⟨r3.1.op, r3.1.n, as⟩ from h3.rw_)
  have m3 : Mk r2.2 .expH as r3.1.args r3.2 s3 := ⟨t3, h3.nd, h3.new, h3.grow⟩
  have g2 := h2.grow
  have g3 := h3.grow
  have m1' := (h1.keep g2).keep g3
  have m2' := (h2.base h1.grow).keep g3
  have m3' := m3.base (h1.grow.trans g2)
  have hR := MkR.stm m3' m1' m2' (fun n hn hm => h1.apart (fun n hn => Nat.le_trans g2.len (m3.new n hn)) n hm hn) (fun n hn hm => h2.apart m3.new n hm hn) (h1.apart h2.new) l[i].kind l[i].var l[i].box r3.1.op r3.1.n
  have ee : (⟨l[i].kind, l[i].var, l[i].box, ⟨r3.1.op, r3.1.n, as⟩, l[i].body, l[i].els⟩ : Stm) = l[i] := by
   rw [← e3]; exact Rhh _
  rw [ee] at hR
  refine Ok.bnd (hm.app flatC_stmH hR (by omega)) fun B3 hB3 => ?_
  rw [← Rhi hi] at hB3
  exact Rgn hl hp d (i + 1) _ B3 (by omega) hB3
theorem Rax {l : List Stm} (hl : (l.length : Int) ≤ 4294967295) (hp : ∀ e ∈ l, CpS e.body ∧ CpS e.els ∧ emX e.e ≤ 4294967295) : CpS l := by
 intro A
 apply Ok.le (Rev l A)
 exact Ok.bnd (Rgn (A := A) hl hp l.length 0 ⟨none, 0⟩ A (by omega) ⟨[], Mk.nil _ (Grow.refl A)⟩) fun r hr => Ok.of hr
theorem Ree : ∀ s : Stm, mS s ≤ 4294967295 → CpS s.body ∧ CpS s.els ∧ emX s.e ≤ 4294967295 := by
 refine Stm.ind fun s ih1 ih2 hm => ?_
 rw [Rez] at hm
 have hl1 := Ri s.body
 have hl2 := Ri s.els
 exact ⟨Rax (by omega) fun e he => ih1 e he (by have := Rz he; omega), Rax (by omega) fun e he => ih2 e he (by have := Rz he; omega), by omega⟩
theorem Rew {l : List Stm} (hm : mSs l ≤ 4294967295) : CpS l :=
 Rax (by have := Ri l; omega) fun e he => Ree e (by have := Rz he; omega)
theorem Rfu {l : List Stm} (hm : mSs l ≤ 4294967295) (A : List Ent) : Ok (Rdp l A) fun r => r.2.1 = (Reg l).2 ∧ ∃ s, MkR A .tkH r.1 (Reg l).1 r.2.2 s := by
 apply Ok.le (Rft l A)
 have hv : Rak l = some (stOk l) := by
  apply Rdg
  rw [Rdi l (by omega)]; rfl
 rw [hv, Qb]
 refine Ok.bif (fun hc => ?_) (fun hc => ?_)
 ·have hc : stOk l = false := by simpa using hc
  have e : Reg l = (⟨[], []⟩, false) := by unfold Reg; rw [hc]; rfl
  rw [e]
  exact Ok.of ⟨rfl, _, MkR.tk (Mk.nil .int (Grow.refl A)) (Mk.nil .stmH (Grow.refl A)) (by simp)⟩
 ·have hc : stOk l = true := by simpa using hc
  have e : Reg l = (⟨[0, 0, 0, 0], l⟩, true) := by unfold Reg; rw [if_pos hc]
  rw [e]
  refine Ok.bnd (Rew hm _) fun r ⟨s2, h2⟩ => ?_
  obtain ⟨ids, h0⟩ := Mk.zero (A := r.2) flatC_int zero_int 4
  exact Ok.of ⟨rfl, _, MkR.tk (h0.base h2.grow) (h2.keep h0.grow) (fun n hn hm => h2.apart h0.new n hm hn)⟩
theorem Rw.tk_view {A : List Ent} {x : TkH} {y : Tk} {s : List Nat} (h : Rw A .tkH x y s) (hn : s.Nodup) : Qlx A .int x.vars.id = some y.vars ∧ Qlx A .stmH x.rest.id = some y.rest := by
 obtain ⟨l, r, s1, s2, h1, h2, rfl, rfl⟩ := (show ∃ l r s1 s2, Tr A .int x.vars l s1 ∧ Tr A .stmH x.rest r s2 ∧ y = ⟨l, r⟩ ∧ s = s1 ++ s2 from h)
 rw [List.nodup_append] at hn
 exact ⟨h1.view hn.1, h2.view hn.2.1⟩
def mkT (k : Int) (t : Tk) : Tk := ⟨mkI k t.vars, mkSs (k + t.vars.length) t.rest⟩
def nT (t : Tk) : Nat := t.vars.length + nSs t.rest
theorem Rfj {A : List Ent} {x : TkH} {y : Tk} {s : List Nat} {k : Int} (h : Rw A .tkH x y s) (hn : s.Nodup) (h0 : 0 ≤ k) (hv : (y.vars.length : Int) ≤ 4294967296) (hk : k + y.vars.length + 5 * mSs y.rest ≤ 4611686018427387904) : Ok (Rcx x k A) fun r => r.1 = k + nT y ∧ Rw r.2 .tkH x (mkT k y) s ∧ Only s A r.2 := by
 apply Ok.le (Rfi x k A)
 obtain ⟨l, r, s1, s2, h1, h2, rfl, rfl⟩ := (show ∃ l r s1 s2, Tr A .int x.vars l s1 ∧ Tr A .stmH x.rest r s2 ∧ y = ⟨l, r⟩ ∧ s = s1 ++ s2 from h)
 rw [List.nodup_append] at hn
 obtain ⟨n1, n2, d⟩ := hn
 dsimp only at hv hk
 refine Ok.bnd (Rlm h1 hv h0 (by omega)) fun r1 ⟨e1, t1, o1⟩ => ?_
 refine Ok.bnd (Rcw x.rest s2 r1.2 r1.1 (h2.only o1 fun n hn hm => d n hm n hn rfl) n2 (by omega) (by omega)) fun r2 ⟨e2, t2, o2⟩ => ?_
 refine Ok.of ⟨by dsimp only [nT]; rw [e2, e1]; omega, ⟨_, _, s1, s2, t1.only o2 (fun n hn hm => d n hn n hm rfl), t2, by rw [e1]; rfl, rfl⟩, (o1.mono (by simp; intro n hn; exact .inl hn)).trans (o2.mono (by simp; intro n hn; exact .inr hn))⟩
theorem Rgw {y : Tk} {k : Int} (h0 : 0 ≤ k) (hv : (y.vars.length : Int) ≤ 4294967296) (hk : k + y.vars.length + 5 * mSs y.rest ≤ 4611686018427387904) : Rcl (mkT k y) k = some (k + nT y) := by
 apply Rgx
 have n1 : ¬ (k + (y.vars.length : Int) < 0) := by omega
 have n2 : ¬ (k + (y.vars.length : Int) + nSs y.rest < 0) := by omega
 simp only [mkT, Rgu (l := y.vars) (by omega) h0 (by omega), Qb, n1, Zz, Zf, Rgb (l := y.rest) (k + y.vars.length) (by omega) (by omega), n2, nT]
 congr 1
 omega
theorem laws_FnExactTaskNew_eq (a : List Stm) (hl : (a.length : Int) ≤ 9223372036854775807) (hw : ∀ e ∈ a, wfS e) : laws_FnExactTaskNew a = some true := by
 apply Ref
 apply Ok.some
 refine Ok.bnd (Ok.eq (Rcz hl (fun e he => Rio e (hw e he)) (by omega) (Int.le_refl _))) fun r1 e1 => ?_
 subst e1
 refine Ok.bif (fun _ => Ok.of rfl) (fun hc => ?_)
 have hm : (mSs a : Int) ≤ 1048576 := by
  simp only [decide_eq_false_iff_not] at hc
  rw [Rlk (by omega)] at hc
  omega
 have hval : (Reg a).1.vars.length ≤ 4 ∧ mSs (Reg a).1.rest ≤ mSs a := by
  unfold Reg
  split
  ·exact ⟨by simp, Nat.le_refl _⟩
  ·exact ⟨by simp, by simp [mSs]⟩
 refine Ok.bnd (Ok.eq (Rdb (a := a) (by omega))) fun r2 e2 => ?_
 rw [e2]
 refine Ok.bnd (Ok.eq (Rid (by omega))) fun r3 e3 => ?_
 subst e3
 refine Ok.bnd (Rgf (l := a) (by omega) []) fun r4 ⟨i4, h4⟩ => ?_
 rw [h4.view, Qb]
 refine Ok.bnd (Rfu (l := a) (by omega) _) fun r6 ⟨e6, i6, h6⟩ => ?_
 refine Ok.bnd (join_ok h6.grow) fun B7 ⟨g7, l7, s7⟩ => ?_
 have h7 := h6.join g7 s7
 have v7 := Rw.tk_view h7.rw_ h7.nd
 rw [v7.1, Qb, v7.2, Qb, e6]
 have heq : Rbr (Reg a).1 (Reg a).1 = some true := Rgt (by omega)
 refine Ok.bnd (Ok.eq heq) fun r10 e10 => ?_
 subst e10
 refine Ok.bif (fun h => absurd h (by simp)) (fun _ => ?_)
 refine Ok.bif (fun h => absurd h (by simp)) (fun _ => ?_)
 refine Ok.bnd (Ok.eq (Rdb (a := a) (by omega))) fun r11 e11 => ?_
 rw [e11]
 have h4' := h4.keep g7
 rw [h4'.view, Qb]
 refine Ok.bnd (Ok.eq (Rdu (a := a) (by omega))) fun r13 e13 => ?_
 subst e13
 refine Ok.bif (fun h => absurd h (by simp)) (fun _ => ?_)
 have hns := Rgk a
 refine Ok.bnd (Rcw (l := a) r4.1 i4 B7 1 h4'.tr h4'.nd (by omega) (by omega)) fun r14 ⟨e14, _, o14⟩ => ?_
 refine Ok.bif (fun h => absurd h (by simp only [Ze]; omega)) (fun _ => ?_)
 have h15 : Rw r14.2 .tkH r6.1 (Reg a).1 i6 := h7.rw_.only o14 (fun n hn hm => h4.apart h7.new n hm hn)
 have v15 := Rw.tk_view h15 h7.nd
 rw [v15.1, Qb, v15.2, Qb]
 refine Ok.bnd (Ok.eq heq) fun r17 e17 => ?_
 subst e17
 refine Ok.bif (fun h => absurd h (by simp)) (fun _ => ?_)
 refine Ok.bif (fun h => absurd h (by simp)) (fun _ => ?_)
 refine Ok.bnd (Rfj (k := 1) h15 h7.nd (by omega) (by omega) (by omega)) fun r18 ⟨e18, h18, _⟩ => ?_
 have v18 := Rw.tk_view h18 h7.nd
 rw [v18.1, Qb, v18.2, Qb]
 have hheld := Rgw (y := (Reg a).1) (k := 1) (by omega) (by omega) (by omega)
 have hnn : ¬ (1 + (nT (Reg a).1 : Int) < 0) := by omega
 refine Ok.bnd (Ok.eq hheld) fun r21 e21 => ?_
 subst e21
 refine Ok.bif (fun h => absurd h (by simp only [Ze]; omega)) (fun _ => ?_)
 refine Ok.bif (fun h => absurd h (by simp [e18])) (fun _ => ?_)
 refine Ok.bnd (Ok.eq (Rdb (a := a) (by omega))) fun r22 e22 => ?_
 rw [e22]
 refine Ok.bnd (Ok.eq (Rhp (by omega))) fun r23 e23 => ?_
 subst e23
 refine Ok.bnd (Ok.eq heq) fun r24 e24 => ?_
 subst e24
 refine Ok.bif (fun h => absurd h (by simp)) (fun _ => ?_)
 refine Ok.bif (fun h => absurd h (by simp)) (fun _ => ?_)
 rw [Qb, Qb]
 refine Ok.bnd (Ok.eq hheld) fun r27 e27 => ?_
 subst e27
 refine Ok.bif (fun h => absurd h (by simp only [Ze]; omega)) (fun _ => ?_)
 refine Ok.bif (fun h => absurd h (by simp [e18])) (fun _ => ?_)
 exact Ok.of rfl
end Go.TFnExactTaskNew