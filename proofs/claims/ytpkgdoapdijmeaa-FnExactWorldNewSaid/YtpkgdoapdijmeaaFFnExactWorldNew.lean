/- The plain law: what the functions answer. -/
import Derived.Test.YtpkgdoapdijmeaaDFnExactWorldNewE0
import Derived.Test.YtpkgdoapdijmeaaDFnExactWorldNewE1
import Derived.Test.YtpkgdoapdijmeaaDFnExactWorldNewE2
import Derived.Test.YtpkgdoapdijmeaaTvRow2
import Derived.Test.YtpkgdoapdijmeaaTvRow5
import Derived.Test.YtpkgdoapdijmeaaLkU
set_option linter.unusedVariables false
set_option linter.unusedSimpArgs false
namespace Go.TFnExactWorldNew
open Go Go.RowKit Go.Vs Go.Tv
theorem Rcl (a b c : Int) : Rdg a b c = some (decide (b ≤ a ∧ a ≤ c)) := by
 apply Rqy
 by_cases h : b ≤ a <;> simp [h]
theorem Rom (a : Int) : Riq a = some (decide (1 ≤ a ∧ a ≤ 12)) := by
 apply Ron; simp [Rcl]
theorem Rnt (a : Int) : Rid a = some (decide (1 ≤ a ∧ a ≤ 12)) := by
 apply Rnu
 by_cases h : 1 ≤ a <;> simp [h]
theorem Ra {α : Type} {l : List α} {i : Nat} (h : i < l.length) : geti l (i : Int) = some l[i] := by
 rw [geti_nat', List.getElem?_eq_getElem h]
theorem Rb {i : Nat} (h : (i : Int) < 9223372036854775807) : wrap64 ((i : Int) + 1) = ((i + 1 : Nat) : Int) := by
 rw [wrap_id (by omega) (by omega)]; omega
theorem Rki {n : Nat} (h : (n : Int) ≤ 4294967296) : made (n : Int) = some n := by simp [made]; omega
theorem Qvj {α : Type} {a b : List α} {i : Nat} (hl : b.length = a.length) (hi : i < a.length) (h : b.take i = a.take i) : (b.set i a[i]).take (i + 1) = a.take (i + 1) := by
 rw [List.take_set]
 apply List.ext_getElem?
 intro j
 rw [List.getElem?_set]
 by_cases hj : i = j
 ·subst hj
  simp [hl, hi]; omega
 ·rw [if_neg hj]
  by_cases hlt : j < i
  ·have := congrArg (fun l : List α => l[j]?) h
   simp only [List.getElem?_take] at this ⊢
   rw [if_pos hlt, if_pos hlt] at this
   rw [if_pos (by omega), if_pos (by omega)]; exact this
  ·simp only [List.getElem?_take]
   rw [if_neg (by omega), if_neg (by omega)]
theorem Raa (e : Exp) : (⟨e.op, e.n, e.args⟩ : Exp) = e := by cases e; rfl
theorem Raj (s : Stm) : (⟨s.kind, s.var, s.box, ⟨s.e.op, s.e.n, s.e.args⟩, s.body, s.els⟩ : Stm) = s := by
 obtain ⟨k, v, b, e, bd, el⟩ := s
 cases e; rfl
mutual
theorem Exp.ind {P : Exp → Prop} (h : ∀ e : Exp, (∀ a ∈ e.args, P a) → P e) : ∀ e : Exp, P e
 | ⟨o, n, as⟩ => h ⟨o, n, as⟩ (Exp.inds h as)
theorem Exp.inds {P : Exp → Prop} (h : ∀ e : Exp, (∀ a ∈ e.args, P a) → P e) : ∀ l : List Exp, ∀ a ∈ l, P a
 | [], a, ha => by cases ha
 | e :: r, a, ha => by
  rcases List.mem_cons.1 ha with e1 | h1
  ·rw [e1]; exact Exp.ind h e
  ·exact Exp.inds h r a h1
end
mutual
theorem Stm.ind {P : Stm → Prop} (h : ∀ s : Stm, (∀ a ∈ s.body, P a) → (∀ a ∈ s.els, P a) → P s) : ∀ s : Stm, P s
 | ⟨k, v, b, e, bd, el⟩ => h ⟨k, v, b, e, bd, el⟩ (Stm.inds h bd) (Stm.inds h el)
theorem Stm.inds {P : Stm → Prop} (h : ∀ s : Stm, (∀ a ∈ s.body, P a) → (∀ a ∈ s.els, P a) → P s) : ∀ l : List Stm, ∀ a ∈ l, P a
 | [], a, ha => by cases ha
 | e :: r, a, ha => by
  rcases List.mem_cons.1 ha with e1 | h1
  ·rw [e1]; exact Stm.ind h e
  ·exact Stm.inds h r a h1
end
def Ru : Nat → Exp → Bool
 | 0, _ => false
 | d + 1, e =>
  if e.op = 0 then decide (0 ≤ e.n ∧ e.n ≤ 99999) && e.args.isEmpty
  else if e.op = 13 then decide (0 ≤ e.n ∧ e.n < 4) && e.args.isEmpty
  else decide (1 ≤ e.op ∧ e.op ≤ 12) && decide (e.n = 0) && match e.args with | [a, b] => Ru d a && Ru d b | _ => false
theorem len0 {α : Type} (l : List α) : ((l.length : Int) = 0) ↔ l = [] := by
 constructor
 ·intro h; exact List.eq_nil_of_length_eq_zero (by omega)
 ·intro h; subst h; rfl
theorem Rko {l : List Exp} : ((l.length : Int) = 2) ↔ ∃ a b, l = [a, b] := by
 constructor
 ·intro h
  match l, h with
  | [a, b], _ => exact ⟨a, b, rfl⟩
  | [], h => simp at h
  | [_], h => simp at h
  | _ :: _ :: _ :: _, h => simp at h; omega
 ·rintro ⟨a, b, rfl⟩; rfl
theorem geti0 {α : Type} (a : α) (l : List α) : geti (a :: l) 0 = some a := by simp [geti]
theorem geti1 {α : Type} (a b : α) (l : List α) : geti (a :: b :: l) 1 = some b := by simp [geti]
theorem Rub (d : Nat) (h : d ≤ 5) : wrap64 (((d + 1 : Nat) : Int) - 1) = (d : Int) := by rw [wrap_id (by omega) (by omega)]; omega
theorem Rgz : ∀ (d : Nat) (e : Exp), d ≤ 5 → Rbv e (d : Int) = some (Ru d e)
 | d, e, hd => by
  apply Rkt
  simp only [Rnt, Qb, Raa]
  by_cases h0 : e.op = 0
  ·cases d with
   | zero => by_cases h1 : 0 ≤ e.n <;> by_cases h2 : e.n ≤ 99999 <;> by_cases h3 : e.args = [] <;> simp [h0, h1, h2, h3, Ru, len0]
   | succ d => by_cases h1 : 0 ≤ e.n <;> by_cases h2 : e.n ≤ 99999 <;> by_cases h3 : e.args = [] <;> simp [h0, h1, h2, h3, Ru, len0] <;> omega
  ·by_cases h13 : e.op = 13
   ·cases d with
    | zero => by_cases h1 : 0 ≤ e.n <;> by_cases h2 : e.n < 4 <;> by_cases h3 : e.args = [] <;> simp [h13, h1, h2, h3, Ru, len0]
    | succ d => by_cases h1 : 0 ≤ e.n <;> by_cases h2 : e.n < 4 <;> by_cases h3 : e.args = [] <;> simp [h13, h1, h2, h3, Ru, len0] <;> omega
   ·by_cases h1 : 1 ≤ e.op ∧ e.op ≤ 12
    ·by_cases h2 : e.n = 0
     ·by_cases h3 : (e.args.length : Int) = 2
      ·obtain ⟨a, b, hab⟩ := Rko.1 h3
       cases d with
       | zero => simp [h0, h13, h1, h2, h3, Ru]
       | succ d =>
        cases d with
        | zero => simp [h0, h13, h1, h2, h3, Ru, hab]
        | succ d =>
         have hd1 : (1 : Int) < (d : Int) + 1 + 1 := by omega
         rw [Rub (d + 1) (by omega), hab, geti0, geti1]
         simp only [Qb, Rgz (d + 1) _ (by omega)]
         have e1 : Ru (d + 1 + 1) e = (Ru (d + 1) a && Ru (d + 1) b) := by
          rw [Ru]; simp [h0, h13, h1, h2, hab]
         rw [e1]
         cases Ru (d + 1) a <;> simp [h0, h13, h1, h2, hd1]
      ·have hm : (match e.args with | [a, b] => (fun d => Ru d a && Ru d b) | _ => fun _ => false) = fun _ => false := by
        split
        ·rename_i a b hab; exact absurd (Rko.2 ⟨a, b, hab⟩) h3
        ·rfl
       have e1 : Ru d e = false := by
        cases d with
        | zero => rfl
        | succ d =>
         rw [Ru]; simp only [h0, h13, if_false]
         split
         ·rename_i a b hab; exact absurd (Rko.2 ⟨a, b, hab⟩) h3
         ·simp
       rw [e1]; simp [h0, h13, h1, h2, h3]
     ·have e1 : Ru d e = false := by cases d <;> simp [Ru, h0, h13, h2]
      rw [e1]; simp [h0, h13, h1, h2]
    ·have e1 : Ru d e = false := by cases d <;> simp [Ru, h0, h13, h1]
     rw [e1]; simp [h0, h13, h1]
theorem Rgx (e : Exp) : Rah e = some (Ru 5 e) := by
 apply Rkq
 rw [Raa, show (5 : Int) = ((5 : Nat) : Int) by rfl, Rgz 5 e (by omega)]
 rfl
theorem Rlv : ∀ (d : Nat) (e : Exp), d ≤ 5 → Riu e (d : Int) = some (Ru d e)
 | 0, e, hd => by
  apply Rlw
  simp [Ru]
 | d + 1, e, hd => by
  apply Rlw
  have hd0 : ¬ (((d + 1 : Nat) : Int) < 1) := by omega
  simp only [Rcl, Rom, Qb, Raa, hd0, Zz, Zf, Ru]
  by_cases h0 : e.op = 0
  ·by_cases h1 : 0 ≤ e.n ∧ e.n ≤ 99999 <;> by_cases h3 : e.args = [] <;> simp [h0, h1, h3, len0]
  ·by_cases h13 : e.op = 13
   ·have e3 : (e.n < 4) = (e.n ≤ 3) := propext (by omega)
    by_cases h1 : 0 ≤ e.n ∧ e.n ≤ 3 <;> by_cases h3 : e.args = [] <;> simp [h13, h1, h3, len0, e3]
   ·by_cases h1 : 1 ≤ e.op ∧ e.op ≤ 12
    ·by_cases h2 : e.n = 0
     ·by_cases h3 : (e.args.length : Int) = 2
      ·obtain ⟨a, b, hab⟩ := Rko.1 h3
       rw [Rub d (by omega), hab, geti0, geti1]
       simp only [Qb, Rlv d _ (by omega)]
       cases Ru d a <;> simp [h0, h13, h1, h2]
      ·have e1 : (match e.args with | [a, b] => Ru d a && Ru d b | _ => false) = false := by
        split
        ·rename_i a b hab; exact absurd (Rko.2 ⟨a, b, hab⟩) h3
        ·rfl
       rw [e1]; simp [h0, h13, h1, h2, h3]
     ·simp [h0, h13, h1, h2]
    ·simp [h0, h13, h1]
theorem Rhi (e : Exp) : Rn e = some (Ru 5 e) := by
 apply Rlo
 rw [Raa, show (5 : Int) = ((5 : Nat) : Int) by rfl, Rlv 5 e (by omega)]
 rfl
theorem w1 : wrap64 1 = 1 := by unfold wrap64; omega
theorem Rfd {α : Type} {x y : List α} (h : x.length + y.length ≤ 4294967296) : appL x y = some (x ++ y) := by unfold appL; rw [if_pos h]
theorem Rsq (o n : Int) : Rjr o n = some (o, n, .own false, []) := by apply Rpq; rfl
theorem Rsp (o : Int) (a b : Exp) : Rjq o a b = some (o, 0, .full, [a, b]) := by apply Rpn; simp [Raa]
mutual
def emX : Exp → Nat
 | ⟨_, _, as⟩ => emXs as
def emXs : List Exp → Nat
 | [] => 0
 | e :: r => 1 + emX e + emXs r
end
mutual
def mS : Stm → Nat
 | ⟨_, _, _, e, bd, el⟩ => emX e + mSs bd + mSs el
def mSs : List Stm → Nat
 | [] => 0
 | s :: r => 1 + mS s + mSs r
end
theorem Rbu (e : Exp) : emX e = emXs e.args := by cases e; simp [emX]
theorem Rio (s : Stm) : mS s = emX s.e + mSs s.body + mSs s.els := by cases s; simp [mS]
theorem Rsj {l : List Exp} {i : Nat} (hi : i < l.length) : emXs (l.drop i) = 1 + emX l[i] + emXs (l.drop (i + 1)) := by
 rw [List.drop_eq_getElem_cons hi]; simp only [emXs]
theorem Rtw {l : List Stm} {i : Nat} (hi : i < l.length) : mSs (l.drop i) = 1 + mS l[i] + mSs (l.drop (i + 1)) := by
 rw [List.drop_eq_getElem_cons hi]; simp only [mSs]
theorem Rby : ∀ l : List Exp, l.length ≤ emXs l
 | [] => Nat.le_refl _
 | e :: r => by have := Rby r; simp only [emXs, Zc]; omega
theorem Ri : ∀ l : List Stm, l.length ≤ mSs l
 | [] => Nat.le_refl _
 | e :: r => by have := Ri r; simp only [mSs, Zc]; omega
theorem Rib : ∀ {l : List Exp} {e : Exp}, e ∈ l → emX e < emXs l
 | [], e, h => by cases h
 | a :: r, e, h => by
  simp only [emXs]
  rcases List.mem_cons.1 h with rfl | h
  ·omega
  ·have := Rib h; omega
theorem Rx : ∀ {l : List Stm} {e : Stm}, e ∈ l → mS e < mSs l
 | [], e, h => by cases h
 | a :: r, e, h => by
  simp only [mSs]
  rcases List.mem_cons.1 h with rfl | h
  ·omega
  ·have := Rx h; omega
def left (n : Int) (m : Nat) : Int := if (m : Int) ≤ n then n - m else -1
theorem Rtu {n : Int} {m : Nat} (h0 : 0 ≤ n) : left n m < 0 ↔ n < m := by unfold left; split <;> omega
theorem Red {n : Int} {m : Nat} (h : (m : Int) ≤ n) : left n m = n - m := by unfold left; rw [if_pos h]
theorem Ram {n : Int} {m : Nat} (h : n < (m : Int)) : left n m = -1 := by unfold left; rw [if_neg (by omega)]
theorem Rqz {l : List Exp} (hl : (l.length : Int) ≤ 1048576) (hp : ∀ e ∈ l, ∀ n : Int, 0 ≤ n → n ≤ 1048576 → Rdq e n = some (left n (emX e))) :
  ∀ (d i : Nat) (n : Int), i + d = l.length → 0 ≤ n → n ≤ 1048576 → ∃ k, Rcw l n i = some (if (emXs (l.drop i) : Int) ≤ n + (l.length - i : Int) then .inl (n + (l.length - i : Int) - emXs (l.drop i)) else .inr (k, -1))
 | 0, i, n, hd, h0, h1 => by
  refine ⟨0, ?_⟩
  apply Rcx
  have hi : ¬ ((i : Int) < l.length) := by omega
  rw [List.drop_eq_nil_of_le (by omega), if_pos (by simp [emXs]; omega)]
  simp [hi, emXs]; omega
 | d + 1, i, n, hd, h0, h1 => by
  have hi : i < l.length := by omega
  have hi' : (i : Int) < l.length := by omega
  have hp' := hp _ (List.getElem_mem hi) n h0 h1
  rw [Rsj hi]
  by_cases hc : (emX l[i] : Int) ≤ n
  ·obtain ⟨k, hk⟩ := Rqz hl hp d (i + 1) (n - emX l[i]) (by omega) (by omega) (by omega)
   refine ⟨k, ?_⟩
   apply Rcx
   rw [Ra hi, Rb (by omega)]
   simp only [hi', Zy, Zt, Qb, Raa, hp', Red hc, hk]
   have hn : ¬ (n - (emX l[i] : Int) < 0) := by omega
   simp only [hn, Zz, Zf]
   by_cases hq : ((emXs (l.drop (i + 1)) : Nat) : Int) ≤ n - (emX l[i] : Int) + ((l.length : Int) - ((i + 1 : Nat) : Int))
   ·rw [if_pos hq, if_pos (by omega)]; congr 2; omega
   ·rw [if_neg hq, if_neg (by omega)]
  ·refine ⟨-1, ?_⟩
   apply Rcx
   rw [Ra hi]
   simp only [hi', Zy, Zt, Qb, Raa, hp', Ram (show n < (emX l[i] : Int) by omega)]
   have := Rby (l.drop (i + 1))
   rw [List.length_drop] at this
   rw [if_neg (by omega)]
   simp
theorem Roc {l : List Exp} (hl : (l.length : Int) ≤ 9223372036854775807) (hp : ∀ e ∈ l, ∀ n : Int, 0 ≤ n → n ≤ 1048576 → Rdq e n = some (left n (emX e))) {n : Int} (h0 : 0 ≤ n) (h1 : n ≤ 1048576) : Rim l n = some (left n (emXs l)) := by
 apply Rod
 rw [wrap_id (by omega) (by omega)]
 have hlen := Rby l
 by_cases hc : n - (l.length : Int) < 0
 ·simp only [hc, Zy, Zt]; rw [Ram (by omega)]
 ·simp only [hc, Zz, Zf]
  obtain ⟨k, hk⟩ := Rqz (by omega) hp l.length 0 (n - l.length) (by omega) (by omega) (by omega)
  rw [show (0 : Int) = ((0 : Nat) : Int) by rfl, hk]
  simp only [List.drop_zero, Qb, left]
  by_cases hq : (emXs l : Int) ≤ n
  ·rw [if_pos (by omega), if_pos hq]; simp only [selm]; congr 1; omega
  ·rw [if_neg (by omega), if_neg hq]; simp only [selm]
theorem Roz : ∀ (e : Exp), wfX e → ∀ n : Int, 0 ≤ n → n ≤ 1048576 → Rdq e n = some (left n (emX e)) := by
 apply Exp.ind
 intro e ih hw n h0 h1
 apply Rpa
 have h2 := wfX_mk hw
 rw [Roc h2.2.2.1 (fun a ha => ih a ha (Qsq.1 h2.2.2.2 a ha)) h0 h1, Qb, Rbu]
 by_cases hq : (emXs e.args : Int) ≤ n
 ·rw [Red hq]
  have : ¬ (n - (emXs e.args : Int) < 0) := by omega
  simp only [this, Zz, Zf]
 ·rw [Ram (by omega)]; simp
theorem Rra {l : List Stm} (hl : (l.length : Int) ≤ 1048576) (hp : ∀ e ∈ l, ∀ n : Int, 0 ≤ n → n ≤ 1048576 → Rfu e n = some (left n (mS e))) :
  ∀ (d i : Nat) (n : Int), i + d = l.length → 0 ≤ n → n ≤ 1048576 → ∃ k, Rcy l n i = some (if (mSs (l.drop i) : Int) ≤ n + (l.length - i : Int) then .inl (n + (l.length - i : Int) - mSs (l.drop i)) else .inr (k, -1))
 | 0, i, n, hd, h0, h1 => by
  refine ⟨0, ?_⟩
  apply Rcz
  have hi : ¬ ((i : Int) < l.length) := by omega
  rw [List.drop_eq_nil_of_le (by omega), if_pos (by simp [mSs]; omega)]
  simp [hi, mSs]; omega
 | d + 1, i, n, hd, h0, h1 => by
  have hi : i < l.length := by omega
  have hi' : (i : Int) < l.length := by omega
  have hp' := hp _ (List.getElem_mem hi) n h0 h1
  rw [Rtw hi]
  by_cases hc : (mS l[i] : Int) ≤ n
  ·obtain ⟨k, hk⟩ := Rra hl hp d (i + 1) (n - mS l[i]) (by omega) (by omega) (by omega)
   refine ⟨k, ?_⟩
   apply Rcz
   rw [Ra hi, Rb (by omega)]
   simp only [hi', Zy, Zt, Qb, Raj, hp', Red hc, hk]
   have hn : ¬ (n - (mS l[i] : Int) < 0) := by omega
   simp only [hn, Zz, Zf]
   by_cases hq : ((mSs (l.drop (i + 1)) : Nat) : Int) ≤ n - (mS l[i] : Int) + ((l.length : Int) - ((i + 1 : Nat) : Int))
   ·rw [if_pos hq, if_pos (by omega)]; congr 2; omega
   ·rw [if_neg hq, if_neg (by omega)]
  ·refine ⟨-1, ?_⟩
   apply Rcz
   rw [Ra hi]
   simp only [hi', Zy, Zt, Qb, Raj, hp', Ram (show n < (mS l[i] : Int) by omega)]
   have := Ri (l.drop (i + 1))
   rw [List.length_drop] at this
   rw [if_neg (by omega)]
   simp
theorem Rfv {l : List Stm} (hl : (l.length : Int) ≤ 9223372036854775807) (hp : ∀ e ∈ l, ∀ n : Int, 0 ≤ n → n ≤ 1048576 → Rfu e n = some (left n (mS e))) {n : Int} (h0 : 0 ≤ n) (h1 : n ≤ 1048576) : Rbn l n = some (left n (mSs l)) := by
 apply Roe
 rw [wrap_id (by omega) (by omega)]
 have hlen := Ri l
 by_cases hc : n - (l.length : Int) < 0
 ·simp only [hc, Zy, Zt]; rw [Ram (by omega)]
 ·simp only [hc, Zz, Zf]
  obtain ⟨k, hk⟩ := Rra (by omega) hp l.length 0 (n - l.length) (by omega) (by omega) (by omega)
  rw [show (0 : Int) = ((0 : Nat) : Int) by rfl, hk]
  simp only [List.drop_zero, Qb, left]
  by_cases hq : (mSs l : Int) ≤ n
  ·rw [if_pos (by omega), if_pos hq]; simp only [selm]; congr 1; omega
  ·rw [if_neg (by omega), if_neg hq]; simp only [selm]
theorem Roj {n : Int} {a b : Nat} (h : (a : Int) ≤ n) : left (n - a) b = left n (a + b) := by
 unfold left
 by_cases hb : (b : Int) ≤ n - a
 ·rw [if_pos hb, if_pos (by omega)]; omega
 ·rw [if_neg hb, if_neg (by omega)]
theorem Rpd : ∀ (e : Stm), wfS e → ∀ n : Int, 0 ≤ n → n ≤ 1048576 → Rfu e n = some (left n (mS e)) := by
 apply Stm.ind
 intro e ih1 ih2 hw n h0 h1
 apply Rpe
 obtain ⟨_, _, _, w1, w2, w3, w4, w5⟩ := wfS_mk hw
 rw [Rio, Raa, Roz e.e w1 n h0 h1, Qb]
 by_cases c1 : (emX e.e : Int) ≤ n
 ·rw [Red c1]
  have g1 : ¬ (n - (emX e.e : Int) < 0) := by omega
  simp only [g1, Zz, Zf]
  rw [Rfv w2 (fun a ha => ih1 a ha (Qjo.1 w3 a ha)) (by omega) (by omega), Qb, Roj c1]
  by_cases c2 : ((emX e.e + mSs e.body : Nat) : Int) ≤ n
  ·rw [Red c2]
   have g2 : ¬ (n - ((emX e.e + mSs e.body : Nat) : Int) < 0) := by omega
   simp only [g2, Zz, Zf]
   rw [Rfv w4 (fun a ha => ih2 a ha (Qjo.1 w5 a ha)) (by omega) (by omega), Qb, Roj c2]
   by_cases c3 : ((emX e.e + mSs e.body + mSs e.els : Nat) : Int) ≤ n
   ·rw [Red c3]
    have g3 : ¬ (n - ((emX e.e + mSs e.body + mSs e.els : Nat) : Int) < 0) := by omega
    simp only [g3, Zz, Zf]
   ·rw [Ram (by omega)]; simp
  ·rw [Ram (show n < ((emX e.e + mSs e.body : Nat) : Int) by omega), Ram (by omega)]; simp
 ·rw [Ram (show n < (emX e.e : Int) by omega), Ram (by omega)]; simp
theorem Rrb {a : List Exp} (hl : (a.length : Int) ≤ 4294967296) (hp : ∀ e ∈ a, Rdr e = some e) : ∀ (d i : Nat) (b : List Exp), i + d = a.length → b.length = a.length → b.take i = a.take i → Rda a i b = some a
 | 0, i, b, hd, hb, ht => by
  apply Rgn
  have hi : ¬ ((i : Int) < a.length) := by omega
  have : b = a := by rw [List.take_of_length_le (by omega), List.take_of_length_le (by omega)] at ht; exact ht
  simp [hi, this]
 | d + 1, i, b, hd, hb, ht => by
  apply Rgn
  have hi : i < a.length := by omega
  have hi' : (i : Int) < a.length := by omega
  rw [Ra hi, Ra (l := b) (by omega), Rb (by omega)]
  simp only [hi', Zy, Zt, Qb, Raa, hp _ (List.getElem_mem hi), Int.toNat_natCast, List.getElem?_eq_getElem (show i < b.length by omega)]
  exact Rrb hl hp d (i + 1) _ (by omega) (by simpa using hb) (Qvj hb hi ht)
theorem Rof {a : List Exp} (hl : (a.length : Int) ≤ 4294967296) (hp : ∀ e ∈ a, Rdr e = some e) : Rin a = some a := by
 apply Rog
 rw [Rki hl, Qb, show (0 : Int) = ((0 : Nat) : Int) by rfl, Rrb hl hp a.length 0 _ (by omega) (by simp) (by simp)]
 rfl
theorem Rpf : ∀ e : Exp, emX e ≤ 4294967296 → Rdr e = some e := by
 apply Exp.ind
 intro e ih hm
 apply Rpg
 rw [Rbu] at hm
 have := Rby e.args
 rw [Rof (by omega) (fun a ha => ih a ha (by have := Rib ha; omega)), Qb, Raa]
theorem Rrd {a : List Stm} (hl : (a.length : Int) ≤ 4294967296) (hp : ∀ e ∈ a, Rfx e = some e) : ∀ (d i : Nat) (b : List Stm), i + d = a.length → b.length = a.length → b.take i = a.take i → Rdb a i b = some a
 | 0, i, b, hd, hb, ht => by
  apply Rgo
  have hi : ¬ ((i : Int) < a.length) := by omega
  have : b = a := by rw [List.take_of_length_le (by omega), List.take_of_length_le (by omega)] at ht; exact ht
  simp [hi, this]
 | d + 1, i, b, hd, hb, ht => by
  apply Rgo
  have hi : i < a.length := by omega
  have hi' : (i : Int) < a.length := by omega
  rw [Ra hi, Ra (l := b) (by omega), Rb (by omega)]
  simp only [hi', Zy, Zt, Qb, Raj, hp _ (List.getElem_mem hi), Int.toNat_natCast, List.getElem?_eq_getElem (show i < b.length by omega)]
  exact Rrd hl hp d (i + 1) _ (by omega) (by simpa using hb) (Qvj hb hi ht)
theorem Req {a : List Stm} (hl : (a.length : Int) ≤ 4294967296) (hp : ∀ e ∈ a, Rfx e = some e) : Rap a = some a := by
 apply Roi
 rw [Rki hl, Qb, show (0 : Int) = ((0 : Nat) : Int) by rfl, Rrd hl hp a.length 0 _ (by omega) (by simp) (by simp)]
 rfl
theorem Rpj : ∀ e : Stm, mS e ≤ 4294967296 → Rfx e = some e := by
 apply Stm.ind
 intro e ih1 ih2 hm
 apply Rpk
 rw [Rio] at hm
 have l1 := Ri e.body
 have l2 := Ri e.els
 rw [Raa, Rpf e.e (by omega), Qb, Req (by omega) (fun a ha => ih1 a ha (by have := Rx ha; omega)), Qb,
  Req (by omega) (fun a ha => ih2 a ha (by have := Rx ha; omega)), Qb, Raj]
theorem Roh {a : List Stm} (h : mSs a ≤ 4294967296) : Rap a = some a :=
 Req (by have := Ri a; omega) fun e he => Rpj e (by have := Rx he; omega)
theorem Rrz {a : List Int} (hl : (a.length : Int) ≤ 4294967296) : ∀ (d i : Nat) (b : List Int), i + d = a.length → b.length = a.length → b.take i = a.take i → Rec a i b = some a
 | 0, i, b, hd, hb, ht => by
  apply Rhh
  have hi : ¬ ((i : Int) < a.length) := by omega
  have : b = a := by rw [List.take_of_length_le (by omega), List.take_of_length_le (by omega)] at ht; exact ht
  simp [hi, this]
 | d + 1, i, b, hd, hb, ht => by
  apply Rhh
  have hi : i < a.length := by omega
  have hi' : (i : Int) < a.length := by omega
  rw [Ra hi, Ra (l := b) (by omega), Rb (by omega)]
  simp only [hi', Zy, Zt, Qb, Int.toNat_natCast, List.getElem?_eq_getElem (show i < b.length by omega)]
  exact Rrz hl d (i + 1) _ (by omega) (by simpa using hb) (Qvj hb hi ht)
theorem Rph {a : List Int} (hl : (a.length : Int) ≤ 4294967296) : Rjn a = some a := by
 apply Rpi
 rw [Rki hl, Qb, show (0 : Int) = ((0 : Nat) : Int) by rfl, Rrz hl a.length 0 _ (by omega) (by simp) (by simp)]
 rfl
theorem Rqr {a : List Exp} (hl : (a.length : Int) ≤ 4294967296) (hp : ∀ e ∈ a, Rdn e e = some true) : ∀ (d i : Nat), i + d = a.length → Rcp a a i = some (.inl ())
 | 0, i, hd => by
  apply Rgk
  have hi : ¬ ((i : Int) < a.length) := by omega
  simp [hi]
 | d + 1, i, hd => by
  apply Rgk
  have hi : i < a.length := by omega
  have hi' : (i : Int) < a.length := by omega
  rw [Ra hi, Rb (by omega)]
  simp only [hi', Zy, Zt, Qb, Raa, hp _ (List.getElem_mem hi), Zv, Zf]
  exact Rqr hl hp d (i + 1) (by omega)
theorem Rkx {a : List Exp} (hl : (a.length : Int) ≤ 4294967296) (hp : ∀ e ∈ a, Rdn e e = some true) : Rii a a = some true := by
 apply Rny
 rw [show (0 : Int) = ((0 : Nat) : Int) by rfl, Rqr hl hp a.length 0 (by omega)]
 simp [selm]
theorem Rmh : ∀ e : Exp, emX e ≤ 4294967296 → Rdn e e = some true := by
 apply Exp.ind
 intro e ih hm
 apply Rov
 rw [Rbu] at hm
 have := Rby e.args
 rw [Rkx (by omega) (fun a ha => ih a ha (by have := Rib ha; omega))]
 simp
theorem Rqs {a : List Stm} (hl : (a.length : Int) ≤ 4294967296) (hp : ∀ e ∈ a, Rfl e e = some true) : ∀ (d i : Nat), i + d = a.length → Rcq a a i = some (.inl ())
 | 0, i, hd => by
  apply Rgl
  have hi : ¬ ((i : Int) < a.length) := by omega
  simp [hi]
 | d + 1, i, hd => by
  apply Rgl
  have hi : i < a.length := by omega
  have hi' : (i : Int) < a.length := by omega
  rw [Ra hi, Rb (by omega)]
  simp only [hi', Zy, Zt, Qb, Raj, hp _ (List.getElem_mem hi), Zv, Zf]
  exact Rqs hl hp d (i + 1) (by omega)
theorem Rcr {a : List Stm} (hl : (a.length : Int) ≤ 4294967296) (hp : ∀ e ∈ a, Rfl e e = some true) : Rag a a = some true := by
 apply Rnz
 rw [show (0 : Int) = ((0 : Nat) : Int) by rfl, Rqs hl hp a.length 0 (by omega)]
 simp [selm]
theorem Rmj : ∀ e : Stm, mS e ≤ 4294967296 → Rfl e e = some true := by
 apply Stm.ind
 intro e ih1 ih2 hm
 apply Rox
 rw [Rio] at hm
 have l1 := Ri e.body
 have l2 := Ri e.els
 rw [Raa, Rmh e.e (by omega), Rcr (by omega) (fun a ha => ih1 a ha (by have := Rx ha; omega)),
  Rcr (by omega) (fun a ha => ih2 a ha (by have := Rx ha; omega))]
 simp
theorem Rhe {a : List Stm} (h : mSs a ≤ 4294967296) : Rag a a = some true :=
 Rcr (by have := Ri a; omega) fun e he => Rmj e (by have := Rx he; omega)
theorem Rrw {a : List Int} (hl : (a.length : Int) ≤ 4294967296) : ∀ (d i : Nat), i + d = a.length → Rdz a a i = some (.inl ())
 | 0, i, hd => by
  apply Rhd
  have hi : ¬ ((i : Int) < a.length) := by omega
  simp [hi]
 | d + 1, i, hd => by
  apply Rhd
  have hi : i < a.length := by omega
  have hi' : (i : Int) < a.length := by omega
  rw [Ra hi, Rb (by omega)]
  simp only [hi', Zy, Zt, Qb, Zv, Zf]
  exact Rrw hl d (i + 1) (by omega)
theorem Rbz {a : List Int} (hl : (a.length : Int) ≤ 4294967296) : Rdo a a = some true := by
 apply Row
 rw [show (0 : Int) = ((0 : Nat) : Int) by rfl, Rrw hl a.length 0 (by omega)]
 simp [selm]
theorem Rmk {t : Tk} (h : t.vars.length + mSs t.rest ≤ 4294967296) : Rfn t t = some true := by
 apply Roy
 rw [Rbz (by omega), Rhe (by omega)]
 simp
mutual
def cS : Stm → Nat
 | ⟨_, _, _, _, bd, el⟩ => 1 + cSs bd + cSs el
def cSs : List Stm → Nat
 | [] => 0
 | s :: r => cS s + cSs r
end
theorem Rsi (s : Stm) : cS s = 1 + cSs s.body + cSs s.els := by cases s; simp [cS]
theorem Rqf {l : List Stm} {i : Nat} (hi : i < l.length) : cSs (l.drop i) = cS l[i] + cSs (l.drop (i + 1)) := by
 rw [List.drop_eq_getElem_cons hi]; simp only [cSs]
theorem Rkp : ∀ l : List Stm, l.length ≤ cSs l
 | [] => Nat.le_refl _
 | e :: r => by have := Rkp r; have := Rsi e; simp only [cSs, Zc]; omega
mutual
theorem cS_le : ∀ s : Stm, cS s ≤ 1 + mS s
 | ⟨_, _, _, e, bd, el⟩ => by have := Rru bd; have := Rru el; simp only [cS, mS]; omega
theorem Rru : ∀ l : List Stm, cSs l ≤ mSs l
 | [] => Nat.le_refl _
 | s :: r => by have := cS_le s; have := Rru r; simp only [cSs, mSs]; omega
end
theorem Rrt : ∀ {l : List Stm} {e : Stm}, e ∈ l → cS e ≤ cSs l
 | [], e, h => by cases h
 | a :: r, e, h => by
  simp only [cSs]
  rcases List.mem_cons.1 h with rfl | h
  ·omega
  ·have := Rrt h; omega
theorem Rrv {l : List Stm} (hp : ∀ s ∈ l, Rk s.body = some (cSs s.body : Int) ∧ Rk s.els = some (cSs s.els : Int)) (hb : cSs l ≤ 4294967296) :
  ∀ (d i : Nat) (k : Int), i + d = l.length → 0 ≤ k → k + cSs (l.drop i) ≤ 4294967296 → Rcf l k i = some (k + cSs (l.drop i))
 | 0, i, k, hd, h0, h1 => by
  apply Rgc
  have hi : ¬ ((i : Int) < l.length) := by omega
  rw [List.drop_eq_nil_of_le (by omega)]
  simp [hi, cSs]
 | d + 1, i, k, hd, h0, h1 => by
  apply Rgc
  have hi : i < l.length := by omega
  have hi' : (i : Int) < l.length := by omega
  obtain ⟨p1, p2⟩ := hp _ (List.getElem_mem hi)
  have hlen := Rkp l
  have hc := Rqf hi
  have hs := Rsi l[i]
  rw [Ra hi, Rb (by omega)]
  simp only [hi', Zy, Zt, Qb, p1, p2]
  rw [wrap_id (n := k + 1) (by omega) (by omega), wrap_id (n := k + 1 + (cSs l[i].body : Int)) (by omega) (by omega), wrap_id (by omega) (by omega),
   Rrv hp hb d (i + 1) _ (by omega) (by omega) (by omega)]
  congr 1; omega
theorem Rdv {l : List Stm} (hp : ∀ s ∈ l, Rk s.body = some (cSs s.body : Int) ∧ Rk s.els = some (cSs s.els : Int)) (hb : cSs l ≤ 4294967296) : Rk l = some (cSs l : Int) := by
 apply Rnc
 have := Rrv hp hb l.length 0 0 (by omega) (by omega) (by simp; omega)
 rw [show ((0 : Nat) : Int) = 0 by rfl] at this
 rw [this]; simp
theorem Rrk : ∀ s : Stm, cS s ≤ 4294967296 → Rk s.body = some (cSs s.body : Int) ∧ Rk s.els = some (cSs s.els : Int) := by
 apply Stm.ind
 intro s ih1 ih2 hb
 rw [Rsi] at hb
 exact ⟨Rdv (fun a ha => ih1 a ha (by have := Rrt ha; omega)) (by omega), Rdv (fun a ha => ih2 a ha (by have := Rrt ha; omega)) (by omega)⟩
theorem Rnb {l : List Stm} (hb : cSs l ≤ 4294967296) : Rk l = some (cSs l : Int) :=
 Rdv (fun s hs => Rrk s (by have := Rrt hs; omega)) hb
def hdr (s : Stm) : Prop :=
 (s.kind = 1 ∧ (0 ≤ s.var ∧ s.var < 4) ∧ s.box = 0 ∧ Ru 5 s.e = true ∧ (s.body.length : Int) = 0 ∧ (s.els.length : Int) = 0) ∨
 (s.kind = 2 ∧ s.var = 0 ∧ s.box = 0 ∧ Ru 5 s.e = true) ∨
 (s.kind = 3 ∧ s.var = 0 ∧ s.box = 0 ∧ Ru 5 s.e = true ∧ (s.els.length : Int) = 0) ∨
 (s.kind = 4 ∧ s.var = 0 ∧ (0 ≤ s.box ∧ s.box < 3) ∧ Ru 5 s.e = true ∧ (s.body.length : Int) = 0 ∧ (s.els.length : Int) = 0) ∨
 (s.kind = 5 ∧ (0 ≤ s.var ∧ s.var < 4) ∧ (0 ≤ s.box ∧ s.box < 3) ∧ (s.e.op = 0 ∧ s.e.n = 0 ∧ (s.e.args.length : Int) = 0) ∧ (s.body.length : Int) = 0 ∧ (s.els.length : Int) = 0) ∨
 (s.kind = 6 ∧ s.var = 0 ∧ s.box = 0 ∧ (s.e.op = 0 ∧ s.e.n = 0 ∧ (s.e.args.length : Int) = 0) ∧ (s.body.length : Int) = 0 ∧ (s.els.length : Int) = 0) ∨
 (s.kind = 7 ∧ s.var = 0 ∧ s.box = 0 ∧ Ru 5 s.e = true ∧ (s.body.length : Int) = 0 ∧ (s.els.length : Int) = 0)
instance (s : Stm) : Decidable (hdr s) := by unfold hdr; infer_instance
def sOk : Nat → Stm → Bool
 | 0, s => decide (hdr s) && !decide (s.kind = 2 ∨ s.kind = 3)
 | d + 1, s => decide (hdr s) && (if s.kind = 2 ∨ s.kind = 3 then s.body.all (sOk d) && s.els.all (sOk d) else true)
theorem Rcg (x n : Int) (b : Bool) (hn : 1 ≤ n) : Rd x n b = some (decide (if b then 0 ≤ x ∧ x < n else x = 0)) := by
 apply Rch
 cases b
 ·by_cases h : x = 0 <;> simp [h]
 ·by_cases h : x = 0
  ·simp [h]; omega
  ·by_cases h2 : 0 < x
   ·simp [h, h2]; omega
   ·simp [h, h2]; omega
theorem Rr (s : Stm) : Rdx s 3 = some (decide (hdr s)) := by
 apply Rha
 simp only [Rcg _ 4 _ (by omega), Rcg _ 3 _ (by omega), Rgx, Raa, Qb, cond_some]
 apply some_dec
 obtain ⟨k, v, b, e, bd, el⟩ := s
 have a1 : (0 : Int) ≤ bd.length := by omega
 have a2 : (0 : Int) ≤ el.length := by omega
 have a3 : (0 : Int) ≤ e.args.length := by omega
 simp only [hdr, cond_iff, Ze, if_true, Bool.false_eq_true, if_false, Bool.not_eq_true', decide_eq_false_iff_not]
 generalize (bd.length : Int) = n1 at a1
 generalize (el.length : Int) = n2 at a2
 generalize (e.args.length : Int) = n3 at a3
 cases hv : Ru 5 e
 all_goals
  by_cases h1 : k = 1
  ·subst h1; simp; try omega
  by_cases h2 : k = 2
  ·subst h2; simp; try omega
  by_cases h3 : k = 3
  ·subst h3; simp; try omega
  by_cases h4 : k = 4
  ·subst h4; simp; try omega
  by_cases h5 : k = 5
  ·subst h5; simp; try omega
  by_cases h7 : k = 7
  ·subst h7; simp; try omega
  by_cases h6 : k = 6
  ·subst h6; simp; try omega
  simp [h1, h2, h3, h4, h5, h6, h7]
theorem Rjc (s : Stm) (b : Bool) : Rz s b = some (decide (if b then 0 ≤ s.var ∧ s.var < 4 else s.var = 0)) := by
 apply Rpm
 simp only [Rcl, Qb, cond_some]
 apply some_dec
 cases b <;> simp; omega
theorem Rjb (s : Stm) (b : Bool) : Ry s b = some (decide (if b then 0 ≤ s.box ∧ s.box < 3 else s.box = 0)) := by
 apply Rpl
 simp only [Rcl, Qb, cond_some]
 apply some_dec
 cases b <;> simp; omega
theorem Rnd (e : Exp) : Rfc e = some (decide (e.op = 0 ∧ e.n = 0 ∧ (e.args.length : Int) = 0)) := by
 apply Rne
 simp only [cond_some]
 apply some_dec
 simp only [cond_iff, Ze, Bool.false_eq_true]
 by_cases h : e.op = 0 <;> by_cases h2 : e.n = 0 <;> simp [h, h2]
theorem Rhk (s : Stm) (n2 : s.kind ≠ 2) (n3 : s.kind ≠ 3) : Ree s = some (decide (hdr s)) := by
 apply Rlr
 simp only [Raj, Raa, Rjc, Rjb, Rnd, Rhi, Qb, cond_some]
 apply some_dec
 obtain ⟨k, v, b, e, bd, el⟩ := s
 have a1 : (0 : Int) ≤ bd.length := by omega
 have a2 : (0 : Int) ≤ el.length := by omega
 have a3 : (0 : Int) ≤ e.args.length := by omega
 simp only [hdr, cond_iff, Ze, if_true, Bool.false_eq_true, if_false, Bool.not_eq_true', decide_eq_false_iff_not]
 generalize (bd.length : Int) = n1 at a1
 generalize (el.length : Int) = n2' at a2
 generalize (e.args.length : Int) = n3' at a3
 simp only [] at n2 n3
 cases hv : Ru 5 e
 all_goals
  by_cases h1 : k = 1
  ·subst h1; simp; try omega
  by_cases h4 : k = 4
  ·subst h4; simp; try omega
  by_cases h5 : k = 5
  ·subst h5; simp; try omega
  by_cases h7 : k = 7
  ·subst h7; simp; try omega
  by_cases h6 : k = 6
  ·subst h6; simp; try omega
  simp [h1, n2, n3, h4, h5, h6, h7]
theorem hdr2 {s : Stm} (h : s.kind = 2) : hdr s ↔ s.var = 0 ∧ s.box = 0 ∧ Ru 5 s.e = true := by simp [hdr, h]
theorem hdr3 {s : Stm} (h : s.kind = 3) : hdr s ↔ s.var = 0 ∧ s.box = 0 ∧ Ru 5 s.e = true ∧ (s.els.length : Int) = 0 := by simp [hdr, h]
theorem Rnl {α : Type} {P Q : Prop} [Decidable P] [Decidable Q] {a b c : α} (h : P ↔ Q) (ha : a = b) : (if P then a else c) = if Q then b else c := by
 subst ha
 by_cases hp : P
 ·rw [if_pos hp, if_pos (h.1 hp)]
 ·rw [if_neg hp, if_neg fun x => hp (h.2 x)]
theorem Rrs {l : List Stm} {n : Int} {f : Stm → Bool} (hl : (l.length : Int) ≤ 4294967296) (hp : ∀ s ∈ l, Rhj s n = some (f s)) :
  ∀ (d i : Nat), i + d = l.length → Rbt l n i = some (if (l.drop i).all f then .inl () else .inr false)
 | 0, i, hd => by
  apply Rey
  have hi : ¬ ((i : Int) < l.length) := by omega
  rw [List.drop_eq_nil_of_le (by omega)]
  simp [hi]
 | d + 1, i, hd => by
  apply Rey
  have hi : i < l.length := by omega
  have hi' : (i : Int) < l.length := by omega
  rw [Ra hi, Rb (by omega), Rrs hl hp d (i + 1) (by omega)]
  have e1 : (l.drop i).all f = (f l[i] && (l.drop (i + 1)).all f) := by rw [List.drop_eq_getElem_cons hi, List.all_cons]
  rw [e1]
  simp only [hi', Zy, Zt, Qb, Raj, hp _ (List.getElem_mem hi)]
  cases f l[i] <;> simp
theorem Rdf {l : List Stm} {n : Int} {f : Stm → Bool} (hl : (l.length : Int) ≤ 4294967296) (hp : ∀ s ∈ l, Rhj s n = some (f s)) : Rg l n = some (l.all f) := by
 apply Rlq
 rw [show (0 : Int) = ((0 : Nat) : Int) by rfl, Rrs hl hp l.length 0 (by omega), List.drop_zero]
 cases l.all f <;> simp [selm]
theorem Rhv : ∀ (d : Nat) (s : Stm), d ≤ 3 → mS s ≤ 4294967296 → Rhj s (d : Int) = some (sOk d s)
 | 0, s, hd, hm => by
  apply Rkn
  by_cases h2 : s.kind = 2
  ·simp [h2, sOk]
  ·by_cases h3 : s.kind = 3
   ·simp [h3, sOk]
   ·simp [h2, h3, sOk, Raj, Rhk s h2 h3]
 | d + 1, s, hd, hm => by
  apply Rkn
  have hm' := Rio s
  have l1 := Ri s.body
  have l2 := Ri s.els
  have hd0 : ¬ (((d + 1 : Nat) : Int) < 1) := by omega
  have b1 : Rg s.body (d : Int) = some (s.body.all (sOk d)) := Rdf (by omega) fun a ha => Rhv d a (by omega) (by have := Rx ha; omega)
  have b2 : Rg s.els (d : Int) = some (s.els.all (sOk d)) := Rdf (by omega) fun a ha => Rhv d a (by omega) (by have := Rx ha; omega)
  rw [show wrap64 (((d + 1 : Nat) : Int) - 1) = (d : Int) by rw [wrap_id (by omega) (by omega)]; omega]
  simp only [Raj, Raa, Rjc, Rjb, Rhi, b1, b2, Qb, hd0, Zz, Zf]
  by_cases h2 : s.kind = 2
  ·have h3 : s.kind ≠ 3 := by omega
   have hh : decide (hdr s) = (decide (s.var = 0) && decide (s.box = 0) && Ru 5 s.e) := by
    rw [Bool.eq_iff_iff]; simp [hdr2 h2, and_assoc]
   simp only [sOk, hh, h2, true_or, if_true]
   by_cases v : s.var = 0 <;> by_cases b : s.box = 0 <;> cases Ru 5 s.e <;> cases s.body.all (sOk d) <;> simp [v, b]
  ·by_cases h3 : s.kind = 3
   ·by_cases he : (s.els.length : Int) = 0
    ·have hh : decide (hdr s) = (decide (s.var = 0) && decide (s.box = 0) && Ru 5 s.e) := by
      rw [Bool.eq_iff_iff]; simp [hdr3 h3, and_assoc, he]
     simp only [sOk, hh, h3, or_true, if_true]
     by_cases v : s.var = 0 <;> by_cases b : s.box = 0 <;> cases Ru 5 s.e <;> cases s.body.all (sOk d) <;> simp [v, b, he]
    ·have hh : decide (hdr s) = false := by
      simp [hdr3 h3]; intro _ _ _ h; exact absurd (by rw [h]; rfl) he
     have hpos : 0 < (s.els.length : Int) := by omega
     simp only [sOk, hh, h3, or_true, if_true, hpos]
     simp
   ·have hh := Rhk s h2 h3
    simp only [sOk, h2, h3, or_false, if_false]
    simp [h2, h3]
    show bnd (Ree s) _ = _
    rw [hh]; rfl
theorem Rlp {d : Nat} {l : List Stm} (hd : d ≤ 3) (hm : mSs l ≤ 4294967296) : Rg l (d : Int) = some (l.all (sOk d)) :=
 Rdf (by have := Ri l; omega) fun s hs => Rhv d s hd (by have := Rx hs; omega)
theorem Rri {l : List Stm} {d0 : Nat} (hl : (l.length : Int) ≤ 4294967296) (hd0 : d0 ≤ 3)
  (hp : ∀ d, d0 = d + 1 → ∀ (bl : List Stm) (n : Int), (∃ s ∈ l, bl = s.body ∨ bl = s.els) → 0 ≤ n → n ≤ 16 → ∃ c, Rj bl 3 (3 - (d : Int)) n = some (decide (bl.all (sOk d) = true ∧ n + cSs bl ≤ 16), c) ∧ (bl.all (sOk d) = true → n + cSs bl ≤ 16 → c = n + cSs bl)) :
  ∀ (d i : Nat) (n : Int), i + d = l.length → 0 ≤ n → n ≤ 16 → ∃ c, Rl l 3 (3 - (d0 : Int)) l.length i n = some (if (l.drop i).all (sOk d0) = true ∧ n + (cSs (l.drop i) - (l.length - i : Int)) ≤ 16 then .inl (n + (cSs (l.drop i) - (l.length - i : Int))) else .inr (false, c))
 | 0, i, n, hd, h0, h1 => by
  refine ⟨0, ?_⟩
  apply Rc
  have hi : ¬ ((i : Int) < l.length) := by omega
  rw [List.drop_eq_nil_of_le (by omega), if_pos ⟨by simp, by simp [cSs]; omega⟩]
  simp [hi, cSs]; omega
 | d + 1, i, n, hd, h0, h1 => by
  have hi : i < l.length := by omega
  have hi' : (i : Int) < l.length := by omega
  have e1 : (l.drop i).all (sOk d0) = (sOk d0 l[i] && (l.drop (i + 1)).all (sOk d0)) := by rw [List.drop_eq_getElem_cons hi, List.all_cons]
  have e2 := Rqf hi
  have e3 := Rsi l[i]
  have e4 := Rkp (l.drop (i + 1))
  rw [List.length_drop] at e4
  have hn3 : ¬ ((3 : Int) < 3 - (d0 : Int)) := by omega
  by_cases hh : hdr l[i]
  ·by_cases hk : l[i].kind = 2 ∨ l[i].kind = 3
   ·cases d0 with
    | zero =>
     have s0 : sOk 0 l[i] = false := by simp [sOk, hk]
     refine ⟨n, ?_⟩
     apply Rc
     rw [Ra hi, e1, s0]
     simp only [hi', Zy, Zt, Qb, Raj, Rr, hh, Zv, Zf]
     rcases hk with hk | hk <;> simp [hk]
    | succ d1 =>
     have hn4 : ¬ ((3 : Int) ≤ 3 - ((d1 + 1 : Nat) : Int)) := by omega
     have hw : wrap64 (3 - ((d1 + 1 : Nat) : Int) + 1) = 3 - (d1 : Int) := by rw [wrap_id (by omega) (by omega)]; omega
     have s1 : sOk (d1 + 1) l[i] = (l[i].body.all (sOk d1) && l[i].els.all (sOk d1)) := by simp [sOk, hh, hk]
     obtain ⟨c1, k1, k2⟩ := hp d1 rfl l[i].body n ⟨l[i], List.getElem_mem hi, .inl rfl⟩ h0 h1
     by_cases g1 : l[i].body.all (sOk d1) = true ∧ n + cSs l[i].body ≤ 16
     ·have hc1 := k2 g1.1 g1.2
      obtain ⟨c2, m1, m2⟩ := hp d1 rfl l[i].els (n + cSs l[i].body) ⟨l[i], List.getElem_mem hi, .inr rfl⟩ (by omega) g1.2
      by_cases g2 : l[i].els.all (sOk d1) = true ∧ n + cSs l[i].body + cSs l[i].els ≤ 16
      ·have hc2 := m2 g2.1 g2.2
       obtain ⟨c, hc⟩ := Rri hl hd0 hp d (i + 1) (n + cSs l[i].body + cSs l[i].els) (by omega) (by omega) g2.2
       refine ⟨c, ?_⟩
       apply Rc
       rw [Ra hi, e1, s1, g1.1, g2.1, Rb (by omega), hw]
       subst hc1 hc2
       have dk1 : decide (l[i].body.all (sOk d1) = true ∧ n + (cSs l[i].body : Int) ≤ 16) = true := Zp g1
       have dk2 : decide (l[i].els.all (sOk d1) = true ∧ n + (cSs l[i].body : Int) + (cSs l[i].els : Int) ≤ 16) = true := Zp g2
       rw [dk1] at k1
       rw [dk2] at m1
       have hcond : ((true && true && (l.drop (i + 1)).all (sOk (d1 + 1))) = true ∧ n + ((cSs (l.drop i) : Int) - ((l.length : Int) - (i : Int))) ≤ 16) ↔ ((l.drop (i + 1)).all (sOk (d1 + 1)) = true ∧ n + (cSs l[i].body : Int) + (cSs l[i].els : Int) + ((cSs (l.drop (i + 1)) : Int) - ((l.length : Int) - ((i + 1 : Nat) : Int))) ≤ 16) := by
        simp only [Bool.true_and, Bool.and_true]
        constructor
        ·rintro ⟨x, y⟩; exact ⟨x, by omega⟩
        ·rintro ⟨x, y⟩; exact ⟨x, by omega⟩
       have hval : n + ((cSs (l.drop i) : Int) - ((l.length : Int) - (i : Int))) = n + (cSs l[i].body : Int) + (cSs l[i].els : Int) + ((cSs (l.drop (i + 1)) : Int) - ((l.length : Int) - ((i + 1 : Nat) : Int))) := by omega
       rw [Rnl hcond (congrArg (Sum.inl (β := Bool × Int)) hval), ← hc]
       simp only [hi', Zy, Zt, Qb, Raj, Rr, hh, Zv, Zf, hn3, hn4, Zz, k1, m1]
       rcases hk with hk | hk <;> simp [hk]
      ·refine ⟨c2, ?_⟩
       apply Rc
       rw [Ra hi, e1, s1, g1.1, hw]
       subst hc1
       have dk1 : decide (l[i].body.all (sOk d1) = true ∧ n + (cSs l[i].body : Int) ≤ 16) = true := Zp g1
       have dk2 : decide (l[i].els.all (sOk d1) = true ∧ n + (cSs l[i].body : Int) + (cSs l[i].els : Int) ≤ 16) = false := Zq g2
       rw [dk1] at k1
       rw [dk2] at m1
       rw [if_neg (by
        rintro ⟨x, y⟩
        simp only [Bool.true_and, Zw] at x
        exact g2 ⟨x.1, by omega⟩)]
       simp only [hi', Zy, Zt, Qb, Raj, Rr, hh, Zv, Zf, hn3, hn4, Zz, k1, m1]
       rcases hk with hk | hk <;> simp [hk]
     ·refine ⟨c1, ?_⟩
      apply Rc
      rw [Ra hi, e1, s1, hw]
      have dk1 : decide (l[i].body.all (sOk d1) = true ∧ n + (cSs l[i].body : Int) ≤ 16) = false := Zq g1
      rw [dk1] at k1
      rw [if_neg (by
       rintro ⟨x, y⟩
       simp only [Zw] at x
       exact g1 ⟨x.1.1, by omega⟩)]
      simp only [hi', Zy, Zt, Qb, Raj, Rr, hh, Zv, Zf, hn3, hn4, Zz, k1]
      rcases hk with hk | hk <;> simp [hk]
   ·have n2 : l[i].kind ≠ 2 := fun h => hk (.inl h)
    have n3 : l[i].kind ≠ 3 := fun h => hk (.inr h)
    have s1 : sOk d0 l[i] = true := by cases d0 <;> simp [sOk, hh, n2, n3]
    have hbe : l[i].body = [] ∧ l[i].els = [] := by
     have hh' := hh
     simp only [hdr, n2, n3, false_and, false_or] at hh'
     have : (l[i].body.length : Int) = 0 ∧ (l[i].els.length : Int) = 0 := by
      rcases hh' with h | h | h | h | h
      ·exact ⟨h.2.2.2.2.1, h.2.2.2.2.2⟩
      ·exact ⟨h.2.2.2.2.1, h.2.2.2.2.2⟩
      ·exact ⟨h.2.2.2.2.1, h.2.2.2.2.2⟩
      ·exact ⟨h.2.2.2.2.1, h.2.2.2.2.2⟩
      ·exact ⟨h.2.2.2.2.1, h.2.2.2.2.2⟩
     exact ⟨List.eq_nil_of_length_eq_zero (by omega), List.eq_nil_of_length_eq_zero (by omega)⟩
    rw [hbe.1, hbe.2] at e3
    simp only [cSs] at e3
    obtain ⟨c, hc⟩ := Rri hl hd0 hp d (i + 1) n (by omega) h0 h1
    refine ⟨c, ?_⟩
    apply Rc
    rw [Ra hi, e1, s1, Rb (by omega)]
    have hcond : ((true && (l.drop (i + 1)).all (sOk d0)) = true ∧ n + ((cSs (l.drop i) : Int) - ((l.length : Int) - (i : Int))) ≤ 16) ↔ ((l.drop (i + 1)).all (sOk d0) = true ∧ n + ((cSs (l.drop (i + 1)) : Int) - ((l.length : Int) - ((i + 1 : Nat) : Int))) ≤ 16) := by
     simp only [Bool.true_and]
     constructor
     ·rintro ⟨x, y⟩; exact ⟨x, by omega⟩
     ·rintro ⟨x, y⟩; exact ⟨x, by omega⟩
    have hval : n + ((cSs (l.drop i) : Int) - ((l.length : Int) - (i : Int))) = n + ((cSs (l.drop (i + 1)) : Int) - ((l.length : Int) - ((i + 1 : Nat) : Int))) := by omega
    rw [Rnl hcond (congrArg (Sum.inl (β := Bool × Int)) hval), ← hc]
    simp only [hi', Zy, Zt, Qb, Raj, Rr, hh, Zv, Zf, hn3, Zz]
    simp [n2, n3]
  ·have s1 : sOk d0 l[i] = false := by cases d0 <;> simp [sOk, hh]
   refine ⟨n, ?_⟩
   apply Rc
   rw [Ra hi, e1, s1]
   simp only [hi', Zy, Zt, Qb, Raj, Rr, hh, Zz, Zx]
   simp
theorem Rgh : ∀ (d : Nat) (l : List Stm) (n : Int), d ≤ 3 → mSs l ≤ 4294967296 → 0 ≤ n → n ≤ 16 →
  ∃ c, Rj l 3 (3 - (d : Int)) n = some (decide (l.all (sOk d) = true ∧ n + cSs l ≤ 16), c) ∧ (l.all (sOk d) = true → n + cSs l ≤ 16 → c = n + cSs l)
 | d, l, n, hd, hm, h0, h1 => by
  have hlen := Ri l
  have hcl := Rkp l
  by_cases hc : (16 : Int) < n + l.length
  ·refine ⟨n + l.length, ?_, fun _ h => by omega⟩
   apply Ro
   rw [wrap_id (by omega) (by omega)]
   have : ¬ (l.all (sOk d) = true ∧ n + (cSs l : Int) ≤ 16) := fun h => by omega
   rw [Zq this]
   simp [hc]
  ·obtain ⟨c, h⟩ := Rri (l := l) (d0 := d) (by omega) hd (fun d1 e1 bl m hb g0 g1 => by
    obtain ⟨s, hs, hbl⟩ := hb
    have := Rx hs
    have := Rio s
    have hmb : mSs bl ≤ 4294967296 := by rcases hbl with rfl | rfl <;> omega
    exact Rgh d1 bl m (by omega) hmb g0 g1) l.length 0 (n + l.length) (by omega) (by omega) (by omega)
   rw [List.drop_zero] at h
   by_cases g : l.all (sOk d) = true ∧ n + (cSs l : Int) ≤ 16
   ·refine ⟨n + cSs l, ?_, fun _ _ => rfl⟩
    apply Ro
    rw [wrap_id (by omega) (by omega), show (0 : Int) = ((0 : Nat) : Int) by rfl, h, if_pos ⟨g.1, by omega⟩, Zp g]
    simp only [hc, Zz, Zf, Qb, selm]
    congr 2; omega
   ·refine ⟨c, ?_, fun a b => absurd ⟨a, b⟩ g⟩
    apply Ro
    rw [wrap_id (by omega) (by omega), show (0 : Int) = ((0 : Nat) : Int) by rfl, h, if_neg (fun x => g ⟨x.1, by omega⟩), Zq g]
    simp only [hc, Zz, Zf, Qb, selm]
 termination_by d => d
def stOk (l : List Stm) : Bool := decide (l.all (sOk 3) = true ∧ (cSs l : Int) ≤ 16)
theorem Rgi (l : List Stm) (hm : mSs l ≤ 4294967296) : Rbm l 3 = some (stOk l) := by
 apply Rgj
 obtain ⟨c, h, _⟩ := Rgh 3 l 0 (by omega) hm (by omega) (by omega)
 rw [show (3 : Int) - ((3 : Nat) : Int) = 0 by omega] at h
 rw [h, Qb]
 simp [stOk]
theorem Rgp (l : List Stm) (hm : mSs l ≤ 4294967296) : Rde l = some (stOk l) := by
 apply Rkl
 have hc := Rru l
 rw [show (3 : Int) = ((3 : Nat) : Int) by rfl, Rlp (by omega) hm, Qb, Rnb (by omega)]
 unfold stOk
 cases l.all (sOk 3) <;> simp
def hdN (many : Int) (s : Stm) : Prop := hdr s ∧ (s.kind = 4 ∨ s.kind = 5 → s.box < many)
instance (many : Int) (s : Stm) : Decidable (hdN many s) := by unfold hdN; infer_instance
def gOk (many : Int) : Nat → Stm → Bool
 | 0, s => decide (hdN many s) && !decide (s.kind = 2 ∨ s.kind = 3)
 | d + 1, s => decide (hdN many s) && (if s.kind = 2 ∨ s.kind = 3 then s.body.all (gOk many d) && s.els.all (gOk many d) else true)
theorem Rih (x n : Int) (hn : 0 ≤ n) : Rd x n true = some (decide (x = 0 ∨ (0 ≤ x ∧ x < n))) := by
 apply Rch
 by_cases h : x = 0
 ·simp [h]
 ·by_cases h2 : 0 < x
  ·simp [h, h2]; omega
  ·simp [h, h2]; omega
theorem Rhy (x n : Int) : Rd x n false = some (decide (x = 0)) := by
 apply Rch
 by_cases h : x = 0 <;> simp [h]
theorem Rab {many : Int} (hmn : 0 ≤ many ∧ many ≤ 3) (s : Stm) : Rdx s many = some (decide (hdN many s)) := by
 apply Rha
 simp only [Rih _ many hmn.1, Rcg _ 4 true (by omega), Rhy, Rgx, Raa, Qb, cond_some]
 apply some_dec
 obtain ⟨k, v, b, e, bd, el⟩ := s
 have a1 : (0 : Int) ≤ bd.length := by omega
 have a2 : (0 : Int) ≤ el.length := by omega
 have a3 : (0 : Int) ≤ e.args.length := by omega
 simp only [hdN, hdr, cond_iff, Ze, if_true, Bool.false_eq_true, if_false, Bool.not_eq_true', decide_eq_false_iff_not]
 generalize (bd.length : Int) = n1 at a1
 generalize (el.length : Int) = n2 at a2
 generalize (e.args.length : Int) = n3 at a3
 cases hv : Ru 5 e
 all_goals
  by_cases h1 : k = 1
  ·subst h1; simp; try omega
  by_cases h2 : k = 2
  ·subst h2; simp; try omega
  by_cases h3 : k = 3
  ·subst h3; simp; try omega
  by_cases h4 : k = 4
  ·subst h4; simp; try omega
  by_cases h5 : k = 5
  ·subst h5; simp; try omega
  by_cases h7 : k = 7
  ·subst h7; simp; try omega
  by_cases h6 : k = 6
  ·subst h6; simp; try omega
  simp [h1, h2, h3, h4, h5, h6, h7]
theorem Rrj {many : Int} (hmn : 0 ≤ many ∧ many ≤ 3) {l : List Stm} {d0 : Nat} (hl : (l.length : Int) ≤ 4294967296) (hd0 : d0 ≤ 3)
  (hp : ∀ d, d0 = d + 1 → ∀ (bl : List Stm) (n : Int), (∃ s ∈ l, bl = s.body ∨ bl = s.els) → 0 ≤ n → n ≤ 16 → ∃ c, Rj bl many (3 - (d : Int)) n = some (decide (bl.all (gOk many d) = true ∧ n + cSs bl ≤ 16), c) ∧ (bl.all (gOk many d) = true → n + cSs bl ≤ 16 → c = n + cSs bl)) :
  ∀ (d i : Nat) (n : Int), i + d = l.length → 0 ≤ n → n ≤ 16 → ∃ c, Rl l many (3 - (d0 : Int)) l.length i n = some (if (l.drop i).all (gOk many d0) = true ∧ n + (cSs (l.drop i) - (l.length - i : Int)) ≤ 16 then .inl (n + (cSs (l.drop i) - (l.length - i : Int))) else .inr (false, c))
 | 0, i, n, hd, h0, h1 => by
  refine ⟨0, ?_⟩
  apply Rc
  have hi : ¬ ((i : Int) < l.length) := by omega
  rw [List.drop_eq_nil_of_le (by omega), if_pos ⟨by simp, by simp [cSs]; omega⟩]
  simp [hi, cSs]; omega
 | d + 1, i, n, hd, h0, h1 => by
  have hi : i < l.length := by omega
  have hi' : (i : Int) < l.length := by omega
  have e1 : (l.drop i).all (gOk many d0) = (gOk many d0 l[i] && (l.drop (i + 1)).all (gOk many d0)) := by rw [List.drop_eq_getElem_cons hi, List.all_cons]
  have e2 := Rqf hi
  have e3 := Rsi l[i]
  have e4 := Rkp (l.drop (i + 1))
  rw [List.length_drop] at e4
  have hn3 : ¬ ((3 : Int) < 3 - (d0 : Int)) := by omega
  by_cases hh : hdN many l[i]
  ·by_cases hk : l[i].kind = 2 ∨ l[i].kind = 3
   ·cases d0 with
    | zero =>
     have s0 : gOk many 0 l[i] = false := by simp [gOk, hk]
     refine ⟨n, ?_⟩
     apply Rc
     rw [Ra hi, e1, s0]
     simp only [hi', Zy, Zt, Qb, Raj, Rab hmn, hh, Zv, Zf]
     rcases hk with hk | hk <;> simp [hk]
    | succ d1 =>
     have hn4 : ¬ ((3 : Int) ≤ 3 - ((d1 + 1 : Nat) : Int)) := by omega
     have hw : wrap64 (3 - ((d1 + 1 : Nat) : Int) + 1) = 3 - (d1 : Int) := by rw [wrap_id (by omega) (by omega)]; omega
     have s1 : gOk many (d1 + 1) l[i] = (l[i].body.all (gOk many d1) && l[i].els.all (gOk many d1)) := by simp [gOk, hh, hk]
     obtain ⟨c1, k1, k2⟩ := hp d1 rfl l[i].body n ⟨l[i], List.getElem_mem hi, .inl rfl⟩ h0 h1
     by_cases g1 : l[i].body.all (gOk many d1) = true ∧ n + cSs l[i].body ≤ 16
     ·have hc1 := k2 g1.1 g1.2
      obtain ⟨c2, m1, m2⟩ := hp d1 rfl l[i].els (n + cSs l[i].body) ⟨l[i], List.getElem_mem hi, .inr rfl⟩ (by omega) g1.2
      by_cases g2 : l[i].els.all (gOk many d1) = true ∧ n + cSs l[i].body + cSs l[i].els ≤ 16
      ·have hc2 := m2 g2.1 g2.2
       obtain ⟨c, hc⟩ := Rrj hmn hl hd0 hp d (i + 1) (n + cSs l[i].body + cSs l[i].els) (by omega) (by omega) g2.2
       refine ⟨c, ?_⟩
       apply Rc
       rw [Ra hi, e1, s1, g1.1, g2.1, Rb (by omega), hw]
       subst hc1 hc2
       have dk1 : decide (l[i].body.all (gOk many d1) = true ∧ n + (cSs l[i].body : Int) ≤ 16) = true := Zp g1
       have dk2 : decide (l[i].els.all (gOk many d1) = true ∧ n + (cSs l[i].body : Int) + (cSs l[i].els : Int) ≤ 16) = true := Zp g2
       rw [dk1] at k1
       rw [dk2] at m1
       have hcond : ((true && true && (l.drop (i + 1)).all (gOk many (d1 + 1))) = true ∧ n + ((cSs (l.drop i) : Int) - ((l.length : Int) - (i : Int))) ≤ 16) ↔ ((l.drop (i + 1)).all (gOk many (d1 + 1)) = true ∧ n + (cSs l[i].body : Int) + (cSs l[i].els : Int) + ((cSs (l.drop (i + 1)) : Int) - ((l.length : Int) - ((i + 1 : Nat) : Int))) ≤ 16) := by
        simp only [Bool.true_and, Bool.and_true]
        constructor
        ·rintro ⟨x, y⟩; exact ⟨x, by omega⟩
        ·rintro ⟨x, y⟩; exact ⟨x, by omega⟩
       have hval : n + ((cSs (l.drop i) : Int) - ((l.length : Int) - (i : Int))) = n + (cSs l[i].body : Int) + (cSs l[i].els : Int) + ((cSs (l.drop (i + 1)) : Int) - ((l.length : Int) - ((i + 1 : Nat) : Int))) := by omega
       rw [Rnl hcond (congrArg (Sum.inl (β := Bool × Int)) hval), ← hc]
       simp only [hi', Zy, Zt, Qb, Raj, Rab hmn, hh, Zv, Zf, hn3, hn4, Zz, k1, m1]
       rcases hk with hk | hk <;> simp [hk]
      ·refine ⟨c2, ?_⟩
       apply Rc
       rw [Ra hi, e1, s1, g1.1, hw]
       subst hc1
       have dk1 : decide (l[i].body.all (gOk many d1) = true ∧ n + (cSs l[i].body : Int) ≤ 16) = true := Zp g1
       have dk2 : decide (l[i].els.all (gOk many d1) = true ∧ n + (cSs l[i].body : Int) + (cSs l[i].els : Int) ≤ 16) = false := Zq g2
       rw [dk1] at k1
       rw [dk2] at m1
       rw [if_neg (by
        rintro ⟨x, y⟩
        simp only [Bool.true_and, Zw] at x
        exact g2 ⟨x.1, by omega⟩)]
       simp only [hi', Zy, Zt, Qb, Raj, Rab hmn, hh, Zv, Zf, hn3, hn4, Zz, k1, m1]
       rcases hk with hk | hk <;> simp [hk]
     ·refine ⟨c1, ?_⟩
      apply Rc
      rw [Ra hi, e1, s1, hw]
      have dk1 : decide (l[i].body.all (gOk many d1) = true ∧ n + (cSs l[i].body : Int) ≤ 16) = false := Zq g1
      rw [dk1] at k1
      rw [if_neg (by
       rintro ⟨x, y⟩
       simp only [Zw] at x
       exact g1 ⟨x.1.1, by omega⟩)]
      simp only [hi', Zy, Zt, Qb, Raj, Rab hmn, hh, Zv, Zf, hn3, hn4, Zz, k1]
      rcases hk with hk | hk <;> simp [hk]
   ·have n2 : l[i].kind ≠ 2 := fun h => hk (.inl h)
    have n3 : l[i].kind ≠ 3 := fun h => hk (.inr h)
    have s1 : gOk many d0 l[i] = true := by cases d0 <;> simp [gOk, hh, n2, n3]
    have hbe : l[i].body = [] ∧ l[i].els = [] := by
     have hh' := hh
     have hh' := hh'.1
     simp only [hdr, n2, n3, false_and, false_or] at hh'
     have : (l[i].body.length : Int) = 0 ∧ (l[i].els.length : Int) = 0 := by
      rcases hh' with h | h | h | h | h
      ·exact ⟨h.2.2.2.2.1, h.2.2.2.2.2⟩
      ·exact ⟨h.2.2.2.2.1, h.2.2.2.2.2⟩
      ·exact ⟨h.2.2.2.2.1, h.2.2.2.2.2⟩
      ·exact ⟨h.2.2.2.2.1, h.2.2.2.2.2⟩
      ·exact ⟨h.2.2.2.2.1, h.2.2.2.2.2⟩
     exact ⟨List.eq_nil_of_length_eq_zero (by omega), List.eq_nil_of_length_eq_zero (by omega)⟩
    rw [hbe.1, hbe.2] at e3
    simp only [cSs] at e3
    obtain ⟨c, hc⟩ := Rrj hmn hl hd0 hp d (i + 1) n (by omega) h0 h1
    refine ⟨c, ?_⟩
    apply Rc
    rw [Ra hi, e1, s1, Rb (by omega)]
    have hcond : ((true && (l.drop (i + 1)).all (gOk many d0)) = true ∧ n + ((cSs (l.drop i) : Int) - ((l.length : Int) - (i : Int))) ≤ 16) ↔ ((l.drop (i + 1)).all (gOk many d0) = true ∧ n + ((cSs (l.drop (i + 1)) : Int) - ((l.length : Int) - ((i + 1 : Nat) : Int))) ≤ 16) := by
     simp only [Bool.true_and]
     constructor
     ·rintro ⟨x, y⟩; exact ⟨x, by omega⟩
     ·rintro ⟨x, y⟩; exact ⟨x, by omega⟩
    have hval : n + ((cSs (l.drop i) : Int) - ((l.length : Int) - (i : Int))) = n + ((cSs (l.drop (i + 1)) : Int) - ((l.length : Int) - ((i + 1 : Nat) : Int))) := by omega
    rw [Rnl hcond (congrArg (Sum.inl (β := Bool × Int)) hval), ← hc]
    simp only [hi', Zy, Zt, Qb, Raj, Rab hmn, hh, Zv, Zf, hn3, Zz]
    simp [n2, n3]
  ·have s1 : gOk many d0 l[i] = false := by cases d0 <;> simp [gOk, hh]
   refine ⟨n, ?_⟩
   apply Rc
   rw [Ra hi, e1, s1]
   simp only [hi', Zy, Zt, Qb, Raj, Rab hmn, hh, Zz, Zx]
   simp
theorem Rgy {many : Int} (hmn : 0 ≤ many ∧ many ≤ 3) : ∀ (d : Nat) (l : List Stm) (n : Int), d ≤ 3 → mSs l ≤ 4294967296 → 0 ≤ n → n ≤ 16 →
  ∃ c, Rj l many (3 - (d : Int)) n = some (decide (l.all (gOk many d) = true ∧ n + cSs l ≤ 16), c) ∧ (l.all (gOk many d) = true → n + cSs l ≤ 16 → c = n + cSs l)
 | d, l, n, hd, hm, h0, h1 => by
  have hlen := Ri l
  have hcl := Rkp l
  by_cases hc : (16 : Int) < n + l.length
  ·refine ⟨n + l.length, ?_, fun _ h => by omega⟩
   apply Ro
   rw [wrap_id (by omega) (by omega)]
   have : ¬ (l.all (gOk many d) = true ∧ n + (cSs l : Int) ≤ 16) := fun h => by omega
   rw [Zq this]
   simp [hc]
  ·obtain ⟨c, h⟩ := Rrj hmn (l := l) (d0 := d) (by omega) hd (fun d1 e1 bl m hb g0 g1 => by
    obtain ⟨s, hs, hbl⟩ := hb
    have := Rx hs
    have := Rio s
    have hmb : mSs bl ≤ 4294967296 := by rcases hbl with rfl | rfl <;> omega
    exact Rgy hmn d1 bl m (by omega) hmb g0 g1) l.length 0 (n + l.length) (by omega) (by omega) (by omega)
   rw [List.drop_zero] at h
   by_cases g : l.all (gOk many d) = true ∧ n + (cSs l : Int) ≤ 16
   ·refine ⟨n + cSs l, ?_, fun _ _ => rfl⟩
    apply Ro
    rw [wrap_id (by omega) (by omega), show (0 : Int) = ((0 : Nat) : Int) by rfl, h, if_pos ⟨g.1, by omega⟩, Zp g]
    simp only [hc, Zz, Zf, Qb, selm]
    congr 2; omega
   ·refine ⟨c, ?_, fun a b => absurd ⟨a, b⟩ g⟩
    apply Ro
    rw [wrap_id (by omega) (by omega), show (0 : Int) = ((0 : Nat) : Int) by rfl, h, if_neg (fun x => g ⟨x.1, by omega⟩), Zq g]
    simp only [hc, Zz, Zf, Qb, selm]
 termination_by d => d
mutual
def bS (many : Int) : Stm → Bool
 | ⟨k, _, b, _, bd, el⟩ => !(decide (k = 4 ∨ k = 5) && decide (many ≤ b)) && bSs many bd && bSs many el
def bSs (many : Int) : List Stm → Bool
 | [] => true
 | s :: r => bS many s && bSs many r
end
theorem bS_eq (many : Int) (s : Stm) : bS many s = (!(decide (s.kind = 4 ∨ s.kind = 5) && decide (many ≤ s.box)) && bSs many s.body && bSs many s.els) := by cases s; simp [bS]
theorem Rrq (many : Int) : ∀ l : List Stm, bSs many l = l.all (bS many)
 | [] => rfl
 | s :: r => by simp [bSs, Rrq many r]
theorem Rqg {s : Stm} (h : hdr s) (n2 : s.kind ≠ 2) (n3 : s.kind ≠ 3) : s.body = [] ∧ s.els = [] := by
 simp only [hdr, n2, n3, false_and, false_or] at h
 have : (s.body.length : Int) = 0 ∧ (s.els.length : Int) = 0 := by
  rcases h with h | h | h | h | h
  ·exact ⟨h.2.2.2.2.1, h.2.2.2.2.2⟩
  ·exact ⟨h.2.2.2.2.1, h.2.2.2.2.2⟩
  ·exact ⟨h.2.2.2.2.1, h.2.2.2.2.2⟩
  ·exact ⟨h.2.2.2.2.1, h.2.2.2.2.2⟩
  ·exact ⟨h.2.2.2.2.1, h.2.2.2.2.2⟩
 exact ⟨List.eq_nil_of_length_eq_zero (by omega), List.eq_nil_of_length_eq_zero (by omega)⟩
theorem Rsm (many : Int) (s : Stm) : decide (hdN many s) = (decide (hdr s) && !(decide (s.kind = 4 ∨ s.kind = 5) && decide (many ≤ s.box))) := by
 rw [Bool.eq_iff_iff]
 simp only [hdN, Ze, Zw, Bool.not_eq_true', Bool.and_eq_false_iff, decide_eq_false_iff_not]
 by_cases h : s.kind = 4 ∨ s.kind = 5
 ·simp [h]
 ·simp [h]
theorem Rqd {α : Type} {f g h : α → Bool} (hp : ∀ a, f a = (g a && h a)) : ∀ l : List α, l.all f = (l.all g && l.all h)
 | [] => rfl
 | a :: r => by
  simp only [List.all_cons, hp a, Rqd hp r]
  cases g a <;> cases h a <;> simp
theorem Rsl (many : Int) : ∀ (d : Nat) (s : Stm), gOk many d s = (sOk d s && bS many s)
 | 0, s => by
  simp only [gOk, sOk, Rsm, bS_eq]
  by_cases hh : hdr s
  ·by_cases hk : s.kind = 2 ∨ s.kind = 3
   ·simp [hk]
   ·have hl := Rqg hh (fun h => hk (.inl h)) (fun h => hk (.inr h))
    rw [hl.1, hl.2]
    simp [hh, hk, bSs]
  ·simp [hh]
 | d + 1, s => by
  simp only [gOk, sOk, Rsm, bS_eq]
  by_cases hh : hdr s
  ·by_cases hk : s.kind = 2 ∨ s.kind = 3
   ·have hk4 : ¬ (s.kind = 4 ∨ s.kind = 5) := by omega
    rw [Rqd (Rsl many d) s.body, Rqd (Rsl many d) s.els, Rrq, Rrq]
    simp only [hk, if_true, hk4, Zz, Bool.false_and, Zx, hh, Zy, Bool.true_and, Bool.and_true]
    cases s.body.all (sOk d) <;> cases s.body.all (bS many) <;> cases s.els.all (sOk d) <;> simp
   ·have hl := Rqg hh (fun h => hk (.inl h)) (fun h => hk (.inr h))
    rw [hl.1, hl.2]
    simp [hh, hk, bSs]
  ·simp [hh]
theorem l12_l {l : List Stm} {many : Int} (hl : (l.length : Int) ≤ 4294967296) (hp : ∀ s ∈ l, Rf s.body many = some (bSs many s.body) ∧ Rf s.els many = some (bSs many s.els)) :
  ∀ (d i : Nat), i + d = l.length → Rad l many i = some (if bSs many (l.drop i) then .inl () else .inr false)
 | 0, i, hd => by
  apply Rgd
  have hi : ¬ ((i : Int) < l.length) := by omega
  rw [List.drop_eq_nil_of_le (by omega)]
  simp [hi, bSs]
 | d + 1, i, hd => by
  apply Rgd
  have hi : i < l.length := by omega
  have hi' : (i : Int) < l.length := by omega
  obtain ⟨p1, p2⟩ := hp _ (List.getElem_mem hi)
  have e1 : bSs many (l.drop i) = (bS many l[i] && bSs many (l.drop (i + 1))) := by rw [List.drop_eq_getElem_cons hi]; simp only [bSs]
  rw [Ra hi, Rb (by omega), l12_l hl hp d (i + 1) (by omega), e1, bS_eq]
  simp only [hi', Zy, Zt, Qb, p1, p2]
  by_cases h4 : l[i].kind = 4
  ·by_cases hb : many ≤ l[i].box <;> cases bSs many l[i].body <;> cases bSs many l[i].els <;> simp [h4, hb]
  ·by_cases h5 : l[i].kind = 5
   ·by_cases hb : many ≤ l[i].box <;> cases bSs many l[i].body <;> cases bSs many l[i].els <;> simp [h5, hb]
   ·cases bSs many l[i].body <;> cases bSs many l[i].els <;> simp [h4, h5]
theorem Rdw {l : List Stm} {many : Int} (hl : (l.length : Int) ≤ 4294967296) (hp : ∀ s ∈ l, Rf s.body many = some (bSs many s.body) ∧ Rf s.els many = some (bSs many s.els)) : Rf l many = some (bSs many l) := by
 apply Rng
 rw [show (0 : Int) = ((0 : Nat) : Int) by rfl, l12_l hl hp l.length 0 (by omega), List.drop_zero]
 cases bSs many l <;> simp [selm]
theorem Rso (many : Int) : ∀ s : Stm, mS s ≤ 4294967296 → Rf s.body many = some (bSs many s.body) ∧ Rf s.els many = some (bSs many s.els) := by
 apply Stm.ind
 intro s ih1 ih2 hb
 rw [Rio] at hb
 have l1 := Ri s.body
 have l2 := Ri s.els
 exact ⟨Rdw (by omega) (fun a ha => ih1 a ha (by have := Rx ha; omega)), Rdw (by omega) (fun a ha => ih2 a ha (by have := Rx ha; omega))⟩
theorem Rnf {l : List Stm} {many : Int} (hb : mSs l ≤ 4294967296) : Rf l many = some (bSs many l) :=
 Rdw (by have := Ri l; omega) (fun s hs => Rso many s (by have := Rx hs; omega))
def gtOk (many : Int) (l : List Stm) : Bool := decide (l.all (gOk many 3) = true ∧ (cSs l : Int) ≤ 16)
theorem gtOk_eq (many : Int) (l : List Stm) : gtOk many l = (stOk l && bSs many l) := by
 unfold gtOk stOk
 rw [Rqd (Rsl many 3) l, Rrq]
 cases l.all (sOk 3) <;> cases l.all (bS many) <;> simp
theorem Rkw {many : Int} (hmn : 0 ≤ many ∧ many ≤ 3) (l : List Stm) (hm : mSs l ≤ 4294967296) : Rbm l many = some (stOk l && bSs many l) := by
 apply Rgj
 obtain ⟨c, h, _⟩ := Rgy hmn 3 l 0 (by omega) hm (by omega) (by omega)
 rw [show (3 : Int) - ((3 : Nat) : Int) = 0 by omega] at h
 rw [h, Qb, ← gtOk_eq]
 simp [gtOk]
def mT (t : Tk) : Nat := t.vars.length + mSs t.rest
def mB (b : Bx) : Nat := b.items.length
theorem Rrx {a : List Tk} (hl : (a.length : Int) ≤ 4294967296) (hp : ∀ e ∈ a, Rfn e e = some true) : ∀ (d i : Nat), i + d = a.length → Rcs a a i = some (.inl ())
 | 0, i, hd => by
  apply Rgm
  have hi : ¬ ((i : Int) < a.length) := by omega
  simp [hi]
 | d + 1, i, hd => by
  apply Rgm
  have hi : i < a.length := by omega
  have hi' : (i : Int) < a.length := by omega
  rw [Ra hi, Rb (by omega)]
  simp only [hi', Zy, Zt, Qb, hp _ (List.getElem_mem hi), Zv, Zf]
  exact Rrx hl hp d (i + 1) (by omega)
theorem Rkz {a : List Tk} (hl : (a.length : Int) ≤ 4294967296) (hp : ∀ e ∈ a, Rfn e e = some true) : Rij a a = some true := by
 apply Roa
 rw [show (0 : Int) = ((0 : Nat) : Int) by rfl, Rrx hl hp a.length 0 (by omega)]
 simp [selm]
theorem Rsk {a : List Bx} (hl : (a.length : Int) ≤ 4294967296) (hp : ∀ e ∈ a, Rhb e e = some true) : ∀ (d i : Nat), i + d = a.length → Rdy a a i = some (.inl ())
 | 0, i, hd => by
  apply Rhc
  have hi : ¬ ((i : Int) < a.length) := by omega
  simp [hi]
 | d + 1, i, hd => by
  apply Rhc
  have hi : i < a.length := by omega
  have hi' : (i : Int) < a.length := by omega
  rw [Ra hi, Rb (by omega)]
  simp only [hi', Zy, Zt, Qb, hp _ (List.getElem_mem hi), Zv, Zf]
  exact Rsk hl hp d (i + 1) (by omega)
theorem Rmg {a : List Bx} (hl : (a.length : Int) ≤ 4294967296) (hp : ∀ e ∈ a, Rhb e e = some true) : Rjf a a = some true := by
 apply Rou
 rw [show (0 : Int) = ((0 : Nat) : Int) by rfl, Rsk hl hp a.length 0 (by omega)]
 simp [selm]
def mTs : List Tk → Nat
 | [] => 0
 | e :: r => 1 + mT e + mTs r
theorem Rsv : ∀ l : List Tk, l.length ≤ mTs l
 | [] => Nat.le_refl _
 | e :: r => by have := Rsv r; simp only [mTs, Zc]; omega
theorem Rsw : ∀ {l : List Tk} {e : Tk}, e ∈ l → mT e < mTs l
 | [], e, h => by cases h
 | a :: r, e, h => by
  simp only [mTs]
  rcases List.mem_cons.1 h with rfl | h
  ·omega
  ·have := Rsw h; omega
def mBs : List Bx → Nat
 | [] => 0
 | e :: r => 1 + mB e + mBs r
theorem Rsr : ∀ l : List Bx, l.length ≤ mBs l
 | [] => Nat.le_refl _
 | e :: r => by have := Rsr r; simp only [mBs, Zc]; omega
theorem Rst : ∀ {l : List Bx} {e : Bx}, e ∈ l → mB e < mBs l
 | [], e, h => by cases h
 | a :: r, e, h => by
  simp only [mBs]
  rcases List.mem_cons.1 h with rfl | h
  ·omega
  ·have := Rst h; omega
theorem Rpb {l : List Int} (hl : (l.length : Int) ≤ 9223372036854775807) {n : Int} (h0 : 0 ≤ n) (h1 : n ≤ 1048576) : Rjm l n = some (left n l.length) := by
 apply Rpc
 rw [wrap_id (by omega) (by omega)]
 by_cases h : (l.length : Int) ≤ n
 ·rw [Red h]
  have : ¬ (n - (l.length : Int) < 0) := by omega
  simp only [this, Zz, Zf]
 ·rw [Ram (by omega)]
  have : n - (l.length : Int) < 0 := by omega
  simp only [this, Zy, Zt]
def mW (v : Wld) : Nat := mTs v.tasks + mBs v.boxes + v.out.length
theorem Rnx {b : Bx} (h : mB b ≤ 4294967296) : Rhb b b = some true := by
 apply Rqh
 unfold mB at h
 rw [Rbz (by omega)]; simp
theorem Rtx {v : Wld} (h : mW v ≤ 4294967296) : (v.tasks.length : Int) ≤ 4294967296 ∧ (∀ t ∈ v.tasks, mT t ≤ 4294967296) ∧ (v.boxes.length : Int) ≤ 4294967296 ∧ (∀ b ∈ v.boxes, mB b ≤ 4294967296) ∧ (v.out.length : Int) ≤ 4294967296 := by
 unfold mW at h
 have h1 := Rsv v.tasks
 have h2 := Rsr v.boxes
 refine ⟨by omega, fun t ht => ?_, by omega, fun b hb => ?_, by omega⟩
 ·have := Rsw ht; omega
 ·have := Rst hb; omega
theorem Rla {v : Wld} (h : mW v ≤ 4294967296) : Rck v v = some true := by
 obtain ⟨h1, h2, h3, h4, h5⟩ := Rtx h
 apply Rob
 rw [Rkz h1 (fun t ht => Rmk (h2 t ht)), Rmg h3 (fun b hb => Rnx (h4 b hb)), Rbz h5]
 simp
theorem Rgr {α : Type} {l : List α} {i : Nat} (hi : i < l.length) : l.take (i + 1) = l.take i ++ [l[i]] := by rw [List.take_add_one, List.getElem?_eq_getElem hi]; rfl
theorem Rrc {a : List Int} {A : List Ent} {h : Hd} (hl : (a.length : Int) ≤ 4294967296) : ∀ (d i : Nat) (b : List Int) (B : List Ent), i + d = a.length → b.length = a.length → b.take i = a.take i → Made .int A b h B → Ok (Rcd a h i B) fun r => r.1 = h ∧ Made .int A a h r.2 ∧ r.2.length = B.length
 | 0, i, b, B, hd, hb, ht, hm => by
  apply Ok.le (Rfw _ _ _ _)
  have hi : ¬ ((i : Int) < a.length) := by omega
  have : b = a := by rw [List.take_of_length_le (by omega), List.take_of_length_le (by omega)] at ht; exact ht
  subst this
  simp only [hi, Zz, Zf]
  exact Ok.of ⟨rfl, hm, rfl⟩
 | d + 1, i, b, B, hd, hb, ht, hm => by
  apply Ok.le (Rfw _ _ _ _)
  have hi : (i : Int) < a.length := by omega
  have hi' : i < a.length := by omega
  have hib : i < b.length := by omega
  have hn : (i : Int) < h.n := by rw [hm.cnt]; omega
  simp only [hi, Zy, Zt, geti_nat', List.getElem?_eq_getElem hi', Qb, Rb (show (i : Int) < 9223372036854775807 by omega), idxN_eq (show 0 ≤ (i : Int) by omega) hn, Int.toNat_natCast, hm.row (List.getElem?_eq_getElem hib)]
  refine (Rrc (h := h) hl d (i + 1) (b.set i a[i]) _ (by omega) (by simpa using hb) ?_ (hm.set flatC_int)).mono fun r hr => ⟨hr.1, hr.2.1, by rw [hr.2.2, length_set]⟩
  rw [Rgr (by simpa using hib), Rgr hi', List.take_set_of_le (by omega), ht]
  simp
theorem Rmu {a : List Int} (hl : (a.length : Int) ≤ 4294967296) (A : List Ent) : Ok (Rfa a A) fun r => r.1.id = some A.length ∧ Made .int A a r.1 r.2 ∧ r.2.length = A.length + 1 := by
 apply Ok.le (Rms _ _)
 have hmd : made (a.length : Int) = some a.length := by unfold made; rw [if_pos (by omega)]; simp
 rw [hmd, Qb]
 have h0 : Made .int A (List.replicate a.length (Qhw .int)) ⟨some A.length, a.length⟩ (Qaj A .int (List.replicate a.length (Qhw .int))) := by
  have := Made.push (A := A) (B := A) (c := .int) (l := List.replicate a.length (Qhw .int)) (Grow.refl A) flatC_int
  rwa [List.length_replicate] at this
 refine Ok.bnd (Rrc (h := ⟨some A.length, a.length⟩) hl a.length 0 (List.replicate a.length (Qhw .int)) _ (by omega) (by simp) (by simp) h0) fun r hr => ?_
 exact Ok.of ⟨by rw [hr.1], by rw [hr.1]; exact hr.2.1, by rw [hr.2.2, Qdb]⟩
structure Marked (c : TC) (h : Hd) (A B : List Ent) (l : List (Den c)) : Prop where
 get : Qae B c h.id = some l
 ext : Ext (fun n => h.id = some n) A B
 len : B.length = A.length
theorem Marked.none {c : TC} {h : Hd} {A : List Ent} {l : List (Den c)} (hg : Qae A c h.id = some l) : Marked c h A A l := ⟨hg, Ext.refl _ _, rfl⟩
theorem Marked.set {c : TC} {h : Hd} {A B : List Ent} {l : List (Den c)} (hm : Marked c h A B l) {i : Nat} (hi : i < l.length) (x : Den c) : Marked c h A (Qdz B c h.id i x) (l.set i x) := by
 obtain ⟨id, n⟩ := h
 cases id with
 | none =>
  have h0 := hm.get
  rw [Qar] at h0
  injection h0 with h0
  subst h0
  exact hm
 | some k => exact ⟨Qet hm.get, hm.ext.trans (Qun fun n hn => hn), by rw [length_set]; exact hm.len⟩
theorem Rqn {α : Type} (d : List α) (e x : α) (r : List α) : (d ++ e :: r).set d.length x = d ++ x :: r := by
 rw [List.set_append_right _ _ (Nat.le_refl _)]; simp
theorem Ric {α : Type} (d : List α) (e : α) (r : List α) : (d ++ e :: r)[d.length]? = some e := by
 rw [List.getElem?_append_right (Nat.le_refl _)]; simp
def mkI : Int → List Int → List Int
 | _, [] => []
 | k, _ :: r => k :: mkI (k + 1) r
theorem Rol : ∀ (k : Int) (l : List Int), (mkI k l).length = l.length
 | _, [] => rfl
 | k, _ :: r => by simp [mkI, Rol]
theorem Rsx {h : Hd} {A : List Ent} : ∀ (rest done : List Int) (k : Int) (B : List Ent), Marked .int h A B (done ++ rest) → h.n = done.length + rest.length → h.n ≤ 4294967296 → 0 ≤ k → k + rest.length ≤ 4611686018427387904 → Ok (Rbh h k done.length B) fun r => r.1 = k + rest.length ∧ Marked .int h A r.2 (done ++ mkI k rest)
 | [], done, k, B, hm, hn, hb, h0, hk => by
  apply Ok.le (Rek _ _ _ _)
  have hi : ¬ ((done.length : Int) < ((h.n : Nat) : Int)) := by simp only [Zn] at hn; omega
  simp only [hi, Zz, Zf]
  exact Ok.of ⟨by simp, hm⟩
 | e :: rest, done, k, B, hm, hn, hb, h0, hk => by
  apply Ok.le (Rek _ _ _ _)
  simp only [Zc] at hn hk
  have hi : (done.length : Int) < ((h.n : Nat) : Int) := by omega
  simp only [hi, Zy, Zt, idxN_eq (show 0 ≤ (done.length : Int) by omega) hi, Int.toNat_natCast, Qb, Qni hm.get (Ric done e rest)]
  have h1 := hm.set (i := done.length) (by simp) k
  rw [Rqn] at h1
  rw [wrap_id (n := k + 1) (by omega) (by omega), Rb (show (done.length : Int) < 9223372036854775807 by omega)]
  have ih := Rsx rest (done ++ [k]) (k + 1) _ (by rw [List.append_assoc]; exact h1) (by simp; omega) hb (by omega) (by omega)
  simp only [Za, Zc, Zn, Nat.zero_add] at ih
  refine ih.mono fun r hr => ⟨by rw [hr.1]; simp; omega, ?_⟩
  have := hr.2
  rw [List.append_assoc] at this
  exact this
theorem Rkf {h : Hd} {A : List Ent} {l : List Int} {k : Int} (hg : Qae A .int h.id = some l) (hn : h.n = l.length) (hl : l.length ≤ 4294967296) (h0 : 0 ≤ k) (hk : k + l.length ≤ 4611686018427387904) : Ok (Rv h k A) fun r => r.1 = k + l.length ∧ Marked .int h A r.2 (mkI k l) := by
 apply Ok.le (Rke _ _ _)
 exact Ok.bnd (Rsx (h := h) l [] k A (Marked.none hg) (by simpa using hn) (by omega) h0 hk) fun r hr => Ok.of hr
theorem Rsn {L : List Int} : ∀ (rest done : List Int) (k : Int), L = done ++ mkI k rest → L.length ≤ 4294967296 → 0 ≤ k → k + rest.length ≤ 4611686018427387904 → Raz L k done.length = some (.inl (k + rest.length))
 | [], done, k, hL, hl, h0, hk => by
  subst hL
  apply Rfp
  simp [mkI]
 | e :: rest, done, k, hL, hl, h0, hk => by
  apply Rfp
  simp only [Zc] at hk
  have hlen : L.length = done.length + (rest.length + 1) := by rw [hL]; simp [Rol]
  have hi : (done.length : Int) < (L.length : Int) := by omega
  have hget : L[done.length]? = some k := by rw [hL]; exact Ric done k _
  have ih := Rsn (L := L) rest (done ++ [k]) (k + 1) (by rw [List.append_assoc]; exact hL) hl (by omega) (by omega)
  simp only [Za, Zc, Zn, Nat.zero_add] at ih
  simp only [hi, Zy, Zt, geti_nat', hget, Qb, Zv, Zf]
  rw [wrap_id (n := k + 1) (by omega) (by omega), Rb (show (done.length : Int) < 9223372036854775807 by omega), ih]
  simp; omega
theorem Rem {l : List Int} {k : Int} (hl : l.length ≤ 4294967296) (h0 : 0 ≤ k) (hk : k + l.length ≤ 4611686018427387904) : Rct (mkI k l) k = some (k + l.length) := by
 apply Rmn
 have := Rsn (L := mkI k l) l [] k rfl (by rw [Rol]; exact hl) h0 hk
 have e : Raz (mkI k l) k 0 = some (.inl (k + l.length)) := this
 rw [e]; simp [selm]
mutual
def binX : Exp → Bool
 | ⟨_, n, as⟩ => decide (as.length = 0 ∨ (as.length = 2 ∧ n = 0)) && Rsd as
def Rsd : List Exp → Bool
 | [] => true
 | e :: r => binX e && Rsd r
end
mutual
def binS : Stm → Bool
 | ⟨_, _, _, e, bd, el⟩ => binX e && Rqe bd && Rqe el
def Rqe : List Stm → Bool
 | [] => true
 | s :: r => binS s && Rqe r
end
theorem Rrg (e : Exp) : binX e = (decide (e.args.length = 0 ∨ (e.args.length = 2 ∧ e.n = 0)) && Rsd e.args) := by cases e; simp [binX]
theorem Rrf (s : Stm) : binS s = (binX s.e && Rqe s.body && Rqe s.els) := by cases s; simp [binS]
theorem Rqq : ∀ l : List Exp, Rsd l = l.all binX
 | [] => rfl
 | e :: r => by simp [Rsd, Rqq r]
theorem Rfe : ∀ l : List Stm, Rqe l = l.all binS
 | [] => rfl
 | e :: r => by simp [Rqe, Rfe r]
theorem Rno {e : Exp} (h : e.args = []) : binX e = true := by rw [Rrg, h]; rfl
theorem Rrh : ∀ (d : Nat) (e : Exp), Ru d e = true → binX e = true
 | 0, e, h => by simp [Ru] at h
 | d + 1, e, h => by
  unfold Ru at h
  split at h
  ·simp only [Zw] at h
   exact Rno (by simpa using h.2)
  split at h
  ·simp only [Zw] at h
   exact Rno (by simpa using h.2)
  ·simp only [Zw] at h
   obtain ⟨⟨_, hn⟩, h⟩ := h
   have hn := of_decide_eq_true hn
   split at h
   ·rename_i a b hab
    simp only [Zw] at h
    rw [Rrg, hab]
    simp [Rsd, Rrh d a h.1, Rrh d b h.2, hn]
   ·cases h
theorem Rrr {s : Stm} (h : hdr s) : binX s.e = true := by
 have e0 : ∀ {e : Exp}, (e.args.length : Int) = 0 → binX e = true := fun h => Rno (List.eq_nil_of_length_eq_zero (by omega))
 rcases h with ⟨_, _, _, h, _⟩ | ⟨_, _, _, h⟩ | ⟨_, _, _, h, _⟩ | ⟨_, _, _, h, _⟩ | ⟨_, _, _, ⟨_, _, h⟩, _⟩ | ⟨_, _, _, ⟨_, _, h⟩, _⟩ | ⟨_, _, _, h, _⟩
 all_goals first | exact Rrh _ _ h | exact e0 h
theorem binS_ok : ∀ (d : Nat) (s : Stm), sOk d s = true → binS s = true := by
 have leaf : ∀ {s : Stm}, hdr s → s.kind ≠ 2 → s.kind ≠ 3 → binS s = true := by
  intro s h h2 h3
  obtain ⟨e1, e2⟩ := Rqg h h2 h3
  rw [Rrf, e1, e2, Rrr h]; rfl
 intro d
 induction d with
 | zero =>
  intro s h
  simp only [sOk, Zw, Ze, Bool.not_eq_true', decide_eq_false_iff_not] at h
  exact leaf h.1 (fun hh => h.2 (.inl hh)) (fun hh => h.2 (.inr hh))
 | succ d ih =>
  intro s h
  simp only [sOk, Zw, Ze] at h
  obtain ⟨h1, h2⟩ := h
  by_cases hk : s.kind = 2 ∨ s.kind = 3
  ·rw [if_pos hk, Zw, List.all_eq_true, List.all_eq_true] at h2
   rw [Rrf, Rrr h1, Rfe, Rfe, List.all_eq_true.2 fun s hs => ih s (h2.1 s hs), List.all_eq_true.2 fun s hs => ih s (h2.2 s hs)]; rfl
  ·exact leaf h1 (fun hh => hk (.inl hh)) (fun hh => hk (.inr hh))
theorem Rtt {l : List Stm} (h : stOk l = true) : Rqe l = true := by
 unfold stOk at h
 simp only [Ze] at h
 rw [Rfe, List.all_eq_true]
 exact fun s hs => binS_ok 3 s (List.all_eq_true.1 h.1 s hs)
theorem Rpo : ∀ e : Exp, binX e = true → Rbp e = some e := by
 apply Exp.ind
 intro e ih hb
 apply Rpp
 rw [Rrg, Rqq] at hb
 simp only [Zw, Ze, List.all_eq_true] at hb
 obtain ⟨h1, h2⟩ := hb
 obtain ⟨o, n, as⟩ := e
 match as, h1, ih, h2 with
 | [], _, _, _ => simp [Rsq]
 | [a, b], _, ih, h2 =>
  have ha := ih a (by simp) (h2 a (by simp))
  have hb := ih b (by simp) (h2 b (by simp))
  have g0 : geti [a, b] 0 = some a := rfl
  have g1 : geti [a, b] 1 = some b := rfl
  have hn : n = 0 := by
   rename_i h1
   rcases h1 with h1 | h1
   ·simp at h1
   ·exact h1.2
  subst hn
  simp only [g0, g1, Qb, Raa, ha, hb, Rsp]
  simp
theorem Rnn (s : Stm) : (⟨s.kind, s.var, s.box, s.e, s.body, s.els⟩ : Stm) = s := by cases s; rfl
theorem Rps {l : List Exp} {x0 x1 o n : Int} {f0 : Bool} {l0 : List Exp} (hl : (l.length : Int) ≤ 4294967296) (hp : ∀ e ∈ l, Rae e = some e) : ∀ (d i : Nat) (f : Bool), i + d = l.length →
  Ok (Raw l l.length i x0 x1 f0 l0 o n f (l.take i)) fun r => r.2.2.2.1 = o ∧ r.2.2.2.2.1 = n ∧ r.2.2.2.2.2.2 = l
 | 0, i, f, hd => by
  apply Ok.le (Rfj _ _ _ _ _ _ _ _ _ _ _)
  have hi : ¬ ((i : Int) < l.length) := by omega
  simp only [hi, Zz, Zf]
  exact Ok.of ⟨rfl, rfl, List.take_of_length_le (by omega)⟩
 | d + 1, i, f, hd => by
  apply Ok.le (Rfj _ _ _ _ _ _ _ _ _ _ _)
  have hi : i < l.length := by omega
  have hi' : (i : Int) < l.length := by omega
  simp only [hi', Zy, Zt, Ra hi, Qb, Raa, hp _ (List.getElem_mem hi), Rb (show (i : Int) < 9223372036854775807 by omega), Rfd (show (l.take i).length + [l[i]].length ≤ 4294967296 by simp; omega)]
  have e : l.take i ++ [l[i]] = l.take (i + 1) := by rw [List.take_add_one, List.getElem?_eq_getElem hi]; rfl
  rw [e]
  exact Rps hl hp d (i + 1) true (by omega)
theorem Rme : ∀ e : Exp, emX e ≤ 4294967296 → Rae e = some e := by
 apply Exp.ind
 intro e ih hm
 apply Rmf
 rw [Rbu] at hm
 have hl := Rby e.args
 obtain ⟨r, h1, h2, h3, h4⟩ := Rps (l := e.args) (x0 := 0) (x1 := 0) (o := e.op) (n := e.n) (f0 := false) (l0 := []) (by omega) (fun a ha => ih a ha (by have := Rib ha; omega)) e.args.length 0 false (by omega)
 have h1' : Raw e.args (e.args.length : Int) 0 0 0 false [] e.op e.n false [] = some r := h1
 rw [h1', Qb, h2, h3, h4, Raa]
theorem Ros {l : List Stm} (hl : (l.length : Int) ≤ 4294967296) (hp : ∀ s ∈ l, Rh s.body = some s.body ∧ Rh s.els = some s.els ∧ Rae s.e = some s.e) : ∀ (d i : Nat) (f : Bool), i + d = l.length →
  Ok (Ran f (l.take i) l l.length i) fun r => r.2 = l
 | 0, i, f, hd => by
  apply Ok.le (Res _ _ _ _ _)
  have hi : ¬ ((i : Int) < l.length) := by omega
  simp only [hi, Zz, Zf]
  exact Ok.of (List.take_of_length_le (by omega))
 | d + 1, i, f, hd => by
  apply Ok.le (Res _ _ _ _ _)
  have hi : i < l.length := by omega
  have hi' : (i : Int) < l.length := by omega
  obtain ⟨h1, h2, h3⟩ := hp _ (List.getElem_mem hi)
  simp only [hi', Zy, Zt, Ra hi, Qb, Raa, h1, h2, h3, Rnn, Rb (show (i : Int) < 9223372036854775807 by omega), Rfd (show (l.take i).length + [l[i]].length ≤ 4294967296 by simp; omega)]
  have e : l.take i ++ [l[i]] = l.take (i + 1) := by rw [List.take_add_one, List.getElem?_eq_getElem hi]; rfl
  rw [e]
  exact Ros hl hp d (i + 1) true (by omega)
theorem Rdm {l : List Stm} (hl : (l.length : Int) ≤ 4294967296) (hp : ∀ s ∈ l, Rh s.body = some s.body ∧ Rh s.els = some s.els ∧ Rae s.e = some s.e) : Rh l = some l := by
 apply Rkv
 obtain ⟨r, h1, h2⟩ := Ros hl hp l.length 0 false (by omega)
 have h1' : Ran false [] l (l.length : Int) 0 = some r := h1
 rw [h1', Qb, h2]
theorem Riw : ∀ s : Stm, mS s ≤ 4294967296 → Rh s.body = some s.body ∧ Rh s.els = some s.els ∧ Rae s.e = some s.e := by
 apply Stm.ind
 intro s ih1 ih2 hm
 rw [Rio] at hm
 have l1 := Ri s.body
 have l2 := Ri s.els
 exact ⟨Rdm (by omega) (fun a ha => ih1 a ha (by have := Rx ha; omega)), Rdm (by omega) (fun a ha => ih2 a ha (by have := Rx ha; omega)), Rme _ (by omega)⟩
theorem Rku {l : List Stm} (hm : mSs l ≤ 4294967296) : Rh l = some l :=
 Rdm (by have := Ri l; omega) fun s hs => Riw s (by have := Rx hs; omega)
theorem Rqv {l : List Stm} (hl : (l.length : Int) ≤ 4294967296) (hp : ∀ s ∈ l, Rm s.body = some s.body ∧ Rm s.els = some s.els ∧ Rbp s.e = some s.e) : ∀ (d i : Nat) (f : Bool), i + d = l.length →
  Ok (Rbo l f (l.take i) i) fun r => r.2 = l
 | 0, i, f, hd => by
  apply Ok.le (Rgq _ _ _ _)
  have hi : ¬ ((i : Int) < l.length) := by omega
  simp only [hi, Zz, Zf]
  exact Ok.of (List.take_of_length_le (by omega))
 | d + 1, i, f, hd => by
  apply Ok.le (Rgq _ _ _ _)
  have hi : i < l.length := by omega
  have hi' : (i : Int) < l.length := by omega
  obtain ⟨h1, h2, h3⟩ := hp _ (List.getElem_mem hi)
  simp only [hi', Zy, Zt, Ra hi, Qb, Raa, h1, h2, h3, Rnn, Rb (show (i : Int) < 9223372036854775807 by omega), Rfd (show (l.take i).length + [l[i]].length ≤ 4294967296 by simp; omega)]
  have e : l.take i ++ [l[i]] = l.take (i + 1) := by rw [List.take_add_one, List.getElem?_eq_getElem hi]; rfl
  rw [e]
  exact Rqv hl hp d (i + 1) true (by omega)
theorem Rgb {l : List Stm} (hl : (l.length : Int) ≤ 4294967296) (hp : ∀ s ∈ l, Rm s.body = some s.body ∧ Rm s.els = some s.els ∧ Rbp s.e = some s.e) : Rm l = some l := by
 apply Ror
 obtain ⟨r, h1, h2⟩ := Rqv hl hp l.length 0 true (by omega)
 have h1' : Rbo l true ([] : List Stm) 0 = some r := h1
 rw [h1', Qb, h2]
theorem Rkm : ∀ s : Stm, mS s ≤ 4294967296 → binS s = true → Rm s.body = some s.body ∧ Rm s.els = some s.els ∧ Rbp s.e = some s.e := by
 apply Stm.ind
 intro s ih1 ih2 hm hb
 rw [Rio] at hm
 rw [Rrf, Rfe, Rfe] at hb
 simp only [Zw, List.all_eq_true] at hb
 have l1 := Ri s.body
 have l2 := Ri s.els
 exact ⟨Rgb (by omega) (fun a ha => ih1 a ha (by have := Rx ha; omega) (hb.1.2 a ha)), Rgb (by omega) (fun a ha => ih2 a ha (by have := Rx ha; omega) (hb.2 a ha)), Rpo _ hb.1.1⟩
theorem Roq {l : List Stm} (hm : mSs l ≤ 4294967296) (hb : Rqe l = true) : Rm l = some l := by
 rw [Rfe, List.all_eq_true] at hb
 exact Rgb (by have := Ri l; omega) fun s hs => Rkm s (by have := Rx hs; omega) (hb s hs)
def Ria (l : List Stm) : Tk × Bool := if stOk l = true then (⟨[0, 0, 0, 0], l⟩, true) else (⟨[], []⟩, false)
theorem Rnv {l : List Stm} (hm : mSs l ≤ 4294967296) : Rie l = some (Ria l) := by
 apply Rnw
 have hv : Rbl l = some (stOk l) := by
  apply Rgg
  rw [Rgi l hm]; rfl
 rw [hv, Qb, Rku hm, Qb]
 unfold Ria
 cases stOk l <;> rfl
theorem Roo {l : List Stm} (hm : mSs l ≤ 4294967296) : Rir l = some (Ria l) := by
 apply Rop
 rw [Rgp l hm, Qb]
 unfold Ria
 cases hs : stOk l
 ·rfl
 ·rw [Roq hm (Rtt hs), Qb]; rfl
def Rdc (l : List Int) : Bool := l.all fun n => decide (1 ≤ n ∧ n ≤ 4)
theorem Rlu {l : List Int} {i : Nat} (hi : i < l.length) : Rdc (l.drop i) = (decide (1 ≤ l[i] ∧ l[i] ≤ 4) && Rdc (l.drop (i + 1))) := by
 unfold Rdc; rw [List.drop_eq_getElem_cons hi, List.all_cons]
theorem Rlt {l : List Int} (hl : (l.length : Int) ≤ 4294967296) : ∀ (d i : Nat), i + d = l.length → Raf l l l.length i = some (if Rdc (l.drop i) then .inl l else .inr (l, false))
 | 0, i, hd => by
  apply Rei
  have hi : ¬ ((i : Int) < l.length) := by omega
  rw [List.drop_eq_nil_of_le (by omega)]
  simp [hi, Rdc]
 | d + 1, i, hd => by
  apply Rei
  have hi : i < l.length := by omega
  have hi' : (i : Int) < l.length := by omega
  rw [Rlu hi]
  simp only [hi', Zy, Zt, Ra hi, Qb, Rb (show (i : Int) < 9223372036854775807 by omega), Rlt hl d (i + 1) (by omega)]
  by_cases h1 : l[i] < 1
  ·have : ¬ (1 ≤ l[i] ∧ l[i] ≤ 4) := by omega
   simp [h1, this]
  by_cases h2 : 4 < l[i]
  ·have : ¬ (1 ≤ l[i] ∧ l[i] ≤ 4) := by omega
   simp [h1, h2, this]
  ·have : 1 ≤ l[i] ∧ l[i] ≤ 4 := by omega
   simp [h1, h2, this]
theorem Rjz {l : List Int} (hl : (l.length : Int) ≤ 4294967296) : Rfk l = some (Rdc l && decide ((l.length : Int) ≤ 3)) := by
 apply Rka
 have h : Raf l l (l.length : Int) 0 = _ := Rlt hl l.length 0 (by omega)
 rw [h, Qb, List.drop_zero]
 cases Rdc l <;> simp [selm]
theorem Rly {l : List Int} (hl : (l.length : Int) ≤ 4294967296) : ∀ (d i : Nat), i + d = l.length → Rbb l i = some (if Rdc (l.drop i) then .inl l else .inr (l, false))
 | 0, i, hd => by
  apply Rge
  have hi : ¬ ((i : Int) < l.length) := by omega
  rw [List.drop_eq_nil_of_le (by omega)]
  simp [hi, Rdc]
 | d + 1, i, hd => by
  apply Rge
  have hi : i < l.length := by omega
  have hi' : (i : Int) < l.length := by omega
  rw [Rlu hi]
  simp only [hi', Zy, Zt, Ra hi, Qb, Rcl, Rb (show (i : Int) < 9223372036854775807 by omega), Rly hl d (i + 1) (by omega)]
  by_cases h1 : 1 ≤ l[i] ∧ l[i] ≤ 4 <;> simp [h1]
theorem Rnh {l : List Int} (hl : (l.length : Int) ≤ 4294967296) : Rhw l = some (Rdc l && decide ((l.length : Int) ≤ 3)) := by
 apply Rni
 have h : Rbb l 0 = _ := Rly hl l.length 0 (by omega)
 rw [h, Qb, List.drop_zero]
 cases Rdc l <;> simp [selm]
def lsOk (n : Int) (l : List (List Stm)) : Bool := l.all fun x => stOk x && bSs n x
theorem Rqw {n : Int} {l : List (List Stm)} {i : Nat} (hi : i < l.length) : lsOk n (l.drop i) = ((stOk l[i] && bSs n l[i]) && lsOk n (l.drop (i + 1))) := by
 unfold lsOk; rw [List.drop_eq_getElem_cons hi, List.all_cons]
theorem Rls {r : List Int} (hr : (r.length : Int) ≤ 3) {l : List (List Stm)} (hl : (l.length : Int) ≤ 4294967296) (hm : ∀ x ∈ l, mSs x ≤ 4294967296) : ∀ (d i : Nat), i + d = l.length → Rp l l.length i r l = some (if lsOk r.length (l.drop i) then .inl () else .inr false)
 | 0, i, hd => by
  apply Rcn
  have hi : ¬ ((i : Int) < l.length) := by omega
  rw [List.drop_eq_nil_of_le (by omega)]
  simp [hi, lsOk]
 | d + 1, i, hd => by
  apply Rcn
  have hi : i < l.length := by omega
  have hi' : (i : Int) < l.length := by omega
  rw [Rqw hi]
  simp only [hi', Zy, Zt, Ra hi, Qb, Rkw (show (0 : Int) ≤ (r.length : Int) ∧ (r.length : Int) ≤ 3 by omega) _ (hm _ (List.getElem_mem hi)), Rb (show (i : Int) < 9223372036854775807 by omega), Rls hr hl hm d (i + 1) (by omega)]
  cases stOk l[i] && bSs (r.length : Int) l[i] <;> simp
theorem Rlx {r : List Int} {l : List (List Stm)} (hl : (l.length : Int) ≤ 4294967296) (hm : ∀ x ∈ l, mSs x ≤ 4294967296) : ∀ (d i : Nat), i + d = l.length → Rq i r l = some (if lsOk r.length (l.drop i) then .inl () else .inr false)
 | 0, i, hd => by
  apply Rdd
  have hi : ¬ ((i : Int) < l.length) := by omega
  rw [List.drop_eq_nil_of_le (by omega)]
  simp [hi, lsOk]
 | d + 1, i, hd => by
  apply Rdd
  have hi : i < l.length := by omega
  have hi' : (i : Int) < l.length := by omega
  rw [Rqw hi]
  simp only [hi', Zy, Zt, Ra hi, Qb, Rgp _ (hm _ (List.getElem_mem hi)), Rnf (hm _ (List.getElem_mem hi)), Rb (show (i : Int) < 9223372036854775807 by omega), Rlx hl hm d (i + 1) (by omega)]
  cases stOk l[i] <;> cases bSs (r.length : Int) l[i] <;> simp
def Rkk (p : Prg) : Bool := (Rdc p.rooms && decide ((p.rooms.length : Int) ≤ 3)) && decide (1 ≤ (p.tasks.length : Int) ∧ (p.tasks.length : Int) ≤ 3) && lsOk p.rooms.length p.tasks
theorem Rer {p : Prg} (hr : (p.rooms.length : Int) ≤ 4294967296) (hl : (p.tasks.length : Int) ≤ 4294967296) (hm : ∀ x ∈ p.tasks, mSs x ≤ 4294967296) : Rbq p = some (Rkk p) := by
 apply Riv
 rw [Rjz hr, Qb]
 unfold Rkk
 by_cases h3 : (p.rooms.length : Int) ≤ 3
 ·have h : Rp p.tasks (p.tasks.length : Int) 0 p.rooms p.tasks = _ := Rls h3 hl hm p.tasks.length 0 (by omega)
  rw [h, Qb, List.drop_zero]
  cases Rdc p.rooms
  ·simp
  by_cases h1 : (p.tasks.length : Int) < 1
  ·have : ¬ (1 ≤ (p.tasks.length : Int) ∧ (p.tasks.length : Int) ≤ 3) := by omega
   simp only [this, h1, h3, Zy, Zz, Bool.and_true, Zv, Zf, Zt, Bool.and_false, Bool.false_and]
  by_cases h2 : 3 < (p.tasks.length : Int)
  ·have : ¬ (1 ≤ (p.tasks.length : Int) ∧ (p.tasks.length : Int) ≤ 3) := by omega
   simp only [this, h1, h2, h3, Zy, Zz, Bool.and_true, Zv, Zf, Zt, Bool.and_false, Bool.false_and]
  ·have : 1 ≤ (p.tasks.length : Int) ∧ (p.tasks.length : Int) ≤ 3 := by omega
   simp only [this, h1, h2, h3, Zy, Zz, Bool.and_true, Bool.true_and, Zv, Zf, and_self]
   cases lsOk (p.rooms.length : Int) p.tasks <;> simp [selm]
 ·simp [h3]
theorem Riz {p : Prg} (hr : (p.rooms.length : Int) ≤ 4294967296) (hl : (p.tasks.length : Int) ≤ 4294967296) (hm : ∀ x ∈ p.tasks, mSs x ≤ 4294967296) : Rdu p = some (Rkk p) := by
 apply Rja
 have h : Rq 0 p.rooms p.tasks = _ := Rlx hl hm p.tasks.length 0 (by omega)
 rw [Rnh hr, Qb, Rcl, Qb, h, Qb, List.drop_zero]
 unfold Rkk
 cases Rdc p.rooms && decide ((p.rooms.length : Int) ≤ 3)
 ·simp
 by_cases h1 : 1 ≤ (p.tasks.length : Int) ∧ (p.tasks.length : Int) ≤ 3
 ·simp only [h1, and_self, Zy, Zv, Zf, Bool.true_and]
  cases lsOk (p.rooms.length : Int) p.tasks <;> simp [selm]
 ·simp only [h1, Zz, Zx, Zt, Zv, Zf, Bool.and_false, Bool.false_and]
theorem Rig {l : List Int} (hl : (l.length : Int) ≤ 4294967296) : ∀ (d i : Nat) (f : Bool), i + d = l.length → Ok (Rav f ((l.take i).map fun n => (⟨n, []⟩ : Bx)) l l.length i) fun r => r.2 = l.map fun n => (⟨n, []⟩ : Bx)
 | 0, i, f, hd => by
  apply Ok.le (Rfh _ _ _ _ _)
  have hi : ¬ ((i : Int) < l.length) := by omega
  simp only [hi, Zz, Zf]
  exact Ok.of (by rw [List.take_of_length_le (by omega)])
 | d + 1, i, f, hd => by
  apply Ok.le (Rfh _ _ _ _ _)
  have hi : i < l.length := by omega
  have hi' : (i : Int) < l.length := by omega
  simp only [hi', Zy, Zt, Ra hi, Qb, Rb (show (i : Int) < 9223372036854775807 by omega), Rfd (show ((l.take i).map fun n => (⟨n, []⟩ : Bx)).length + [(⟨l[i], []⟩ : Bx)].length ≤ 4294967296 by simp; omega)]
  have e : ((l.take i).map fun n => (⟨n, []⟩ : Bx)) ++ [(⟨l[i], []⟩ : Bx)] = (l.take (i + 1)).map fun n => (⟨n, []⟩ : Bx) := by rw [List.take_add_one, List.getElem?_eq_getElem hi, List.map_append]; rfl
  rw [e]
  exact Rig hl d (i + 1) true (by omega)
theorem Rmc {l : List Int} (hl : (l.length : Int) ≤ 4294967296) : Rhm l = some (l.map fun n => (⟨n, []⟩ : Bx)) := by
 apply Rmd
 obtain ⟨r, h1, h2⟩ := Rig hl l.length 0 false (by omega)
 have h1' : Rav false [] l (l.length : Int) 0 = some r := h1
 rw [h1', Qb, h2]
theorem Rit {l : List Int} (hl : (l.length : Int) ≤ 4294967296) : ∀ (d i : Nat) (f : Bool), i + d = l.length → Ok (Rbc l f ((l.take i).map fun n => (⟨n, []⟩ : Bx)) i) fun r => r.2 = l.map fun n => (⟨n, []⟩ : Bx)
 | 0, i, f, hd => by
  apply Ok.le (Rgf _ _ _ _)
  have hi : ¬ ((i : Int) < l.length) := by omega
  simp only [hi, Zz, Zf]
  exact Ok.of (by rw [List.take_of_length_le (by omega)])
 | d + 1, i, f, hd => by
  apply Ok.le (Rgf _ _ _ _)
  have hi : i < l.length := by omega
  have hi' : (i : Int) < l.length := by omega
  simp only [hi', Zy, Zt, Ra hi, Qb, Rb (show (i : Int) < 9223372036854775807 by omega), Rfd (show ((l.take i).map fun n => (⟨n, []⟩ : Bx)).length + [(⟨l[i], []⟩ : Bx)].length ≤ 4294967296 by simp; omega)]
  have e : ((l.take i).map fun n => (⟨n, []⟩ : Bx)) ++ [(⟨l[i], []⟩ : Bx)] = (l.take (i + 1)).map fun n => (⟨n, []⟩ : Bx) := by rw [List.take_add_one, List.getElem?_eq_getElem hi, List.map_append]; rfl
  rw [e]
  exact Rit hl d (i + 1) true (by omega)
theorem Rnj {l : List Int} (hl : (l.length : Int) ≤ 4294967296) : Rhx l = some (l.map fun n => (⟨n, []⟩ : Bx)) := by
 apply Rnk
 obtain ⟨r, h1, h2⟩ := Rit hl l.length 0 true (by omega)
 have h1' : Rbc l true ([] : List Bx) 0 = some r := h1
 rw [h1', Qb, h2]
def newT (l : List Stm) : Tk := (Ria l).1
theorem Rif {l : List (List Stm)} (hl : (l.length : Int) ≤ 4294967296) (hm : ∀ x ∈ l, mSs x ≤ 4294967296) {b0 b1 b4 : Bool} {t0 : List Tk} {x1 : List Bx} {n2 n3 : Int} {o4 : List Int} {bx : List Bx} {n5 n6 : Int} {c4 : Bool} {o : List Int} : ∀ (d i : Nat) (f : Bool), i + d = l.length →
  Ok (Rau l l.length i b0 t0 b1 x1 n2 n3 b4 o4 f ((l.take i).map newT) bx n5 n6 c4 o) fun r => r.2.2.2.2.2.1.2 = l.map newT ∧ r.2.2.2.2.2.2.1 = bx ∧ r.2.2.2.2.2.2.2.1 = n5 ∧ r.2.2.2.2.2.2.2.2.1 = n6 ∧ r.2.2.2.2.2.2.2.2.2.2 = o
 | 0, i, f, hd => by
  apply Ok.le (Rff _ _ _ _ _ _ _ _ _ _ _ _ _ _ _ _ _ _)
  have hi : ¬ ((i : Int) < l.length) := by omega
  simp only [hi, Zz, Zf]
  exact Ok.of ⟨by rw [List.take_of_length_le (by omega)], rfl, rfl, rfl, rfl⟩
 | d + 1, i, f, hd => by
  apply Ok.le (Rff _ _ _ _ _ _ _ _ _ _ _ _ _ _ _ _ _ _)
  have hi : i < l.length := by omega
  have hi' : (i : Int) < l.length := by omega
  simp only [hi', Zy, Zt, Ra hi, Qb, Rnv (hm _ (List.getElem_mem hi)), Rb (show (i : Int) < 9223372036854775807 by omega), Rfd (show ((l.take i).map newT).length + [(Ria l[i]).1].length ≤ 4294967296 by simp; omega)]
  have e : ((l.take i).map newT) ++ [(Ria l[i]).1] = (l.take (i + 1)).map newT := by rw [List.take_add_one, List.getElem?_eq_getElem hi, List.map_append]; rfl
  rw [e]
  exact Rif hl hm d (i + 1) true (by omega)
theorem Ris {r : List Int} {l : List (List Stm)} (hl : (l.length : Int) ≤ 4294967296) (hm : ∀ x ∈ l, mSs x ≤ 4294967296) {b0 b1 b4 : Bool} {t0 : List Tk} {x1 : List Bx} {n2 n3 : Int} {o4 : List Int} {bx : List Bx} {n5 n6 : Int} {c4 : Bool} {o : List Int} : ∀ (d i : Nat) (f : Bool), i + d = l.length →
  Ok (Rba i r l b0 t0 b1 x1 n2 n3 b4 o4 f ((l.take i).map newT) bx n5 n6 c4 o) fun r => r.2.2.2.2.2.1.2 = l.map newT ∧ r.2.2.2.2.2.2.1 = bx ∧ r.2.2.2.2.2.2.2.1 = n5 ∧ r.2.2.2.2.2.2.2.2.1 = n6 ∧ r.2.2.2.2.2.2.2.2.2.2 = o
 | 0, i, f, hd => by
  apply Ok.le (Rga _ _ _ _ _ _ _ _ _ _ _ _ _ _ _ _ _ _)
  have hi : ¬ ((i : Int) < l.length) := by omega
  simp only [hi, Zz, Zf]
  exact Ok.of ⟨by rw [List.take_of_length_le (by omega)], rfl, rfl, rfl, rfl⟩
 | d + 1, i, f, hd => by
  apply Ok.le (Rga _ _ _ _ _ _ _ _ _ _ _ _ _ _ _ _ _ _)
  have hi : i < l.length := by omega
  have hi' : (i : Int) < l.length := by omega
  simp only [hi', Zy, Zt, Ra hi, Qb, Roo (hm _ (List.getElem_mem hi)), Rb (show (i : Int) < 9223372036854775807 by omega), Rfd (show ((l.take i).map newT).length + [(Ria l[i]).1].length ≤ 4294967296 by simp; omega)]
  have e : ((l.take i).map newT) ++ [(Ria l[i]).1] = (l.take (i + 1)).map newT := by rw [List.take_add_one, List.getElem?_eq_getElem hi, List.map_append]; rfl
  rw [e]
  exact Ris hl hm d (i + 1) true (by omega)
def Rbk (p : Prg) : Wld × Bool := if Rkk p = true then (⟨p.tasks.map newT, p.rooms.map fun n => (⟨n, []⟩ : Bx), 0, 0, []⟩, true) else (⟨[], [], 0, 0, []⟩, false)
theorem Rma {p : Prg} (hr : (p.rooms.length : Int) ≤ 4294967296) (hl : (p.tasks.length : Int) ≤ 4294967296) (hm : ∀ x ∈ p.tasks, mSs x ≤ 4294967296) : Rhl p = some (Rbk p) := by
 apply Rmb
 rw [Rer hr hl hm, Qb, Rmc hr, Qb]
 unfold Rbk
 obtain ⟨r, e, h1, h2, h3, h4, h5⟩ := Rif hl hm (b0 := false) (b1 := false) (b4 := false) (t0 := []) (x1 := []) (n2 := 0) (n3 := 0) (o4 := []) (bx := p.rooms.map fun n => (⟨n, []⟩ : Bx)) (n5 := 0) (n6 := 0) (c4 := false) (o := []) p.tasks.length 0 false (by omega)
 have e' : Rau p.tasks (p.tasks.length : Int) 0 false [] false [] 0 0 false [] false [] (p.rooms.map fun n => (⟨n, []⟩ : Bx)) 0 0 false [] = some r := e
 rw [e', Qb, h1, h2, h3, h4, h5]
 cases Rkk p <;> rfl
theorem Rmz {p : Prg} (hr : (p.rooms.length : Int) ≤ 4294967296) (hl : (p.tasks.length : Int) ≤ 4294967296) (hm : ∀ x ∈ p.tasks, mSs x ≤ 4294967296) : Rhu p = some (Rbk p) := by
 apply Rna
 rw [Riz hr hl hm, Qb, Rnj hr, Qb]
 unfold Rbk
 obtain ⟨r, e, h1, h2, h3, h4, h5⟩ := Ris (r := p.rooms) hl hm (b0 := false) (b1 := false) (b4 := false) (t0 := []) (x1 := []) (n2 := 0) (n3 := 0) (o4 := []) (bx := p.rooms.map fun n => (⟨n, []⟩ : Bx)) (n5 := 0) (n6 := 0) (c4 := false) (o := []) p.tasks.length 0 false (by omega)
 have e' : Rba 0 p.rooms p.tasks false [] false [] 0 0 false [] false ([] : List Tk) (p.rooms.map fun n => (⟨n, []⟩ : Bx)) 0 0 false ([] : List Int) = some r := e
 rw [e', Qb, h1, h2, h3, h4, h5]
 cases Rkk p <;> rfl
theorem Rss : ∀ l : List Int, mBs (l.map fun n => (⟨n, []⟩ : Bx)) ≤ l.length
 | [] => by simp [mBs]
 | x :: r => by
  have h2 := Rss r
  simp only [List.map_cons, mBs, Zc, mB, Zn]; omega
mutual
def mkX : Int → Exp → Exp
 | k, ⟨_, _, as⟩ => ⟨k, k + 1, mkXs (k + 2) as⟩
def mkXs : Int → List Exp → List Exp
 | _, [] => []
 | k, e :: r => mkX k e :: mkXs (k + 2 + 2 * emX e) r
end
mutual
def nS : Stm → Nat
 | ⟨_, _, _, e, bd, el⟩ => 5 + 2 * emX e + nSs bd + nSs el
def nSs : List Stm → Nat
 | [] => 0
 | s :: r => nS s + nSs r
end
mutual
def mkS : Int → Stm → Stm
 | k, ⟨_, _, _, e, bd, el⟩ => ⟨k, k + 1, k + 2, ⟨k + 3, k + 4, mkXs (k + 5) e.args⟩, mkSs (k + 5 + 2 * emX e) bd, mkSs (k + 5 + 2 * emX e + nSs bd) el⟩
def mkSs : Int → List Stm → List Stm
 | _, [] => []
 | k, s :: r => mkS k s :: mkSs (k + nS s) r
end
theorem nS_eq (s : Stm) : nS s = 5 + 2 * emX s.e + nSs s.body + nSs s.els := by cases s; simp [nS]
theorem Rtz (k : Int) (s : Stm) : mkS k s = ⟨k, k + 1, k + 2, ⟨k + 3, k + 4, mkXs (k + 5) s.e.args⟩, mkSs (k + 5 + 2 * emX s.e) s.body, mkSs (k + 5 + 2 * emX s.e + nSs s.body) s.els⟩ := by cases s; simp [mkS]
theorem Rua (k : Int) (e : Exp) : mkX k e = ⟨k, k + 1, mkXs (k + 2) e.args⟩ := by cases e; simp [mkX]
mutual
theorem nS_le : ∀ s : Stm, nS s ≤ 5 + 5 * mS s
 | ⟨_, _, _, e, bd, el⟩ => by
  have h1 := Rip bd
  have h2 := Rip el
  simp only [nS, mS]; omega
theorem Rip : ∀ l : List Stm, nSs l ≤ 5 * mSs l
 | [] => by simp [nSs]
 | s :: r => by
  have h1 := nS_le s
  have h2 := Rip r
  simp only [nSs, mSs]; omega
end
theorem Rqk : ∀ (k : Int) (l : List Exp), (mkXs k l).length = l.length
 | k, [] => by simp [mkXs]
 | k, e :: r => by simp only [mkXs, Zc, Rqk]
theorem Rqj : ∀ (k : Int) (l : List Stm), (mkSs k l).length = l.length
 | k, [] => by simp [mkSs]
 | k, e :: r => by simp only [mkSs, Zc, Rqj]
def MarkX (l : List Exp) : Prop := ∀ (h : Hd) (ids : List Nat) (A : List Ent) (k : Int), Tr A .expH h l ids → ids.Nodup → 0 ≤ k → k + 2 * emXs l ≤ 4611686018427387904 → Ok (Rcb h k A) fun r => r.1 = k + 2 * emXs l ∧ Tr r.2 .expH h (mkXs k l) ids ∧ Only ids A r.2
theorem Rrp {h : Hd} {ids : List Nat} {A : List Ent} (nd : ids.Nodup) (hb : ((h.n : Nat) : Int) ≤ 4611686018427387904) : ∀ (rest done : List Exp) (k : Int) (B : List Ent), (∀ e ∈ rest, MarkX e.args) → Tr B .expH h (done ++ rest) ids → Only ids A B → 0 ≤ k → k + 2 * emXs rest ≤ 4611686018427387904 →
  Ok (Rar h k done.length B) fun r => r.1 = k + 2 * emXs rest ∧ Tr r.2 .expH h (done ++ mkXs k rest) ids ∧ Only ids A r.2
 | [], done, k, B, _, hT, ho, h0, hk => by
  apply Ok.le (Rdi _ _ _ _)
  have hn := hT.cnt
  simp only [Za, Zn] at hn
  have hi : ¬ ((done.length : Int) < ((h.n : Nat) : Int)) := by omega
  simp only [hi, Zz, Zf]
  exact Ok.of ⟨by simp [emXs], hT, ho⟩
 | e :: rest, done, k, B, hp, hT, ho, h0, hk => by
  apply Ok.le (Rdi _ _ _ _)
  have hn := hT.cnt
  simp only [Za, Zc] at hn
  have hi : (done.length : Int) < ((h.n : Nat) : Int) := by omega
  obtain ⟨M⟩ := hT.mid nd (j := done.length) (y := e) (Ric done e rest)
  have hlt := (List.getElem?_eq_some_iff.1 M.at_).1
  obtain ⟨as, hT', he⟩ := (show ∃ as, Tr B .expH M.x.args as M.s ∧ e = ⟨M.x.op, M.x.n, as⟩ from M.row)
  have ea : as = e.args := by rw [he]
  subst ea
  simp only [emXs, Rbu] at hk
  simp only [hi, Zy, Zt, idxN_eq (show 0 ≤ (done.length : Int) by omega) hi, Int.toNat_natCast, Qb, M.hid, Qni M.get M.at_, arRow_set M.get hlt, arSet_set M.get, wrap_id (n := k + 1) (by omega) (by omega), wrap_id (n := k + 1 + 1) (by omega) (by omega)]
  have o1 : Only [M.i] B (Qdz B .expH (some M.i) done.length (⟨k, k + 1, M.x.args⟩ : ExpH)) := set_only (c := .expH) (by simp)
  refine Ok.bnd (hp _ List.mem_cons_self M.x.args M.s _ (k + 1 + 1) (hT'.only o1 (fun n hn hm => M.out (by simp at hm; rw [← hm]; exact hn))) M.nds (by omega) (by omega)) fun r ⟨e1, t1, o2⟩ => ?_
  have oB : Only (M.i :: M.s) B r.2 := (o1.mono (by simp)).trans (o2.mono (fun n hn => List.mem_cons_of_mem _ hn))
  have hb2 := M.back (B := r.2) (x' := (⟨k, k + 1, M.x.args⟩ : ExpH)) (y' := ⟨k, k + 1, mkXs (k + 1 + 1) e.args⟩) (Qnh (fun n hn => by injection hn with hn; rw [← hn]; exact o2.same _ M.out) (Qet (c := .expH) M.get)) ⟨_, t1, rfl⟩ oB
  rw [Rqn] at hb2
  have ho2 : Only ids A r.2 := ho.trans (oB.mono fun n hn => by
   rcases List.mem_cons.1 hn with rfl | hn
   ·exact M.iin
   ·exact M.ins n hn)
  rw [Rb (show (done.length : Int) < 9223372036854775807 by omega)]
  have ih := Rrp nd hb rest (done ++ [⟨k, k + 1, mkXs (k + 1 + 1) e.args⟩]) r.1 r.2 (fun e he => hp e (List.mem_cons_of_mem _ he)) (by rw [List.append_assoc]; exact hb2) ho2 (by rw [e1]; omega) (by rw [e1]; omega)
  simp only [Za, Zc, Zn, Nat.zero_add] at ih
  refine ih.mono fun q ⟨q1, q2, q3⟩ => ⟨?_, ?_, q3⟩
  ·rw [q1, e1]; simp only [emXs, Rbu]; omega
  ·have ek : k + 1 + 1 = k + 2 := by omega
   rw [List.append_assoc, e1, ek] at q2
   simp only [mkXs, Rua, Rbu]
   exact q2
theorem Rqx : ∀ (N : Nat) (l : List Exp), emXs l ≤ N → MarkX l
 | 0, l, hN => by
  intro h ids A k hT nd h0 hk
  apply Ok.le (Rfr _ _ _)
  have hl := Rby l
  have hc := hT.cnt
  have hnil : l = [] := List.eq_nil_of_length_eq_zero (by omega)
  subst hnil
  refine Ok.bnd (Rrp (A := A) nd (by rw [hc]; simp) [] [] k A (by simp) hT (Only.refl _ _) h0 hk) fun r hr => Ok.of hr
 | N + 1, l, hN => by
  intro h ids A k hT nd h0 hk
  apply Ok.le (Rfr _ _ _)
  have hl := Rby l
  have hc := hT.cnt
  refine Ok.bnd (Rrp (A := A) nd (by rw [hc]; omega) l [] k A (fun e he => Rqx N e.args (by have := Rib he; rw [Rbu] at this; omega)) hT (Only.refl _ _) h0 hk) fun r hr => Ok.of hr
theorem Rjh {l : List Exp} : MarkX l := Rqx _ l (Nat.le_refl _)
def Rts (l : List Stm) : Prop := ∀ (h : Hd) (ids : List Nat) (A : List Ent) (k : Int), Tr A .stmH h l ids → ids.Nodup → 0 ≤ k → k + 5 * mSs l ≤ 4611686018427387904 → Ok (Rac h k A) fun r => r.1 = k + nSs l ∧ Tr r.2 .stmH h (mkSs k l) ids ∧ Only ids A r.2
theorem Rro {h : Hd} {ids : List Nat} {A : List Ent} (nd : ids.Nodup) (hb : ((h.n : Nat) : Int) ≤ 4611686018427387904) : ∀ (rest done : List Stm) (k : Int) (B : List Ent), (∀ e ∈ rest, Rts e.body ∧ Rts e.els) → Tr B .stmH h (done ++ rest) ids → Only ids A B → 0 ≤ k → k + 5 * mSs rest ≤ 4611686018427387904 →
  Ok (Ras h k done.length B) fun r => r.1 = k + nSs rest ∧ Tr r.2 .stmH h (done ++ mkSs k rest) ids ∧ Only ids A r.2
 | [], done, k, B, _, hT, ho, h0, hk => by
  apply Ok.le (Rdj _ _ _ _)
  have hn := hT.cnt
  simp only [Za, Zn] at hn
  have hi : ¬ ((done.length : Int) < ((h.n : Nat) : Int)) := by omega
  simp only [hi, Zz, Zf]
  exact Ok.of ⟨by simp [nSs], hT, ho⟩
 | e :: rest, done, k, B, hp, hT, ho, h0, hk => by
  apply Ok.le (Rdj _ _ _ _)
  have hn := hT.cnt
  simp only [Za, Zc] at hn
  have hi : (done.length : Int) < ((h.n : Nat) : Int) := by omega
  obtain ⟨M⟩ := hT.mid nd (j := done.length) (y := e) (Ric done e rest)
  have hlt := (List.getElem?_eq_some_iff.1 M.at_).1
  obtain ⟨as, bd, el, s1, s2, s3, hT1, hT2, hT3, he, hs⟩ := (show ∃ as bd el s1 s2 s3, Tr B .expH M.x.args as s1 ∧ Tr B .stmH M.x.body bd s2 ∧ Tr B .stmH M.x.els el s3 ∧ e = ⟨M.x.kind, M.x.var, M.x.box, ⟨M.x.eop, M.x.en, as⟩, bd, el⟩ ∧ M.s = s1 ++ (s2 ++ s3) from M.row)
  have ea0 : as = e.e.args := by rw [he]
  have eb0 : bd = e.body := by rw [he]
  have ec0 : el = e.els := by rw [he]
  have hsz : mS e = emXs as + mSs bd + mSs el := by rw [Rio, Rbu, ea0, eb0, ec0]
  have hnz : nS e = 5 + 2 * emXs as + nSs bd + nSs el := by rw [nS_eq, Rbu, ea0, eb0, ec0]
  have hle1 := Rip bd
  have hle2 := Rip el
  simp only [mSs, hsz] at hk
  obtain ⟨p1, p2⟩ := hp _ List.mem_cons_self
  rw [← eb0] at p1
  rw [← ec0] at p2
  have hnd := M.nds
  rw [hs, List.nodup_append] at hnd
  obtain ⟨n1, n23, d1⟩ := hnd
  rw [List.nodup_append] at n23
  obtain ⟨n2, n3, d23⟩ := n23
  have hout := M.out
  rw [hs] at hout
  simp only [hi, Zy, Zt, idxN_eq (show 0 ≤ (done.length : Int) by omega) hi, Int.toNat_natCast, Qb, M.hid, Qni M.get M.at_, arRow_set M.get hlt, arSet_set M.get, wrap_id (n := k + 1) (by omega) (by omega), wrap_id (n := k + 1 + 1) (by omega) (by omega), wrap_id (n := k + 1 + 1 + 1) (by omega) (by omega), wrap_id (n := k + 1 + 1 + 1 + 1) (by omega) (by omega), wrap_id (n := k + 1 + 1 + 1 + 1 + 1) (by omega) (by omega)]
  have o1 : Only [M.i] B (Qdz B .stmH (some M.i) done.length (⟨k, k + 1, k + 1 + 1, k + 1 + 1 + 1, k + 1 + 1 + 1 + 1, M.x.args, M.x.body, M.x.els⟩ : StmH)) := set_only (c := .stmH) (by simp)
  have ne1 : ∀ n ∈ s1, n ∉ [M.i] := fun n hn hm => hout (by simp at hm; rw [← hm]; simp [hn])
  have ne2 : ∀ n ∈ s2, n ∉ [M.i] := fun n hn hm => hout (by simp at hm; rw [← hm]; simp [hn])
  have ne3 : ∀ n ∈ s3, n ∉ [M.i] := fun n hn hm => hout (by simp at hm; rw [← hm]; simp [hn])
  refine Ok.bnd (Rjh (l := as) M.x.args s1 _ (k + 1 + 1 + 1 + 1 + 1) (hT1.only o1 ne1) n1 (by omega) (by omega)) fun r ⟨e1, t1, o2⟩ => ?_
  have hget : ∀ {D : List Ent} {s : List Nat}, Only s (Qdz B .stmH (some M.i) done.length (⟨k, k + 1, k + 1 + 1, k + 1 + 1 + 1, k + 1 + 1 + 1 + 1, M.x.args, M.x.body, M.x.els⟩ : StmH)) D → M.i ∉ s → Qae D .stmH (some M.i) = some (M.rows.set done.length (⟨k, k + 1, k + 1 + 1, k + 1 + 1 + 1, k + 1 + 1 + 1 + 1, M.x.args, M.x.body, M.x.els⟩ : StmH)) := fun o hm => Qnh (fun n hn => by injection hn with hn; rw [← hn]; exact o.same _ hm) (Qet (c := .stmH) M.get)
  have hrow : ∀ {D : List Ent}, Qae D .stmH (some M.i) = some (M.rows.set done.length (⟨k, k + 1, k + 1 + 1, k + 1 + 1 + 1, k + 1 + 1 + 1 + 1, M.x.args, M.x.body, M.x.els⟩ : StmH)) → Qju D .stmH (some M.i) done.length = some (⟨k, k + 1, k + 1 + 1, k + 1 + 1 + 1, k + 1 + 1 + 1 + 1, M.x.args, M.x.body, M.x.els⟩ : StmH) := fun hg => Qni hg (List.getElem?_set_self hlt)
  have g2 := hget o2 (fun hm => hout (by simp [hm]))
  rw [hrow g2, Qb]
  refine Ok.bnd (p1 M.x.body s2 r.2 r.1 ((hT2.only o1 ne2).only o2 (fun n hn hm => d1 n hm n (by simp [hn]) rfl)) n2 (by rw [e1]; omega) (by rw [e1]; omega)) fun r2 ⟨e2, t2, o3⟩ => ?_
  have g3 : Qae r2.2 .stmH (some M.i) = some (M.rows.set done.length (⟨k, k + 1, k + 1 + 1, k + 1 + 1 + 1, k + 1 + 1 + 1 + 1, M.x.args, M.x.body, M.x.els⟩ : StmH)) := Qnh (fun n hn => by injection hn with hn; rw [← hn]; exact o3.same _ (fun hm => hout (by simp [hm]))) g2
  rw [hrow g3, Qb]
  refine Ok.bnd (p2 M.x.els s3 r2.2 r2.1 (((hT3.only o1 ne3).only o2 (fun n hn hm => d1 n hm n (by simp [hn]) rfl)).only o3 (fun n hn hm => d23 n hm n hn rfl)) n3 (by rw [e2, e1]; omega) (by rw [e2, e1]; omega)) fun r3 ⟨e3, t3, o4⟩ => ?_
  have g4 : Qae r3.2 .stmH (some M.i) = some (M.rows.set done.length (⟨k, k + 1, k + 1 + 1, k + 1 + 1 + 1, k + 1 + 1 + 1 + 1, M.x.args, M.x.body, M.x.els⟩ : StmH)) := Qnh (fun n hn => by injection hn with hn; rw [← hn]; exact o4.same _ (fun hm => hout (by simp [hm]))) g3
  have tt1 : Tr r3.2 .expH M.x.args (mkXs (k + 1 + 1 + 1 + 1 + 1) as) s1 := (t1.only o3 (fun n hn hm => d1 n hn n (by simp [hm]) rfl)).only o4 (fun n hn hm => d1 n hn n (by simp [hm]) rfl)
  have tt2 : Tr r3.2 .stmH M.x.body (mkSs r.1 bd) s2 := t2.only o4 (fun n hn hm => d23 n hn n hm rfl)
  have oB : Only (M.i :: M.s) B r3.2 := by
   rw [hs]
   exact (((o1.mono (by simp)).trans (o2.mono fun n hn => by simp [hn])).trans (o3.mono fun n hn => by simp [hn])).trans (o4.mono fun n hn => by simp [hn])
  have hb2 := M.back (B := r3.2) (x' := (⟨k, k + 1, k + 1 + 1, k + 1 + 1 + 1, k + 1 + 1 + 1 + 1, M.x.args, M.x.body, M.x.els⟩ : StmH)) (y' := ⟨k, k + 1, k + 1 + 1, ⟨k + 1 + 1 + 1, k + 1 + 1 + 1 + 1, mkXs (k + 1 + 1 + 1 + 1 + 1) as⟩, mkSs r.1 bd, mkSs r2.1 el⟩) g4 ⟨_, _, _, s1, s2, s3, tt1, tt2, t3, rfl, hs⟩ oB
  rw [Rqn] at hb2
  have ho2 : Only ids A r3.2 := ho.trans (oB.mono fun n hn => by
   rcases List.mem_cons.1 hn with rfl | hn
   ·exact M.iin
   ·exact M.ins n hn)
  rw [Rb (show (done.length : Int) < 9223372036854775807 by omega)]
  have ih := Rro nd hb rest (done ++ [⟨k, k + 1, k + 1 + 1, ⟨k + 1 + 1 + 1, k + 1 + 1 + 1 + 1, mkXs (k + 1 + 1 + 1 + 1 + 1) as⟩, mkSs r.1 bd, mkSs r2.1 el⟩]) r3.1 r3.2 (fun e he => hp e (List.mem_cons_of_mem _ he)) (by rw [List.append_assoc]; exact hb2) ho2 (by rw [e3, e2, e1]; omega) (by rw [e3, e2, e1]; omega)
  simp only [Za, Zc, Zn, Nat.zero_add] at ih
  refine ih.mono fun q ⟨q1, q2, q3⟩ => ⟨?_, ?_, q3⟩
  ·rw [q1, e3, e2, e1]; simp only [nSs, hnz]; omega
  ·have ek : k + 1 + 1 = k + 2 := by omega
   have ek3 : k + 1 + 1 + 1 = k + 3 := by omega
   have ek4 : k + 1 + 1 + 1 + 1 = k + 4 := by omega
   have ek5 : k + 1 + 1 + 1 + 1 + 1 = k + 5 := by omega
   have ea : r.1 = k + 5 + 2 * emXs as := by rw [e1]; omega
   have eb : r2.1 = k + 5 + 2 * emXs as + nSs bd := by rw [e2, e1]; omega
   have ec : r3.1 = k + nS e := by rw [e3, e2, e1, hnz]; omega
   rw [List.append_assoc, eb, ec, ea, ek5, ek4, ek3, ek] at q2
   have em : mkS k e = ⟨k, k + 1, k + 2, ⟨k + 3, k + 4, mkXs (k + 5) as⟩, mkSs (k + 5 + 2 * emXs as) bd, mkSs (k + 5 + 2 * emXs as + nSs bd) el⟩ := by rw [Rtz, Rbu, ea0, eb0, ec0]
   rw [mkSs, em]
   exact q2
theorem Rok : ∀ (N : Nat) (l : List Stm), mSs l ≤ N → Rts l
 | 0, l, hN => by
  intro h ids A k hT nd h0 hk
  apply Ok.le (Rfs _ _ _)
  have hl := Ri l
  have hc := hT.cnt
  have hnil : l = [] := List.eq_nil_of_length_eq_zero (by omega)
  subst hnil
  refine Ok.bnd (Rro (A := A) nd (by rw [hc]; simp) [] [] k A (by simp) hT (Only.refl _ _) h0 hk) fun r hr => Ok.of hr
 | N + 1, l, hN => by
  intro h ids A k hT nd h0 hk
  apply Ok.le (Rfs _ _ _)
  have hl := Ri l
  have hc := hT.cnt
  refine Ok.bnd (Rro (A := A) nd (by rw [hc]; omega) l [] k A (fun e he => ⟨Rok N e.body (by have := Rx he; rw [Rio] at this; omega), Rok N e.els (by have := Rx he; rw [Rio] at this; omega)⟩) hT (Only.refl _ _) h0 hk) fun r hr => Ok.of hr
theorem Rft {l : List Stm} : Rts l := Rok _ l (Nat.le_refl _)
theorem Rnm {h : Hd} {ids : List Nat} {A : List Ent} {l : List Int} {k : Int} (hT : Tr A .int h l ids) (hl : (l.length : Int) ≤ 4294967296) (h0 : 0 ≤ k) (hk : k + l.length ≤ 4611686018427387904) : Ok (Rv h k A) fun r => r.1 = k + l.length ∧ Tr r.2 .int h (mkI k l) ids ∧ Only ids A r.2 := by
 obtain ⟨rows, ss, T, hids⟩ := Qlw.1 hT
 have hlen := T.len
 have hls := T.lens
 have hrow : ∀ j, j < rows.length → l[j]? = rows[j]? ∧ ss[j]? = some [] := by
  intro j hj
  have h1 : rows[j]? = some rows[j] := List.getElem?_eq_getElem hj
  have h2 : l[j]? = some (l[j]'(by omega)) := List.getElem?_eq_getElem _
  have h3 : ss[j]? = some (ss[j]'(by omega)) := List.getElem?_eq_getElem _
  obtain ⟨q1, q2⟩ := (show l[j]'(by omega) = rows[j] ∧ ss[j]'(by omega) = [] from T.row j _ _ _ h1 h2 h3)
  exact ⟨by rw [h1, h2, q1], by rw [h3, q2]⟩
 have hlr : l = rows := by
  apply List.ext_getElem?
  intro j
  by_cases hj : j < rows.length
  ·exact (hrow j hj).1
  ·rw [List.getElem?_eq_none (by omega), List.getElem?_eq_none (by omega)]
 subst hlr
 have hss : ss.flatten = [] := by
  rw [List.flatten_eq_nil_iff]
  intro s hs
  obtain ⟨j, hj⟩ := List.getElem?_of_mem hs
  have hlt := (List.getElem?_eq_some_iff.1 hj).1
  have := (hrow j (by omega)).2
  rw [hj] at this
  injection this
 rw [hss, List.append_nil] at hids
 refine (Rkf T.get T.cnt (by omega) h0 hk).mono fun r ⟨e1, hm⟩ => ⟨e1, ?_, hm.len, fun n hn => ?_⟩
 ·have T2 : Ls r.2 .int h (mkI k l) (mkI k l) (List.replicate l.length []) := ⟨hm.get, by rw [Rol]; exact T.cnt, rfl, by simp [Rol], fun j x y s hx hy hs => by
   rw [hx] at hy
   injection hy with hy
   rw [List.getElem?_replicate] at hs
   split at hs
   ·injection hs with hs; exact ⟨hy.symm, hs.symm⟩
   ·cases hs⟩
  have := T2.tr
  rw [hids]
  simpa using this
 ·by_cases hlt : n < A.length
  ·exact hm.ext.same n hlt fun e => hn (by rw [hids, e]; simp)
  ·rw [List.getElem?_eq_none (by rw [hm.len]; omega), List.getElem?_eq_none (by omega)]
def HeldX (l : List Exp) : Prop := ∀ k : Int, 0 ≤ k → k + 2 * emXs l ≤ 4611686018427387904 → Rea (mkXs k l) k = some (k + 2 * emXs l)
theorem Rrm {L : List Exp} (hL : (L.length : Int) ≤ 4611686018427387904) : ∀ (rest done : List Exp) (k : Int), (∀ e ∈ rest, HeldX e.args) → L = done ++ mkXs k rest → 0 ≤ k → k + 2 * emXs rest ≤ 4611686018427387904 → Rs L k done.length = some (.inl (k + 2 * emXs rest))
 | [], done, k, _, hl, h0, hk => by
  subst hl
  apply Ret
  simp [mkXs, emXs]
 | e :: rest, done, k, hp, hl, h0, hk => by
  apply Ret
  simp only [emXs, Rbu] at hk
  have hlen : L.length = done.length + (rest.length + 1) := by rw [hl]; simp [Rqk]
  have hi : (done.length : Int) < (L.length : Int) := by omega
  have hget : L[done.length]? = some (mkX k e) := by rw [hl]; exact Ric done _ _
  have hh := hp e List.mem_cons_self (k + 2) (by omega) (by omega)
  have ek : k + 1 + 1 = k + 2 := by omega
  have ih := Rrm hL rest (done ++ [mkX k e]) (k + 2 + 2 * emX e) (fun e he => hp e (List.mem_cons_of_mem _ he)) (by rw [List.append_assoc]; exact hl) (by omega) (by rw [Rbu]; omega)
  simp only [Za, Zc, Zn, Nat.zero_add, Rbu] at ih
  have hneg : ¬ (k + 2 + 2 * (emXs e.args : Int) < 0) := by omega
  simp only [hi, Zy, Zt, geti_nat', hget, Qb, Rua, Zv, Zf, wrap_id (n := k + 1) (by omega) (by omega), ek, wrap_id (n := k + 2) (by omega) (by omega), hh, hneg, Zz, Rb (show (done.length : Int) < 9223372036854775807 by omega), ih, emXs]
  rw [show k + 2 + 2 * (emXs e.args : Int) + 2 * emXs rest = k + 2 * ((1 + emXs e.args + emXs rest : Nat) : Int) by omega, ← Rbu]
theorem Rqu : ∀ (N : Nat) (l : List Exp), emXs l ≤ N → HeldX l
 | 0, l, hN => by
  intro k h0 hk
  have hl := Rby l
  have hnil : l = [] := List.eq_nil_of_length_eq_zero (by omega)
  subst hnil
  apply Rhf
  have e : Rs (mkXs k []) k 0 = some (.inl (k + 2 * emXs [])) := Rrm (by simp [mkXs]) [] [] k (by simp) rfl h0 hk
  rw [e]; simp [selm]
 | N + 1, l, hN => by
  intro k h0 hk
  have hl := Rby l
  apply Rhf
  have e : Rs (mkXs k l) k 0 = some (.inl (k + 2 * emXs l)) := Rrm (by rw [Rqk]; omega) l [] k (fun e he => Rqu N e.args (by have := Rib he; rw [Rbu] at this; omega)) rfl h0 hk
  rw [e]; simp [selm]
theorem Rlb {l : List Exp} : HeldX l := Rqu _ l (Nat.le_refl _)
def Rtr (l : List Stm) : Prop := ∀ k : Int, 0 ≤ k → k + 5 * mSs l ≤ 4611686018427387904 → Rbw (mkSs k l) k = some (k + nSs l)
theorem Rrl {L : List Stm} (hL : (L.length : Int) ≤ 4611686018427387904) : ∀ (rest done : List Stm) (k : Int), (∀ e ∈ rest, Rtr e.body ∧ Rtr e.els) → L = done ++ mkSs k rest → 0 ≤ k → k + 5 * mSs rest ≤ 4611686018427387904 → Rt L k done.length = some (.inl (k + nSs rest))
 | [], done, k, _, hl, h0, hk => by
  subst hl
  apply Reu
  simp [mkSs, nSs]
 | e :: rest, done, k, hp, hl, h0, hk => by
  apply Reu
  simp only [mSs, Rio, Rbu] at hk
  have hle1 := Rip e.body
  have hle2 := Rip e.els
  have hlen : L.length = done.length + (rest.length + 1) := by rw [hl]; simp [Rqj]
  have hi : (done.length : Int) < (L.length : Int) := by omega
  have hget : L[done.length]? = some (mkS k e) := by rw [hl]; exact Ric done _ _
  have hx := Rlb (l := e.e.args) (k + 5) (by omega) (by omega)
  have h1 := (hp e List.mem_cons_self).1 (k + 5 + 2 * emXs e.e.args) (by omega) (by omega)
  have h2 := (hp e List.mem_cons_self).2 (k + 5 + 2 * emXs e.e.args + nSs e.body) (by omega) (by omega)
  have ek2 : k + 1 + 1 = k + 2 := by omega
  have ek3 : k + 2 + 1 = k + 3 := by omega
  have ek4 : k + 3 + 1 = k + 4 := by omega
  have ek5 : k + 4 + 1 = k + 5 := by omega
  have ih := Rrl hL rest (done ++ [mkS k e]) (k + nS e) (fun e he => hp e (List.mem_cons_of_mem _ he)) (by rw [List.append_assoc]; exact hl) (by omega) (by rw [nS_eq, Rbu]; omega)
  simp only [Za, Zc, Zn, Nat.zero_add] at ih
  have n1 : ¬ (k + 5 + 2 * (emXs e.e.args : Int) < 0) := by omega
  have n2 : ¬ (k + 5 + 2 * (emXs e.e.args : Int) + nSs e.body < 0) := by omega
  have n3 : ¬ (k + (nS e : Int) < 0) := by omega
  have en : k + 5 + 2 * (emXs e.e.args : Int) + nSs e.body + nSs e.els = k + nS e := by rw [nS_eq, Rbu]; omega
  simp only [hi, Zy, Zt, geti_nat', hget, Qb, Rtz, Zv, Zf, wrap_id (n := k + 1) (by omega) (by omega), ek2, wrap_id (n := k + 2) (by omega) (by omega), ek3, wrap_id (n := k + 3) (by omega) (by omega), ek4, wrap_id (n := k + 4) (by omega) (by omega), ek5, wrap_id (n := k + 5) (by omega) (by omega), hx, n1, Zz, Rbu, h1, n2, h2, en, n3, Rb (show (done.length : Int) < 9223372036854775807 by omega), ih, nSs]
  rw [show k + (nS e : Int) + nSs rest = k + ((nS e + nSs rest : Nat) : Int) by omega]
theorem Rnr : ∀ (N : Nat) (l : List Stm), mSs l ≤ N → Rtr l
 | 0, l, hN => by
  intro k h0 hk
  have hl := Ri l
  have hnil : l = [] := List.eq_nil_of_length_eq_zero (by omega)
  subst hnil
  apply Rhg
  have e : Rt (mkSs k []) k 0 = some (.inl (k + nSs [])) := Rrl (by simp [mkSs]) [] [] k (by simp) rfl h0 hk
  rw [e]; simp [selm]
 | N + 1, l, hN => by
  intro k h0 hk
  have hl := Ri l
  apply Rhg
  have e : Rt (mkSs k l) k 0 = some (.inl (k + nSs l)) := Rrl (by rw [Rqj]; omega) l [] k (fun e he => ⟨Rnr N e.body (by have := Rx he; rw [Rio] at this; omega), Rnr N e.els (by have := Rx he; rw [Rio] at this; omega)⟩) rfl h0 hk
  rw [e]; simp [selm]
theorem Rlc {l : List Stm} : Rtr l := Rnr _ l (Nat.le_refl _)
def ToX (e : Exp) : Prop := ∀ A : List Ent, Ok (Rez e A) fun r => ∃ s, MkR A .expH r.1 e r.2 s
theorem Rqo {α : Type} {b l : List α} {i : Nat} (hi : i < l.length) (hb : b.length = l.length) (ht : b.take i = l.take i) : (b.set i l[i]).take (i + 1) = l.take (i + 1) := by
 rw [Rgr (by simpa using (by omega : i < b.length)), Rgr hi, List.take_set_of_le (by omega), ht]
 simp
theorem Rud {l : List Exp} {A : List Ent} {h : Hd} (hl : (l.length : Int) ≤ 4294967296) (hp : ∀ e ∈ l, ToX e) : ∀ (d i : Nat) (b : List Exp) (B : List Ent), i + d = l.length → b.length = l.length → b.take i = l.take i → (∃ ids, Mk A .expH b h B ids) →
  Ok (Rbr l h i B) fun r => r.1 = h ∧ ∃ ids, Mk A .expH l h r.2 ids
 | 0, i, b, B, hd, hb, ht, hm => by
  apply Ok.le (Rew _ _ _ _)
  have hi : ¬ ((i : Int) < l.length) := by omega
  have : b = l := by rw [List.take_of_length_le (by omega), List.take_of_length_le (by omega)] at ht; exact ht
  subst this
  simp only [hi, Zz, Zf]
  exact Ok.of ⟨rfl, hm⟩
 | d + 1, i, b, B, hd, hb, ht, ⟨ids, hm⟩ => by
  apply Ok.le (Rew _ _ _ _)
  have hi : i < l.length := by omega
  have hi' : (i : Int) < l.length := by omega
  have hc := hm.tr.cnt
  have hn : (i : Int) < ((h.n : Nat) : Int) := by omega
  simp only [hi', Zy, Zt, Ra hi, Qb, Rb (show (i : Int) < 9223372036854775807 by omega)]
  refine Ok.bnd (hp _ (List.getElem_mem hi) B) fun r ⟨s, hr⟩ => ?_
  rw [idxN_eq (show 0 ≤ (i : Int) by omega) hn, Qb, Int.toNat_natCast]
  obtain ⟨⟨z, hz⟩, hput⟩ := hm.put flatC_expH (j := i) (by omega) hr
  rw [hz, Qb]
  exact Rud hl hp d (i + 1) (b.set i l[i]) _ (by omega) (by simpa using hb) (Rqo hi hb ht) hput
theorem Rrn {n : Nat} (h : (n : Int) ≤ 4294967296) : made (n : Int) = some n := by unfold made; rw [if_pos (by omega)]; simp
theorem Rlk {l : List Exp} (hl : (l.length : Int) ≤ 4294967296) (hp : ∀ e ∈ l, ToX e) (A : List Ent) : Ok (Rgw l A) fun r => ∃ ids, Mk A .expH l r.1 r.2 ids := by
 apply Ok.le (Rlj _ _)
 rw [Rrn hl, Qb]
 have h0 := Mk.zero (A := A) flatC_expH zero_exp l.length
 refine Ok.bnd (Rud hl hp l.length 0 _ _ (by omega) (by simp) (by simp) h0) fun r ⟨e1, hr⟩ => ?_
 exact Ok.of (by dsimp only; rw [e1]; exact hr)
theorem Rmr : ∀ e : Exp, emX e ≤ 4294967296 → ToX e := by
 refine Exp.ind fun e ih hm A => ?_
 apply Ok.le (Rmq e A)
 rw [Rbu] at hm
 have hlen := Rby e.args
 refine Ok.bnd (Rlk (l := e.args) (by omega) (fun a ha => ih a ha (by have := Rib ha; omega)) A) fun r ⟨ids, hr⟩ => ?_
 have ee : (⟨e.op, e.n, e.args⟩ : Exp) = e := by cases e; rfl
 have hR := MkR.exp hr e.op e.n
 rw [ee] at hR
 exact Ok.of ⟨ids, hR⟩
def ToS (e : Stm) : Prop := ∀ A : List Ent, Ok (Rhs e A) fun r => ∃ s, MkR A .stmH r.1 e r.2 s
theorem Ruc {l : List Stm} {A : List Ent} {h : Hd} (hl : (l.length : Int) ≤ 4294967296) (hp : ∀ e ∈ l, ToS e) : ∀ (d i : Nat) (b : List Stm) (B : List Ent), i + d = l.length → b.length = l.length → b.take i = l.take i → (∃ ids, Mk A .stmH b h B ids) →
  Ok (Rbs l h i B) fun r => r.1 = h ∧ ∃ ids, Mk A .stmH l h r.2 ids
 | 0, i, b, B, hd, hb, ht, hm => by
  apply Ok.le (Rex _ _ _ _)
  have hi : ¬ ((i : Int) < l.length) := by omega
  have : b = l := by rw [List.take_of_length_le (by omega), List.take_of_length_le (by omega)] at ht; exact ht
  subst this
  simp only [hi, Zz, Zf]
  exact Ok.of ⟨rfl, hm⟩
 | d + 1, i, b, B, hd, hb, ht, ⟨ids, hm⟩ => by
  apply Ok.le (Rex _ _ _ _)
  have hi : i < l.length := by omega
  have hi' : (i : Int) < l.length := by omega
  have hc := hm.tr.cnt
  have hn : (i : Int) < ((h.n : Nat) : Int) := by omega
  simp only [hi', Zy, Zt, Ra hi, Qb, Rb (show (i : Int) < 9223372036854775807 by omega)]
  refine Ok.bnd (hp _ (List.getElem_mem hi) B) fun r ⟨s, hr⟩ => ?_
  rw [idxN_eq (show 0 ≤ (i : Int) by omega) hn, Qb, Int.toNat_natCast]
  obtain ⟨⟨z, hz⟩, hput⟩ := hm.put flatC_stmH (j := i) (by omega) hr
  rw [hz, Qb]
  exact Ruc hl hp d (i + 1) (b.set i l[i]) _ (by omega) (by simpa using hb) (Rqo hi hb ht) hput
theorem Rdt {l : List Stm} (hl : (l.length : Int) ≤ 4294967296) (hp : ∀ e ∈ l, ToS e) (A : List Ent) : Ok (Rai l A) fun r => ∃ ids, Mk A .stmH l r.1 r.2 ids := by
 apply Ok.le (Rlm _ _)
 rw [Rrn hl, Qb]
 have h0 := Mk.zero (A := A) flatC_stmH zero_stm l.length
 refine Ok.bnd (Ruc hl hp l.length 0 _ _ (by omega) (by simp) (by simp) h0) fun r ⟨e1, hr⟩ => ?_
 exact Ok.of (by dsimp only; rw [e1]; exact hr)
theorem Rmy : ∀ e : Stm, mS e ≤ 4294967296 → ToS e := by
 refine Stm.ind fun e ih1 ih2 hm A => ?_
 apply Ok.le (Rmx e A)
 rw [Rio] at hm
 have hl1 := Ri e.body
 have hl2 := Ri e.els
 refine Ok.bnd (Rmr e.e (by omega) A) fun r ⟨s1, h1⟩ => ?_
 refine Ok.bnd (Rdt (l := e.body) (by omega) (fun a ha => ih1 a ha (by have := Rx ha; omega)) r.2) fun r2 ⟨s2, h2⟩ => ?_
 refine Ok.bnd (Rdt (l := e.els) (by omega) (fun a ha => ih2 a ha (by have := Rx ha; omega)) r2.2) fun r3 ⟨s3, h3⟩ => ?_
 obtain ⟨as, t1, e1⟩ := (show ∃ as, Tr r.2 .expH r.1.args as s1 ∧ e.e = ⟨r.1.op, r.1.n, as⟩ from h1.rw_)
 have m1 : Mk A .expH as r.1.args r.2 s1 := ⟨t1, h1.nd, h1.new, h1.grow⟩
 have g2 := h2.grow
 have g3 := h3.grow
 have m1' := (m1.keep g2).keep g3
 have m2' := (h2.base m1.grow).keep g3
 have m3' := h3.base (m1.grow.trans g2)
 have hR := MkR.stm m1' m2' m3' (m1.apart h2.new) (m1.apart fun n hn => Nat.le_trans g2.len (h3.new n hn)) (h2.apart h3.new) e.kind e.var e.box r.1.op r.1.n
 have ee : (⟨e.kind, e.var, e.box, ⟨r.1.op, r.1.n, as⟩, e.body, e.els⟩ : Stm) = e := by
  rw [← e1]; exact Rnn _
 rw [ee] at hR
 exact Ok.of ⟨_, hR⟩
theorem Rln {l : List Stm} (hm : mSs l ≤ 4294967296) (A : List Ent) : Ok (Rai l A) fun r => ∃ ids, Mk A .stmH l r.1 r.2 ids :=
 Rdt (by have := Ri l; omega) (fun e he => Rmy e (by have := Rx he; omega)) A
def CpX (e : Exp) : Prop := ∀ A : List Ent, Ok (Rco e A) fun r => ∃ s, MkR A .expH r.1 e r.2 s
theorem Rnq {l : List Exp} {A : List Ent} {x0 x1 o n : Int} {l0 : Hd} (hl : (l.length : Int) ≤ 4294967295) (hp : ∀ e ∈ l, CpX e) : ∀ (d i : Nat) (h : Hd) (B : List Ent), i + d = l.length → (∃ ids, Mk A .expH (l.take i) h B ids) →
  Ok (Rbf l l.length i x0 x1 l0 o n h B) fun r => r.2.2.2.1 = o ∧ r.2.2.2.2.1 = n ∧ ∃ ids, Mk A .expH l r.2.2.2.2.2.1 r.2.2.2.2.2.2 ids
 | 0, i, h, B, hd, hm => by
  apply Ok.le (Reh _ _ _ _ _ _ _ _ _ _)
  have hi : ¬ ((i : Int) < l.length) := by omega
  simp only [hi, Zz, Zf]
  rw [List.take_of_length_le (by omega)] at hm
  exact Ok.of ⟨rfl, rfl, hm⟩
 | d + 1, i, h, B, hd, ⟨ids, hm⟩ => by
  apply Ok.le (Reh _ _ _ _ _ _ _ _ _ _)
  have hi : i < l.length := by omega
  have hi' : (i : Int) < l.length := by omega
  have hc := hm.tr.cnt
  simp only [List.length_take] at hc
  simp only [hi', Zy, Zt, Ra hi, Qb, Rb (show (i : Int) < 9223372036854775807 by omega)]
  refine Ok.bnd (hp _ (List.getElem_mem hi) B) fun r ⟨s, hr⟩ => ?_
  refine Ok.bnd (hm.app flatC_expH hr (by omega)) fun B3 hB3 => ?_
  rw [← Rgr hi] at hB3
  exact Rnq hl hp d (i + 1) _ B3 (by omega) hB3
theorem Rjy : ∀ e : Exp, emX e ≤ 4294967295 → CpX e := by
 refine Exp.ind fun e ih hm A => ?_
 apply Ok.le (Rjx e A)
 rw [Rbu] at hm
 have hlen := Rby e.args
 refine Ok.bnd (Rnq (l := e.args) (A := A) (x0 := 0) (x1 := 0) (o := e.op) (n := e.n) (l0 := ⟨none, 0⟩) (by omega) (fun a ha => ih a ha (by have := Rib ha; omega)) e.args.length 0 ⟨none, 0⟩ A (by omega) ⟨[], Mk.nil _ (Grow.refl A)⟩) fun r ⟨e1, e2, ids, hr⟩ => ?_
 have ee : (⟨e.op, e.n, e.args⟩ : Exp) = e := by cases e; rfl
 have hR := MkR.exp hr e.op e.n
 rw [ee] at hR
 exact Ok.of ⟨ids, by dsimp only; rw [e1, e2]; exact hR⟩
def CpS (l : List Stm) : Prop := ∀ A : List Ent, Ok (Rax l A) fun r => ∃ ids, Mk A .stmH l r.1 r.2 ids
theorem Rlz {l : List Stm} {A : List Ent} (hl : (l.length : Int) ≤ 4294967295) (hp : ∀ e ∈ l, CpS e.body ∧ CpS e.els ∧ emX e.e ≤ 4294967295) : ∀ (d i : Nat) (h : Hd) (B : List Ent), i + d = l.length → (∃ ids, Mk A .stmH (l.take i) h B ids) →
  Ok (Raq h l l.length i B) fun r => ∃ ids, Mk A .stmH l r.1 r.2 ids
 | 0, i, h, B, hd, hm => by
  apply Ok.le (Rdh _ _ _ _ _)
  have hi : ¬ ((i : Int) < l.length) := by omega
  simp only [hi, Zz, Zf]
  rw [List.take_of_length_le (by omega)] at hm
  exact Ok.of hm
 | d + 1, i, h, B, hd, ⟨ids, hm⟩ => by
  apply Ok.le (Rdh _ _ _ _ _)
  have hi : i < l.length := by omega
  have hi' : (i : Int) < l.length := by omega
  have hc := hm.tr.cnt
  simp only [List.length_take] at hc
  obtain ⟨p1, p2, p3⟩ := hp _ (List.getElem_mem hi)
  simp only [hi', Zy, Zt, Ra hi, Qb, Rb (show (i : Int) < 9223372036854775807 by omega)]
  refine Ok.bnd (p1 B) fun r1 ⟨s1, h1⟩ => ?_
  refine Ok.bnd (p2 r1.2) fun r2 ⟨s2, h2⟩ => ?_
  refine Ok.bnd (Rjy l[i].e p3 r2.2) fun r3 ⟨s3, h3⟩ => ?_
  obtain ⟨as, t3, e3⟩ := (show ∃ as, Tr r3.2 .expH r3.1.args as s3 ∧ l[i].e = ⟨r3.1.op, r3.1.n, as⟩ from h3.rw_)
  have m3 : Mk r2.2 .expH as r3.1.args r3.2 s3 := ⟨t3, h3.nd, h3.new, h3.grow⟩
  have g2 := h2.grow
  have g3 := h3.grow
  have m1' := (h1.keep g2).keep g3
  have m2' := (h2.base h1.grow).keep g3
  have m3' := m3.base (h1.grow.trans g2)
  have hR := MkR.stm m3' m1' m2' (fun n hn hm => h1.apart (fun n hn => Nat.le_trans g2.len (m3.new n hn)) n hm hn) (fun n hn hm => h2.apart m3.new n hm hn) (h1.apart h2.new) l[i].kind l[i].var l[i].box r3.1.op r3.1.n
  have ee : (⟨l[i].kind, l[i].var, l[i].box, ⟨r3.1.op, r3.1.n, as⟩, l[i].body, l[i].els⟩ : Stm) = l[i] := by
   rw [← e3]; exact Rnn _
  rw [ee] at hR
  refine Ok.bnd (hm.app flatC_stmH hR (by omega)) fun B3 hB3 => ?_
  rw [← Rgr hi] at hB3
  exact Rlz hl hp d (i + 1) _ B3 (by omega) hB3
theorem Rci {l : List Stm} (hl : (l.length : Int) ≤ 4294967295) (hp : ∀ e ∈ l, CpS e.body ∧ CpS e.els ∧ emX e.e ≤ 4294967295) : CpS l := by
 intro A
 apply Ok.le (Rjd l A)
 exact Ok.bnd (Rlz (A := A) hl hp l.length 0 ⟨none, 0⟩ A (by omega) ⟨[], Mk.nil _ (Grow.refl A)⟩) fun r hr => Ok.of hr
theorem Rhz : ∀ s : Stm, mS s ≤ 4294967295 → CpS s.body ∧ CpS s.els ∧ emX s.e ≤ 4294967295 := by
 refine Stm.ind fun s ih1 ih2 hm => ?_
 rw [Rio] at hm
 have hl1 := Ri s.body
 have hl2 := Ri s.els
 exact ⟨Rci (by omega) fun e he => ih1 e he (by have := Rx he; omega), Rci (by omega) fun e he => ih2 e he (by have := Rx he; omega), by omega⟩
theorem Rje {l : List Stm} (hm : mSs l ≤ 4294967295) : CpS l :=
 Rci (by have := Ri l; omega) fun e he => Rhz e (by have := Rx he; omega)
theorem Rks {l : List Stm} (hm : mSs l ≤ 4294967295) (A : List Ent) : Ok (Rgs l A) fun r => r.2.1 = (Ria l).2 ∧ ∃ s, MkR A .tkH r.1 (Ria l).1 r.2.2 s := by
 apply Ok.le (Rkr l A)
 have hv : Rbl l = some (stOk l) := by
  apply Rgg
  rw [Rgi l (by omega)]; rfl
 rw [hv, Qb]
 refine Ok.bif (fun hc => ?_) (fun hc => ?_)
 ·have hc : stOk l = false := by simpa using hc
  have e : Ria l = (⟨[], []⟩, false) := by unfold Ria; rw [hc]; rfl
  rw [e]
  exact Ok.of ⟨rfl, _, MkR.tk (Mk.nil .int (Grow.refl A)) (Mk.nil .stmH (Grow.refl A)) (by simp)⟩
 ·have hc : stOk l = true := by simpa using hc
  have e : Ria l = (⟨[0, 0, 0, 0], l⟩, true) := by unfold Ria; rw [if_pos hc]
  rw [e]
  refine Ok.bnd (Rje hm _) fun r ⟨s2, h2⟩ => ?_
  obtain ⟨ids, h0⟩ := Mk.zero (A := r.2) flatC_int zero_int 4
  exact Ok.of ⟨rfl, _, MkR.tk (h0.base h2.grow) (h2.keep h0.grow) (fun n hn hm => h2.apart h0.new n hm hn)⟩
def mkT (k : Int) (t : Tk) : Tk := ⟨mkI k t.vars, mkSs (k + t.vars.length) t.rest⟩
def nT (t : Tk) : Nat := t.vars.length + nSs t.rest
def mks {α : Type} (w : α → Nat) (mk : Int → α → α) : Int → List α → List α
 | _, [] => []
 | k, y :: r => mk k y :: mks w mk (k + w y) r
def wsum {α : Type} (w : α → Nat) : List α → Nat
 | [] => 0
 | y :: r => w y + wsum w r
theorem Rql {α : Type} {w : α → Nat} {mk : Int → α → α} : ∀ (k : Int) (l : List α), (mks w mk k l).length = l.length
 | _, [] => rfl
 | k, y :: r => by simp only [mks, Zc, Rql]
theorem Rqp {α : Type} {w b : α → Nat} (h : ∀ y, w y ≤ b y) : ∀ l : List α, wsum w l ≤ wsum b l
 | [] => Nat.le_refl _
 | y :: r => by have := h y; have := Rqp h r; simp only [wsum]; omega
theorem Rkj {c : TC} {h : Hd} {ids : List Nat} {A : List Ent} {w b : Den c.seen → Nat} {mk : Int → Den c.seen → Den c.seen} {Q : Den c.seen → Prop} {L : Int → Int → List Ent → Option (Int × List Ent)} (nd : ids.Nodup)
  (hend : ∀ (k i : Int) (B : List Ent), ¬ (i < ((h.n : Nat) : Int)) → L k i B = some (k, B))
  (hstep : ∀ (j : Nat) (k : Int) (B : List Ent) (y : Den c.seen) (l : List (Den c.seen)), Q y → (j : Int) < ((h.n : Nat) : Int) → ((h.n : Nat) : Int) ≤ 4611686018427387904 → ∀ M : Mid B c h l ids j y, 0 ≤ k → k + b y ≤ 4611686018427387904 →
   ∃ B' : List Ent, Only (M.i :: M.s) B B' ∧ Tr B' c h (l.set j (mk k y)) ids ∧ ∀ r, L (k + w y) ((j + 1 : Nat) : Int) B' = some r → L k j B = some r)
  (hwb : ∀ y, w y ≤ b y) (hb : ((h.n : Nat) : Int) ≤ 4611686018427387904) : ∀ (rest done : List (Den c.seen)) (k : Int) (B : List Ent), (∀ y ∈ rest, Q y) → Tr B c h (done ++ rest) ids → Only ids A B → 0 ≤ k → k + wsum b rest ≤ 4611686018427387904 →
  Ok (L k done.length B) fun r => r.1 = k + wsum w rest ∧ Tr r.2 c h (done ++ mks w mk k rest) ids ∧ Only ids A r.2
 | [], done, k, B, _, hT, ho, h0, hk => by
  have hn := hT.cnt
  simp only [Za, Zn] at hn
  rw [hend k _ B (by omega)]
  exact Ok.of ⟨by simp [wsum], hT, ho⟩
 | y :: rest, done, k, B, hq, hT, ho, h0, hk => by
  have hn := hT.cnt
  simp only [Za, Zc] at hn
  simp only [wsum] at hk
  have hwy := hwb y
  obtain ⟨M⟩ := hT.mid nd (j := done.length) (y := y) (Ric done y rest)
  obtain ⟨B', o1, t1, hr⟩ := hstep done.length k B y _ (hq y List.mem_cons_self) (by omega) hb M h0 (by omega)
  rw [Rqn] at t1
  have ho2 : Only ids A B' := ho.trans (o1.mono fun n hn => by
   rcases List.mem_cons.1 hn with rfl | hn
   ·exact M.iin
   ·exact M.ins n hn)
  have ih := Rkj nd hend hstep hwb hb rest (done ++ [mk k y]) (k + w y) B' (fun z hz => hq z (List.mem_cons_of_mem _ hz)) (by rw [List.append_assoc]; exact t1) ho2 (by omega) (by omega)
  simp only [Za, Zc, Zn, Nat.zero_add] at ih
  obtain ⟨q, e, q1, q2, q3⟩ := ih
  refine ⟨q, hr q e, ?_, ?_, q3⟩
  ·rw [q1]; simp only [wsum]; omega
  ·rw [List.append_assoc] at q2
   exact q2
theorem Rns {α : Type} {w b : α → Nat} {mk : Int → α → α} {Q : α → Prop} {H : List α → Int → Int → Option (Int ⊕ (Int × Int))} {L : List α}
  (hend : ∀ (k i : Int), ¬ (i < (L.length : Int)) → H L k i = some (.inl k))
  (hstep : ∀ (j : Nat) (k : Int) (y : α), Q y → (j : Int) < (L.length : Int) → L[j]? = some (mk k y) → 0 ≤ k → k + b y ≤ 4611686018427387904 → ∀ r, H L (k + w y) ((j + 1 : Nat) : Int) = some r → H L k j = some r)
  (hwb : ∀ y, w y ≤ b y) : ∀ (rest done : List α) (k : Int), (∀ y ∈ rest, Q y) → L = done ++ mks w mk k rest → 0 ≤ k → k + wsum b rest ≤ 4611686018427387904 → H L k done.length = some (.inl (k + wsum w rest))
 | [], done, k, _, hl, h0, hk => by
  rw [hend k _ (by rw [hl]; simp [mks])]
  simp [wsum]
 | y :: rest, done, k, hq, hl, h0, hk => by
  simp only [wsum] at hk
  have hwy := hwb y
  have hlen : L.length = done.length + (rest.length + 1) := by rw [hl]; simp [Rql]
  have ih := Rns hend hstep hwb rest (done ++ [mk k y]) (k + w y) (fun z hz => hq z (List.mem_cons_of_mem _ hz)) (by rw [List.append_assoc]; exact hl) (by omega) (by omega)
  simp only [Za, Zc, Zn, Nat.zero_add] at ih
  rw [hstep done.length k y (hq y List.mem_cons_self) (by omega) (by rw [hl]; exact Ric done _ _) h0 (by omega) _ ih]
  rw [show k + (w y : Int) + wsum w rest = k + ((w y + wsum w rest : Nat) : Int) by omega]
  rfl
theorem Rry {D : List Ent} {c : TC} {h : Option Nat} {rows : List (Den c)} {j : Nat} {x : Den c} (hg : Qae D c h = some rows) (hx : rows[j]? = some x) : Qae D c h = some (rows.set j x) := by
 have hlt := (List.getElem?_eq_some_iff.1 hx).1
 have e : rows.set j x = rows := by
  have := (List.getElem?_eq_some_iff.1 hx).2
  rw [← this]
  exact List.set_getElem_self _
 rw [e]; exact hg
theorem Riy {l : List (List Stm)} {h : Hd} {ids : List Nat} {A : List Ent} {k : Int} (hT : Tr A .stmsHH h l ids) (nd : ids.Nodup) (h0 : 0 ≤ k) (hl : (l.length : Int) ≤ 4611686018427387904) (hk : k + wsum (fun y => 5 * mSs y) l ≤ 4611686018427387904) :
  Ok (Rdp h k A) fun r => r.1 = k + wsum nSs l ∧ Tr r.2 .stmsHH h (mks nSs mkSs k l) ids ∧ Only ids A r.2 := by
 apply Ok.le (Rix _ _ _)
 have hc := hT.cnt
 have := Rkj (c := .stmsHH) (h := h) (ids := ids) (A := A) (w := nSs) (b := fun y => 5 * mSs y) (mk := mkSs) (Q := fun _ => True) (L := fun k i B => Ral h k i B) nd
  (fun k i B hi => by
   apply Rcv
   simp only [hi, Zz, Zf])
  (fun j k B y l _ hi hb M h0 hk => by
   obtain ⟨r, e, e1, t1, o1⟩ := Rft (l := y) M.x M.s B k (show Tr B .stmH M.x y M.s from M.row) M.nds h0 (by omega)
   have oB : Only (M.i :: M.s) B r.2 := o1.mono fun n hn => List.mem_cons_of_mem _ hn
   have g1 : Qae r.2 .stmsHH (some M.i) = some M.rows := Qnh (fun n hn => by injection hn with hn; rw [← hn]; exact o1.same _ M.out) M.get
   refine ⟨r.2, oB, M.back (x' := M.x) (y' := mkSs k y) (Rry g1 M.at_) t1 oB, fun r' hr' => ?_⟩
   apply Rcv
   simp only [hi, Zy, Zt, idxN_eq (show 0 ≤ (j : Int) by omega) hi, Int.toNat_natCast, Qb, M.hid, Qni M.get M.at_, e, e1, Rb (show (j : Int) < 9223372036854775807 by omega)]
   exact hr')
  Rip (by rw [hc]; exact hl) l [] k A (fun _ _ => trivial) hT (Only.refl _ _) h0 hk
 exact Ok.bnd this fun r hr => Ok.of hr
def bT (t : Tk) : Nat := t.vars.length + 5 * mSs t.rest
theorem Rty (t : Tk) : nT t ≤ bT t := by have := Rip t.rest; unfold nT bT; omega
theorem Rjj {l : List Tk} {h : Hd} {ids : List Nat} {A : List Ent} {k : Int} (hT : Tr A .tkH h l ids) (nd : ids.Nodup) (h0 : 0 ≤ k) (hl : (l.length : Int) ≤ 4611686018427387904) (hq : ∀ t ∈ l, (t.vars.length : Int) ≤ 4294967296) (hk : k + wsum bT l ≤ 4611686018427387904) :
  Ok (Ren h k A) fun r => r.1 = k + wsum nT l ∧ Tr r.2 .tkH h (mks nT mkT k l) ids ∧ Only ids A r.2 := by
 apply Ok.le (Rji _ _ _)
 have hc := hT.cnt
 have := Rkj (c := .tkH) (h := h) (ids := ids) (A := A) (w := nT) (b := bT) (mk := mkT) (Q := fun t => (t.vars.length : Int) ≤ 4294967296) (L := fun k i B => Rat h k i B) nd
  (fun k i B hi => by
   apply Rdk
   simp only [hi, Zz, Zf])
  (fun j k B y l hqy hi hb M h0 hk => by
   obtain ⟨vs, rs, s1, s2, t1, t2, hy, hs⟩ := (show ∃ vs rs s1 s2, Tr B .int M.x.vars vs s1 ∧ Tr B .stmH M.x.rest rs s2 ∧ y = ⟨vs, rs⟩ ∧ M.s = s1 ++ s2 from M.row)
   subst hy
   have hnd := M.nds
   have hout := M.out
   rw [hs] at hout
   rw [hs, List.nodup_append] at hnd
   obtain ⟨n1, n2, d⟩ := hnd
   unfold bT at hk
   dsimp only at hk hqy
   obtain ⟨r, e, e1, t3, o1⟩ := Rnm t1 hqy h0 (by omega)
   obtain ⟨r2, f, f1, t4, o2⟩ := Rft (l := rs) M.x.rest s2 r.2 r.1 (t2.only o1 fun n hn hm => d n hm n hn rfl) n2 (by omega) (by omega)
   have oB : Only (M.i :: M.s) B r2.2 := by rw [hs]; exact (o1.mono fun n hn => by simp [hn]).trans (o2.mono fun n hn => by simp [hn])
   have g1 : Qae r.2 .tkH (some M.i) = some M.rows := Qnh (fun n hn => by injection hn with hn; rw [← hn]; exact o1.same _ (fun hm => hout (by simp [hm]))) M.get
   have g2 : Qae r2.2 .tkH (some M.i) = some M.rows := Qnh (fun n hn => by injection hn with hn; rw [← hn]; exact o2.same _ (fun hm => hout (by simp [hm]))) g1
   refine ⟨r2.2, oB, M.back (x' := M.x) (y' := mkT k ⟨vs, rs⟩) (Rry g2 M.at_) ⟨_, _, s1, s2, t3.only o2 (fun n hn hm => d n hn n hm rfl), t4, by rw [e1]; rfl, hs⟩ oB, fun r' hr' => ?_⟩
   apply Rdk
   simp only [hi, Zy, Zt, idxN_eq (show 0 ≤ (j : Int) by omega) hi, Int.toNat_natCast, Qb, M.hid, Qni M.get M.at_, e, Qni g1 M.at_, f, Rb (show (j : Int) < 9223372036854775807 by omega)]
   rw [f1, e1, show k + (vs.length : Int) + nSs rs = k + ((nT ⟨vs, rs⟩ : Nat) : Int) by unfold nT; dsimp only; omega]
   exact hr')
  Rty (by rw [hc]; exact hl) l [] k A hq hT (Only.refl _ _) h0 hk
 exact Ok.bnd this fun r hr => Ok.of hr
theorem Rld {l : List Tk} {k : Int} (h0 : 0 ≤ k) (hl : (l.length : Int) ≤ 4611686018427387904) (hq : ∀ t ∈ l, (t.vars.length : Int) ≤ 4294967296) (hk : k + wsum bT l ≤ 4611686018427387904) : Rgu (mks nT mkT k l) k = some (k + wsum nT l) := by
 apply Rle
 have := Rns (w := nT) (b := bT) (mk := mkT) (Q := fun t => (t.vars.length : Int) ≤ 4294967296) (H := Rao) (L := mks nT mkT k l)
  (fun k i hi => by
   apply Rev
   simp only [hi, Zz, Zf])
  (fun j k y hqy hi hg h0 hk r hr => by
   apply Rev
   unfold bT at hk
   have hle := Rip y.rest
   have hn : ¬ (k + (y.vars.length : Int) < 0) := by omega
   have hn2 : ¬ (k + (y.vars.length : Int) + nSs y.rest < 0) := by omega
   have hlen : (j : Int) < 4611686018427387904 := by rw [Rql] at hi; omega
   simp only [hi, Zy, Zt, geti_nat', hg, Qb, mkT, Rem (l := y.vars) (by omega) h0 (by omega), hn, Zz, Zf, Rlc (l := y.rest) (k + y.vars.length) (by omega) (by omega), hn2, Rb (show (j : Int) < 9223372036854775807 by omega)]
   rw [show k + (y.vars.length : Int) + nSs y.rest = k + ((nT y : Nat) : Int) by unfold nT; omega]
   exact hr)
  Rty l [] k hq rfl h0 hk
 have e : Rao (mks nT mkT k l) k 0 = some (.inl (k + wsum nT l)) := this
 rw [e]; simp [selm]
def nB (b : Bx) : Nat := 1 + b.items.length
def mkB (k : Int) (b : Bx) : Bx := ⟨k, mkI (k + 1) b.items⟩
theorem Rkd {l : List Bx} {h : Hd} {ids : List Nat} {A : List Ent} {k : Int} (hT : Tr A .bxH h l ids) (nd : ids.Nodup) (h0 : 0 ≤ k) (hl : (l.length : Int) ≤ 4611686018427387904) (hq : ∀ t ∈ l, (t.items.length : Int) ≤ 4294967296) (hk : k + wsum nB l ≤ 4611686018427387904) :
  Ok (Rfq h k A) fun r => r.1 = k + wsum nB l ∧ Tr r.2 .bxH h (mks nB mkB k l) ids ∧ Only ids A r.2 := by
 apply Ok.le (Rkc _ _ _)
 have hc := hT.cnt
 have := Rkj (c := .bxH) (h := h) (ids := ids) (A := A) (w := nB) (b := nB) (mk := mkB) (Q := fun t => (t.items.length : Int) ≤ 4294967296) (L := fun k i B => Rbg h k i B) nd
  (fun k i B hi => by
   apply Rej
   simp only [hi, Zz, Zf])
  (fun j k B y l hqy hi hb M h0 hk => by
   obtain ⟨vs, t1, hy⟩ := (show ∃ vs, Tr B .int M.x.items vs M.s ∧ y = ⟨M.x.room, vs⟩ from M.row)
   have hvs : vs = y.items := by rw [hy]
   subst hvs
   unfold nB at hk
   have hlt := (List.getElem?_eq_some_iff.1 M.at_).1
   have o1 : Only [M.i] B (Qdz B .bxH (some M.i) j (⟨k, M.x.items⟩ : BxH)) := set_only (c := .bxH) (by simp)
   obtain ⟨r, e, e1, t3, o2⟩ := Rnm (k := k + 1) (t1.only o1 (fun n hn hm => M.out (by simp at hm; rw [← hm]; exact hn))) hqy (by omega) (by omega)
   have oB : Only (M.i :: M.s) B r.2 := (o1.mono (by simp)).trans (o2.mono fun n hn => List.mem_cons_of_mem _ hn)
   refine ⟨r.2, oB, M.back (x' := (⟨k, M.x.items⟩ : BxH)) (y' := mkB k y) (Qnh (fun n hn => by injection hn with hn; rw [← hn]; exact o2.same _ M.out) (Qet (c := .bxH) M.get)) ⟨_, t3, rfl⟩ oB, fun r' hr' => ?_⟩
   apply Rej
   simp only [hi, Zy, Zt, idxN_eq (show 0 ≤ (j : Int) by omega) hi, Int.toNat_natCast, Qb, M.hid, Qni M.get M.at_, arRow_set M.get hlt, wrap_id (n := k + 1) (by omega) (by omega), e, Rb (show (j : Int) < 9223372036854775807 by omega)]
   rw [e1, show k + 1 + (y.items.length : Int) = k + ((nB y : Nat) : Int) by unfold nB; omega]
   exact hr')
  (fun _ => Nat.le_refl _) (by rw [hc]; exact hl) l [] k A hq hT (Only.refl _ _) h0 hk
 exact Ok.bnd this fun r hr => Ok.of hr
theorem Rml {l : List Bx} {k : Int} (h0 : 0 ≤ k) (hl : (l.length : Int) ≤ 4611686018427387904) (hq : ∀ t ∈ l, (t.items.length : Int) ≤ 4294967296) (hk : k + wsum nB l ≤ 4611686018427387904) : Rhp (mks nB mkB k l) k = some (k + wsum nB l) := by
 apply Rmm
 have := Rns (w := nB) (b := nB) (mk := mkB) (Q := fun t => (t.items.length : Int) ≤ 4294967296) (H := Ray) (L := mks nB mkB k l)
  (fun k i hi => by
   apply Rfo
   simp only [hi, Zz, Zf])
  (fun j k y hqy hi hg h0 hk r hr => by
   apply Rfo
   unfold nB at hk
   have hn : ¬ (k + 1 + (y.items.length : Int) < 0) := by omega
   have hlen : (j : Int) < 4611686018427387904 := by rw [Rql] at hi; omega
   simp only [hi, Zy, Zt, geti_nat', hg, Qb, mkB, Zv, Zf, wrap_id (n := k + 1) (by omega) (by omega), Rem (l := y.items) (k := k + 1) (by omega) (by omega) (by omega), hn, Zz, Rb (show (j : Int) < 9223372036854775807 by omega)]
   rw [show k + 1 + (y.items.length : Int) = k + ((nB y : Nat) : Int) by unfold nB; omega]
   exact hr)
  (fun _ => Nat.le_refl _) l [] k hq rfl h0 hk
 have e : Ray (mks nB mkB k l) k 0 = some (.inl (k + wsum nB l)) := this
 rw [e]; simp [selm]
def nW (v : Wld) : Nat := wsum nT v.tasks + wsum nB v.boxes + v.out.length
def mkW (k : Int) (v : Wld) : Wld := ⟨mks nT mkT k v.tasks, mks nB mkB (k + wsum nT v.tasks) v.boxes, v.turn, v.idle, mkI (k + wsum nT v.tasks + wsum nB v.boxes) v.out⟩
structure SzW (v : Wld) : Prop where
 tasks : (v.tasks.length : Int) ≤ 4611686018427387904
 vars : ∀ t ∈ v.tasks, (t.vars.length : Int) ≤ 4294967296
 boxes : (v.boxes.length : Int) ≤ 4611686018427387904
 items : ∀ t ∈ v.boxes, (t.items.length : Int) ≤ 4294967296
 out : (v.out.length : Int) ≤ 4294967296
 sum : (1 + wsum bT v.tasks + wsum nB v.boxes + v.out.length : Nat) ≤ 4611686018427387904
theorem Rw.wld_view {A : List Ent} {x : WldH} {y : Wld} {s : List Nat} (h : Rw A .wldH x y s) (hn : s.Nodup) : Qlz A .tkH x.tasks.id = some y.tasks ∧ Qlz A .bxH x.boxes.id = some y.boxes ∧ Qlz A .int x.out.id = some y.out ∧ x.turn = y.turn ∧ x.idle = y.idle := by
 obtain ⟨l, r, o, s1, s2, s3, h1, h2, h3, rfl, rfl⟩ := (show ∃ l r o s1 s2 s3, Tr A .tkH x.tasks l s1 ∧ Tr A .bxH x.boxes r s2 ∧ Tr A .int x.out o s3 ∧ y = ⟨l, r, x.turn, x.idle, o⟩ ∧ s = s1 ++ (s2 ++ s3) from h)
 rw [List.nodup_append, List.nodup_append] at hn
 exact ⟨h1.view hn.1, h2.view hn.2.1.1, h3.view hn.2.1.2.1, rfl, rfl⟩
theorem Rjl {A : List Ent} {x : WldH} {y : Wld} {s : List Nat} (h : Rw A .wldH x y s) (hn : s.Nodup) (hs : SzW y) : Ok (Reo x 1 A) fun r => r.1 = 1 + nW y ∧ Rw r.2 .wldH x (mkW 1 y) s ∧ Only s A r.2 := by
 apply Ok.le (Rjk x 1 A)
 obtain ⟨l, r, o, s1, s2, s3, h1, h2, h3, hy, rfl⟩ := (show ∃ l r o s1 s2 s3, Tr A .tkH x.tasks l s1 ∧ Tr A .bxH x.boxes r s2 ∧ Tr A .int x.out o s3 ∧ y = ⟨l, r, x.turn, x.idle, o⟩ ∧ s = s1 ++ (s2 ++ s3) from h)
 rw [List.nodup_append, List.nodup_append] at hn
 obtain ⟨n1, ⟨n2, n3, d23⟩, d1⟩ := hn
 have hsum := hs.sum
 have e0 : l = y.tasks := by rw [hy]
 have e1 : r = y.boxes := by rw [hy]
 have e2 : o = y.out := by rw [hy]
 subst e0 e1 e2
 have hle := Rqp Rty y.tasks
 refine Ok.bnd (Rjj (k := 1) h1 n1 (by omega) hs.tasks hs.vars (by omega)) fun q1 ⟨e3, t1, o1⟩ => ?_
 refine Ok.bnd (Rkd (k := q1.1) (h2.only o1 fun n hn hm => d1 n hm n (by simp [hn]) rfl) n2 (by omega) hs.boxes hs.items (by omega)) fun q2 ⟨e4, t2, o2⟩ => ?_
 refine Ok.bnd (Rnm (k := q2.1) ((h3.only o1 fun n hn hm => d1 n hm n (by simp [hn]) rfl).only o2 fun n hn hm => d23 n hm n hn rfl) hs.out (by omega) (by omega)) fun q3 ⟨e5, t3, o3⟩ => ?_
 have ea : q1.1 = 1 + (wsum nT y.tasks : Int) := e3
 have eb : q2.1 = 1 + (wsum nT y.tasks : Int) + wsum nB y.boxes := by rw [e4, ea]
 rw [ea] at t2
 rw [eb] at t3
 refine Ok.of ⟨by dsimp only [nW]; omega, ⟨_, _, _, s1, s2, s3, (t1.only o2 fun n hn hm => d1 n hn n (by simp [hm]) rfl).only o3 (fun n hn hm => d1 n hn n (by simp [hm]) rfl), t2.only o3 (fun n hn hm => d23 n hn n hm rfl), t3, ?_, rfl⟩, ((o1.mono fun n hn => by simp [hn]).trans (o2.mono fun n hn => by simp [hn])).trans (o3.mono fun n hn => by simp [hn])⟩
 unfold mkW
 have ht : y.turn = x.turn := by rw [hy]
 have hi : y.idle = x.idle := by rw [hy]
 rw [ht, hi]
theorem Rlf {y : Wld} (hs : SzW y) : Reb (mkW 1 y) 1 = some (1 + nW y) := by
 apply Rlg
 have hsum := hs.sum
 have hle := Rqp Rty y.tasks
 have n1 : ¬ (1 + (wsum nT y.tasks : Int) < 0) := by omega
 have n2 : ¬ (1 + (wsum nT y.tasks : Int) + wsum nB y.boxes < 0) := by omega
 have n3 : ¬ (1 + (wsum nT y.tasks : Int) + wsum nB y.boxes + y.out.length < 0) := by omega
 simp only [mkW, Rld (k := 1) (by omega) hs.tasks hs.vars (by omega), Qb, n1, Zz, Zf, Rml (k := 1 + wsum nT y.tasks) (by omega) hs.boxes hs.items (by omega), n2, Rem (l := y.out) (k := 1 + wsum nT y.tasks + wsum nB y.boxes) (by have := hs.out; omega) (by omega) (by omega), n3]
 congr 1
 unfold nW; omega
theorem Rw.prg_view {A : List Ent} {x : PrgH} {y : Prg} {s : List Nat} (h : Rw A .prgH x y s) (hn : s.Nodup) : Qlz A .int x.rooms.id = some y.rooms ∧ Qlz A .stmsHH x.tasks.id = some y.tasks := by
 obtain ⟨l, r, s1, s2, h1, h2, rfl, rfl⟩ := (show ∃ l r s1 s2, Tr A .int x.rooms l s1 ∧ Tr A .stmsHH x.tasks r s2 ∧ y = ⟨l, r⟩ ∧ s = s1 ++ s2 from h)
 rw [List.nodup_append] at hn
 exact ⟨h1.view hn.1, h2.view hn.2.1⟩
def mkP (k : Int) (p : Prg) : Prg := ⟨mkI k p.rooms, mks nSs mkSs (k + p.rooms.length) p.tasks⟩
def nP (p : Prg) : Nat := p.rooms.length + wsum nSs p.tasks
structure SzP (p : Prg) : Prop where
 rooms : (p.rooms.length : Int) ≤ 4294967296
 tasks : (p.tasks.length : Int) ≤ 4611686018427387904
 sum : 1 + p.rooms.length + wsum (fun y => 5 * mSs y) p.tasks ≤ 4611686018427387904
theorem Ril {A : List Ent} {x : PrgH} {y : Prg} {s : List Nat} (h : Rw A .prgH x y s) (hn : s.Nodup) (hs : SzP y) : Ok (Rcu x 1 A) fun r => r.1 = 1 + nP y ∧ Rw r.2 .prgH x (mkP 1 y) s ∧ Only s A r.2 := by
 apply Ok.le (Rik x 1 A)
 obtain ⟨l, r, s1, s2, h1, h2, rfl, rfl⟩ := (show ∃ l r s1 s2, Tr A .int x.rooms l s1 ∧ Tr A .stmsHH x.tasks r s2 ∧ y = ⟨l, r⟩ ∧ s = s1 ++ s2 from h)
 rw [List.nodup_append] at hn
 obtain ⟨n1, n2, d⟩ := hn
 have hsum := hs.sum
 have hr := hs.rooms
 have ht := hs.tasks
 dsimp only at hsum hr ht
 have hle := Rqp Rip r
 refine Ok.bnd (Rnm (k := 1) h1 hr (by omega) (by omega)) fun q1 ⟨e3, t1, o1⟩ => ?_
 refine Ok.bnd (Riy (k := q1.1) (h2.only o1 fun n hn hm => d n hm n hn rfl) n2 (by omega) ht (by omega)) fun q2 ⟨e4, t2, o2⟩ => ?_
 rw [e3] at t2
 exact Ok.of ⟨by dsimp only [nP]; omega, ⟨_, _, s1, s2, t1.only o2 (fun n hn hm => d n hn n hm rfl), t2, rfl, rfl⟩, (o1.mono fun n hn => by simp [hn]).trans (o2.mono fun n hn => by simp [hn])⟩
theorem Rqc {a : List (List Stm)} (hl : (a.length : Int) ≤ 4294967296) (hp : ∀ e ∈ a, Rap e = some e) : ∀ (d i : Nat) (b : List (List Stm)), i + d = a.length → b.length = a.length → b.take i = a.take i → Rce a i b = some a
 | 0, i, b, hd, hb, ht => by
  apply Rfy
  have hi : ¬ ((i : Int) < a.length) := by omega
  have : b = a := by rw [List.take_of_length_le (by omega), List.take_of_length_le (by omega)] at ht; exact ht
  simp [hi, this]
 | d + 1, i, b, hd, hb, ht => by
  apply Rfy
  have hi : i < a.length := by omega
  have hi' : (i : Int) < a.length := by omega
  rw [Ra hi, Ra (l := b) (by omega), Rb (by omega)]
  simp only [hi', Zy, Zt, Qb, hp _ (List.getElem_mem hi), Int.toNat_natCast, List.getElem?_eq_getElem (show i < b.length by omega)]
  exact Rqc hl hp d (i + 1) _ (by omega) (by simpa using hb) (Qvj hb hi ht)
theorem Rmv {a : List (List Stm)} (hl : (a.length : Int) ≤ 4294967296) (hp : ∀ e ∈ a, Rap e = some e) : Rhr a = some a := by
 apply Rmw
 rw [Rki hl, Qb, show (0 : Int) = ((0 : Nat) : Int) by rfl, Rqc hl hp a.length 0 _ (by omega) (by simp) (by simp)]
 rfl
theorem Rpr {a : List (List Stm)} (hl : (a.length : Int) ≤ 4294967296) (hp : ∀ e ∈ a, Rag e e = some true) : ∀ (d i : Nat), i + d = a.length → Rca a a i = some (.inl ())
 | 0, i, hd => by
  apply Rfm
  have hi : ¬ ((i : Int) < a.length) := by omega
  simp [hi]
 | d + 1, i, hd => by
  apply Rfm
  have hi : i < a.length := by omega
  have hi' : (i : Int) < a.length := by omega
  rw [Ra hi, Rb (by omega)]
  simp only [hi', Zy, Zt, Qb, hp _ (List.getElem_mem hi), Zv, Zf]
  exact Rpr hl hp d (i + 1) (by omega)
theorem Rkb {a : List (List Stm)} (hl : (a.length : Int) ≤ 4294967296) (hp : ∀ e ∈ a, Rag e e = some true) : Rho a a = some true := by
 apply Rmi
 rw [show (0 : Int) = ((0 : Nat) : Int) by rfl, Rpr hl hp a.length 0 (by omega)]
 simp [selm]
def mLs : List (List Stm) → Nat
 | [] => 0
 | e :: r => 1 + mSs e + mLs r
theorem Rtv {l : List (List Stm)} {i : Nat} (hi : i < l.length) : mLs (l.drop i) = 1 + mSs l[i] + mLs (l.drop (i + 1)) := by
 rw [List.drop_eq_getElem_cons hi]; simp only [mLs]
theorem Rqi : ∀ l : List (List Stm), l.length ≤ mLs l
 | [] => Nat.le_refl _
 | e :: r => by have := Rqi r; simp only [mLs, Zc]; omega
theorem Rsu : ∀ {l : List (List Stm)} {e : List Stm}, e ∈ l → mSs e < mLs l
 | [], e, h => by cases h
 | a :: r, e, h => by
  simp only [mLs]
  rcases List.mem_cons.1 h with rfl | h
  ·omega
  ·have := Rsu h; omega
theorem Rqb {l : List (List Stm)} (hl : (l.length : Int) ≤ 1048576) (hp : ∀ e ∈ l, ∀ n : Int, 0 ≤ n → n ≤ 1048576 → Rbn e n = some (left n (mSs e))) :
  ∀ (d i : Nat) (n : Int), i + d = l.length → 0 ≤ n → n ≤ 1048576 → ∃ k, Rcc l n i = some (if (mLs (l.drop i) : Int) ≤ n + (l.length - i : Int) then .inl (n + (l.length - i : Int) - mLs (l.drop i)) else .inr (k, -1))
 | 0, i, n, hd, h0, h1 => by
  refine ⟨0, ?_⟩
  apply Rcj
  have hi : ¬ ((i : Int) < l.length) := by omega
  rw [List.drop_eq_nil_of_le (by omega), if_pos (by simp [mLs]; omega)]
  simp [hi, mLs]; omega
 | d + 1, i, n, hd, h0, h1 => by
  have hi : i < l.length := by omega
  have hi' : (i : Int) < l.length := by omega
  have hp' := hp _ (List.getElem_mem hi) n h0 h1
  rw [Rtv hi]
  by_cases hc : (mSs l[i] : Int) ≤ n
  ·obtain ⟨k, hk⟩ := Rqb hl hp d (i + 1) (n - mSs l[i]) (by omega) (by omega) (by omega)
   refine ⟨k, ?_⟩
   apply Rcj
   rw [Ra hi, Rb (by omega)]
   simp only [hi', Zy, Zt, Qb, hp', Red hc, hk]
   have hn : ¬ (n - (mSs l[i] : Int) < 0) := by omega
   simp only [hn, Zz, Zf]
   by_cases hq : ((mLs (l.drop (i + 1)) : Nat) : Int) ≤ n - (mSs l[i] : Int) + ((l.length : Int) - ((i + 1 : Nat) : Int))
   ·rw [if_pos hq, if_pos (by omega)]; congr 2; omega
   ·rw [if_neg hq, if_neg (by omega)]
  ·refine ⟨-1, ?_⟩
   apply Rcj
   rw [Ra hi]
   simp only [hi', Zy, Zt, Qb, hp', Ram (show n < (mSs l[i] : Int) by omega)]
   have := Rqi (l.drop (i + 1))
   rw [List.length_drop] at this
   rw [if_neg (by omega)]
   simp
theorem Rmo {l : List (List Stm)} (hl : (l.length : Int) ≤ 9223372036854775807) (hp : ∀ e ∈ l, ∀ n : Int, 0 ≤ n → n ≤ 1048576 → Rbn e n = some (left n (mSs e))) {n : Int} (h0 : 0 ≤ n) (h1 : n ≤ 1048576) : Rhq l n = some (left n (mLs l)) := by
 apply Rmp
 rw [wrap_id (by omega) (by omega)]
 have hlen := Rqi l
 by_cases hc : n - (l.length : Int) < 0
 ·simp only [hc, Zy, Zt]; rw [Ram (by omega)]
 ·simp only [hc, Zz, Zf]
  obtain ⟨k, hk⟩ := Rqb (by omega) hp l.length 0 (n - l.length) (by omega) (by omega) (by omega)
  rw [show (0 : Int) = ((0 : Nat) : Int) by rfl, hk]
  simp only [List.drop_zero, Qb, left]
  by_cases hq : (mLs l : Int) ≤ n
  ·rw [if_pos (by omega), if_pos hq]; simp only [selm]; congr 1; omega
  ·rw [if_neg (by omega), if_neg hq]; simp only [selm]
def mP (p : Prg) : Nat := p.rooms.length + mLs p.tasks
theorem Rlh {p : Prg} (hw : wfP p) : Rgv p 1048576 = some (left 1048576 (mP p)) := by
 apply Rli
 obtain ⟨w1, w2, w3, w4⟩ := hw
 unfold mP
 rw [Rpb w1 (by omega) (by omega), Qb]
 by_cases c1 : (p.rooms.length : Int) ≤ 1048576
 ·rw [Red c1]
  have g1 : ¬ (1048576 - (p.rooms.length : Int) < 0) := by omega
  simp only [g1, Zz, Zf]
  rw [Rmo w3 (fun l hl n h0 h1 => Rfv (w4 l hl).1 (fun a ha => Rpd a (Qjo.1 (w4 l hl).2 a ha)) h0 h1) (by omega) (by omega), Qb, Roj c1]
  by_cases c2 : ((p.rooms.length + mLs p.tasks : Nat) : Int) ≤ 1048576
  ·rw [Red c2]
   have g2 : ¬ (1048576 - ((p.rooms.length + mLs p.tasks : Nat) : Int) < 0) := by omega
   simp only [g2, Zz, Zf]
  ·rw [Ram (by omega)]; simp
 ·rw [Ram (show (1048576 : Int) < (p.rooms.length : Int) by omega), Ram (by omega)]; simp
theorem Rht {p : Prg} (h : mP p ≤ 4294960000) : (p.rooms.length : Int) ≤ 4294960000 ∧ (p.tasks.length : Int) ≤ 4294960000 ∧ ∀ x ∈ p.tasks, mSs x ≤ 4294960000 := by
 have h1 := Rqi p.tasks
 unfold mP at h
 exact ⟨by omega, by omega, fun x hx => by have := Rsu hx; omega⟩
theorem Rds {p : Prg} (h : mP p ≤ 4294960000) : Rbx p = some p := by
 apply Rll
 obtain ⟨h1, h2, h3⟩ := Rht h
 rw [Rph (by omega), Qb, Rmv (by omega) (fun x hx => Roh (by have := h3 x hx; omega)), Qb]
theorem Rjg {p : Prg} (h : mP p ≤ 4294960000) : Rgt p p = some true := by
 apply Rky
 obtain ⟨h1, h2, h3⟩ := Rht h
 rw [Rbz (by omega), Qb, Rkb (by omega) (fun x hx => Rhe (by have := h3 x hx; omega))]
 rfl
theorem Rqt {c : TC} (hf : Qhc c) {l : List (Den c.seen)} {A : List Ent} {h : Hd} {T : Den c.seen → List Ent → Option (Den c × List Ent)} {L : Int → List Ent → Option (Hd × List Ent)}
  (hend : ∀ (i : Int) (B : List Ent), ¬ (i < (l.length : Int)) → L i B = some (h, B))
  (hstep : ∀ (j : Nat) (B : List Ent) (r : Den c × List Ent) (z : Den c) (hj : j < l.length), ((h.n : Nat) : Int) = l.length → T l[j] B = some r → Qju r.2 c h.id j = some z → ∀ q, L ((j + 1 : Nat) : Int) (Qdz r.2 c h.id j r.1) = some q → L j B = some q)
  (hp : ∀ y ∈ l, ∀ B : List Ent, Ok (T y B) fun r => ∃ s, MkR B c r.1 y r.2 s) : ∀ (d i : Nat) (b : List (Den c.seen)) (B : List Ent), i + d = l.length → b.length = l.length → b.take i = l.take i → (∃ ids, Mk A c b h B ids) →
  Ok (L i B) fun r => r.1 = h ∧ ∃ ids, Mk A c l h r.2 ids
 | 0, i, b, B, hd, hb, ht, hm => by
  have : b = l := by rw [List.take_of_length_le (by omega), List.take_of_length_le (by omega)] at ht; exact ht
  subst this
  rw [hend i B (by omega)]
  exact Ok.of ⟨rfl, hm⟩
 | d + 1, i, b, B, hd, hb, ht, ⟨ids, hm⟩ => by
  have hi : i < l.length := by omega
  have hc := hm.tr.cnt
  obtain ⟨r, e, s, hr⟩ := hp _ (List.getElem_mem hi) B
  obtain ⟨⟨z, hz⟩, hput⟩ := hm.put hf (j := i) (by omega) hr
  obtain ⟨q, e2, q1, q2⟩ := Rqt hf hend hstep hp d (i + 1) (b.set i l[i]) _ (by omega) (by simpa using hb) (Rqo hi hb ht) hput
  exact ⟨q, hstep i B r z hi (by omega) e hz q e2, q1, q2⟩
theorem Rmt {a : List Int} (hl : (a.length : Int) ≤ 4294967296) (A : List Ent) : Ok (Rfa a A) fun r => ∃ ids, Mk A .int a r.1 r.2 ids := (Rmu hl A).mono fun r hr => ⟨_, hr.2.1.toMk⟩
theorem Rkh {l : List (List Stm)} (hl : (l.length : Int) ≤ 4294967296) (hm : ∀ x ∈ l, mSs x ≤ 4294967296) (A : List Ent) : Ok (Rfz l A) fun r => ∃ ids, Mk A .stmsHH l r.1 r.2 ids := by
 apply Ok.le (Rkg _ _)
 rw [Rrn hl, Qb]
 have h0 := Mk.zero (A := A) Qzh zero_stms l.length
 have := Rqt Qzh (l := l) (A := A) (h := ⟨some A.length, l.length⟩) (T := Rai) (L := fun i B => Rbi l ⟨some A.length, l.length⟩ i B)
  (fun i B hi => by
   apply Rel
   simp only [hi, Zz, Zf])
  (fun j B r z hj hn e hz q hq => by
   apply Rel
   have hj' : (j : Int) < (l.length : Int) := by omega
   simp only [hj', Zy, Zt, Ra hj, Qb, e, idxN_eq (n := l.length) (show 0 ≤ (j : Int) by omega) hj', Int.toNat_natCast, hz, Rb (show (j : Int) < 9223372036854775807 by omega)]
   exact hq)
  (fun y hy B => (Rln (hm y hy) B).mono fun r ⟨s, hr⟩ => ⟨s, MkR.stms hr⟩) l.length 0 _ _ (by omega) (by simp) (by simp) h0
 refine Ok.bnd this fun r ⟨e1, hr⟩ => ?_
 exact Ok.of (by dsimp only; rw [e1]; exact hr)
theorem Rjp {p : Prg} (h : mP p ≤ 4294960000) (A : List Ent) : Ok (Rep p A) fun r => ∃ s, MkR A .prgH r.1 p r.2 s := by
 apply Ok.le (Rjo _ _)
 obtain ⟨h1, h2, h3⟩ := Rht h
 refine Ok.bnd (Rmt (by omega) A) fun r1 ⟨i1, m1⟩ => ?_
 refine Ok.bnd (Rkh (by omega) (fun x hx => by have := h3 x hx; omega) r1.2) fun r2 ⟨i2, m2⟩ => ?_
 have hR := MkR.prg (m1.keep m2.grow) (m2.base m1.grow) (m1.apart m2.new)
 exact Ok.of ⟨_, hR⟩
theorem Rnp {l : List Int} {A : List Ent} (hl : (l.length : Int) ≤ 4294967295) : ∀ (d i : Nat) (h : Hd) (B : List Ent), i + d = l.length → (∃ ids, Mk A .bxH ((l.take i).map fun n => (⟨n, []⟩ : Bx)) h B ids) → Ok (Rbe h l l.length i B) fun r => ∃ ids, Mk A .bxH (l.map fun n => (⟨n, []⟩ : Bx)) r.1 r.2 ids
 | 0, i, h, B, hd, hm => by
  apply Ok.le (Reg _ _ _ _ _)
  have hi : ¬ ((i : Int) < l.length) := by omega
  simp only [hi, Zz, Zf]
  rw [List.take_of_length_le (by omega)] at hm
  exact Ok.of hm
 | d + 1, i, h, B, hd, ⟨ids, hm⟩ => by
  apply Ok.le (Reg _ _ _ _ _)
  have hi : i < l.length := by omega
  have hi' : (i : Int) < l.length := by omega
  have hc := hm.tr.cnt
  simp only [List.length_map, List.length_take] at hc
  simp only [hi', Zy, Zt, Ra hi, Qb, Rb (show (i : Int) < 9223372036854775807 by omega)]
  refine Ok.bnd (hm.app flatC_bxH (MkR.bx (Mk.nil .int (Grow.refl B)) l[i]) (by omega)) fun B3 hB3 => ?_
  have e : ((l.take i).map fun n => (⟨n, []⟩ : Bx)) ++ [(⟨l[i], []⟩ : Bx)] = (l.take (i + 1)).map fun n => (⟨n, []⟩ : Bx) := by rw [Rgr hi, List.map_append]; rfl
  rw [e] at hB3
  exact Rnp hl d (i + 1) _ B3 (by omega) hB3
theorem Rjw {l : List Int} (hl : (l.length : Int) ≤ 4294967295) (A : List Ent) : Ok (Rfi l A) fun r => ∃ ids, Mk A .bxH (l.map fun n => (⟨n, []⟩ : Bx)) r.1 r.2 ids := by
 apply Ok.le (Rjv _ _)
 exact Ok.bnd (Rnp (A := A) hl l.length 0 ⟨none, 0⟩ A (by omega) ⟨[], Mk.nil _ (Grow.refl A)⟩) fun r hr => Ok.of hr
theorem Rot {l : List (List Stm)} {A : List Ent} {x0 x1 x4 : Hd} {n2 n3 : Int} {hb : Hd} {n5 n6 : Int} {ho : Hd} (hl : (l.length : Int) ≤ 4294967295) (hm : ∀ x ∈ l, mSs x ≤ 4294967295) : ∀ (d i : Nat) (h : Hd) (B : List Ent), i + d = l.length → (∃ ids, Mk A .tkH ((l.take i).map newT) h B ids) →
  Ok (Rbd l l.length i x0 x1 n2 n3 x4 h hb n5 n6 ho B) fun r => (∃ ids, Mk A .tkH (l.map newT) r.2.2.2.2.2.1 r.2.2.2.2.2.2.2.2.2.2 ids) ∧ r.2.2.2.2.2.2.1 = hb ∧ r.2.2.2.2.2.2.2.1 = n5 ∧ r.2.2.2.2.2.2.2.2.1 = n6 ∧ r.2.2.2.2.2.2.2.2.2.1 = ho
 | 0, i, h, B, hd, hmk => by
  apply Ok.le (Ref _ _ _ _ _ _ _ _ _ _ _ _ _ _)
  have hi : ¬ ((i : Int) < l.length) := by omega
  simp only [hi, Zz, Zf]
  rw [List.take_of_length_le (by omega)] at hmk
  exact Ok.of ⟨hmk, rfl, rfl, rfl, rfl⟩
 | d + 1, i, h, B, hd, ⟨ids, hmk⟩ => by
  apply Ok.le (Ref _ _ _ _ _ _ _ _ _ _ _ _ _ _)
  have hi : i < l.length := by omega
  have hi' : (i : Int) < l.length := by omega
  have hc := hmk.tr.cnt
  simp only [List.length_map, List.length_take] at hc
  simp only [hi', Zy, Zt, Ra hi, Qb, Rb (show (i : Int) < 9223372036854775807 by omega)]
  refine Ok.bnd (Rks (hm _ (List.getElem_mem hi)) B) fun r ⟨_, s, hr⟩ => ?_
  refine Ok.bnd (hmk.app flatC_tkH hr (by omega)) fun B3 hB3 => ?_
  have e : ((l.take i).map newT) ++ [(Ria l[i]).1] = (l.take (i + 1)).map newT := by rw [Rgr hi, List.map_append]; rfl
  rw [e] at hB3
  exact Rot hl hm d (i + 1) _ B3 (by omega) hB3
theorem Rju {p : Prg} (h : mP p ≤ 4294960000) (A : List Ent) : Ok (Rfg p A) fun r => r.2.1 = (Rbk p).2 ∧ ∃ s, MkR A .wldH r.1 (Rbk p).1 r.2.2 s := by
 apply Ok.le (Rjt _ _)
 obtain ⟨h1, h2, h3⟩ := Rht h
 rw [Rer (by omega) (by omega) (fun x hx => by have := h3 x hx; omega), Qb]
 refine Ok.bif (fun hc => ?_) (fun hc => ?_)
 ·have hc : Rkk p = false := by simpa using hc
  have e : Rbk p = (⟨[], [], 0, 0, []⟩, false) := by unfold Rbk; rw [hc]; rfl
  rw [e]
  exact Ok.of ⟨rfl, _, MkR.wld (Mk.nil .tkH (Grow.refl A)) (Mk.nil .bxH (Grow.refl A)) (Mk.nil .int (Grow.refl A)) (by simp) (by simp) (by simp) 0 0⟩
 ·have hc : Rkk p = true := by simpa using hc
  have e : Rbk p = (⟨p.tasks.map newT, p.rooms.map fun n => (⟨n, []⟩ : Bx), 0, 0, []⟩, true) := by unfold Rbk; rw [if_pos hc]
  rw [e]
  refine Ok.bnd (Rjw (l := p.rooms) (by omega) A) fun r2 ⟨i2, m2⟩ => ?_
  refine Ok.bnd (Rot (A := r2.2) (x0 := ⟨none, 0⟩) (x1 := ⟨none, 0⟩) (x4 := ⟨none, 0⟩) (n2 := 0) (n3 := 0) (hb := r2.1) (n5 := 0) (n6 := 0) (ho := ⟨none, 0⟩) (l := p.tasks) (by omega) (fun x hx => by have := h3 x hx; omega) p.tasks.length 0 ⟨none, 0⟩ r2.2 (by omega) ⟨[], Mk.nil _ (Grow.refl _)⟩) fun r3 ⟨⟨i3, m3⟩, e1, e2, e3, e4⟩ => ?_
  rw [e1, e2, e3, e4]
  have hR := MkR.wld (m3.base m2.grow) (m2.keep m3.grow) ((Mk.nil .int (Grow.refl A)).keep (m2.grow.trans m3.grow)) (fun n hn hm => m2.apart m3.new n hm hn) (by simp) (by simp) 0 0
  exact Ok.of ⟨rfl, _, hR⟩
theorem Rsb {α β : Type} (f : α → β) (w : β → Nat) : ∀ l : List α, wsum w (l.map f) = wsum (fun x => w (f x)) l
 | [] => rfl
 | x :: r => by simp only [List.map_cons, wsum, Rsb f w r]
theorem Rsa : ∀ l : List (List Stm), wsum (fun y => 5 * mSs y) l ≤ 5 * mLs l
 | [] => by simp [wsum, mLs]
 | x :: r => by have := Rsa r; simp only [wsum, mLs]; omega
theorem Rsy (x : List Stm) : bT (newT x) ≤ 4 + 5 * mSs x ∧ ((newT x).vars.length : Int) ≤ 4 := by
 unfold newT Ria bT
 split
 ·simp only [Zc, Zn]; omega
 ·simp [mSs]
theorem Rre : ∀ l : List (List Stm), wsum (fun x => bT (newT x)) l ≤ 5 * mLs l
 | [] => by simp [wsum, mLs]
 | x :: r => by have := Rre r; have := (Rsy x).1; simp only [wsum, mLs]; omega
theorem Rsc : ∀ l : List Int, wsum (fun n => nB ⟨n, []⟩) l = l.length
 | [] => rfl
 | x :: r => by have := Rsc r; simp only [wsum, nB, Zc, Zn] at this ⊢; omega
theorem Rsh {p : Prg} (h : mP p ≤ 1048576) : SzW (Rbk p).1 := by
 obtain ⟨h1, h2, h3⟩ := Rht (p := p) (by omega)
 unfold Rbk
 split
 ·refine ⟨by simp; omega, fun t ht => ?_, by simp; omega, fun t ht => ?_, by simp, ?_⟩
  ·simp only [List.mem_map] at ht
   obtain ⟨x, _, rfl⟩ := ht
   have := (Rsy x).2; omega
  ·simp only [List.mem_map] at ht
   obtain ⟨x, _, rfl⟩ := ht
   simp
  ·have e1 := Rre p.tasks
   simp only [Rsb, Rsc, Zn]
   unfold mP at h; omega
 ·exact ⟨by simp, by simp, by simp, by simp, by simp, by simp [wsum]⟩
theorem Rtq {p : Prg} (h : mP p ≤ 1048576) : mW (Rbk p).1 ≤ 4294967296 := by
 unfold Rbk
 split
 ·have h1 : ∀ l : List (List Stm), mTs (l.map newT) ≤ 5 * mLs l := by
   intro l
   induction l with
   | nil => simp [mTs]
   | cons x r ih =>
    have : mT (newT x) ≤ 4 + mSs x := by
     unfold newT Ria mT
     split
     ·simp only [Zc, Zn]; omega
     ·simp [mSs]
    simp only [List.map_cons, mTs, mLs]; omega
  have h2 := h1 p.tasks
  have h3 := Rss p.rooms
  unfold mP at h
  simp only [mW, Zn]; omega
 ·simp [mW, mTs, mBs]
theorem mP_szP {p : Prg} (h : mP p ≤ 1048576) : SzP p := by
 obtain ⟨h1, h2, h3⟩ := Rht (p := p) (by omega)
 have := Rsa p.tasks
 unfold mP at h
 exact ⟨by omega, by omega, by omega⟩
theorem laws_FnExactWorldNew_eq (a : Prg) (hw : wfP a) : laws_FnExactWorldNew a = some true := by
 apply Rhn
 apply Ok.some
 refine Ok.bnd (Ok.eq (Rlh hw)) fun r1 e1 => ?_
 subst e1
 refine Ok.bif (fun _ => Ok.of rfl) (fun hc => ?_)
 have hm : mP a ≤ 1048576 := by
  simp only [decide_eq_false_iff_not] at hc
  rw [Rtu (by omega)] at hc
  omega
 obtain ⟨p1, p2, p3⟩ := Rht (p := a) (by omega)
 have hz := Rsh hm
 have hmw := Rtq hm
 have hsum := hz.sum
 have hnn : (0 : Int) ≤ nW (Rbk a).1 := by omega
 refine Ok.bnd (Ok.eq (Rds (p := a) (by omega))) fun r2 e2 => ?_
 rw [e2]
 refine Ok.bnd (Ok.eq (Rmz (p := a) (by omega) (by omega) (fun x hx => by have := p3 x hx; omega))) fun r3 e3 => ?_
 subst e3
 refine Ok.bnd (Rjp (p := a) (by omega) []) fun r4 ⟨i4, h4⟩ => ?_
 have v4 := Rw.prg_view h4.rw_ h4.nd
 rw [v4.1, Qb, v4.2, Qb]
 refine Ok.bnd (Rju (p := a) (by omega) _) fun r7 ⟨e7, i7, h7⟩ => ?_
 refine Ok.bnd (join_ok h7.grow) fun B8 ⟨g8, l8, s8⟩ => ?_
 have h8 := h7.join g8 s8
 have v8 := Rw.wld_view h8.rw_ h8.nd
 rw [v8.1, Qb, v8.2.1, Qb, v8.2.2.1, Qb, e7, v8.2.2.2.1, v8.2.2.2.2]
 have heq : Rck (Rbk a).1 (Rbk a).1 = some true := Rla hmw
 refine Ok.bnd (Ok.eq heq) fun r12 e12 => ?_
 subst e12
 refine Ok.bif (fun h => absurd h (by simp)) (fun _ => ?_)
 refine Ok.bif (fun h => absurd h (by simp)) (fun _ => ?_)
 refine Ok.bnd (Ok.eq (Rds (p := a) (by omega))) fun r13 e13 => ?_
 rw [e13]
 have h4' := h4.keep g8
 have v4' := Rw.prg_view h4'.rw_ h4'.nd
 rw [v4'.1, Qb, v4'.2, Qb]
 refine Ok.bnd (Ok.eq (Rjg (p := a) (by omega))) fun r16 e16 => ?_
 subst e16
 refine Ok.bif (fun h => absurd h (by simp)) (fun _ => ?_)
 refine Ok.bnd (Ril h4'.rw_ h4'.nd (mP_szP hm)) fun r17 ⟨e17, _, o17⟩ => ?_
 refine Ok.bif (fun h => absurd h (by simp only [Ze]; omega)) (fun _ => ?_)
 have h18 : Rw r17.2 .wldH r7.1 (Rbk a).1 i7 := h8.rw_.only o17 (fun n hn hm => by
  have q1 := h8.new n hn
  have q2 := h4.rw_.lt n hm
  omega)
 have v18 := Rw.wld_view h18 h8.nd
 rw [v18.1, Qb, v18.2.1, Qb, v18.2.2.1, Qb]
 refine Ok.bnd (Ok.eq heq) fun r21 e21 => ?_
 subst e21
 refine Ok.bif (fun h => absurd h (by simp)) (fun _ => ?_)
 refine Ok.bif (fun h => absurd h (by simp)) (fun _ => ?_)
 refine Ok.bnd (Rjl h18 h8.nd hz) fun r22 ⟨e22, h22, _⟩ => ?_
 have v22 := Rw.wld_view h22 h8.nd
 rw [v22.1, Qb, v22.2.1, Qb, v22.2.2.1, Qb]
 have hheld := Rlf hz
 have ew : (⟨(mkW 1 (Rbk a).1).tasks, (mkW 1 (Rbk a).1).boxes, (Rbk a).1.turn, (Rbk a).1.idle, (mkW 1 (Rbk a).1).out⟩ : Wld) = mkW 1 (Rbk a).1 := rfl
 rw [ew]
 refine Ok.bnd (Ok.eq hheld) fun r26 e26 => ?_
 subst e26
 refine Ok.bif (fun h => absurd h (by simp only [Ze]; omega)) (fun _ => ?_)
 refine Ok.bif (fun h => absurd h (by simp [e22])) (fun _ => ?_)
 refine Ok.bnd (Ok.eq (Rds (p := a) (by omega))) fun r27 e27 => ?_
 rw [e27]
 refine Ok.bnd (Ok.eq (Rma (p := a) (by omega) (by omega) (fun x hx => by have := p3 x hx; omega))) fun r28 e28 => ?_
 subst e28
 refine Ok.bnd (Ok.eq heq) fun r29 e29 => ?_
 subst e29
 refine Ok.bif (fun h => absurd h (by simp)) (fun _ => ?_)
 refine Ok.bif (fun h => absurd h (by simp)) (fun _ => ?_)
 rw [Qb, Qb, Qb, ew]
 refine Ok.bnd (Ok.eq hheld) fun r33 e33 => ?_
 subst e33
 refine Ok.bif (fun h => absurd h (by simp only [Ze]; omega)) (fun _ => ?_)
 refine Ok.bif (fun h => absurd h (by simp [e22])) (fun _ => ?_)
 exact Ok.of rfl
end Go.TFnExactWorldNew