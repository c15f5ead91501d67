/- The plain law: what the functions answer. -/
import Derived.Test.YtpkgdoapdijmeaaDFnExactWorldOutcomeE0
import Derived.Test.YtpkgdoapdijmeaaDFnExactWorldOutcomeE1
import Derived.Test.YtpkgdoapdijmeaaDFnExactWorldOutcomeE2
import Derived.Test.YtpkgdoapdijmeaaTvRow3
import Derived.Test.YtpkgdoapdijmeaaLkU
set_option linter.unusedVariables false
set_option linter.unusedSimpArgs false
namespace Go.TFnExactWorldOutcome
open Go Go.RowKit Go.Vs Go.Tv
theorem spec_l6In_eq (a b c : Int) : spec_l6In a b c = some (decide (b ≤ a ∧ a ≤ c)) := by
  apply spec_l6In_le
  by_cases h : b ≤ a <;> simp [h]

theorem spec_OpValid_eq (a : Int) : spec_OpValid a = some (decide (1 ≤ a ∧ a ≤ 12)) := by
  apply spec_OpValid_le; simp [spec_l6In_eq]

theorem spec_WordValid_eq (a : Int) : spec_WordValid a = some (decide (-2147483648 ≤ a ∧ a ≤ 2147483647)) := by
  apply spec_WordValid_le; simp [spec_l6In_eq]

theorem impl_OpValid_eq (a : Int) : impl_OpValid a = some (decide (1 ≤ a ∧ a ≤ 12)) := by
  apply impl_OpValid_le
  by_cases h : 1 ≤ a <;> simp [h]

theorem impl_WordValid_eq (a : Int) : impl_WordValid a = some (decide (-2147483648 ≤ a ∧ a ≤ 2147483647)) := by
  apply impl_WordValid_le
  by_cases h : -2147483648 ≤ a <;> simp [h]

theorem geti_some {α : Type} {l : List α} {i : Nat} (h : i < l.length) : geti l (i : Int) = some l[i] := by
  rw [geti_nat', List.getElem?_eq_getElem h]

theorem wrap_succ {i : Nat} (h : (i : Int) < 9223372036854775807) : wrap64 ((i : Int) + 1) = ((i + 1 : Nat) : Int) := by
  rw [wrap_id (by omega) (by omega)]; omega

theorem made_some {n : Nat} (h : (n : Int) ≤ 4294967296) : made (n : Int) = some n := by simp [made]; omega

/-- What a loop that fills a list has done. -/
theorem fill_step {α : Type} {a b : List α} {i : Nat} (hl : b.length = a.length) (hi : i < a.length) (h : b.take i = a.take i) : (b.set i a[i]).take (i + 1) = a.take (i + 1) := by
  rw [List.take_set]
  apply List.ext_getElem?
  intro j
  rw [List.getElem?_set]
  by_cases hj : i = j
  · subst hj
    simp [hl, hi]; omega
  · rw [if_neg hj]
    by_cases hlt : j < i
    · have := congrArg (fun l : List α => l[j]?) h
      simp only [List.getElem?_take] at this ⊢
      rw [if_pos hlt, if_pos hlt] at this
      rw [if_pos (by omega), if_pos (by omega)]; exact this
    · simp only [List.getElem?_take]
      rw [if_neg (by omega), if_neg (by omega)]

theorem exp_eta (e : Exp) : (⟨e.op, e.n, e.args⟩ : Exp) = e := by cases e; rfl

theorem stm_eta (s : Stm) : (⟨s.kind, s.var, s.box, ⟨s.e.op, s.e.n, s.e.args⟩, s.body, s.els⟩ : Stm) = s := by
  obtain ⟨k, v, b, e, bd, el⟩ := s
  cases e; rfl

mutual
theorem Exp.ind {P : Exp → Prop} (h : ∀ e : Exp, (∀ a ∈ e.args, P a) → P e) : ∀ e : Exp, P e
  | ⟨o, n, as⟩ => h ⟨o, n, as⟩ (Exp.inds h as)
theorem Exp.inds {P : Exp → Prop} (h : ∀ e : Exp, (∀ a ∈ e.args, P a) → P e) : ∀ l : List Exp, ∀ a ∈ l, P a
  | [], a, ha => by cases ha
  | e :: r, a, ha => by
    rcases List.mem_cons.1 ha with e1 | h1
    · rw [e1]; exact Exp.ind h e
    · exact Exp.inds h r a h1
end

mutual
theorem Stm.ind {P : Stm → Prop} (h : ∀ s : Stm, (∀ a ∈ s.body, P a) → (∀ a ∈ s.els, P a) → P s) : ∀ s : Stm, P s
  | ⟨k, v, b, e, bd, el⟩ => h ⟨k, v, b, e, bd, el⟩ (Stm.inds h bd) (Stm.inds h el)
theorem Stm.inds {P : Stm → Prop} (h : ∀ s : Stm, (∀ a ∈ s.body, P a) → (∀ a ∈ s.els, P a) → P s) : ∀ l : List Stm, ∀ a ∈ l, P a
  | [], a, ha => by cases ha
  | e :: r, a, ha => by
    rcases List.mem_cons.1 ha with e1 | h1
    · rw [e1]; exact Stm.ind h e
    · exact Stm.inds h r a h1
end

/-- Is an expression valid with at most some depth? -/
def expOk : Nat → Exp → Bool
  | 0, _ => false
  | d + 1, e =>
    if e.op = 0 then decide (0 ≤ e.n ∧ e.n ≤ 99999) && e.args.isEmpty
    else if e.op = 13 then decide (0 ≤ e.n ∧ e.n < 4) && e.args.isEmpty
    else decide (1 ≤ e.op ∧ e.op ≤ 12) && decide (e.n = 0) && match e.args with | [a, b] => expOk d a && expOk d b | _ => false

theorem len0 {α : Type} (l : List α) : ((l.length : Int) = 0) ↔ l = [] := by
  constructor
  · intro h; exact List.eq_nil_of_length_eq_zero (by omega)
  · intro h; subst h; rfl

theorem two_args {l : List Exp} : ((l.length : Int) = 2) ↔ ∃ a b, l = [a, b] := by
  constructor
  · intro h
    match l, h with
    | [a, b], _ => exact ⟨a, b, rfl⟩
    | [], h => simp at h
    | [_], h => simp at h
    | _ :: _ :: _ :: _, h => simp at h; omega
  · rintro ⟨a, b, rfl⟩; rfl

theorem geti0 {α : Type} (a : α) (l : List α) : geti (a :: l) 0 = some a := by simp [geti]

theorem geti1 {α : Type} (a b : α) (l : List α) : geti (a :: b :: l) 1 = some b := by simp [geti]

theorem pred_d (d : Nat) (h : d ≤ 5) : wrap64 (((d + 1 : Nat) : Int) - 1) = (d : Int) := by rw [wrap_id (by omega) (by omega)]; omega

theorem impl_exprValid_eq : ∀ (d : Nat) (e : Exp), d ≤ 5 → impl_exprValid e (d : Int) = some (expOk d e)
  | d, e, hd => by
    apply impl_exprValid_le
    simp only [impl_OpValid_eq, bnd_some, exp_eta]
    by_cases h0 : e.op = 0
    · cases d with
      | zero => by_cases h1 : 0 ≤ e.n <;> by_cases h2 : e.n ≤ 99999 <;> by_cases h3 : e.args = [] <;> simp [h0, h1, h2, h3, expOk, len0]
      | succ d => by_cases h1 : 0 ≤ e.n <;> by_cases h2 : e.n ≤ 99999 <;> by_cases h3 : e.args = [] <;> simp [h0, h1, h2, h3, expOk, len0] <;> omega
    · by_cases h13 : e.op = 13
      · cases d with
        | zero => by_cases h1 : 0 ≤ e.n <;> by_cases h2 : e.n < 4 <;> by_cases h3 : e.args = [] <;> simp [h13, h1, h2, h3, expOk, len0]
        | succ d => by_cases h1 : 0 ≤ e.n <;> by_cases h2 : e.n < 4 <;> by_cases h3 : e.args = [] <;> simp [h13, h1, h2, h3, expOk, len0] <;> omega
      · by_cases h1 : 1 ≤ e.op ∧ e.op ≤ 12
        · by_cases h2 : e.n = 0
          · by_cases h3 : (e.args.length : Int) = 2
            · obtain ⟨a, b, hab⟩ := two_args.1 h3
              cases d with
              | zero => simp [h0, h13, h1, h2, h3, expOk]
              | succ d =>
                cases d with
                | zero => simp [h0, h13, h1, h2, h3, expOk, hab]
                | succ d =>
                  have hd1 : (1 : Int) < (d : Int) + 1 + 1 := by omega
                  rw [pred_d (d + 1) (by omega), hab, geti0, geti1]
                  simp only [bnd_some, impl_exprValid_eq (d + 1) _ (by omega)]
                  have e1 : expOk (d + 1 + 1) e = (expOk (d + 1) a && expOk (d + 1) b) := by
                    rw [expOk]; simp [h0, h13, h1, h2, hab]
                  rw [e1]
                  cases expOk (d + 1) a <;> simp [h0, h13, h1, h2, hd1]
            · have hm : (match e.args with | [a, b] => (fun d => expOk d a && expOk d b) | _ => fun _ => false) = fun _ => false := by
                split
                · rename_i a b hab; exact absurd (two_args.2 ⟨a, b, hab⟩) h3
                · rfl
              have e1 : expOk d e = false := by
                cases d with
                | zero => rfl
                | succ d =>
                  rw [expOk]; simp only [h0, h13, if_false]
                  split
                  · rename_i a b hab; exact absurd (two_args.2 ⟨a, b, hab⟩) h3
                  · simp
              rw [e1]; simp [h0, h13, h1, h2, h3]
          · have e1 : expOk d e = false := by cases d <;> simp [expOk, h0, h13, h2]
            rw [e1]; simp [h0, h13, h1, h2]
        · have e1 : expOk d e = false := by cases d <;> simp [expOk, h0, h13, h1]
          rw [e1]; simp [h0, h13, h1]

theorem impl_ExprValid_eq (e : Exp) : impl_ExprValid e = some (expOk 5 e) := by
  apply impl_ExprValid_le
  rw [exp_eta, show (5 : Int) = ((5 : Nat) : Int) by rfl, impl_exprValid_eq 5 e (by omega)]
  rfl

theorem spec_l4Ok_eq : ∀ (d : Nat) (e : Exp), d ≤ 5 → spec_l4Ok e (d : Int) = some (expOk d e)
  | 0, e, hd => by
    apply spec_l4Ok_le
    simp [expOk]
  | d + 1, e, hd => by
    apply spec_l4Ok_le
    have hd0 : ¬ (((d + 1 : Nat) : Int) < 1) := by omega
    simp only [spec_l6In_eq, spec_OpValid_eq, bnd_some, exp_eta, hd0, decide_false, cond_false, expOk]
    by_cases h0 : e.op = 0
    · by_cases h1 : 0 ≤ e.n ∧ e.n ≤ 99999 <;> by_cases h3 : e.args = [] <;> simp [h0, h1, h3, len0]
    · by_cases h13 : e.op = 13
      · have e3 : (e.n < 4) = (e.n ≤ 3) := propext (by omega)
        by_cases h1 : 0 ≤ e.n ∧ e.n ≤ 3 <;> by_cases h3 : e.args = [] <;> simp [h13, h1, h3, len0, e3]
      · by_cases h1 : 1 ≤ e.op ∧ e.op ≤ 12
        · by_cases h2 : e.n = 0
          · by_cases h3 : (e.args.length : Int) = 2
            · obtain ⟨a, b, hab⟩ := two_args.1 h3
              rw [pred_d d (by omega), hab, geti0, geti1]
              simp only [bnd_some, spec_l4Ok_eq d _ (by omega)]
              cases expOk d a <;> simp [h0, h13, h1, h2]
            · have e1 : (match e.args with | [a, b] => expOk d a && expOk d b | _ => false) = false := by
                split
                · rename_i a b hab; exact absurd (two_args.2 ⟨a, b, hab⟩) h3
                · rfl
              rw [e1]; simp [h0, h13, h1, h2, h3]
          · simp [h0, h13, h1, h2]
        · simp [h0, h13, h1]

theorem spec_ExprValid_eq (e : Exp) : spec_ExprValid e = some (expOk 5 e) := by
  apply spec_ExprValid_le
  rw [exp_eta, show (5 : Int) = ((5 : Nat) : Int) by rfl, spec_l4Ok_eq 5 e (by omega)]
  rfl

theorem w1 : wrap64 1 = 1 := by unfold wrap64; omega

theorem appL_some {α : Type} {x y : List α} (h : x.length + y.length ≤ 4294967296) : appL x y = some (x ++ y) := by unfold appL; rw [if_pos h]

mutual
def emX : Exp → Nat
  | ⟨_, _, as⟩ => emXs as
def emXs : List Exp → Nat
  | [] => 0
  | e :: r => 1 + emX e + emXs r
end

mutual
def mS : Stm → Nat
  | ⟨_, _, _, e, bd, el⟩ => emX e + mSs bd + mSs el
def mSs : List Stm → Nat
  | [] => 0
  | s :: r => 1 + mS s + mSs r
end

theorem emX_eq (e : Exp) : emX e = emXs e.args := by cases e; simp [emX]

theorem mS_eq (s : Stm) : mS s = emX s.e + mSs s.body + mSs s.els := by cases s; simp [mS]

theorem emXs_drop {l : List Exp} {i : Nat} (hi : i < l.length) : emXs (l.drop i) = 1 + emX l[i] + emXs (l.drop (i + 1)) := by
  rw [List.drop_eq_getElem_cons hi]; simp only [emXs]

theorem mSs_drop {l : List Stm} {i : Nat} (hi : i < l.length) : mSs (l.drop i) = 1 + mS l[i] + mSs (l.drop (i + 1)) := by
  rw [List.drop_eq_getElem_cons hi]; simp only [mSs]

theorem emXs_len : ∀ l : List Exp, l.length ≤ emXs l
  | [] => Nat.le_refl _
  | e :: r => by have := emXs_len r; simp only [emXs, List.length_cons]; omega

theorem mSs_len : ∀ l : List Stm, l.length ≤ mSs l
  | [] => Nat.le_refl _
  | e :: r => by have := mSs_len r; simp only [mSs, List.length_cons]; omega

theorem emX_mem : ∀ {l : List Exp} {e : Exp}, e ∈ l → emX e < emXs l
  | [], e, h => by cases h
  | a :: r, e, h => by
    simp only [emXs]
    rcases List.mem_cons.1 h with rfl | h
    · omega
    · have := emX_mem h; omega

theorem mS_mem : ∀ {l : List Stm} {e : Stm}, e ∈ l → mS e < mSs l
  | [], e, h => by cases h
  | a :: r, e, h => by
    simp only [mSs]
    rcases List.mem_cons.1 h with rfl | h
    · omega
    · have := mS_mem h; omega

/-- What is left of a budget. -/
def left (n : Int) (m : Nat) : Int := if (m : Int) ≤ n then n - m else -1

theorem left_neg {n : Int} {m : Nat} (h0 : 0 ≤ n) : left n m < 0 ↔ n < m := by unfold left; split <;> omega

theorem left_pos {n : Int} {m : Nat} (h : (m : Int) ≤ n) : left n m = n - m := by unfold left; rw [if_pos h]

theorem left_out {n : Int} {m : Nat} (h : n < (m : Int)) : left n m = -1 := by unfold left; rw [if_neg (by omega)]

theorem szExprS_l {l : List Exp} (hl : (l.length : Int) ≤ 1048576) (hp : ∀ e ∈ l, ∀ n : Int, 0 ≤ n → n ≤ 1048576 → laws_szExpr e n = some (left n (emX e))) :
    ∀ (d i : Nat) (n : Int), i + d = l.length → 0 ≤ n → n ≤ 1048576 → ∃ k, laws_szExprS_l1 l n i = some (if (emXs (l.drop i) : Int) ≤ n + (l.length - i : Int) then .inl (n + (l.length - i : Int) - emXs (l.drop i)) else .inr (k, -1))
  | 0, i, n, hd, h0, h1 => by
    refine ⟨0, ?_⟩
    apply laws_szExprS_l1_le
    have hi : ¬ ((i : Int) < l.length) := by omega
    rw [List.drop_eq_nil_of_le (by omega), if_pos (by simp [emXs]; omega)]
    simp [hi, emXs]; omega
  | d + 1, i, n, hd, h0, h1 => by
    have hi : i < l.length := by omega
    have hi' : (i : Int) < l.length := by omega
    have hp' := hp _ (List.getElem_mem hi) n h0 h1
    rw [emXs_drop hi]
    by_cases hc : (emX l[i] : Int) ≤ n
    · obtain ⟨k, hk⟩ := szExprS_l hl hp d (i + 1) (n - emX l[i]) (by omega) (by omega) (by omega)
      refine ⟨k, ?_⟩
      apply laws_szExprS_l1_le
      rw [geti_some hi, wrap_succ (by omega)]
      simp only [hi', decide_true, cond_true, bnd_some, exp_eta, hp', left_pos hc, hk]
      have hn : ¬ (n - (emX l[i] : Int) < 0) := by omega
      simp only [hn, decide_false, cond_false]
      by_cases hq : ((emXs (l.drop (i + 1)) : Nat) : Int) ≤ n - (emX l[i] : Int) + ((l.length : Int) - ((i + 1 : Nat) : Int))
      · rw [if_pos hq, if_pos (by omega)]; congr 2; omega
      · rw [if_neg hq, if_neg (by omega)]
    · refine ⟨-1, ?_⟩
      apply laws_szExprS_l1_le
      rw [geti_some hi]
      simp only [hi', decide_true, cond_true, bnd_some, exp_eta, hp', left_out (show n < (emX l[i] : Int) by omega)]
      have := emXs_len (l.drop (i + 1))
      rw [List.length_drop] at this
      rw [if_neg (by omega)]
      simp

theorem laws_szExprS_eq {l : List Exp} (hl : (l.length : Int) ≤ 9223372036854775807) (hp : ∀ e ∈ l, ∀ n : Int, 0 ≤ n → n ≤ 1048576 → laws_szExpr e n = some (left n (emX e))) {n : Int} (h0 : 0 ≤ n) (h1 : n ≤ 1048576) : laws_szExprS l n = some (left n (emXs l)) := by
  apply laws_szExprS_le
  rw [wrap_id (by omega) (by omega)]
  have hlen := emXs_len l
  by_cases hc : n - (l.length : Int) < 0
  · simp only [hc, decide_true, cond_true]; rw [left_out (by omega)]
  · simp only [hc, decide_false, cond_false]
    obtain ⟨k, hk⟩ := szExprS_l (by omega) hp l.length 0 (n - l.length) (by omega) (by omega) (by omega)
    rw [show (0 : Int) = ((0 : Nat) : Int) by rfl, hk]
    simp only [List.drop_zero, bnd_some, left]
    by_cases hq : (emXs l : Int) ≤ n
    · rw [if_pos (by omega), if_pos hq]; simp only [selm]; congr 1; omega
    · rw [if_neg (by omega), if_neg hq]; simp only [selm]

theorem laws_szExpr_eq : ∀ (e : Exp), wfX e → ∀ n : Int, 0 ≤ n → n ≤ 1048576 → laws_szExpr e n = some (left n (emX e)) := by
  apply Exp.ind
  intro e ih hw n h0 h1
  apply laws_szExpr_le
  have h2 := wfX_mk hw
  rw [laws_szExprS_eq h2.2.2.1 (fun a ha => ih a ha (wfXs_iff.1 h2.2.2.2 a ha)) h0 h1, bnd_some, emX_eq]
  by_cases hq : (emXs e.args : Int) ≤ n
  · rw [left_pos hq]
    have : ¬ (n - (emXs e.args : Int) < 0) := by omega
    simp only [this, decide_false, cond_false]
  · rw [left_out (by omega)]; simp

theorem szStmtS_l {l : List Stm} (hl : (l.length : Int) ≤ 1048576) (hp : ∀ e ∈ l, ∀ n : Int, 0 ≤ n → n ≤ 1048576 → laws_szStmt e n = some (left n (mS e))) :
    ∀ (d i : Nat) (n : Int), i + d = l.length → 0 ≤ n → n ≤ 1048576 → ∃ k, laws_szStmtS_l1 l n i = some (if (mSs (l.drop i) : Int) ≤ n + (l.length - i : Int) then .inl (n + (l.length - i : Int) - mSs (l.drop i)) else .inr (k, -1))
  | 0, i, n, hd, h0, h1 => by
    refine ⟨0, ?_⟩
    apply laws_szStmtS_l1_le
    have hi : ¬ ((i : Int) < l.length) := by omega
    rw [List.drop_eq_nil_of_le (by omega), if_pos (by simp [mSs]; omega)]
    simp [hi, mSs]; omega
  | d + 1, i, n, hd, h0, h1 => by
    have hi : i < l.length := by omega
    have hi' : (i : Int) < l.length := by omega
    have hp' := hp _ (List.getElem_mem hi) n h0 h1
    rw [mSs_drop hi]
    by_cases hc : (mS l[i] : Int) ≤ n
    · obtain ⟨k, hk⟩ := szStmtS_l hl hp d (i + 1) (n - mS l[i]) (by omega) (by omega) (by omega)
      refine ⟨k, ?_⟩
      apply laws_szStmtS_l1_le
      rw [geti_some hi, wrap_succ (by omega)]
      simp only [hi', decide_true, cond_true, bnd_some, stm_eta, hp', left_pos hc, hk]
      have hn : ¬ (n - (mS l[i] : Int) < 0) := by omega
      simp only [hn, decide_false, cond_false]
      by_cases hq : ((mSs (l.drop (i + 1)) : Nat) : Int) ≤ n - (mS l[i] : Int) + ((l.length : Int) - ((i + 1 : Nat) : Int))
      · rw [if_pos hq, if_pos (by omega)]; congr 2; omega
      · rw [if_neg hq, if_neg (by omega)]
    · refine ⟨-1, ?_⟩
      apply laws_szStmtS_l1_le
      rw [geti_some hi]
      simp only [hi', decide_true, cond_true, bnd_some, stm_eta, hp', left_out (show n < (mS l[i] : Int) by omega)]
      have := mSs_len (l.drop (i + 1))
      rw [List.length_drop] at this
      rw [if_neg (by omega)]
      simp

theorem laws_szStmtS_eq {l : List Stm} (hl : (l.length : Int) ≤ 9223372036854775807) (hp : ∀ e ∈ l, ∀ n : Int, 0 ≤ n → n ≤ 1048576 → laws_szStmt e n = some (left n (mS e))) {n : Int} (h0 : 0 ≤ n) (h1 : n ≤ 1048576) : laws_szStmtS l n = some (left n (mSs l)) := by
  apply laws_szStmtS_le
  rw [wrap_id (by omega) (by omega)]
  have hlen := mSs_len l
  by_cases hc : n - (l.length : Int) < 0
  · simp only [hc, decide_true, cond_true]; rw [left_out (by omega)]
  · simp only [hc, decide_false, cond_false]
    obtain ⟨k, hk⟩ := szStmtS_l (by omega) hp l.length 0 (n - l.length) (by omega) (by omega) (by omega)
    rw [show (0 : Int) = ((0 : Nat) : Int) by rfl, hk]
    simp only [List.drop_zero, bnd_some, left]
    by_cases hq : (mSs l : Int) ≤ n
    · rw [if_pos (by omega), if_pos hq]; simp only [selm]; congr 1; omega
    · rw [if_neg (by omega), if_neg hq]; simp only [selm]

theorem left_left {n : Int} {a b : Nat} (h : (a : Int) ≤ n) : left (n - a) b = left n (a + b) := by
  unfold left
  by_cases hb : (b : Int) ≤ n - a
  · rw [if_pos hb, if_pos (by omega)]; omega
  · rw [if_neg hb, if_neg (by omega)]

theorem laws_szStmt_eq : ∀ (e : Stm), wfS e → ∀ n : Int, 0 ≤ n → n ≤ 1048576 → laws_szStmt e n = some (left n (mS e)) := by
  apply Stm.ind
  intro e ih1 ih2 hw n h0 h1
  apply laws_szStmt_le
  obtain ⟨_, _, _, w1, w2, w3, w4, w5⟩ := wfS_mk hw
  rw [mS_eq, exp_eta, laws_szExpr_eq e.e w1 n h0 h1, bnd_some]
  by_cases c1 : (emX e.e : Int) ≤ n
  · rw [left_pos c1]
    have g1 : ¬ (n - (emX e.e : Int) < 0) := by omega
    simp only [g1, decide_false, cond_false]
    rw [laws_szStmtS_eq w2 (fun a ha => ih1 a ha (wfSs_iff.1 w3 a ha)) (by omega) (by omega), bnd_some, left_left c1]
    by_cases c2 : ((emX e.e + mSs e.body : Nat) : Int) ≤ n
    · rw [left_pos c2]
      have g2 : ¬ (n - ((emX e.e + mSs e.body : Nat) : Int) < 0) := by omega
      simp only [g2, decide_false, cond_false]
      rw [laws_szStmtS_eq w4 (fun a ha => ih2 a ha (wfSs_iff.1 w5 a ha)) (by omega) (by omega), bnd_some, left_left c2]
      by_cases c3 : ((emX e.e + mSs e.body + mSs e.els : Nat) : Int) ≤ n
      · rw [left_pos c3]
        have g3 : ¬ (n - ((emX e.e + mSs e.body + mSs e.els : Nat) : Int) < 0) := by omega
        simp only [g3, decide_false, cond_false]
      · rw [left_out (by omega)]; simp
    · rw [left_out (show n < ((emX e.e + mSs e.body : Nat) : Int) by omega), left_out (by omega)]; simp
  · rw [left_out (show n < (emX e.e : Int) by omega), left_out (by omega)]; simp

theorem toExprS_l {a : List Exp} (hl : (a.length : Int) ≤ 4294967296) (hp : ∀ e ∈ a, laws_toExpr e = some e) : ∀ (d i : Nat) (b : List Exp), i + d = a.length → b.length = a.length → b.take i = a.take i → laws_toExprS_l1 a i b = some a
  | 0, i, b, hd, hb, ht => by
    apply laws_toExprS_l1_le
    have hi : ¬ ((i : Int) < a.length) := by omega
    have : b = a := by rw [List.take_of_length_le (by omega), List.take_of_length_le (by omega)] at ht; exact ht
    simp [hi, this]
  | d + 1, i, b, hd, hb, ht => by
    apply laws_toExprS_l1_le
    have hi : i < a.length := by omega
    have hi' : (i : Int) < a.length := by omega
    rw [geti_some hi, geti_some (l := b) (by omega), wrap_succ (by omega)]
    simp only [hi', decide_true, cond_true, bnd_some, exp_eta, hp _ (List.getElem_mem hi), Int.toNat_natCast, List.getElem?_eq_getElem (show i < b.length by omega)]
    exact toExprS_l hl hp d (i + 1) _ (by omega) (by simpa using hb) (fill_step hb hi ht)

theorem laws_toExprS_eq {a : List Exp} (hl : (a.length : Int) ≤ 4294967296) (hp : ∀ e ∈ a, laws_toExpr e = some e) : laws_toExprS a = some a := by
  apply laws_toExprS_le
  rw [made_some hl, bnd_some, show (0 : Int) = ((0 : Nat) : Int) by rfl, toExprS_l hl hp a.length 0 _ (by omega) (by simp) (by simp)]
  rfl

theorem laws_toExpr_eq : ∀ e : Exp, emX e ≤ 4294967296 → laws_toExpr e = some e := by
  apply Exp.ind
  intro e ih hm
  apply laws_toExpr_le
  rw [emX_eq] at hm
  have := emXs_len e.args
  rw [laws_toExprS_eq (by omega) (fun a ha => ih a ha (by have := emX_mem ha; omega)), bnd_some, exp_eta]

theorem toStmtS_l {a : List Stm} (hl : (a.length : Int) ≤ 4294967296) (hp : ∀ e ∈ a, laws_toStmt e = some e) : ∀ (d i : Nat) (b : List Stm), i + d = a.length → b.length = a.length → b.take i = a.take i → laws_toStmtS_l1 a i b = some a
  | 0, i, b, hd, hb, ht => by
    apply laws_toStmtS_l1_le
    have hi : ¬ ((i : Int) < a.length) := by omega
    have : b = a := by rw [List.take_of_length_le (by omega), List.take_of_length_le (by omega)] at ht; exact ht
    simp [hi, this]
  | d + 1, i, b, hd, hb, ht => by
    apply laws_toStmtS_l1_le
    have hi : i < a.length := by omega
    have hi' : (i : Int) < a.length := by omega
    rw [geti_some hi, geti_some (l := b) (by omega), wrap_succ (by omega)]
    simp only [hi', decide_true, cond_true, bnd_some, stm_eta, hp _ (List.getElem_mem hi), Int.toNat_natCast, List.getElem?_eq_getElem (show i < b.length by omega)]
    exact toStmtS_l hl hp d (i + 1) _ (by omega) (by simpa using hb) (fill_step hb hi ht)

theorem laws_toStmtS_eq_ {a : List Stm} (hl : (a.length : Int) ≤ 4294967296) (hp : ∀ e ∈ a, laws_toStmt e = some e) : laws_toStmtS a = some a := by
  apply laws_toStmtS_le
  rw [made_some hl, bnd_some, show (0 : Int) = ((0 : Nat) : Int) by rfl, toStmtS_l hl hp a.length 0 _ (by omega) (by simp) (by simp)]
  rfl

theorem laws_toStmt_eq : ∀ e : Stm, mS e ≤ 4294967296 → laws_toStmt e = some e := by
  apply Stm.ind
  intro e ih1 ih2 hm
  apply laws_toStmt_le
  rw [mS_eq] at hm
  have l1 := mSs_len e.body
  have l2 := mSs_len e.els
  rw [exp_eta, laws_toExpr_eq e.e (by omega), bnd_some, laws_toStmtS_eq_ (by omega) (fun a ha => ih1 a ha (by have := mS_mem ha; omega)), bnd_some,
    laws_toStmtS_eq_ (by omega) (fun a ha => ih2 a ha (by have := mS_mem ha; omega)), bnd_some, stm_eta]

theorem laws_toStmtS_eq {a : List Stm} (h : mSs a ≤ 4294967296) : laws_toStmtS a = some a :=
  laws_toStmtS_eq_ (by have := mSs_len a; omega) fun e he => laws_toStmt_eq e (by have := mS_mem he; omega)

theorem toIntS_l {a : List Int} (hl : (a.length : Int) ≤ 4294967296) : ∀ (d i : Nat) (b : List Int), i + d = a.length → b.length = a.length → b.take i = a.take i → laws_toIntS_l1 a i b = some a
  | 0, i, b, hd, hb, ht => by
    apply laws_toIntS_l1_le
    have hi : ¬ ((i : Int) < a.length) := by omega
    have : b = a := by rw [List.take_of_length_le (by omega), List.take_of_length_le (by omega)] at ht; exact ht
    simp [hi, this]
  | d + 1, i, b, hd, hb, ht => by
    apply laws_toIntS_l1_le
    have hi : i < a.length := by omega
    have hi' : (i : Int) < a.length := by omega
    rw [geti_some hi, geti_some (l := b) (by omega), wrap_succ (by omega)]
    simp only [hi', decide_true, cond_true, bnd_some, Int.toNat_natCast, List.getElem?_eq_getElem (show i < b.length by omega)]
    exact toIntS_l hl d (i + 1) _ (by omega) (by simpa using hb) (fill_step hb hi ht)

theorem laws_toIntS_eq {a : List Int} (hl : (a.length : Int) ≤ 4294967296) : laws_toIntS a = some a := by
  apply laws_toIntS_le
  rw [made_some hl, bnd_some, show (0 : Int) = ((0 : Nat) : Int) by rfl, toIntS_l hl a.length 0 _ (by omega) (by simp) (by simp)]
  rfl

theorem tk_eta (t : Tk) : (⟨t.vars, t.rest⟩ : Tk) = t := by cases t; rfl

theorem laws_toTask_eq {t : Tk} (h : t.vars.length + mSs t.rest ≤ 4294967296) : laws_toTask t = some t := by
  apply laws_toTask_le
  rw [laws_toIntS_eq (by omega), bnd_some, laws_toStmtS_eq (by omega), bnd_some, tk_eta]

theorem eqExprS_l {a : List Exp} (hl : (a.length : Int) ≤ 4294967296) (hp : ∀ e ∈ a, laws_eqExpr e e = some true) : ∀ (d i : Nat), i + d = a.length → laws_eqExprS_l1 a a i = some (.inl ())
  | 0, i, hd => by
    apply laws_eqExprS_l1_le
    have hi : ¬ ((i : Int) < a.length) := by omega
    simp [hi]
  | d + 1, i, hd => by
    apply laws_eqExprS_l1_le
    have hi : i < a.length := by omega
    have hi' : (i : Int) < a.length := by omega
    rw [geti_some hi, wrap_succ (by omega)]
    simp only [hi', decide_true, cond_true, bnd_some, exp_eta, hp _ (List.getElem_mem hi), Bool.not_true, cond_false]
    exact eqExprS_l hl hp d (i + 1) (by omega)

theorem laws_eqExprS_refl {a : List Exp} (hl : (a.length : Int) ≤ 4294967296) (hp : ∀ e ∈ a, laws_eqExpr e e = some true) : laws_eqExprS a a = some true := by
  apply laws_eqExprS_le
  rw [show (0 : Int) = ((0 : Nat) : Int) by rfl, eqExprS_l hl hp a.length 0 (by omega)]
  simp [selm]

theorem laws_eqExpr_refl : ∀ e : Exp, emX e ≤ 4294967296 → laws_eqExpr e e = some true := by
  apply Exp.ind
  intro e ih hm
  apply laws_eqExpr_le
  rw [emX_eq] at hm
  have := emXs_len e.args
  rw [laws_eqExprS_refl (by omega) (fun a ha => ih a ha (by have := emX_mem ha; omega))]
  simp

theorem eqStmtS_l {a : List Stm} (hl : (a.length : Int) ≤ 4294967296) (hp : ∀ e ∈ a, laws_eqStmt e e = some true) : ∀ (d i : Nat), i + d = a.length → laws_eqStmtS_l1 a a i = some (.inl ())
  | 0, i, hd => by
    apply laws_eqStmtS_l1_le
    have hi : ¬ ((i : Int) < a.length) := by omega
    simp [hi]
  | d + 1, i, hd => by
    apply laws_eqStmtS_l1_le
    have hi : i < a.length := by omega
    have hi' : (i : Int) < a.length := by omega
    rw [geti_some hi, wrap_succ (by omega)]
    simp only [hi', decide_true, cond_true, bnd_some, stm_eta, hp _ (List.getElem_mem hi), Bool.not_true, cond_false]
    exact eqStmtS_l hl hp d (i + 1) (by omega)

theorem laws_eqStmtS_refl_ {a : List Stm} (hl : (a.length : Int) ≤ 4294967296) (hp : ∀ e ∈ a, laws_eqStmt e e = some true) : laws_eqStmtS a a = some true := by
  apply laws_eqStmtS_le
  rw [show (0 : Int) = ((0 : Nat) : Int) by rfl, eqStmtS_l hl hp a.length 0 (by omega)]
  simp [selm]

theorem laws_eqStmt_refl : ∀ e : Stm, mS e ≤ 4294967296 → laws_eqStmt e e = some true := by
  apply Stm.ind
  intro e ih1 ih2 hm
  apply laws_eqStmt_le
  rw [mS_eq] at hm
  have l1 := mSs_len e.body
  have l2 := mSs_len e.els
  rw [exp_eta, laws_eqExpr_refl e.e (by omega), laws_eqStmtS_refl_ (by omega) (fun a ha => ih1 a ha (by have := mS_mem ha; omega)),
    laws_eqStmtS_refl_ (by omega) (fun a ha => ih2 a ha (by have := mS_mem ha; omega))]
  simp

theorem laws_eqStmtS_refl {a : List Stm} (h : mSs a ≤ 4294967296) : laws_eqStmtS a a = some true :=
  laws_eqStmtS_refl_ (by have := mSs_len a; omega) fun e he => laws_eqStmt_refl e (by have := mS_mem he; omega)

theorem eqIntS_l {a : List Int} (hl : (a.length : Int) ≤ 4294967296) : ∀ (d i : Nat), i + d = a.length → laws_eqIntS_l1 a a i = some (.inl ())
  | 0, i, hd => by
    apply laws_eqIntS_l1_le
    have hi : ¬ ((i : Int) < a.length) := by omega
    simp [hi]
  | d + 1, i, hd => by
    apply laws_eqIntS_l1_le
    have hi : i < a.length := by omega
    have hi' : (i : Int) < a.length := by omega
    rw [geti_some hi, wrap_succ (by omega)]
    simp only [hi', decide_true, cond_true, bnd_some, Bool.not_true, cond_false]
    exact eqIntS_l hl d (i + 1) (by omega)

theorem laws_eqIntS_refl {a : List Int} (hl : (a.length : Int) ≤ 4294967296) : laws_eqIntS a a = some true := by
  apply laws_eqIntS_le
  rw [show (0 : Int) = ((0 : Nat) : Int) by rfl, eqIntS_l hl a.length 0 (by omega)]
  simp [selm]

theorem laws_eqTask_refl {t : Tk} (h : t.vars.length + mSs t.rest ≤ 4294967296) : laws_eqTask t t = some true := by
  apply laws_eqTask_le
  rw [laws_eqIntS_refl (by omega), laws_eqStmtS_refl (by omega)]
  simp

mutual
def cS : Stm → Nat
  | ⟨_, _, _, _, bd, el⟩ => 1 + cSs bd + cSs el
def cSs : List Stm → Nat
  | [] => 0
  | s :: r => cS s + cSs r
end

theorem cS_eq (s : Stm) : cS s = 1 + cSs s.body + cSs s.els := by cases s; simp [cS]

theorem cSs_drop {l : List Stm} {i : Nat} (hi : i < l.length) : cSs (l.drop i) = cS l[i] + cSs (l.drop (i + 1)) := by
  rw [List.drop_eq_getElem_cons hi]; simp only [cSs]

theorem cSs_len : ∀ l : List Stm, l.length ≤ cSs l
  | [] => Nat.le_refl _
  | e :: r => by have := cSs_len r; have := cS_eq e; simp only [cSs, List.length_cons]; omega

mutual
theorem cS_le : ∀ s : Stm, cS s ≤ 1 + mS s
  | ⟨_, _, _, e, bd, el⟩ => by have := cSs_le bd; have := cSs_le el; simp only [cS, mS]; omega
theorem cSs_le : ∀ l : List Stm, cSs l ≤ mSs l
  | [] => Nat.le_refl _
  | s :: r => by have := cS_le s; have := cSs_le r; simp only [cSs, mSs]; omega
end

theorem cS_mem : ∀ {l : List Stm} {e : Stm}, e ∈ l → cS e ≤ cSs l
  | [], e, h => by cases h
  | a :: r, e, h => by
    simp only [cSs]
    rcases List.mem_cons.1 h with rfl | h
    · omega
    · have := cS_mem h; omega

theorem count_ls {l : List Stm} (hp : ∀ s ∈ l, spec_l11Count s.body = some (cSs s.body : Int) ∧ spec_l11Count s.els = some (cSs s.els : Int)) (hb : cSs l ≤ 4294967296) :
    ∀ (d i : Nat) (k : Int), i + d = l.length → 0 ≤ k → k + cSs (l.drop i) ≤ 4294967296 → spec_l11Count_l1 l k i = some (k + cSs (l.drop i))
  | 0, i, k, hd, h0, h1 => by
    apply spec_l11Count_l1_le
    have hi : ¬ ((i : Int) < l.length) := by omega
    rw [List.drop_eq_nil_of_le (by omega)]
    simp [hi, cSs]
  | d + 1, i, k, hd, h0, h1 => by
    apply spec_l11Count_l1_le
    have hi : i < l.length := by omega
    have hi' : (i : Int) < l.length := by omega
    obtain ⟨p1, p2⟩ := hp _ (List.getElem_mem hi)
    have hlen := cSs_len l
    have hc := cSs_drop hi
    have hs := cS_eq l[i]
    rw [geti_some hi, wrap_succ (by omega)]
    simp only [hi', decide_true, cond_true, bnd_some, p1, p2]
    rw [wrap_id (n := k + 1) (by omega) (by omega), wrap_id (n := k + 1 + (cSs l[i].body : Int)) (by omega) (by omega), wrap_id (by omega) (by omega),
      count_ls hp hb d (i + 1) _ (by omega) (by omega) (by omega)]
    congr 1; omega

theorem spec_l11Count_eq_ {l : List Stm} (hp : ∀ s ∈ l, spec_l11Count s.body = some (cSs s.body : Int) ∧ spec_l11Count s.els = some (cSs s.els : Int)) (hb : cSs l ≤ 4294967296) : spec_l11Count l = some (cSs l : Int) := by
  apply spec_l11Count_le
  have := count_ls hp hb l.length 0 0 (by omega) (by omega) (by simp; omega)
  rw [show ((0 : Nat) : Int) = 0 by rfl] at this
  rw [this]; simp

theorem count_parts : ∀ s : Stm, cS s ≤ 4294967296 → spec_l11Count s.body = some (cSs s.body : Int) ∧ spec_l11Count s.els = some (cSs s.els : Int) := by
  apply Stm.ind
  intro s ih1 ih2 hb
  rw [cS_eq] at hb
  exact ⟨spec_l11Count_eq_ (fun a ha => ih1 a ha (by have := cS_mem ha; omega)) (by omega), spec_l11Count_eq_ (fun a ha => ih2 a ha (by have := cS_mem ha; omega)) (by omega)⟩

theorem spec_l11Count_eq {l : List Stm} (hb : cSs l ≤ 4294967296) : spec_l11Count l = some (cSs l : Int) :=
  spec_l11Count_eq_ (fun s hs => count_parts s (by have := cS_mem hs; omega)) hb

/-- What a statement's own parts must be. -/
def hdr (s : Stm) : Prop :=
  (s.kind = 1 ∧ (0 ≤ s.var ∧ s.var < 4) ∧ s.box = 0 ∧ expOk 5 s.e = true ∧ (s.body.length : Int) = 0 ∧ (s.els.length : Int) = 0) ∨
  (s.kind = 2 ∧ s.var = 0 ∧ s.box = 0 ∧ expOk 5 s.e = true) ∨
  (s.kind = 3 ∧ s.var = 0 ∧ s.box = 0 ∧ expOk 5 s.e = true ∧ (s.els.length : Int) = 0) ∨
  (s.kind = 4 ∧ s.var = 0 ∧ (0 ≤ s.box ∧ s.box < 3) ∧ expOk 5 s.e = true ∧ (s.body.length : Int) = 0 ∧ (s.els.length : Int) = 0) ∨
  (s.kind = 5 ∧ (0 ≤ s.var ∧ s.var < 4) ∧ (0 ≤ s.box ∧ s.box < 3) ∧ (s.e.op = 0 ∧ s.e.n = 0 ∧ (s.e.args.length : Int) = 0) ∧ (s.body.length : Int) = 0 ∧ (s.els.length : Int) = 0) ∨
  (s.kind = 6 ∧ s.var = 0 ∧ s.box = 0 ∧ (s.e.op = 0 ∧ s.e.n = 0 ∧ (s.e.args.length : Int) = 0) ∧ (s.body.length : Int) = 0 ∧ (s.els.length : Int) = 0) ∨
  (s.kind = 7 ∧ s.var = 0 ∧ s.box = 0 ∧ expOk 5 s.e = true ∧ (s.body.length : Int) = 0 ∧ (s.els.length : Int) = 0)

instance (s : Stm) : Decidable (hdr s) := by unfold hdr; infer_instance

def sOk : Nat → Stm → Bool
  | 0, s => decide (hdr s) && !decide (s.kind = 2 ∨ s.kind = 3)
  | d + 1, s => decide (hdr s) && (if s.kind = 2 ∨ s.kind = 3 then s.body.all (sOk d) && s.els.all (sOk d) else true)

theorem impl_stmtValid_1_eq (x n : Int) (b : Bool) (hn : 1 ≤ n) : impl_stmtValid_1 x n b = some (decide (if b then 0 ≤ x ∧ x < n else x = 0)) := by
  apply impl_stmtValid_1_le
  cases b
  · by_cases h : x = 0 <;> simp [h]
  · by_cases h : x = 0
    · simp [h]; omega
    · by_cases h2 : 0 < x
      · simp [h, h2]; omega
      · simp [h, h2]; omega

theorem spec_l11Var_eq (s : Stm) (b : Bool) : spec_l11Var s b = some (decide (if b then 0 ≤ s.var ∧ s.var < 4 else s.var = 0)) := by
  apply spec_l11Var_le
  simp only [spec_l6In_eq, bnd_some, cond_some]
  apply some_dec
  cases b <;> simp; omega

theorem spec_l11Box_eq (s : Stm) (b : Bool) : spec_l11Box s b = some (decide (if b then 0 ≤ s.box ∧ s.box < 3 else s.box = 0)) := by
  apply spec_l11Box_le
  simp only [spec_l6In_eq, bnd_some, cond_some]
  apply some_dec
  cases b <;> simp; omega

theorem spec_l11Plain_eq (e : Exp) : spec_l11Plain e = some (decide (e.op = 0 ∧ e.n = 0 ∧ (e.args.length : Int) = 0)) := by
  apply spec_l11Plain_le
  simp only [cond_some]
  apply some_dec
  simp only [cond_iff, decide_eq_true_eq, Bool.false_eq_true]
  by_cases h : e.op = 0 <;> by_cases h2 : e.n = 0 <;> simp [h, h2]

theorem spec_l11Simple_eq (s : Stm) (n2 : s.kind ≠ 2) (n3 : s.kind ≠ 3) : spec_l11Simple s = some (decide (hdr s)) := by
  apply spec_l11Simple_le
  simp only [stm_eta, exp_eta, spec_l11Var_eq, spec_l11Box_eq, spec_l11Plain_eq, spec_ExprValid_eq, bnd_some, cond_some]
  apply some_dec
  obtain ⟨k, v, b, e, bd, el⟩ := s
  have a1 : (0 : Int) ≤ bd.length := by omega
  have a2 : (0 : Int) ≤ el.length := by omega
  have a3 : (0 : Int) ≤ e.args.length := by omega
  simp only [hdr, cond_iff, decide_eq_true_eq, if_true, Bool.false_eq_true, if_false, Bool.not_eq_true', decide_eq_false_iff_not]
  generalize (bd.length : Int) = n1 at a1
  generalize (el.length : Int) = n2' at a2
  generalize (e.args.length : Int) = n3' at a3
  simp only [] at n2 n3
  cases hv : expOk 5 e
  all_goals
    by_cases h1 : k = 1
    · subst h1; simp; try omega
    by_cases h4 : k = 4
    · subst h4; simp; try omega
    by_cases h5 : k = 5
    · subst h5; simp; try omega
    by_cases h7 : k = 7
    · subst h7; simp; try omega
    by_cases h6 : k = 6
    · subst h6; simp; try omega
    simp [h1, n2, n3, h4, h5, h6, h7]

theorem hdr2 {s : Stm} (h : s.kind = 2) : hdr s ↔ s.var = 0 ∧ s.box = 0 ∧ expOk 5 s.e = true := by simp [hdr, h]

theorem hdr3 {s : Stm} (h : s.kind = 3) : hdr s ↔ s.var = 0 ∧ s.box = 0 ∧ expOk 5 s.e = true ∧ (s.els.length : Int) = 0 := by simp [hdr, h]

theorem if_alike {α : Type} {P Q : Prop} [Decidable P] [Decidable Q] {a b c : α} (h : P ↔ Q) (ha : a = b) : (if P then a else c) = if Q then b else c := by
  subst ha
  by_cases hp : P
  · rw [if_pos hp, if_pos (h.1 hp)]
  · rw [if_neg hp, if_neg fun x => hp (h.2 x)]

theorem blocks_l {l : List Stm} {n : Int} {f : Stm → Bool} (hl : (l.length : Int) ≤ 4294967296) (hp : ∀ s ∈ l, spec_l11Ok s n = some (f s)) :
    ∀ (d i : Nat), i + d = l.length → spec_l11Blocks_l1 l n i = some (if (l.drop i).all f then .inl () else .inr false)
  | 0, i, hd => by
    apply spec_l11Blocks_l1_le
    have hi : ¬ ((i : Int) < l.length) := by omega
    rw [List.drop_eq_nil_of_le (by omega)]
    simp [hi]
  | d + 1, i, hd => by
    apply spec_l11Blocks_l1_le
    have hi : i < l.length := by omega
    have hi' : (i : Int) < l.length := by omega
    rw [geti_some hi, wrap_succ (by omega), blocks_l hl hp d (i + 1) (by omega)]
    have e1 : (l.drop i).all f = (f l[i] && (l.drop (i + 1)).all f) := by rw [List.drop_eq_getElem_cons hi, List.all_cons]
    rw [e1]
    simp only [hi', decide_true, cond_true, bnd_some, stm_eta, hp _ (List.getElem_mem hi)]
    cases f l[i] <;> simp

theorem spec_l11Blocks_eq_ {l : List Stm} {n : Int} {f : Stm → Bool} (hl : (l.length : Int) ≤ 4294967296) (hp : ∀ s ∈ l, spec_l11Ok s n = some (f s)) : spec_l11Blocks l n = some (l.all f) := by
  apply spec_l11Blocks_le
  rw [show (0 : Int) = ((0 : Nat) : Int) by rfl, blocks_l hl hp l.length 0 (by omega), List.drop_zero]
  cases l.all f <;> simp [selm]

theorem spec_l11Ok_eq : ∀ (d : Nat) (s : Stm), d ≤ 3 → mS s ≤ 4294967296 → spec_l11Ok s (d : Int) = some (sOk d s)
  | 0, s, hd, hm => by
    apply spec_l11Ok_le
    by_cases h2 : s.kind = 2
    · simp [h2, sOk]
    · by_cases h3 : s.kind = 3
      · simp [h3, sOk]
      · simp [h2, h3, sOk, stm_eta, spec_l11Simple_eq s h2 h3]
  | d + 1, s, hd, hm => by
    apply spec_l11Ok_le
    have hm' := mS_eq s
    have l1 := mSs_len s.body
    have l2 := mSs_len s.els
    have hd0 : ¬ (((d + 1 : Nat) : Int) < 1) := by omega
    have b1 : spec_l11Blocks s.body (d : Int) = some (s.body.all (sOk d)) := spec_l11Blocks_eq_ (by omega) fun a ha => spec_l11Ok_eq d a (by omega) (by have := mS_mem ha; omega)
    have b2 : spec_l11Blocks s.els (d : Int) = some (s.els.all (sOk d)) := spec_l11Blocks_eq_ (by omega) fun a ha => spec_l11Ok_eq d a (by omega) (by have := mS_mem ha; omega)
    rw [show wrap64 (((d + 1 : Nat) : Int) - 1) = (d : Int) by rw [wrap_id (by omega) (by omega)]; omega]
    simp only [stm_eta, exp_eta, spec_l11Var_eq, spec_l11Box_eq, spec_ExprValid_eq, b1, b2, bnd_some, hd0, decide_false, cond_false]
    by_cases h2 : s.kind = 2
    · have h3 : s.kind ≠ 3 := by omega
      have hh : decide (hdr s) = (decide (s.var = 0) && decide (s.box = 0) && expOk 5 s.e) := by
        rw [Bool.eq_iff_iff]; simp [hdr2 h2, and_assoc]
      simp only [sOk, hh, h2, true_or, if_true]
      by_cases v : s.var = 0 <;> by_cases b : s.box = 0 <;> cases expOk 5 s.e <;> cases s.body.all (sOk d) <;> simp [v, b]
    · by_cases h3 : s.kind = 3
      · by_cases he : (s.els.length : Int) = 0
        · have hh : decide (hdr s) = (decide (s.var = 0) && decide (s.box = 0) && expOk 5 s.e) := by
            rw [Bool.eq_iff_iff]; simp [hdr3 h3, and_assoc, he]
          simp only [sOk, hh, h3, or_true, if_true]
          by_cases v : s.var = 0 <;> by_cases b : s.box = 0 <;> cases expOk 5 s.e <;> cases s.body.all (sOk d) <;> simp [v, b, he]
        · have hh : decide (hdr s) = false := by
            simp [hdr3 h3]; intro _ _ _ h; exact absurd (by rw [h]; rfl) he
          have hpos : 0 < (s.els.length : Int) := by omega
          simp only [sOk, hh, h3, or_true, if_true, hpos]
          simp
      · have hh := spec_l11Simple_eq s h2 h3
        simp only [sOk, h2, h3, or_false, if_false]
        simp [h2, h3]
        show bnd (spec_l11Simple s) _ = _
        rw [hh]; rfl

theorem spec_l11Blocks_eq {d : Nat} {l : List Stm} (hd : d ≤ 3) (hm : mSs l ≤ 4294967296) : spec_l11Blocks l (d : Int) = some (l.all (sOk d)) :=
  spec_l11Blocks_eq_ (by have := mSs_len l; omega) fun s hs => spec_l11Ok_eq d s hd (by have := mS_mem hs; omega)

def stOk (l : List Stm) : Bool := decide (l.all (sOk 3) = true ∧ (cSs l : Int) ≤ 16)

theorem spec_StmtsValid_eq (l : List Stm) (hm : mSs l ≤ 4294967296) : spec_StmtsValid l = some (stOk l) := by
  apply spec_StmtsValid_le
  have hc := cSs_le l
  rw [show (3 : Int) = ((3 : Nat) : Int) by rfl, spec_l11Blocks_eq (by omega) hm, bnd_some, spec_l11Count_eq (by omega)]
  unfold stOk
  cases l.all (sOk 3) <;> simp

theorem cut_one {α : Type} {l : List α} {i : Nat} (hi : i < l.length) : cutL l (i : Int) ((i + 1 : Nat) : Int) = some [l[i]] := by
  unfold cutL
  rw [if_pos (by omega)]
  simp only [Int.toNat_natCast, Option.some.injEq]
  rw [List.drop_take, List.drop_eq_getElem_cons hi, show i + 1 - i = 1 by omega]
  simp only [List.take_succ_cons, List.take_zero]

def words (l : List Int) : Bool := l.all fun n => decide (-2147483648 ≤ n ∧ n ≤ 2147483647)

theorem areWords_l {l : List Int} (hl : (l.length : Int) ≤ 4294967296) : ∀ (d i : Nat), i + d = l.length → impl_areWords_l1 l l.length i = some (if words (l.drop i) then .inl () else .inr false)
  | 0, i, hd => by
    apply impl_areWords_l1_le
    have hi : ¬ ((i : Int) < l.length) := by omega
    rw [List.drop_eq_nil_of_le (by omega)]
    simp [hi, words]
  | d + 1, i, hd => by
    apply impl_areWords_l1_le
    have hi : i < l.length := by omega
    have hi' : (i : Int) < l.length := by omega
    have e1 : words (l.drop i) = (decide (-2147483648 ≤ l[i] ∧ l[i] ≤ 2147483647) && words (l.drop (i + 1))) := by unfold words; rw [List.drop_eq_getElem_cons hi, List.all_cons]
    rw [geti_some hi, wrap_succ (by omega), areWords_l hl d (i + 1) (by omega), e1]
    simp only [hi', decide_true, cond_true, bnd_some, impl_WordValid_eq]
    cases decide (-2147483648 ≤ l[i] ∧ l[i] ≤ 2147483647) <;> simp

theorem impl_areWords_eq {l : List Int} (hl : (l.length : Int) ≤ 4294967296) : impl_areWords l = some (words l) := by
  apply impl_areWords_le
  rw [show (0 : Int) = ((0 : Nat) : Int) by rfl, areWords_l hl l.length 0 (by omega), List.drop_zero]
  cases words l <;> simp [selm]

theorem l4Words_l {l : List Int} (hl : (l.length : Int) ≤ 4294967296) : ∀ (d i : Nat), i + d = l.length → spec_l4Words_l1 l i = some (if words (l.drop i) then .inl () else .inr false)
  | 0, i, hd => by
    apply spec_l4Words_l1_le
    have hi : ¬ ((i : Int) < l.length) := by omega
    rw [List.drop_eq_nil_of_le (by omega)]
    simp [hi, words]
  | d + 1, i, hd => by
    apply spec_l4Words_l1_le
    have hi : i < l.length := by omega
    have hi' : (i : Int) < l.length := by omega
    have e1 : words (l.drop i) = (decide (-2147483648 ≤ l[i] ∧ l[i] ≤ 2147483647) && words (l.drop (i + 1))) := by unfold words; rw [List.drop_eq_getElem_cons hi, List.all_cons]
    rw [geti_some hi, wrap_succ (by omega), l4Words_l hl d (i + 1) (by omega), e1]
    simp only [hi', decide_true, cond_true, bnd_some, spec_WordValid_eq]
    cases decide (-2147483648 ≤ l[i] ∧ l[i] ≤ 2147483647) <;> simp

theorem spec_l4Words_eq {l : List Int} (hl : (l.length : Int) ≤ 4294967296) (n : Int) : spec_l4Words l n = some (decide ((l.length : Int) = n) && words l) := by
  apply spec_l4Words_le
  rw [show (0 : Int) = ((0 : Nat) : Int) by rfl, l4Words_l hl l.length 0 (by omega), List.drop_zero]
  by_cases h : (l.length : Int) = n <;> cases words l <;> simp [selm, h]

def rests (l : List Stm) : Bool := l.all fun s => stOk [s]

theorem rests_drop {l : List Stm} {i : Nat} (hi : i < l.length) : rests (l.drop i) = (stOk [l[i]] && rests (l.drop (i + 1))) := by
  unfold rests; rw [List.drop_eq_getElem_cons hi, List.all_cons]

theorem mSs_one (s : Stm) : mSs [s] = 1 + mS s := by simp [mSs]

theorem spec_rests {v : List Int} {l : List Stm} (hm : mSs l ≤ 4294967296) : ∀ (d i : Nat), i + d = l.length → spec_TaskValid_l1 i v l = some (if rests (l.drop i) then .inl (v, l) else .inr (false, v, l))
  | 0, i, hd => by
    apply spec_TaskValid_l1_le
    have hi : ¬ ((i : Int) < l.length) := by omega
    rw [List.drop_eq_nil_of_le (by omega)]
    simp [hi, rests]
  | d + 1, i, hd => by
    apply spec_TaskValid_l1_le
    have hi : i < l.length := by omega
    have hi' : (i : Int) < l.length := by omega
    have hlen := mSs_len l
    have hmem := mS_mem (List.getElem_mem hi)
    rw [wrap_succ (by omega), cut_one hi, rests_drop hi, spec_rests hm d (i + 1) (by omega)]
    simp only [hi', decide_true, cond_true, bnd_some, spec_StmtsValid_eq [l[i]] (by rw [mSs_one]; omega)]
    cases stOk [l[i]] <;> simp

def taskOk (t : Tk) : Bool := decide ((t.vars.length : Int) = 4) && words t.vars && rests t.rest

theorem spec_TaskValid_eq (t : Tk) (hv : (t.vars.length : Int) ≤ 4294967296) (hm : mSs t.rest ≤ 4294967296) : spec_TaskValid t = some (taskOk t) := by
  apply spec_TaskValid_le
  rw [show (0 : Int) = ((0 : Nat) : Int) by rfl, spec_rests hm t.rest.length 0 (by omega), List.drop_zero]
  unfold taskOk
  cases rests t.rest
  · simp [selm]
  · simp [selm, spec_l4Words_eq hv]

def hdN (many : Int) (s : Stm) : Prop := hdr s ∧ (s.kind = 4 ∨ s.kind = 5 → s.box < many)

instance (many : Int) (s : Stm) : Decidable (hdN many s) := by unfold hdN; infer_instance

def gOk (many : Int) : Nat → Stm → Bool
  | 0, s => decide (hdN many s) && !decide (s.kind = 2 ∨ s.kind = 3)
  | d + 1, s => decide (hdN many s) && (if s.kind = 2 ∨ s.kind = 3 then s.body.all (gOk many d) && s.els.all (gOk many d) else true)

theorem impl_stmtValid_1_zero (x n : Int) (hn : 0 ≤ n) : impl_stmtValid_1 x n true = some (decide (x = 0 ∨ (0 ≤ x ∧ x < n))) := by
  apply impl_stmtValid_1_le
  by_cases h : x = 0
  · simp [h]
  · by_cases h2 : 0 < x
    · simp [h, h2]; omega
    · simp [h, h2]; omega

theorem impl_stmtValid_1_false (x n : Int) : impl_stmtValid_1 x n false = some (decide (x = 0)) := by
  apply impl_stmtValid_1_le
  by_cases h : x = 0 <;> simp [h]

theorem impl_stmtValid_n {many : Int} (hmn : 0 ≤ many ∧ many ≤ 3) (s : Stm) : impl_stmtValid s many = some (decide (hdN many s)) := by
  apply impl_stmtValid_le
  simp only [impl_stmtValid_1_zero _ many hmn.1, impl_stmtValid_1_eq _ 4 true (by omega), impl_stmtValid_1_false, impl_ExprValid_eq, exp_eta, bnd_some, cond_some]
  apply some_dec
  obtain ⟨k, v, b, e, bd, el⟩ := s
  have a1 : (0 : Int) ≤ bd.length := by omega
  have a2 : (0 : Int) ≤ el.length := by omega
  have a3 : (0 : Int) ≤ e.args.length := by omega
  simp only [hdN, hdr, cond_iff, decide_eq_true_eq, if_true, Bool.false_eq_true, if_false, Bool.not_eq_true', decide_eq_false_iff_not]
  generalize (bd.length : Int) = n1 at a1
  generalize (el.length : Int) = n2 at a2
  generalize (e.args.length : Int) = n3 at a3
  cases hv : expOk 5 e
  all_goals
    by_cases h1 : k = 1
    · subst h1; simp; try omega
    by_cases h2 : k = 2
    · subst h2; simp; try omega
    by_cases h3 : k = 3
    · subst h3; simp; try omega
    by_cases h4 : k = 4
    · subst h4; simp; try omega
    by_cases h5 : k = 5
    · subst h5; simp; try omega
    by_cases h7 : k = 7
    · subst h7; simp; try omega
    by_cases h6 : k = 6
    · subst h6; simp; try omega
    simp [h1, h2, h3, h4, h5, h6, h7]

theorem block_n {many : Int} (hmn : 0 ≤ many ∧ many ≤ 3) {l : List Stm} {d0 : Nat} (hl : (l.length : Int) ≤ 4294967296) (hd0 : d0 ≤ 3)
    (hp : ∀ d, d0 = d + 1 → ∀ (bl : List Stm) (n : Int), (∃ s ∈ l, bl = s.body ∨ bl = s.els) → 0 ≤ n → n ≤ 16 → ∃ c, impl_blockValid bl many (3 - (d : Int)) n = some (decide (bl.all (gOk many d) = true ∧ n + cSs bl ≤ 16), c) ∧ (bl.all (gOk many d) = true → n + cSs bl ≤ 16 → c = n + cSs bl)) :
    ∀ (d i : Nat) (n : Int), i + d = l.length → 0 ≤ n → n ≤ 16 → ∃ c, impl_blockValid_l1 l many (3 - (d0 : Int)) l.length i n = some (if (l.drop i).all (gOk many d0) = true ∧ n + (cSs (l.drop i) - (l.length - i : Int)) ≤ 16 then .inl (n + (cSs (l.drop i) - (l.length - i : Int))) else .inr (false, c))
  | 0, i, n, hd, h0, h1 => by
    refine ⟨0, ?_⟩
    apply impl_blockValid_l1_le
    have hi : ¬ ((i : Int) < l.length) := by omega
    rw [List.drop_eq_nil_of_le (by omega), if_pos ⟨by simp, by simp [cSs]; omega⟩]
    simp [hi, cSs]; omega
  | d + 1, i, n, hd, h0, h1 => by
    have hi : i < l.length := by omega
    have hi' : (i : Int) < l.length := by omega
    have e1 : (l.drop i).all (gOk many d0) = (gOk many d0 l[i] && (l.drop (i + 1)).all (gOk many d0)) := by rw [List.drop_eq_getElem_cons hi, List.all_cons]
    have e2 := cSs_drop hi
    have e3 := cS_eq l[i]
    have e4 := cSs_len (l.drop (i + 1))
    rw [List.length_drop] at e4
    have hn3 : ¬ ((3 : Int) < 3 - (d0 : Int)) := by omega
    by_cases hh : hdN many l[i]
    · by_cases hk : l[i].kind = 2 ∨ l[i].kind = 3
      · cases d0 with
        | zero =>
          have s0 : gOk many 0 l[i] = false := by simp [gOk, hk]
          refine ⟨n, ?_⟩
          apply impl_blockValid_l1_le
          rw [geti_some hi, e1, s0]
          simp only [hi', decide_true, cond_true, bnd_some, stm_eta, impl_stmtValid_n hmn, hh, Bool.not_true, cond_false]
          rcases hk with hk | hk <;> simp [hk]
        | succ d1 =>
          have hn4 : ¬ ((3 : Int) ≤ 3 - ((d1 + 1 : Nat) : Int)) := by omega
          have hw : wrap64 (3 - ((d1 + 1 : Nat) : Int) + 1) = 3 - (d1 : Int) := by rw [wrap_id (by omega) (by omega)]; omega
          have s1 : gOk many (d1 + 1) l[i] = (l[i].body.all (gOk many d1) && l[i].els.all (gOk many d1)) := by simp [gOk, hh, hk]
          obtain ⟨c1, k1, k2⟩ := hp d1 rfl l[i].body n ⟨l[i], List.getElem_mem hi, .inl rfl⟩ h0 h1
          by_cases g1 : l[i].body.all (gOk many d1) = true ∧ n + cSs l[i].body ≤ 16
          · have hc1 := k2 g1.1 g1.2
            obtain ⟨c2, m1, m2⟩ := hp d1 rfl l[i].els (n + cSs l[i].body) ⟨l[i], List.getElem_mem hi, .inr rfl⟩ (by omega) g1.2
            by_cases g2 : l[i].els.all (gOk many d1) = true ∧ n + cSs l[i].body + cSs l[i].els ≤ 16
            · have hc2 := m2 g2.1 g2.2
              obtain ⟨c, hc⟩ := block_n hmn hl hd0 hp d (i + 1) (n + cSs l[i].body + cSs l[i].els) (by omega) (by omega) g2.2
              refine ⟨c, ?_⟩
              apply impl_blockValid_l1_le
              rw [geti_some hi, e1, s1, g1.1, g2.1, wrap_succ (by omega), hw]
              subst hc1 hc2
              have dk1 : decide (l[i].body.all (gOk many d1) = true ∧ n + (cSs l[i].body : Int) ≤ 16) = true := decide_eq_true g1
              have dk2 : decide (l[i].els.all (gOk many d1) = true ∧ n + (cSs l[i].body : Int) + (cSs l[i].els : Int) ≤ 16) = true := decide_eq_true g2
              rw [dk1] at k1
              rw [dk2] at m1
              have hcond : ((true && true && (l.drop (i + 1)).all (gOk many (d1 + 1))) = true ∧ n + ((cSs (l.drop i) : Int) - ((l.length : Int) - (i : Int))) ≤ 16) ↔ ((l.drop (i + 1)).all (gOk many (d1 + 1)) = true ∧ n + (cSs l[i].body : Int) + (cSs l[i].els : Int) + ((cSs (l.drop (i + 1)) : Int) - ((l.length : Int) - ((i + 1 : Nat) : Int))) ≤ 16) := by
                simp only [Bool.true_and, Bool.and_true]
                constructor
                · rintro ⟨x, y⟩; exact ⟨x, by omega⟩
                · rintro ⟨x, y⟩; exact ⟨x, by omega⟩
              have hval : n + ((cSs (l.drop i) : Int) - ((l.length : Int) - (i : Int))) = n + (cSs l[i].body : Int) + (cSs l[i].els : Int) + ((cSs (l.drop (i + 1)) : Int) - ((l.length : Int) - ((i + 1 : Nat) : Int))) := by omega
              rw [if_alike hcond (congrArg (Sum.inl (β := Bool × Int)) hval), ← hc]
              simp only [hi', decide_true, cond_true, bnd_some, stm_eta, impl_stmtValid_n hmn, hh, Bool.not_true, cond_false, hn3, hn4, decide_false, k1, m1]
              rcases hk with hk | hk <;> simp [hk]
            · refine ⟨c2, ?_⟩
              apply impl_blockValid_l1_le
              rw [geti_some hi, e1, s1, g1.1, hw]
              subst hc1
              have dk1 : decide (l[i].body.all (gOk many d1) = true ∧ n + (cSs l[i].body : Int) ≤ 16) = true := decide_eq_true g1
              have dk2 : decide (l[i].els.all (gOk many d1) = true ∧ n + (cSs l[i].body : Int) + (cSs l[i].els : Int) ≤ 16) = false := decide_eq_false g2
              rw [dk1] at k1
              rw [dk2] at m1
              rw [if_neg (by
                rintro ⟨x, y⟩
                simp only [Bool.true_and, Bool.and_eq_true] at x
                exact g2 ⟨x.1, by omega⟩)]
              simp only [hi', decide_true, cond_true, bnd_some, stm_eta, impl_stmtValid_n hmn, hh, Bool.not_true, cond_false, hn3, hn4, decide_false, k1, m1]
              rcases hk with hk | hk <;> simp [hk]
          · refine ⟨c1, ?_⟩
            apply impl_blockValid_l1_le
            rw [geti_some hi, e1, s1, hw]
            have dk1 : decide (l[i].body.all (gOk many d1) = true ∧ n + (cSs l[i].body : Int) ≤ 16) = false := decide_eq_false g1
            rw [dk1] at k1
            rw [if_neg (by
              rintro ⟨x, y⟩
              simp only [Bool.and_eq_true] at x
              exact g1 ⟨x.1.1, by omega⟩)]
            simp only [hi', decide_true, cond_true, bnd_some, stm_eta, impl_stmtValid_n hmn, hh, Bool.not_true, cond_false, hn3, hn4, decide_false, k1]
            rcases hk with hk | hk <;> simp [hk]
      · have n2 : l[i].kind ≠ 2 := fun h => hk (.inl h)
        have n3 : l[i].kind ≠ 3 := fun h => hk (.inr h)
        have s1 : gOk many d0 l[i] = true := by cases d0 <;> simp [gOk, hh, n2, n3]
        have hbe : l[i].body = [] ∧ l[i].els = [] := by
          have hh' := hh
          have hh' := hh'.1
          simp only [hdr, n2, n3, false_and, false_or] at hh'
          have : (l[i].body.length : Int) = 0 ∧ (l[i].els.length : Int) = 0 := by
            rcases hh' with h | h | h | h | h
            · exact ⟨h.2.2.2.2.1, h.2.2.2.2.2⟩
            · exact ⟨h.2.2.2.2.1, h.2.2.2.2.2⟩
            · exact ⟨h.2.2.2.2.1, h.2.2.2.2.2⟩
            · exact ⟨h.2.2.2.2.1, h.2.2.2.2.2⟩
            · exact ⟨h.2.2.2.2.1, h.2.2.2.2.2⟩
          exact ⟨List.eq_nil_of_length_eq_zero (by omega), List.eq_nil_of_length_eq_zero (by omega)⟩
        rw [hbe.1, hbe.2] at e3
        simp only [cSs] at e3
        obtain ⟨c, hc⟩ := block_n hmn hl hd0 hp d (i + 1) n (by omega) h0 h1
        refine ⟨c, ?_⟩
        apply impl_blockValid_l1_le
        rw [geti_some hi, e1, s1, wrap_succ (by omega)]
        have hcond : ((true && (l.drop (i + 1)).all (gOk many d0)) = true ∧ n + ((cSs (l.drop i) : Int) - ((l.length : Int) - (i : Int))) ≤ 16) ↔ ((l.drop (i + 1)).all (gOk many d0) = true ∧ n + ((cSs (l.drop (i + 1)) : Int) - ((l.length : Int) - ((i + 1 : Nat) : Int))) ≤ 16) := by
          simp only [Bool.true_and]
          constructor
          · rintro ⟨x, y⟩; exact ⟨x, by omega⟩
          · rintro ⟨x, y⟩; exact ⟨x, by omega⟩
        have hval : n + ((cSs (l.drop i) : Int) - ((l.length : Int) - (i : Int))) = n + ((cSs (l.drop (i + 1)) : Int) - ((l.length : Int) - ((i + 1 : Nat) : Int))) := by omega
        rw [if_alike hcond (congrArg (Sum.inl (β := Bool × Int)) hval), ← hc]
        simp only [hi', decide_true, cond_true, bnd_some, stm_eta, impl_stmtValid_n hmn, hh, Bool.not_true, cond_false, hn3, decide_false]
        simp [n2, n3]
    · have s1 : gOk many d0 l[i] = false := by cases d0 <;> simp [gOk, hh]
      refine ⟨n, ?_⟩
      apply impl_blockValid_l1_le
      rw [geti_some hi, e1, s1]
      simp only [hi', decide_true, cond_true, bnd_some, stm_eta, impl_stmtValid_n hmn, hh, decide_false, Bool.not_false]
      simp

theorem impl_blockValid_n {many : Int} (hmn : 0 ≤ many ∧ many ≤ 3) : ∀ (d : Nat) (l : List Stm) (n : Int), d ≤ 3 → mSs l ≤ 4294967296 → 0 ≤ n → n ≤ 16 →
    ∃ c, impl_blockValid l many (3 - (d : Int)) n = some (decide (l.all (gOk many d) = true ∧ n + cSs l ≤ 16), c) ∧ (l.all (gOk many d) = true → n + cSs l ≤ 16 → c = n + cSs l)
  | d, l, n, hd, hm, h0, h1 => by
    have hlen := mSs_len l
    have hcl := cSs_len l
    by_cases hc : (16 : Int) < n + l.length
    · refine ⟨n + l.length, ?_, fun _ h => by omega⟩
      apply impl_blockValid_le
      rw [wrap_id (by omega) (by omega)]
      have : ¬ (l.all (gOk many d) = true ∧ n + (cSs l : Int) ≤ 16) := fun h => by omega
      rw [decide_eq_false this]
      simp [hc]
    · obtain ⟨c, h⟩ := block_n hmn (l := l) (d0 := d) (by omega) hd (fun d1 e1 bl m hb g0 g1 => by
        obtain ⟨s, hs, hbl⟩ := hb
        have := mS_mem hs
        have := mS_eq s
        have hmb : mSs bl ≤ 4294967296 := by rcases hbl with rfl | rfl <;> omega
        exact impl_blockValid_n hmn d1 bl m (by omega) hmb g0 g1) l.length 0 (n + l.length) (by omega) (by omega) (by omega)
      rw [List.drop_zero] at h
      by_cases g : l.all (gOk many d) = true ∧ n + (cSs l : Int) ≤ 16
      · refine ⟨n + cSs l, ?_, fun _ _ => rfl⟩
        apply impl_blockValid_le
        rw [wrap_id (by omega) (by omega), show (0 : Int) = ((0 : Nat) : Int) by rfl, h, if_pos ⟨g.1, by omega⟩, decide_eq_true g]
        simp only [hc, decide_false, cond_false, bnd_some, selm]
        congr 2; omega
      · refine ⟨c, ?_, fun a b => absurd ⟨a, b⟩ g⟩
        apply impl_blockValid_le
        rw [wrap_id (by omega) (by omega), show (0 : Int) = ((0 : Nat) : Int) by rfl, h, if_neg (fun x => g ⟨x.1, by omega⟩), decide_eq_false g]
        simp only [hc, decide_false, cond_false, bnd_some, selm]
  termination_by d => d

mutual
def bS (many : Int) : Stm → Bool
  | ⟨k, _, b, _, bd, el⟩ => !(decide (k = 4 ∨ k = 5) && decide (many ≤ b)) && bSs many bd && bSs many el
def bSs (many : Int) : List Stm → Bool
  | [] => true
  | s :: r => bS many s && bSs many r
end

theorem bS_eq (many : Int) (s : Stm) : bS many s = (!(decide (s.kind = 4 ∨ s.kind = 5) && decide (many ≤ s.box)) && bSs many s.body && bSs many s.els) := by cases s; simp [bS]

theorem bSs_eq (many : Int) : ∀ l : List Stm, bSs many l = l.all (bS many)
  | [] => rfl
  | s :: r => by simp [bSs, bSs_eq many r]

theorem hdr_leaf {s : Stm} (h : hdr s) (n2 : s.kind ≠ 2) (n3 : s.kind ≠ 3) : s.body = [] ∧ s.els = [] := by
  simp only [hdr, n2, n3, false_and, false_or] at h
  have : (s.body.length : Int) = 0 ∧ (s.els.length : Int) = 0 := by
    rcases h with h | h | h | h | h
    · exact ⟨h.2.2.2.2.1, h.2.2.2.2.2⟩
    · exact ⟨h.2.2.2.2.1, h.2.2.2.2.2⟩
    · exact ⟨h.2.2.2.2.1, h.2.2.2.2.2⟩
    · exact ⟨h.2.2.2.2.1, h.2.2.2.2.2⟩
    · exact ⟨h.2.2.2.2.1, h.2.2.2.2.2⟩
  exact ⟨List.eq_nil_of_length_eq_zero (by omega), List.eq_nil_of_length_eq_zero (by omega)⟩

theorem hdN_dec (many : Int) (s : Stm) : decide (hdN many s) = (decide (hdr s) && !(decide (s.kind = 4 ∨ s.kind = 5) && decide (many ≤ s.box))) := by
  rw [Bool.eq_iff_iff]
  simp only [hdN, decide_eq_true_eq, Bool.and_eq_true, Bool.not_eq_true', Bool.and_eq_false_iff, decide_eq_false_iff_not]
  by_cases h : s.kind = 4 ∨ s.kind = 5
  · simp [h]
  · simp [h]

theorem all_and {α : Type} {f g h : α → Bool} (hp : ∀ a, f a = (g a && h a)) : ∀ l : List α, l.all f = (l.all g && l.all h)
  | [] => rfl
  | a :: r => by
    simp only [List.all_cons, hp a, all_and hp r]
    cases g a <;> cases h a <;> simp

theorem gOk_eq (many : Int) : ∀ (d : Nat) (s : Stm), gOk many d s = (sOk d s && bS many s)
  | 0, s => by
    simp only [gOk, sOk, hdN_dec, bS_eq]
    by_cases hh : hdr s
    · by_cases hk : s.kind = 2 ∨ s.kind = 3
      · simp [hk]
      · have hl := hdr_leaf hh (fun h => hk (.inl h)) (fun h => hk (.inr h))
        rw [hl.1, hl.2]
        simp [hh, hk, bSs]
    · simp [hh]
  | d + 1, s => by
    simp only [gOk, sOk, hdN_dec, bS_eq]
    by_cases hh : hdr s
    · by_cases hk : s.kind = 2 ∨ s.kind = 3
      · have hk4 : ¬ (s.kind = 4 ∨ s.kind = 5) := by omega
        rw [all_and (gOk_eq many d) s.body, all_and (gOk_eq many d) s.els, bSs_eq, bSs_eq]
        simp only [hk, if_true, hk4, decide_false, Bool.false_and, Bool.not_false, hh, decide_true, Bool.true_and, Bool.and_true]
        cases s.body.all (sOk d) <;> cases s.body.all (bS many) <;> cases s.els.all (sOk d) <;> simp
      · have hl := hdr_leaf hh (fun h => hk (.inl h)) (fun h => hk (.inr h))
        rw [hl.1, hl.2]
        simp [hh, hk, bSs]
    · simp [hh]

theorem l12_l {l : List Stm} {many : Int} (hl : (l.length : Int) ≤ 4294967296) (hp : ∀ s ∈ l, spec_l12Boxes s.body many = some (bSs many s.body) ∧ spec_l12Boxes s.els many = some (bSs many s.els)) :
    ∀ (d i : Nat), i + d = l.length → spec_l12Boxes_l1 l many i = some (if bSs many (l.drop i) then .inl () else .inr false)
  | 0, i, hd => by
    apply spec_l12Boxes_l1_le
    have hi : ¬ ((i : Int) < l.length) := by omega
    rw [List.drop_eq_nil_of_le (by omega)]
    simp [hi, bSs]
  | d + 1, i, hd => by
    apply spec_l12Boxes_l1_le
    have hi : i < l.length := by omega
    have hi' : (i : Int) < l.length := by omega
    obtain ⟨p1, p2⟩ := hp _ (List.getElem_mem hi)
    have e1 : bSs many (l.drop i) = (bS many l[i] && bSs many (l.drop (i + 1))) := by rw [List.drop_eq_getElem_cons hi]; simp only [bSs]
    rw [geti_some hi, wrap_succ (by omega), l12_l hl hp d (i + 1) (by omega), e1, bS_eq]
    simp only [hi', decide_true, cond_true, bnd_some, p1, p2]
    by_cases h4 : l[i].kind = 4
    · by_cases hb : many ≤ l[i].box <;> cases bSs many l[i].body <;> cases bSs many l[i].els <;> simp [h4, hb]
    · by_cases h5 : l[i].kind = 5
      · by_cases hb : many ≤ l[i].box <;> cases bSs many l[i].body <;> cases bSs many l[i].els <;> simp [h5, hb]
      · cases bSs many l[i].body <;> cases bSs many l[i].els <;> simp [h4, h5]

theorem spec_l12Boxes_eq_ {l : List Stm} {many : Int} (hl : (l.length : Int) ≤ 4294967296) (hp : ∀ s ∈ l, spec_l12Boxes s.body many = some (bSs many s.body) ∧ spec_l12Boxes s.els many = some (bSs many s.els)) : spec_l12Boxes l many = some (bSs many l) := by
  apply spec_l12Boxes_le
  rw [show (0 : Int) = ((0 : Nat) : Int) by rfl, l12_l hl hp l.length 0 (by omega), List.drop_zero]
  cases bSs many l <;> simp [selm]

theorem l12_parts (many : Int) : ∀ s : Stm, mS s ≤ 4294967296 → spec_l12Boxes s.body many = some (bSs many s.body) ∧ spec_l12Boxes s.els many = some (bSs many s.els) := by
  apply Stm.ind
  intro s ih1 ih2 hb
  rw [mS_eq] at hb
  have l1 := mSs_len s.body
  have l2 := mSs_len s.els
  exact ⟨spec_l12Boxes_eq_ (by omega) (fun a ha => ih1 a ha (by have := mS_mem ha; omega)), spec_l12Boxes_eq_ (by omega) (fun a ha => ih2 a ha (by have := mS_mem ha; omega))⟩

theorem spec_l12Boxes_eq {l : List Stm} {many : Int} (hb : mSs l ≤ 4294967296) : spec_l12Boxes l many = some (bSs many l) :=
  spec_l12Boxes_eq_ (by have := mSs_len l; omega) (fun s hs => l12_parts many s (by have := mS_mem hs; omega))

def gtOk (many : Int) (l : List Stm) : Bool := decide (l.all (gOk many 3) = true ∧ (cSs l : Int) ≤ 16)

theorem gtOk_eq (many : Int) (l : List Stm) : gtOk many l = (stOk l && bSs many l) := by
  unfold gtOk stOk
  rw [all_and (gOk_eq many 3) l, bSs_eq]
  cases l.all (sOk 3) <;> cases l.all (bS many) <;> simp

theorem impl_stmtsValid_n {many : Int} (hmn : 0 ≤ many ∧ many ≤ 3) (l : List Stm) (hm : mSs l ≤ 4294967296) : impl_stmtsValid l many = some (stOk l && bSs many l) := by
  apply impl_stmtsValid_le
  obtain ⟨c, h, _⟩ := impl_blockValid_n hmn 3 l 0 (by omega) hm (by omega) (by omega)
  rw [show (3 : Int) - ((3 : Nat) : Int) = 0 by omega] at h
  rw [h, bnd_some, ← gtOk_eq]
  simp [gtOk]

def restsN (many : Int) (l : List Stm) : Bool := l.all fun s => stOk [s] && bSs many [s]

theorem restsN_drop {many : Int} {l : List Stm} {i : Nat} (hi : i < l.length) : restsN many (l.drop i) = ((stOk [l[i]] && bSs many [l[i]]) && restsN many (l.drop (i + 1))) := by
  unfold restsN; rw [List.drop_eq_getElem_cons hi, List.all_cons]

theorem impl_rests_n {many : Int} (hmn : 0 ≤ many ∧ many ≤ 3) {v : List Int} {l : List Stm} (hm : mSs l ≤ 4294967296) : ∀ (d i : Nat), i + d = l.length → impl_taskValid_l1 many l.length i v l = some (if restsN many (l.drop i) then .inl () else .inr false)
  | 0, i, hd => by
    apply impl_taskValid_l1_le
    have hi : ¬ ((i : Int) < l.length) := by omega
    rw [List.drop_eq_nil_of_le (by omega)]
    simp [hi, restsN]
  | d + 1, i, hd => by
    apply impl_taskValid_l1_le
    have hi : i < l.length := by omega
    have hi' : (i : Int) < l.length := by omega
    have hlen := mSs_len l
    have hmem := mS_mem (List.getElem_mem hi)
    rw [wrap_succ (by omega), cut_one hi, restsN_drop hi, impl_rests_n hmn hm d (i + 1) (by omega)]
    simp only [hi', decide_true, cond_true, bnd_some, impl_stmtsValid_n hmn [l[i]] (by rw [mSs_one]; omega)]
    cases stOk [l[i]] <;> cases bSs many [l[i]] <;> simp

theorem restsN_eq (many : Int) (l : List Stm) : restsN many l = (rests l && bSs many l) := by
  unfold restsN rests
  rw [bSs_eq]
  refine all_and (fun s => ?_) l
  simp [bSs]

theorem impl_taskValid_n {many : Int} (hmn : 0 ≤ many ∧ many ≤ 3) (t : Tk) (hv : (t.vars.length : Int) ≤ 4294967296) (hm : mSs t.rest ≤ 4294967296) : impl_taskValid t many = some (taskOk t && bSs many t.rest) := by
  apply impl_taskValid_le
  rw [impl_areWords_eq hv, show (0 : Int) = ((0 : Nat) : Int) by rfl, impl_rests_n hmn hm t.rest.length 0 (by omega), List.drop_zero, restsN_eq]
  unfold taskOk
  by_cases h4 : (t.vars.length : Int) = 4 <;> cases words t.vars <;> cases rests t.rest <;> cases bSs many t.rest <;> simp [selm, h4]

def mT (t : Tk) : Nat := t.vars.length + mSs t.rest

def mB (b : Bx) : Nat := b.items.length

theorem toTask_l {a : List Tk} (hl : (a.length : Int) ≤ 4294967296) (hp : ∀ e ∈ a, laws_toTask e = some e) : ∀ (d i : Nat) (b : List Tk), i + d = a.length → b.length = a.length → b.take i = a.take i → laws_toTaskS_l1 a i b = some a
  | 0, i, b, hd, hb, ht => by
    apply laws_toTaskS_l1_le
    have hi : ¬ ((i : Int) < a.length) := by omega
    have : b = a := by rw [List.take_of_length_le (by omega), List.take_of_length_le (by omega)] at ht; exact ht
    simp [hi, this]
  | d + 1, i, b, hd, hb, ht => by
    apply laws_toTaskS_l1_le
    have hi : i < a.length := by omega
    have hi' : (i : Int) < a.length := by omega
    rw [geti_some hi, geti_some (l := b) (by omega), wrap_succ (by omega)]
    simp only [hi', decide_true, cond_true, bnd_some, hp _ (List.getElem_mem hi), Int.toNat_natCast, List.getElem?_eq_getElem (show i < b.length by omega)]
    exact toTask_l hl hp d (i + 1) _ (by omega) (by simpa using hb) (fill_step hb hi ht)

theorem laws_toTaskS_eq {a : List Tk} (hl : (a.length : Int) ≤ 4294967296) (hp : ∀ e ∈ a, laws_toTask e = some e) : laws_toTaskS a = some a := by
  apply laws_toTaskS_le
  rw [made_some hl, bnd_some, show (0 : Int) = ((0 : Nat) : Int) by rfl, toTask_l hl hp a.length 0 _ (by omega) (by simp) (by simp)]
  rfl

theorem eqTask_l {a : List Tk} (hl : (a.length : Int) ≤ 4294967296) (hp : ∀ e ∈ a, laws_eqTask e e = some true) : ∀ (d i : Nat), i + d = a.length → laws_eqTaskS_l1 a a i = some (.inl ())
  | 0, i, hd => by
    apply laws_eqTaskS_l1_le
    have hi : ¬ ((i : Int) < a.length) := by omega
    simp [hi]
  | d + 1, i, hd => by
    apply laws_eqTaskS_l1_le
    have hi : i < a.length := by omega
    have hi' : (i : Int) < a.length := by omega
    rw [geti_some hi, wrap_succ (by omega)]
    simp only [hi', decide_true, cond_true, bnd_some, hp _ (List.getElem_mem hi), Bool.not_true, cond_false]
    exact eqTask_l hl hp d (i + 1) (by omega)

theorem laws_eqTaskS_refl {a : List Tk} (hl : (a.length : Int) ≤ 4294967296) (hp : ∀ e ∈ a, laws_eqTask e e = some true) : laws_eqTaskS a a = some true := by
  apply laws_eqTaskS_le
  rw [show (0 : Int) = ((0 : Nat) : Int) by rfl, eqTask_l hl hp a.length 0 (by omega)]
  simp [selm]

theorem toBox_l {a : List Bx} (hl : (a.length : Int) ≤ 4294967296) (hp : ∀ e ∈ a, laws_toBox e = some e) : ∀ (d i : Nat) (b : List Bx), i + d = a.length → b.length = a.length → b.take i = a.take i → laws_toBoxS_l1 a i b = some a
  | 0, i, b, hd, hb, ht => by
    apply laws_toBoxS_l1_le
    have hi : ¬ ((i : Int) < a.length) := by omega
    have : b = a := by rw [List.take_of_length_le (by omega), List.take_of_length_le (by omega)] at ht; exact ht
    simp [hi, this]
  | d + 1, i, b, hd, hb, ht => by
    apply laws_toBoxS_l1_le
    have hi : i < a.length := by omega
    have hi' : (i : Int) < a.length := by omega
    rw [geti_some hi, geti_some (l := b) (by omega), wrap_succ (by omega)]
    simp only [hi', decide_true, cond_true, bnd_some, hp _ (List.getElem_mem hi), Int.toNat_natCast, List.getElem?_eq_getElem (show i < b.length by omega)]
    exact toBox_l hl hp d (i + 1) _ (by omega) (by simpa using hb) (fill_step hb hi ht)

theorem laws_toBoxS_eq {a : List Bx} (hl : (a.length : Int) ≤ 4294967296) (hp : ∀ e ∈ a, laws_toBox e = some e) : laws_toBoxS a = some a := by
  apply laws_toBoxS_le
  rw [made_some hl, bnd_some, show (0 : Int) = ((0 : Nat) : Int) by rfl, toBox_l hl hp a.length 0 _ (by omega) (by simp) (by simp)]
  rfl

theorem eqBox_l {a : List Bx} (hl : (a.length : Int) ≤ 4294967296) (hp : ∀ e ∈ a, laws_eqBox e e = some true) : ∀ (d i : Nat), i + d = a.length → laws_eqBoxS_l1 a a i = some (.inl ())
  | 0, i, hd => by
    apply laws_eqBoxS_l1_le
    have hi : ¬ ((i : Int) < a.length) := by omega
    simp [hi]
  | d + 1, i, hd => by
    apply laws_eqBoxS_l1_le
    have hi : i < a.length := by omega
    have hi' : (i : Int) < a.length := by omega
    rw [geti_some hi, wrap_succ (by omega)]
    simp only [hi', decide_true, cond_true, bnd_some, hp _ (List.getElem_mem hi), Bool.not_true, cond_false]
    exact eqBox_l hl hp d (i + 1) (by omega)

theorem laws_eqBoxS_refl {a : List Bx} (hl : (a.length : Int) ≤ 4294967296) (hp : ∀ e ∈ a, laws_eqBox e e = some true) : laws_eqBoxS a a = some true := by
  apply laws_eqBoxS_le
  rw [show (0 : Int) = ((0 : Nat) : Int) by rfl, eqBox_l hl hp a.length 0 (by omega)]
  simp [selm]

def mTs : List Tk → Nat
  | [] => 0
  | e :: r => 1 + mT e + mTs r

theorem mTs_drop {l : List Tk} {i : Nat} (hi : i < l.length) : mTs (l.drop i) = 1 + mT l[i] + mTs (l.drop (i + 1)) := by
  rw [List.drop_eq_getElem_cons hi]; simp only [mTs]

theorem mTs_len : ∀ l : List Tk, l.length ≤ mTs l
  | [] => Nat.le_refl _
  | e :: r => by have := mTs_len r; simp only [mTs, List.length_cons]; omega

theorem mTs_mem : ∀ {l : List Tk} {e : Tk}, e ∈ l → mT e < mTs l
  | [], e, h => by cases h
  | a :: r, e, h => by
    simp only [mTs]
    rcases List.mem_cons.1 h with rfl | h
    · omega
    · have := mTs_mem h; omega

theorem szTaskS_l {l : List Tk} (hl : (l.length : Int) ≤ 1048576) (hp : ∀ e ∈ l, ∀ n : Int, 0 ≤ n → n ≤ 1048576 → laws_szTask e n = some (left n (mT e))) :
    ∀ (d i : Nat) (n : Int), i + d = l.length → 0 ≤ n → n ≤ 1048576 → ∃ k, laws_szTaskS_l1 l n i = some (if (mTs (l.drop i) : Int) ≤ n + (l.length - i : Int) then .inl (n + (l.length - i : Int) - mTs (l.drop i)) else .inr (k, -1))
  | 0, i, n, hd, h0, h1 => by
    refine ⟨0, ?_⟩
    apply laws_szTaskS_l1_le
    have hi : ¬ ((i : Int) < l.length) := by omega
    rw [List.drop_eq_nil_of_le (by omega), if_pos (by simp [mTs]; omega)]
    simp [hi, mTs]; omega
  | d + 1, i, n, hd, h0, h1 => by
    have hi : i < l.length := by omega
    have hi' : (i : Int) < l.length := by omega
    have hp' := hp _ (List.getElem_mem hi) n h0 h1
    rw [mTs_drop hi]
    by_cases hc : (mT l[i] : Int) ≤ n
    · obtain ⟨k, hk⟩ := szTaskS_l hl hp d (i + 1) (n - mT l[i]) (by omega) (by omega) (by omega)
      refine ⟨k, ?_⟩
      apply laws_szTaskS_l1_le
      rw [geti_some hi, wrap_succ (by omega)]
      simp only [hi', decide_true, cond_true, bnd_some, hp', left_pos hc, hk]
      have hn : ¬ (n - (mT l[i] : Int) < 0) := by omega
      simp only [hn, decide_false, cond_false]
      by_cases hq : ((mTs (l.drop (i + 1)) : Nat) : Int) ≤ n - (mT l[i] : Int) + ((l.length : Int) - ((i + 1 : Nat) : Int))
      · rw [if_pos hq, if_pos (by omega)]; congr 2; omega
      · rw [if_neg hq, if_neg (by omega)]
    · refine ⟨-1, ?_⟩
      apply laws_szTaskS_l1_le
      rw [geti_some hi]
      simp only [hi', decide_true, cond_true, bnd_some, hp', left_out (show n < (mT l[i] : Int) by omega)]
      have := mTs_len (l.drop (i + 1))
      rw [List.length_drop] at this
      rw [if_neg (by omega)]
      simp

theorem laws_szTaskS_eq {l : List Tk} (hl : (l.length : Int) ≤ 9223372036854775807) (hp : ∀ e ∈ l, ∀ n : Int, 0 ≤ n → n ≤ 1048576 → laws_szTask e n = some (left n (mT e))) {n : Int} (h0 : 0 ≤ n) (h1 : n ≤ 1048576) : laws_szTaskS l n = some (left n (mTs l)) := by
  apply laws_szTaskS_le
  rw [wrap_id (by omega) (by omega)]
  have hlen := mTs_len l
  by_cases hc : n - (l.length : Int) < 0
  · simp only [hc, decide_true, cond_true]; rw [left_out (by omega)]
  · simp only [hc, decide_false, cond_false]
    obtain ⟨k, hk⟩ := szTaskS_l (by omega) hp l.length 0 (n - l.length) (by omega) (by omega) (by omega)
    rw [show (0 : Int) = ((0 : Nat) : Int) by rfl, hk]
    simp only [List.drop_zero, bnd_some, left]
    by_cases hq : (mTs l : Int) ≤ n
    · rw [if_pos (by omega), if_pos hq]; simp only [selm]; congr 1; omega
    · rw [if_neg (by omega), if_neg hq]; simp only [selm]

def mBs : List Bx → Nat
  | [] => 0
  | e :: r => 1 + mB e + mBs r

theorem mBs_drop {l : List Bx} {i : Nat} (hi : i < l.length) : mBs (l.drop i) = 1 + mB l[i] + mBs (l.drop (i + 1)) := by
  rw [List.drop_eq_getElem_cons hi]; simp only [mBs]

theorem mBs_len : ∀ l : List Bx, l.length ≤ mBs l
  | [] => Nat.le_refl _
  | e :: r => by have := mBs_len r; simp only [mBs, List.length_cons]; omega

theorem mBs_mem : ∀ {l : List Bx} {e : Bx}, e ∈ l → mB e < mBs l
  | [], e, h => by cases h
  | a :: r, e, h => by
    simp only [mBs]
    rcases List.mem_cons.1 h with rfl | h
    · omega
    · have := mBs_mem h; omega

theorem szBoxS_l {l : List Bx} (hl : (l.length : Int) ≤ 1048576) (hp : ∀ e ∈ l, ∀ n : Int, 0 ≤ n → n ≤ 1048576 → laws_szBox e n = some (left n (mB e))) :
    ∀ (d i : Nat) (n : Int), i + d = l.length → 0 ≤ n → n ≤ 1048576 → ∃ k, laws_szBoxS_l1 l n i = some (if (mBs (l.drop i) : Int) ≤ n + (l.length - i : Int) then .inl (n + (l.length - i : Int) - mBs (l.drop i)) else .inr (k, -1))
  | 0, i, n, hd, h0, h1 => by
    refine ⟨0, ?_⟩
    apply laws_szBoxS_l1_le
    have hi : ¬ ((i : Int) < l.length) := by omega
    rw [List.drop_eq_nil_of_le (by omega), if_pos (by simp [mBs]; omega)]
    simp [hi, mBs]; omega
  | d + 1, i, n, hd, h0, h1 => by
    have hi : i < l.length := by omega
    have hi' : (i : Int) < l.length := by omega
    have hp' := hp _ (List.getElem_mem hi) n h0 h1
    rw [mBs_drop hi]
    by_cases hc : (mB l[i] : Int) ≤ n
    · obtain ⟨k, hk⟩ := szBoxS_l hl hp d (i + 1) (n - mB l[i]) (by omega) (by omega) (by omega)
      refine ⟨k, ?_⟩
      apply laws_szBoxS_l1_le
      rw [geti_some hi, wrap_succ (by omega)]
      simp only [hi', decide_true, cond_true, bnd_some, hp', left_pos hc, hk]
      have hn : ¬ (n - (mB l[i] : Int) < 0) := by omega
      simp only [hn, decide_false, cond_false]
      by_cases hq : ((mBs (l.drop (i + 1)) : Nat) : Int) ≤ n - (mB l[i] : Int) + ((l.length : Int) - ((i + 1 : Nat) : Int))
      · rw [if_pos hq, if_pos (by omega)]; congr 2; omega
      · rw [if_neg hq, if_neg (by omega)]
    · refine ⟨-1, ?_⟩
      apply laws_szBoxS_l1_le
      rw [geti_some hi]
      simp only [hi', decide_true, cond_true, bnd_some, hp', left_out (show n < (mB l[i] : Int) by omega)]
      have := mBs_len (l.drop (i + 1))
      rw [List.length_drop] at this
      rw [if_neg (by omega)]
      simp

theorem laws_szBoxS_eq {l : List Bx} (hl : (l.length : Int) ≤ 9223372036854775807) (hp : ∀ e ∈ l, ∀ n : Int, 0 ≤ n → n ≤ 1048576 → laws_szBox e n = some (left n (mB e))) {n : Int} (h0 : 0 ≤ n) (h1 : n ≤ 1048576) : laws_szBoxS l n = some (left n (mBs l)) := by
  apply laws_szBoxS_le
  rw [wrap_id (by omega) (by omega)]
  have hlen := mBs_len l
  by_cases hc : n - (l.length : Int) < 0
  · simp only [hc, decide_true, cond_true]; rw [left_out (by omega)]
  · simp only [hc, decide_false, cond_false]
    obtain ⟨k, hk⟩ := szBoxS_l (by omega) hp l.length 0 (n - l.length) (by omega) (by omega) (by omega)
    rw [show (0 : Int) = ((0 : Nat) : Int) by rfl, hk]
    simp only [List.drop_zero, bnd_some, left]
    by_cases hq : (mBs l : Int) ≤ n
    · rw [if_pos (by omega), if_pos hq]; simp only [selm]; congr 1; omega
    · rw [if_neg (by omega), if_neg hq]; simp only [selm]

theorem laws_szIntS_eq {l : List Int} (hl : (l.length : Int) ≤ 9223372036854775807) {n : Int} (h0 : 0 ≤ n) (h1 : n ≤ 1048576) : laws_szIntS l n = some (left n l.length) := by
  apply laws_szIntS_le
  rw [wrap_id (by omega) (by omega)]
  by_cases h : (l.length : Int) ≤ n
  · rw [left_pos h]
    have : ¬ (n - (l.length : Int) < 0) := by omega
    simp only [this, decide_false, cond_false]
  · rw [left_out (by omega)]
    have : n - (l.length : Int) < 0 := by omega
    simp only [this, decide_true, cond_true]

theorem laws_szTask_n {t : Tk} (hw : wfT t) {n : Int} (h0 : 0 ≤ n) (h1 : n ≤ 1048576) : laws_szTask t n = some (left n (mT t)) := by
  apply laws_szTask_le
  obtain ⟨w1, w2, w3, w4⟩ := hw
  unfold mT
  rw [laws_szIntS_eq w1 h0 h1, bnd_some]
  by_cases c1 : (t.vars.length : Int) ≤ n
  · rw [left_pos c1]
    have g1 : ¬ (n - (t.vars.length : Int) < 0) := by omega
    simp only [g1, decide_false, cond_false]
    rw [laws_szStmtS_eq w3 (fun a ha => laws_szStmt_eq a (wfSs_iff.1 w4 a ha)) (by omega) (by omega), bnd_some, left_left c1]
    by_cases c2 : ((t.vars.length + mSs t.rest : Nat) : Int) ≤ n
    · rw [left_pos c2]
      have g2 : ¬ (n - ((t.vars.length + mSs t.rest : Nat) : Int) < 0) := by omega
      simp only [g2, decide_false, cond_false]
    · rw [left_out (by omega)]; simp
  · rw [left_out (show n < (t.vars.length : Int) by omega), left_out (by omega)]; simp

theorem laws_szBox_n {b : Bx} (hw : wfB b) {n : Int} (h0 : 0 ≤ n) (h1 : n ≤ 1048576) : laws_szBox b n = some (left n (mB b)) := by
  apply laws_szBox_le
  unfold mB
  rw [laws_szIntS_eq hw.2.1 h0 h1, bnd_some]
  by_cases c1 : (b.items.length : Int) ≤ n
  · rw [left_pos c1]
    have g1 : ¬ (n - (b.items.length : Int) < 0) := by omega
    simp only [g1, decide_false, cond_false]
  · rw [left_out (by omega)]; simp

def mW (v : Wld) : Nat := mTs v.tasks + mBs v.boxes + v.out.length

theorem laws_szWorld_eq {v : Wld} (hw : wfW v) : laws_szWorld v 1048576 = some (left 1048576 (mW v)) := by
  apply laws_szWorld_le
  obtain ⟨w1, w2, w3, w4, w5, w6, w7, w8⟩ := hw
  unfold mW
  rw [laws_szTaskS_eq w1 (fun t ht n h0 h1 => laws_szTask_n (w2 t ht) h0 h1) (by omega) (by omega), bnd_some]
  by_cases c1 : (mTs v.tasks : Int) ≤ 1048576
  · rw [left_pos c1]
    have g1 : ¬ (1048576 - (mTs v.tasks : Int) < 0) := by omega
    simp only [g1, decide_false, cond_false]
    rw [laws_szBoxS_eq w3 (fun t ht n h0 h1 => laws_szBox_n (w4 t ht) h0 h1) (by omega) (by omega), bnd_some, left_left c1]
    by_cases c2 : ((mTs v.tasks + mBs v.boxes : Nat) : Int) ≤ 1048576
    · rw [left_pos c2]
      have g2 : ¬ (1048576 - ((mTs v.tasks + mBs v.boxes : Nat) : Int) < 0) := by omega
      simp only [g2, decide_false, cond_false]
      rw [laws_szIntS_eq w7 (by omega) (by omega), bnd_some, left_left c2]
      by_cases c3 : ((mTs v.tasks + mBs v.boxes + v.out.length : Nat) : Int) ≤ 1048576
      · rw [left_pos c3]
        have g3 : ¬ (1048576 - ((mTs v.tasks + mBs v.boxes + v.out.length : Nat) : Int) < 0) := by omega
        simp only [g3, decide_false, cond_false]
      · rw [left_out (by omega)]; simp
    · rw [left_out (show (1048576 : Int) < ((mTs v.tasks + mBs v.boxes : Nat) : Int) by omega), left_out (by omega)]; simp
  · rw [left_out (show (1048576 : Int) < (mTs v.tasks : Int) by omega), left_out (by omega)]; simp

theorem laws_toBox_eq {b : Bx} (h : mB b ≤ 4294967296) : laws_toBox b = some b := by
  apply laws_toBox_le
  unfold mB at h
  rw [laws_toIntS_eq (by omega), bnd_some]

theorem laws_eqBox_refl {b : Bx} (h : mB b ≤ 4294967296) : laws_eqBox b b = some true := by
  apply laws_eqBox_le
  unfold mB at h
  rw [laws_eqIntS_refl (by omega)]; simp

theorem mW_parts {v : Wld} (h : mW v ≤ 4294967296) : (v.tasks.length : Int) ≤ 4294967296 ∧ (∀ t ∈ v.tasks, mT t ≤ 4294967296) ∧ (v.boxes.length : Int) ≤ 4294967296 ∧ (∀ b ∈ v.boxes, mB b ≤ 4294967296) ∧ (v.out.length : Int) ≤ 4294967296 := by
  unfold mW at h
  have h1 := mTs_len v.tasks
  have h2 := mBs_len v.boxes
  refine ⟨by omega, fun t ht => ?_, by omega, fun b hb => ?_, by omega⟩
  · have := mTs_mem ht; omega
  · have := mBs_mem hb; omega

theorem laws_toWorld_eq {v : Wld} (h : mW v ≤ 4294967296) : laws_toWorld v = some v := by
  obtain ⟨h1, h2, h3, h4, h5⟩ := mW_parts h
  apply laws_toWorld_le
  rw [laws_toTaskS_eq h1 (fun t ht => laws_toTask_eq (h2 t ht)), bnd_some, laws_toBoxS_eq h3 (fun b hb => laws_toBox_eq (h4 b hb)), bnd_some, laws_toIntS_eq h5, bnd_some]

theorem laws_eqWorld_refl {v : Wld} (h : mW v ≤ 4294967296) : laws_eqWorld v v = some true := by
  obtain ⟨h1, h2, h3, h4, h5⟩ := mW_parts h
  apply laws_eqWorld_le
  rw [laws_eqTaskS_refl h1 (fun t ht => laws_eqTask_refl (h2 t ht)), laws_eqBoxS_refl h3 (fun b hb => laws_eqBox_refl (h4 b hb)), laws_eqIntS_refl h5]
  simp

def boxOk (b : Bx) : Bool := decide (1 ≤ b.room ∧ b.room ≤ 4) && decide ((b.items.length : Int) ≤ b.room) && words b.items

theorem impl_BoxValid_eq {b : Bx} (h : mB b ≤ 4294967296) : impl_BoxValid b = some (boxOk b) := by
  apply impl_BoxValid_le
  unfold mB at h
  rw [impl_areWords_eq (by omega)]
  unfold boxOk
  by_cases h1 : 1 ≤ b.room <;> by_cases h2 : b.room ≤ 4 <;> by_cases h3 : (b.items.length : Int) ≤ b.room <;> cases words b.items <;> simp [h1, h2, h3]

theorem spec_BoxValid_eq {b : Bx} (h : mB b ≤ 4294967296) : spec_BoxValid b = some (boxOk b) := by
  apply spec_BoxValid_le
  unfold mB at h
  rw [spec_l4Words_eq (by omega), spec_l6In_eq]
  unfold boxOk
  by_cases h1 : 1 ≤ b.room ∧ b.room ≤ 4 <;> by_cases h3 : (b.items.length : Int) ≤ b.room <;> cases words b.items <;> simp [h1, h3]

theorem impl_boxes_l {l : List Bx} (hl : (l.length : Int) ≤ 4294967296) (hp : ∀ b ∈ l, mB b ≤ 4294967296) : ∀ (d i : Nat), i + d = l.length → impl_boxesValid_l1 l l l.length i = some (if (l.drop i).all boxOk then .inl l else .inr (l, false))
  | 0, i, hd => by
    apply impl_boxesValid_l1_le
    have hi : ¬ ((i : Int) < l.length) := by omega
    rw [List.drop_eq_nil_of_le (by omega)]
    simp [hi]
  | d + 1, i, hd => by
    apply impl_boxesValid_l1_le
    have hi : i < l.length := by omega
    have hi' : (i : Int) < l.length := by omega
    have e1 : (l.drop i).all boxOk = (boxOk l[i] && (l.drop (i + 1)).all boxOk) := by rw [List.drop_eq_getElem_cons hi, List.all_cons]
    rw [geti_some hi, wrap_succ (by omega), impl_boxes_l hl hp d (i + 1) (by omega), e1]
    simp only [hi', decide_true, cond_true, bnd_some, impl_BoxValid_eq (hp _ (List.getElem_mem hi))]
    cases boxOk l[i] <;> simp

theorem spec_boxes_l {l : List Bx} (hl : (l.length : Int) ≤ 4294967296) (hp : ∀ b ∈ l, mB b ≤ 4294967296) : ∀ (d i : Nat), i + d = l.length → spec_l15Boxes_l1 l i = some (if (l.drop i).all boxOk then .inl l else .inr (l, false))
  | 0, i, hd => by
    apply spec_l15Boxes_l1_le
    have hi : ¬ ((i : Int) < l.length) := by omega
    rw [List.drop_eq_nil_of_le (by omega)]
    simp [hi]
  | d + 1, i, hd => by
    apply spec_l15Boxes_l1_le
    have hi : i < l.length := by omega
    have hi' : (i : Int) < l.length := by omega
    have e1 : (l.drop i).all boxOk = (boxOk l[i] && (l.drop (i + 1)).all boxOk) := by rw [List.drop_eq_getElem_cons hi, List.all_cons]
    rw [geti_some hi, wrap_succ (by omega), spec_boxes_l hl hp d (i + 1) (by omega), e1]
    simp only [hi', decide_true, cond_true, bnd_some, spec_BoxValid_eq (hp _ (List.getElem_mem hi))]
    cases boxOk l[i] <;> simp

theorem impl_boxesValid_eq {l : List Bx} (hl : (l.length : Int) ≤ 4294967296) (hp : ∀ b ∈ l, mB b ≤ 4294967296) : impl_boxesValid l = some (l.all boxOk && decide ((l.length : Int) ≤ 3)) := by
  apply impl_boxesValid_le
  rw [show (0 : Int) = ((0 : Nat) : Int) by rfl, impl_boxes_l hl hp l.length 0 (by omega), List.drop_zero]
  cases l.all boxOk <;> simp [selm]

theorem spec_l15Boxes_eq {l : List Bx} (hl : (l.length : Int) ≤ 4294967296) (hp : ∀ b ∈ l, mB b ≤ 4294967296) : spec_l15Boxes l = some (l.all boxOk && decide ((l.length : Int) ≤ 3)) := by
  apply spec_l15Boxes_le
  rw [show (0 : Int) = ((0 : Nat) : Int) by rfl, spec_boxes_l hl hp l.length 0 (by omega), List.drop_zero]
  cases l.all boxOk <;> simp [selm]

def tkOk (many : Int) (t : Tk) : Bool := taskOk t && bSs many t.rest

theorem impl_tasks_l {l t0 : List Tk} {bx : List Bx} {n k : Int} {o : List Int} (hb : (bx.length : Int) ≤ 3) (hl : (l.length : Int) ≤ 4294967296) (hp : ∀ t ∈ l, mT t ≤ 4294967296) : ∀ (d i : Nat), i + d = l.length → impl_WorldValid_l1 l l.length i t0 bx n k o = some (if (l.drop i).all (tkOk bx.length) then .inl () else .inr false)
  | 0, i, hd => by
    apply impl_WorldValid_l1_le
    have hi : ¬ ((i : Int) < l.length) := by omega
    rw [List.drop_eq_nil_of_le (by omega)]
    simp [hi]
  | d + 1, i, hd => by
    apply impl_WorldValid_l1_le
    have hi : i < l.length := by omega
    have hi' : (i : Int) < l.length := by omega
    have hm := hp _ (List.getElem_mem hi)
    unfold mT at hm
    have e1 : (l.drop i).all (tkOk bx.length) = (tkOk bx.length l[i] && (l.drop (i + 1)).all (tkOk bx.length)) := by rw [List.drop_eq_getElem_cons hi, List.all_cons]
    rw [geti_some hi, wrap_succ (by omega), impl_tasks_l hb hl hp d (i + 1) (by omega), e1]
    simp only [hi', decide_true, cond_true, bnd_some, impl_taskValid_n ⟨Int.natCast_nonneg _, hb⟩ l[i] (by omega) (by omega)]
    unfold tkOk
    cases taskOk l[i] <;> cases bSs (bx.length : Int) l[i].rest <;> simp

theorem spec_tasks_l {l : List Tk} {bx : List Bx} {n k : Int} {o : List Int} (hl : (l.length : Int) ≤ 4294967296) (hp : ∀ t ∈ l, mT t ≤ 4294967296) : ∀ (d i : Nat), i + d = l.length → spec_WorldValid_l1 l.length i l bx n k o = some (if (l.drop i).all (tkOk bx.length) then .inl (l, bx, n, k, o) else .inr (false, l, bx, n, k, o))
  | 0, i, hd => by
    apply spec_WorldValid_l1_le
    have hi : ¬ ((i : Int) < l.length) := by omega
    rw [List.drop_eq_nil_of_le (by omega)]
    simp [hi]
  | d + 1, i, hd => by
    apply spec_WorldValid_l1_le
    have hi : i < l.length := by omega
    have hi' : (i : Int) < l.length := by omega
    have hm := hp _ (List.getElem_mem hi)
    unfold mT at hm
    have e1 : (l.drop i).all (tkOk bx.length) = (tkOk bx.length l[i] && (l.drop (i + 1)).all (tkOk bx.length)) := by rw [List.drop_eq_getElem_cons hi, List.all_cons]
    rw [geti_some hi, wrap_succ (by omega), spec_tasks_l hl hp d (i + 1) (by omega), e1]
    simp only [hi', decide_true, cond_true, bnd_some, spec_TaskValid_eq l[i] (by omega) (by omega), spec_l12Boxes_eq (show mSs l[i].rest ≤ 4294967296 by omega)]
    unfold tkOk
    cases taskOk l[i] <;> cases bSs (bx.length : Int) l[i].rest <;> simp

def worldOk (v : Wld) : Bool := decide (1 ≤ (v.tasks.length : Int) ∧ (v.tasks.length : Int) ≤ 3) && (v.boxes.all boxOk && decide ((v.boxes.length : Int) ≤ 3)) && decide (0 ≤ v.turn ∧ v.turn < (v.tasks.length : Int)) && decide (0 ≤ v.idle ∧ v.idle ≤ (v.tasks.length : Int)) && v.tasks.all (tkOk v.boxes.length) && words v.out

theorem impl_WorldValid_eq {v : Wld} (h : mW v ≤ 4294967296) : impl_WorldValid v = some (worldOk v) := by
  obtain ⟨h1, h2, h3, h4, h5⟩ := mW_parts h
  apply impl_WorldValid_le
  have ht : impl_turnsValid (v.tasks.length : Int) v.turn v.idle v.out = some (decide (1 ≤ (v.tasks.length : Int) ∧ (v.tasks.length : Int) ≤ 3) && decide (0 ≤ v.turn ∧ v.turn < (v.tasks.length : Int)) && decide (0 ≤ v.idle ∧ v.idle ≤ (v.tasks.length : Int)) && words v.out) := by
    apply impl_turnsValid_le
    rw [impl_areWords_eq h5]
    generalize (v.tasks.length : Int) = n
    by_cases c1 : 1 ≤ n <;> by_cases c2 : n ≤ 3 <;> by_cases c3 : 0 ≤ v.turn <;> by_cases c4 : v.turn < n <;> by_cases c5 : 0 ≤ v.idle <;> by_cases c6 : v.idle ≤ n <;> simp [c1, c2, c3, c4, c5, c6]
  rw [ht, impl_boxesValid_eq h3 h4, bnd_some]
  unfold worldOk
  by_cases hb : (v.boxes.length : Int) ≤ 3
  · rw [show (0 : Int) = ((0 : Nat) : Int) by rfl, impl_tasks_l hb h1 h2 v.tasks.length 0 (by omega), List.drop_zero]
    rw [show ((0 : Nat) : Int) = 0 by rfl]
    generalize decide (1 ≤ (v.tasks.length : Int) ∧ (v.tasks.length : Int) ≤ 3) = x1
    generalize decide (0 ≤ v.turn ∧ v.turn < (v.tasks.length : Int)) = x2
    generalize decide (0 ≤ v.idle ∧ v.idle ≤ (v.tasks.length : Int)) = x3
    cases x1 <;> cases x2 <;> cases x3 <;> cases words v.out <;> cases v.boxes.all boxOk <;> cases v.tasks.all (tkOk v.boxes.length) <;> simp [selm, hb]
  · generalize decide (1 ≤ (v.tasks.length : Int) ∧ (v.tasks.length : Int) ≤ 3) = x1
    generalize decide (0 ≤ v.turn ∧ v.turn < (v.tasks.length : Int)) = x2
    generalize decide (0 ≤ v.idle ∧ v.idle ≤ (v.tasks.length : Int)) = x3
    cases x1 <;> cases x2 <;> cases x3 <;> cases words v.out <;> simp [hb]

theorem spec_WorldValid_eq {v : Wld} (h : mW v ≤ 4294967296) : spec_WorldValid v = some (worldOk v) := by
  obtain ⟨h1, h2, h3, h4, h5⟩ := mW_parts h
  apply spec_WorldValid_le
  rw [wrap_id (n := (v.tasks.length : Int) - 1) (by omega) (by omega)]
  simp only [spec_l6In_eq, spec_l15Boxes_eq h3 h4, bnd_some]
  unfold worldOk
  rw [show (0 : Int) = ((0 : Nat) : Int) by rfl, spec_tasks_l h1 h2 v.tasks.length 0 (by omega), List.drop_zero]
  rw [show ((0 : Nat) : Int) = 0 by rfl]
  have et : (0 ≤ v.turn ∧ v.turn ≤ (v.tasks.length : Int) - 1) = (0 ≤ v.turn ∧ v.turn < (v.tasks.length : Int)) := propext (by omega)
  simp only [et]
  generalize decide (1 ≤ (v.tasks.length : Int) ∧ (v.tasks.length : Int) ≤ 3) = x1
  generalize decide (0 ≤ v.turn ∧ v.turn < (v.tasks.length : Int)) = x2
  generalize decide (0 ≤ v.idle ∧ v.idle ≤ (v.tasks.length : Int)) = x3
  generalize (v.boxes.all boxOk && decide ((v.boxes.length : Int) ≤ 3)) = x4
  cases x1 <;> cases x2 <;> cases x3 <;> cases x4 <;> cases v.tasks.all (tkOk v.boxes.length) <;> simp [selm, spec_l4Words_eq h5]

theorem clone_eq {l : List Int} (h : l.length ≤ 4294967296) : slices_Clone___int_int_ l = some l := by
  apply slices_Clone___int_int__le
  rw [if_pos h]

theorem take_get {α : Type} {l : List α} {i : Nat} (hi : i < l.length) : l.take (i + 1) = l.take i ++ [l[i]] := by rw [List.take_add_one, List.getElem?_eq_getElem hi]; rfl

theorem toIntSp_l {a : List Int} {A : List Ent} {h : Hd} (hl : (a.length : Int) ≤ 4294967296) : ∀ (d i : Nat) (b : List Int) (B : List Ent), i + d = a.length → b.length = a.length → b.take i = a.take i → Made .int A b h B → Ok (laws_toIntS_p_l1 a h i B) fun r => r.1 = h ∧ Made .int A a h r.2 ∧ r.2.length = B.length
  | 0, i, b, B, hd, hb, ht, hm => by
    apply Ok.le (laws_toIntS_p_l1_le _ _ _ _)
    have hi : ¬ ((i : Int) < a.length) := by omega
    have : b = a := by rw [List.take_of_length_le (by omega), List.take_of_length_le (by omega)] at ht; exact ht
    subst this
    simp only [hi, decide_false, cond_false]
    exact Ok.of ⟨rfl, hm, rfl⟩
  | d + 1, i, b, B, hd, hb, ht, hm => by
    apply Ok.le (laws_toIntS_p_l1_le _ _ _ _)
    have hi : (i : Int) < a.length := by omega
    have hi' : i < a.length := by omega
    have hib : i < b.length := by omega
    have hn : (i : Int) < h.n := by rw [hm.cnt]; omega
    simp only [hi, decide_true, cond_true, geti_nat', List.getElem?_eq_getElem hi', bnd_some, wrap_succ (show (i : Int) < 9223372036854775807 by omega), idxN_eq (show 0 ≤ (i : Int) by omega) hn, Int.toNat_natCast, hm.row (List.getElem?_eq_getElem hib)]
    refine (toIntSp_l (h := h) hl d (i + 1) (b.set i a[i]) _ (by omega) (by simpa using hb) ?_ (hm.set flatC_int)).mono fun r hr => ⟨hr.1, hr.2.1, by rw [hr.2.2, length_set]⟩
    rw [take_get (by simpa using hib), take_get hi', List.take_set_of_le (by omega), ht]
    simp

theorem laws_toIntS_p_ok {a : List Int} (hl : (a.length : Int) ≤ 4294967296) (A : List Ent) : Ok (laws_toIntS_p a A) fun r => r.1.id = some A.length ∧ Made .int A a r.1 r.2 ∧ r.2.length = A.length + 1 := by
  apply Ok.le (laws_toIntS_p_le _ _)
  have hmd : made (a.length : Int) = some a.length := by unfold made; rw [if_pos (by omega)]; simp
  rw [hmd, bnd_some]
  have h0 : Made .int A (List.replicate a.length (zeroD .int)) ⟨some A.length, a.length⟩ (arPush A .int (List.replicate a.length (zeroD .int))) := by
    have := Made.push (A := A) (B := A) (c := .int) (l := List.replicate a.length (zeroD .int)) (Grow.refl A) flatC_int
    rwa [List.length_replicate] at this
  refine Ok.bnd (toIntSp_l (h := ⟨some A.length, a.length⟩) hl a.length 0 (List.replicate a.length (zeroD .int)) _ (by omega) (by simp) (by simp) h0) fun r hr => ?_
  exact Ok.of ⟨by rw [hr.1], by rw [hr.1]; exact hr.2.1, by rw [hr.2.2, length_push]⟩

/-- What a mark does to rows that a header stands for. -/
structure Marked (c : TC) (h : Hd) (A B : List Ent) (l : List (Den c)) : Prop where
  get : arGet B c h.id = some l
  ext : Ext (fun n => h.id = some n) A B
  len : B.length = A.length

theorem Marked.none {c : TC} {h : Hd} {A : List Ent} {l : List (Den c)} (hg : arGet A c h.id = some l) : Marked c h A A l := ⟨hg, Ext.refl _ _, rfl⟩

theorem Marked.set {c : TC} {h : Hd} {A B : List Ent} {l : List (Den c)} (hm : Marked c h A B l) {i : Nat} (hi : i < l.length) (x : Den c) : Marked c h A (arSet B c h.id i x) (l.set i x) := by
  obtain ⟨id, n⟩ := h
  cases id with
  | none =>
    have h0 := hm.get
    rw [arGet_none] at h0
    injection h0 with h0
    subst h0
    exact hm
  | some k => exact ⟨arSet_get hm.get, hm.ext.trans (arSet_ext fun n hn => hn), by rw [length_set]; exact hm.len⟩

theorem set_mid {α : Type} (d : List α) (e x : α) (r : List α) : (d ++ e :: r).set d.length x = d ++ x :: r := by
  rw [List.set_append_right _ _ (Nat.le_refl _)]; simp

theorem get_mid {α : Type} (d : List α) (e : α) (r : List α) : (d ++ e :: r)[d.length]? = some e := by
  rw [List.getElem?_append_right (Nat.le_refl _)]; simp

def mkI : Int → List Int → List Int
  | _, [] => []
  | k, _ :: r => k :: mkI (k + 1) r

theorem mkI_len : ∀ (k : Int) (l : List Int), (mkI k l).length = l.length
  | _, [] => rfl
  | k, _ :: r => by simp [mkI, mkI_len]

theorem markI_l {h : Hd} {A : List Ent} : ∀ (rest done : List Int) (k : Int) (B : List Ent), Marked .int h A B (done ++ rest) → h.n = done.length + rest.length → h.n ≤ 4294967296 → 0 ≤ k → k + rest.length ≤ 4611686018427387904 → Ok (laws_markIntS_p_l1 h k done.length B) fun r => r.1 = k + rest.length ∧ Marked .int h A r.2 (done ++ mkI k rest)
  | [], done, k, B, hm, hn, hb, h0, hk => by
    apply Ok.le (laws_markIntS_p_l1_le _ _ _ _)
    have hi : ¬ ((done.length : Int) < ((h.n : Nat) : Int)) := by simp only [List.length_nil] at hn; omega
    simp only [hi, decide_false, cond_false]
    exact Ok.of ⟨by simp, hm⟩
  | e :: rest, done, k, B, hm, hn, hb, h0, hk => by
    apply Ok.le (laws_markIntS_p_l1_le _ _ _ _)
    simp only [List.length_cons] at hn hk
    have hi : (done.length : Int) < ((h.n : Nat) : Int) := by omega
    simp only [hi, decide_true, cond_true, idxN_eq (show 0 ≤ (done.length : Int) by omega) hi, Int.toNat_natCast, bnd_some, arRow_eq hm.get (get_mid done e rest)]
    have h1 := hm.set (i := done.length) (by simp) k
    rw [set_mid] at h1
    rw [wrap_id (n := k + 1) (by omega) (by omega), wrap_succ (show (done.length : Int) < 9223372036854775807 by omega)]
    have ih := markI_l rest (done ++ [k]) (k + 1) _ (by rw [List.append_assoc]; exact h1) (by simp; omega) hb (by omega) (by omega)
    simp only [List.length_append, List.length_cons, List.length_nil, Nat.zero_add] at ih
    refine ih.mono fun r hr => ⟨by rw [hr.1]; simp; omega, ?_⟩
    have := hr.2
    rw [List.append_assoc] at this
    exact this

theorem laws_markIntS_p_ok {h : Hd} {A : List Ent} {l : List Int} {k : Int} (hg : arGet A .int h.id = some l) (hn : h.n = l.length) (hl : l.length ≤ 4294967296) (h0 : 0 ≤ k) (hk : k + l.length ≤ 4611686018427387904) : Ok (laws_markIntS_p h k A) fun r => r.1 = k + l.length ∧ Marked .int h A r.2 (mkI k l) := by
  apply Ok.le (laws_markIntS_p_le _ _ _)
  exact Ok.bnd (markI_l (h := h) l [] k A (Marked.none hg) (by simpa using hn) (by omega) h0 hk) fun r hr => Ok.of hr

theorem heldI_l {L : List Int} : ∀ (rest done : List Int) (k : Int), L = done ++ mkI k rest → L.length ≤ 4294967296 → 0 ≤ k → k + rest.length ≤ 4611686018427387904 → laws_heldIntS_l1 L k done.length = some (.inl (k + rest.length))
  | [], done, k, hL, hl, h0, hk => by
    subst hL
    apply laws_heldIntS_l1_le
    simp [mkI]
  | e :: rest, done, k, hL, hl, h0, hk => by
    apply laws_heldIntS_l1_le
    simp only [List.length_cons] at hk
    have hlen : L.length = done.length + (rest.length + 1) := by rw [hL]; simp [mkI_len]
    have hi : (done.length : Int) < (L.length : Int) := by omega
    have hget : L[done.length]? = some k := by rw [hL]; exact get_mid done k _
    have ih := heldI_l (L := L) rest (done ++ [k]) (k + 1) (by rw [List.append_assoc]; exact hL) hl (by omega) (by omega)
    simp only [List.length_append, List.length_cons, List.length_nil, Nat.zero_add] at ih
    simp only [hi, decide_true, cond_true, geti_nat', hget, bnd_some, Bool.not_true, cond_false]
    rw [wrap_id (n := k + 1) (by omega) (by omega), wrap_succ (show (done.length : Int) < 9223372036854775807 by omega), ih]
    simp; omega

theorem laws_heldIntS_eq {l : List Int} {k : Int} (hl : l.length ≤ 4294967296) (h0 : 0 ≤ k) (hk : k + l.length ≤ 4611686018427387904) : laws_heldIntS (mkI k l) k = some (k + l.length) := by
  apply laws_heldIntS_le
  have := heldI_l (L := mkI k l) l [] k rfl (by rw [mkI_len]; exact hl) h0 hk
  have e : laws_heldIntS_l1 (mkI k l) k 0 = some (.inl (k + l.length)) := this
  rw [e]; simp [selm]

theorem stm_eta2 (s : Stm) : (⟨s.kind, s.var, s.box, s.e, s.body, s.els⟩ : Stm) = s := by cases s; rfl

theorem wld_eta (v : Wld) : (⟨v.tasks, v.boxes, v.turn, v.idle, v.out⟩ : Wld) = v := by cases v; rfl

def endOf (t : Tk) : Bool := decide ((t.rest.length : Int) = 0)

def itemsOf (l : List Bx) : List (List Int) := l.map fun b => b.items

theorem items_take {l : List Bx} {i : Nat} (hi : i < l.length) : itemsOf (l.take i) ++ [l[i].items] = itemsOf (l.take (i + 1)) := by
  unfold itemsOf
  rw [List.take_add_one, List.getElem?_eq_getElem hi, List.map_append]; rfl

theorem ends_take {l : List Tk} {i : Nat} (hi : i < l.length) : (l.take i).map endOf ++ [decide ((l[i].rest.length : Int) = 0)] = (l.take (i + 1)).map endOf := by
  rw [List.take_add_one, List.getElem?_eq_getElem hi, List.map_append]; rfl

theorem outcomeOf_l {l : List Bx} (hl : (l.length : Int) ≤ 4294960000) (hm : ∀ b ∈ l, mB b ≤ 4294967296) {f0 f1 g r : Bool} {x0 o : List Int} {x1 : List (List Int)} {h2 h3 : Hd} {B : List Ent} : ∀ (d i : Nat) (f : Bool), i + d = l.length →
    Ok (impl_outcomeOf_o_l1 l l.length i f0 x0 f1 x1 h2 g o f (itemsOf (l.take i)) h3 r B) fun q => q.2.2.2.2.1 = o ∧ q.2.2.2.2.2.1.2 = itemsOf l ∧ q.2.2.2.2.2.2.1 = h3 ∧ q.2.2.2.2.2.2.2.1 = r ∧ q.2.2.2.2.2.2.2.2 = B
  | 0, i, f, hd => by
    apply Ok.le (impl_outcomeOf_o_l1_le _ _ _ _ _ _ _ _ _ _ _ _ _ _ _)
    have hi : ¬ ((i : Int) < l.length) := by omega
    simp only [hi, decide_false, cond_false]
    exact Ok.of ⟨rfl, by rw [List.take_of_length_le (by omega)], rfl, rfl, rfl⟩
  | d + 1, i, f, hd => by
    apply Ok.le (impl_outcomeOf_o_l1_le _ _ _ _ _ _ _ _ _ _ _ _ _ _ _)
    have hi : i < l.length := by omega
    have hi' : (i : Int) < l.length := by omega
    have hb := hm _ (List.getElem_mem hi)
    unfold mB at hb
    simp only [hi', decide_true, cond_true, geti_some hi, bnd_some, clone_eq hb, wrap_succ (show (i : Int) < 9223372036854775807 by omega), appL_some (show (itemsOf (l.take i)).length + [l[i].items].length ≤ 4294967296 by simp [itemsOf]; omega), items_take hi]
    exact outcomeOf_l hl hm d (i + 1) true (by omega)

theorem items_l {l : List Bx} (hl : (l.length : Int) ≤ 4294960000) (hm : ∀ b ∈ l, mB b ≤ 4294967296) : ∀ (d i : Nat) (f : Bool), i + d = l.length → Ok (spec_l16Items_l1 l f (itemsOf (l.take i)) i) fun q => q.2 = itemsOf l
  | 0, i, f, hd => by
    apply Ok.le (spec_l16Items_l1_le _ _ _ _)
    have hi : ¬ ((i : Int) < l.length) := by omega
    simp only [hi, decide_false, cond_false]
    exact Ok.of (by rw [List.take_of_length_le (by omega)])
  | d + 1, i, f, hd => by
    apply Ok.le (spec_l16Items_l1_le _ _ _ _)
    have hi : i < l.length := by omega
    have hi' : (i : Int) < l.length := by omega
    have hb := hm _ (List.getElem_mem hi)
    unfold mB at hb
    simp only [hi', decide_true, cond_true, geti_some hi, bnd_some, appL_some (show ([] : List Int).length + l[i].items.length ≤ 4294967296 by simp; omega), List.nil_append, wrap_succ (show (i : Int) < 9223372036854775807 by omega), appL_some (show (itemsOf (l.take i)).length + [l[i].items].length ≤ 4294967296 by simp [itemsOf]; omega), items_take hi]
    exact items_l hl hm d (i + 1) true (by omega)

theorem ends_l {l : List Tk} (hl : (l.length : Int) ≤ 4294960000) {A : List Ent} {f0 f1 g r : Bool} {x0 o : List Int} {x1 w : List (List Int)} {h2 : Hd} : ∀ (d i : Nat) (h : Hd) (B : List Ent), i + d = l.length → Got .bool A ((l.take i).map endOf) h B →
    Ok (impl_WorldOutcome_l1 l l.length i f0 x0 f1 x1 h2 g o w h r B) fun q => q.2.2.2.2.1 = o ∧ q.2.2.2.2.2.1 = w ∧ q.2.2.2.2.2.2.2.1 = r ∧ Got .bool A (l.map endOf) q.2.2.2.2.2.2.1 q.2.2.2.2.2.2.2.2
  | 0, i, h, B, hd, hg => by
    apply Ok.le (impl_WorldOutcome_l1_le _ _ _ _ _ _ _ _ _ _ _ _ _ _)
    have hi : ¬ ((i : Int) < l.length) := by omega
    simp only [hi, decide_false, cond_false]
    rw [List.take_of_length_le (by omega)] at hg
    exact Ok.of ⟨rfl, rfl, rfl, hg⟩
  | d + 1, i, h, B, hd, hg => by
    apply Ok.le (impl_WorldOutcome_l1_le _ _ _ _ _ _ _ _ _ _ _ _ _ _)
    have hi : i < l.length := by omega
    have hi' : (i : Int) < l.length := by omega
    have hn := hg.cnt
    simp only [List.length_map, List.length_take] at hn
    simp only [hi', decide_true, cond_true, geti_some hi, bnd_some, wrap_succ (show (i : Int) < 9223372036854775807 by omega)]
    refine Ok.bnd (Got.app (c := .bool) hg (ys := [decide ((l[i].rest.length : Int) = 0)]) (by simp; omega)) fun B2 hB2 => ?_
    have g2 := hB2.1
    rw [ends_take hi] at g2
    exact ends_l hl d (i + 1) _ B2 (by omega) g2

theorem specEnds_l {l : List Tk} (hl : (l.length : Int) ≤ 4294960000) {bx : List Bx} {t k : Int} {o o2 x0 : List Int} {f0 f1 f2 g r : Bool} {x1 w : List (List Int)} {x2 : List Bool} : ∀ (d i : Nat) (f : Bool), i + d = l.length →
    Ok (spec_WorldOutcome_l1 i l bx t k o f0 x0 f1 x1 f2 x2 g o2 w f ((l.take i).map endOf) r) fun q => q.2.2.2.2.1 = o2 ∧ q.2.2.2.2.2.1 = w ∧ q.2.2.2.2.2.2.1.2 = l.map endOf ∧ q.2.2.2.2.2.2.2 = r
  | 0, i, f, hd => by
    apply Ok.le (spec_WorldOutcome_l1_le _ _ _ _ _ _ _ _ _ _ _ _ _ _ _ _ _ _)
    have hi : ¬ ((i : Int) < l.length) := by omega
    simp only [hi, decide_false, cond_false]
    exact Ok.of ⟨rfl, rfl, by rw [List.take_of_length_le (by omega)], rfl⟩
  | d + 1, i, f, hd => by
    apply Ok.le (spec_WorldOutcome_l1_le _ _ _ _ _ _ _ _ _ _ _ _ _ _ _ _ _ _)
    have hi : i < l.length := by omega
    have hi' : (i : Int) < l.length := by omega
    simp only [hi', decide_true, cond_true, geti_some hi, bnd_some, wrap_succ (show (i : Int) < 9223372036854775807 by omega), appL_some (show ((l.take i).map endOf).length + [decide ((l[i].rest.length : Int) = 0)].length ≤ 4294967296 by simp; omega), ends_take hi]
    exact specEnds_l hl d (i + 1) true (by omega)

def outV (v : Wld) : Otc := if worldOk v = true then ⟨v.out, itemsOf v.boxes, v.tasks.map endOf, decide (v.idle = (v.tasks.length : Int))⟩ else ⟨[], [], [], false⟩

theorem impl_WorldOutcome_eq {v : Wld} (h : mW v ≤ 4294960000) : impl_WorldOutcome v = some (outV v) := by
  apply impl_WorldOutcome_le
  obtain ⟨h1, h2, h3, h4, h5⟩ := mW_parts (v := v) (by omega)
  have hb : v.boxes.length ≤ 4294960000 := by have := mBs_len v.boxes; unfold mW at h; omega
  have ht : v.tasks.length ≤ 4294960000 := by have := mTs_len v.tasks; unfold mW at h; omega
  apply Ok.some
  refine Ok.bnd (Ok.eq (impl_WorldValid_eq (by omega))) fun r1 e1 => ?_
  subst e1
  refine Ok.bif (fun hn => ?_) (fun hy => ?_)
  · rw [arView_bool, arGet_none, bnd_some]
    refine Ok.of ?_
    have : worldOk v = false := by simpa using hn
    unfold outV; rw [this]; rfl
  · have hok : worldOk v = true := by simpa using hy
    have ho : Ok (impl_outcomeOf_o v.out v.boxes (decide (v.idle = (v.tasks.length : Int))) ([] : List Ent)) fun q => q.1 = v.out ∧ q.2.1 = itemsOf v.boxes ∧ q.2.2.1 = ⟨none, 0⟩ ∧ q.2.2.2.1 = decide (v.idle = (v.tasks.length : Int)) ∧ q.2.2.2.2 = [] := by
      apply Ok.le (impl_outcomeOf_o_le _ _ _ _)
      rw [clone_eq (by omega), bnd_some]
      refine Ok.bnd (outcomeOf_l (l := v.boxes) (by omega) h4 (f0 := false) (f1 := false) (g := false) (x0 := []) (x1 := []) (h2 := ⟨none, 0⟩) (h3 := ⟨none, 0⟩) (o := v.out) (r := decide (v.idle = (v.tasks.length : Int))) (B := []) v.boxes.length 0 false (by omega)) fun q hq => ?_
      exact Ok.of hq
    refine Ok.bnd ho fun r3 ⟨e1, e2, e3, e4, e5⟩ => ?_
    rw [e1, e2, e3, e4, e5]
    refine Ok.bnd (ends_l (l := v.tasks) (by omega) (A := []) (f0 := false) (f1 := false) (g := false) (x0 := []) (x1 := []) (h2 := ⟨none, 0⟩) (o := v.out) (w := itemsOf v.boxes) (r := decide (v.idle = (v.tasks.length : Int))) v.tasks.length 0 ⟨none, 0⟩ [] (by omega) (Got.nil (Ext.refl _ _))) fun r4 ⟨q1, q2, q3, q4⟩ => ?_
    rw [arView_bool, q4.get, bnd_some, q1, q2, q3]
    refine Ok.of ?_
    unfold outV; rw [if_pos hok]

theorem spec_WorldOutcome_eq {v : Wld} (h : mW v ≤ 4294960000) : spec_WorldOutcome v = some (outV v) := by
  apply spec_WorldOutcome_le
  obtain ⟨h1, h2, h3, h4, h5⟩ := mW_parts (v := v) (by omega)
  have hb : v.boxes.length ≤ 4294960000 := by have := mBs_len v.boxes; unfold mW at h; omega
  have ht : v.tasks.length ≤ 4294960000 := by have := mTs_len v.tasks; unfold mW at h; omega
  apply Ok.some
  refine Ok.bnd (Ok.eq (spec_WorldValid_eq (by omega))) fun r1 e1 => ?_
  subst e1
  refine Ok.bif (fun hn => ?_) (fun hy => ?_)
  · refine Ok.of ?_
    have : worldOk v = false := by simpa using hn
    unfold outV; rw [this]; rfl
  · have hok : worldOk v = true := by simpa using hy
    rw [appL_some (by simp; omega), bnd_some, List.nil_append]
    have hi : Ok (spec_l16Items v.boxes) fun q => q = itemsOf v.boxes := by
      apply Ok.le (spec_l16Items_le _)
      exact Ok.bnd (items_l (l := v.boxes) (by omega) h4 v.boxes.length 0 true (by omega)) fun q hq => Ok.of hq
    refine Ok.bnd hi fun r3 e3 => ?_
    subst e3
    refine Ok.bnd (specEnds_l (l := v.tasks) (by omega) (bx := v.boxes) (t := v.turn) (k := v.idle) (o := v.out) (o2 := v.out) (x0 := []) (f0 := false) (f1 := false) (f2 := false) (g := false) (x1 := []) (x2 := []) (w := itemsOf v.boxes) (r := decide (v.idle = (v.tasks.length : Int))) v.tasks.length 0 false (by omega)) fun r4 ⟨q1, q2, q3, q4⟩ => ?_
    rw [q1, q2, q3, q4]
    refine Ok.of ?_
    unfold outV; rw [if_pos hok]

mutual
def mkX : Int → Exp → Exp
  | k, ⟨_, _, as⟩ => ⟨k, k + 1, mkXs (k + 2) as⟩
def mkXs : Int → List Exp → List Exp
  | _, [] => []
  | k, e :: r => mkX k e :: mkXs (k + 2 + 2 * emX e) r
end

mutual
def nS : Stm → Nat
  | ⟨_, _, _, e, bd, el⟩ => 5 + 2 * emX e + nSs bd + nSs el
def nSs : List Stm → Nat
  | [] => 0
  | s :: r => nS s + nSs r
end

mutual
def mkS : Int → Stm → Stm
  | k, ⟨_, _, _, e, bd, el⟩ => ⟨k, k + 1, k + 2, ⟨k + 3, k + 4, mkXs (k + 5) e.args⟩, mkSs (k + 5 + 2 * emX e) bd, mkSs (k + 5 + 2 * emX e + nSs bd) el⟩
def mkSs : Int → List Stm → List Stm
  | _, [] => []
  | k, s :: r => mkS k s :: mkSs (k + nS s) r
end

theorem nS_eq (s : Stm) : nS s = 5 + 2 * emX s.e + nSs s.body + nSs s.els := by cases s; simp [nS]

theorem mkS_eq (k : Int) (s : Stm) : mkS k s = ⟨k, k + 1, k + 2, ⟨k + 3, k + 4, mkXs (k + 5) s.e.args⟩, mkSs (k + 5 + 2 * emX s.e) s.body, mkSs (k + 5 + 2 * emX s.e + nSs s.body) s.els⟩ := by cases s; simp [mkS]

theorem mkX_eq (k : Int) (e : Exp) : mkX k e = ⟨k, k + 1, mkXs (k + 2) e.args⟩ := by cases e; simp [mkX]

mutual
theorem nS_le : ∀ s : Stm, nS s ≤ 5 + 5 * mS s
  | ⟨_, _, _, e, bd, el⟩ => by
    have h1 := nSs_le bd
    have h2 := nSs_le el
    simp only [nS, mS]; omega
theorem nSs_le : ∀ l : List Stm, nSs l ≤ 5 * mSs l
  | [] => by simp [nSs]
  | s :: r => by
    have h1 := nS_le s
    have h2 := nSs_le r
    simp only [nSs, mSs]; omega
end

def MarkX (l : List Exp) : Prop := ∀ (h : Hd) (ids : List Nat) (A : List Ent) (k : Int), Tr A .expH h l ids → ids.Nodup → 0 ≤ k → k + 2 * emXs l ≤ 4611686018427387904 → Ok (laws_markExprS_p h k A) fun r => r.1 = k + 2 * emXs l ∧ Tr r.2 .expH h (mkXs k l) ids ∧ Only ids A r.2

theorem markX_l {h : Hd} {ids : List Nat} {A : List Ent} (nd : ids.Nodup) (hb : ((h.n : Nat) : Int) ≤ 4611686018427387904) : ∀ (rest done : List Exp) (k : Int) (B : List Ent), (∀ e ∈ rest, MarkX e.args) → Tr B .expH h (done ++ rest) ids → Only ids A B → 0 ≤ k → k + 2 * emXs rest ≤ 4611686018427387904 →
    Ok (laws_markExprS_p_l1 h k done.length B) fun r => r.1 = k + 2 * emXs rest ∧ Tr r.2 .expH h (done ++ mkXs k rest) ids ∧ Only ids A r.2
  | [], done, k, B, _, hT, ho, h0, hk => by
    apply Ok.le (laws_markExprS_p_l1_le _ _ _ _)
    have hn := hT.cnt
    simp only [List.length_append, List.length_nil] at hn
    have hi : ¬ ((done.length : Int) < ((h.n : Nat) : Int)) := by omega
    simp only [hi, decide_false, cond_false]
    exact Ok.of ⟨by simp [emXs], hT, ho⟩
  | e :: rest, done, k, B, hp, hT, ho, h0, hk => by
    apply Ok.le (laws_markExprS_p_l1_le _ _ _ _)
    have hn := hT.cnt
    simp only [List.length_append, List.length_cons] at hn
    have hi : (done.length : Int) < ((h.n : Nat) : Int) := by omega
    obtain ⟨M⟩ := hT.mid nd (j := done.length) (y := e) (get_mid done e rest)
    have hlt := (List.getElem?_eq_some_iff.1 M.at_).1
    obtain ⟨as, hT', he⟩ := (show ∃ as, Tr B .expH M.x.args as M.s ∧ e = ⟨M.x.op, M.x.n, as⟩ from M.row)
    have ea : as = e.args := by rw [he]
    subst ea
    simp only [emXs, emX_eq] at hk
    simp only [hi, decide_true, cond_true, idxN_eq (show 0 ≤ (done.length : Int) by omega) hi, Int.toNat_natCast, bnd_some, M.hid, arRow_eq M.get M.at_, arRow_set M.get hlt, arSet_set M.get, wrap_id (n := k + 1) (by omega) (by omega), wrap_id (n := k + 1 + 1) (by omega) (by omega)]
    have o1 : Only [M.i] B (arSet B .expH (some M.i) done.length (⟨k, k + 1, M.x.args⟩ : ExpH)) := set_only (c := .expH) (by simp)
    refine Ok.bnd (hp _ List.mem_cons_self M.x.args M.s _ (k + 1 + 1) (hT'.only o1 (fun n hn hm => M.out (by simp at hm; rw [← hm]; exact hn))) M.nds (by omega) (by omega)) fun r ⟨e1, t1, o2⟩ => ?_
    have oB : Only (M.i :: M.s) B r.2 := (o1.mono (by simp)).trans (o2.mono (fun n hn => List.mem_cons_of_mem _ hn))
    have hb2 := M.back (B := r.2) (x' := (⟨k, k + 1, M.x.args⟩ : ExpH)) (y' := ⟨k, k + 1, mkXs (k + 1 + 1) e.args⟩) (arGet_of (fun n hn => by injection hn with hn; rw [← hn]; exact o2.same _ M.out) (arSet_get (c := .expH) M.get)) ⟨_, t1, rfl⟩ oB
    rw [set_mid] at hb2
    have ho2 : Only ids A r.2 := ho.trans (oB.mono fun n hn => by
      rcases List.mem_cons.1 hn with rfl | hn
      · exact M.iin
      · exact M.ins n hn)
    rw [wrap_succ (show (done.length : Int) < 9223372036854775807 by omega)]
    have ih := markX_l nd hb rest (done ++ [⟨k, k + 1, mkXs (k + 1 + 1) e.args⟩]) r.1 r.2 (fun e he => hp e (List.mem_cons_of_mem _ he)) (by rw [List.append_assoc]; exact hb2) ho2 (by rw [e1]; omega) (by rw [e1]; omega)
    simp only [List.length_append, List.length_cons, List.length_nil, Nat.zero_add] at ih
    refine ih.mono fun q ⟨q1, q2, q3⟩ => ⟨?_, ?_, q3⟩
    · rw [q1, e1]; simp only [emXs, emX_eq]; omega
    · have ek : k + 1 + 1 = k + 2 := by omega
      rw [List.append_assoc, e1, ek] at q2
      simp only [mkXs, mkX_eq, emX_eq]
      exact q2

theorem markXs_ok : ∀ (N : Nat) (l : List Exp), emXs l ≤ N → MarkX l
  | 0, l, hN => by
    intro h ids A k hT nd h0 hk
    apply Ok.le (laws_markExprS_p_le _ _ _)
    have hl := emXs_len l
    have hc := hT.cnt
    have hnil : l = [] := List.eq_nil_of_length_eq_zero (by omega)
    subst hnil
    refine Ok.bnd (markX_l (A := A) nd (by rw [hc]; simp) [] [] k A (by simp) hT (Only.refl _ _) h0 hk) fun r hr => Ok.of hr
  | N + 1, l, hN => by
    intro h ids A k hT nd h0 hk
    apply Ok.le (laws_markExprS_p_le _ _ _)
    have hl := emXs_len l
    have hc := hT.cnt
    refine Ok.bnd (markX_l (A := A) nd (by rw [hc]; omega) l [] k A (fun e he => markXs_ok N e.args (by have := emX_mem he; rw [emX_eq] at this; omega)) hT (Only.refl _ _) h0 hk) fun r hr => Ok.of hr

theorem laws_markExprS_p_ok {l : List Exp} : MarkX l := markXs_ok _ l (Nat.le_refl _)

def MarkS (l : List Stm) : Prop := ∀ (h : Hd) (ids : List Nat) (A : List Ent) (k : Int), Tr A .stmH h l ids → ids.Nodup → 0 ≤ k → k + 5 * mSs l ≤ 4611686018427387904 → Ok (laws_markStmtS_p h k A) fun r => r.1 = k + nSs l ∧ Tr r.2 .stmH h (mkSs k l) ids ∧ Only ids A r.2

theorem markS_l {h : Hd} {ids : List Nat} {A : List Ent} (nd : ids.Nodup) (hb : ((h.n : Nat) : Int) ≤ 4611686018427387904) : ∀ (rest done : List Stm) (k : Int) (B : List Ent), (∀ e ∈ rest, MarkS e.body ∧ MarkS e.els) → Tr B .stmH h (done ++ rest) ids → Only ids A B → 0 ≤ k → k + 5 * mSs rest ≤ 4611686018427387904 →
    Ok (laws_markStmtS_p_l1 h k done.length B) fun r => r.1 = k + nSs rest ∧ Tr r.2 .stmH h (done ++ mkSs k rest) ids ∧ Only ids A r.2
  | [], done, k, B, _, hT, ho, h0, hk => by
    apply Ok.le (laws_markStmtS_p_l1_le _ _ _ _)
    have hn := hT.cnt
    simp only [List.length_append, List.length_nil] at hn
    have hi : ¬ ((done.length : Int) < ((h.n : Nat) : Int)) := by omega
    simp only [hi, decide_false, cond_false]
    exact Ok.of ⟨by simp [nSs], hT, ho⟩
  | e :: rest, done, k, B, hp, hT, ho, h0, hk => by
    apply Ok.le (laws_markStmtS_p_l1_le _ _ _ _)
    have hn := hT.cnt
    simp only [List.length_append, List.length_cons] at hn
    have hi : (done.length : Int) < ((h.n : Nat) : Int) := by omega
    obtain ⟨M⟩ := hT.mid nd (j := done.length) (y := e) (get_mid done e rest)
    have hlt := (List.getElem?_eq_some_iff.1 M.at_).1
    obtain ⟨as, bd, el, s1, s2, s3, hT1, hT2, hT3, he, hs⟩ := (show ∃ as bd el s1 s2 s3, Tr B .expH M.x.args as s1 ∧ Tr B .stmH M.x.body bd s2 ∧ Tr B .stmH M.x.els el s3 ∧ e = ⟨M.x.kind, M.x.var, M.x.box, ⟨M.x.eop, M.x.en, as⟩, bd, el⟩ ∧ M.s = s1 ++ (s2 ++ s3) from M.row)
    have ea0 : as = e.e.args := by rw [he]
    have eb0 : bd = e.body := by rw [he]
    have ec0 : el = e.els := by rw [he]
    have hsz : mS e = emXs as + mSs bd + mSs el := by rw [mS_eq, emX_eq, ea0, eb0, ec0]
    have hnz : nS e = 5 + 2 * emXs as + nSs bd + nSs el := by rw [nS_eq, emX_eq, ea0, eb0, ec0]
    have hle1 := nSs_le bd
    have hle2 := nSs_le el
    simp only [mSs, hsz] at hk
    obtain ⟨p1, p2⟩ := hp _ List.mem_cons_self
    rw [← eb0] at p1
    rw [← ec0] at p2
    have hnd := M.nds
    rw [hs, List.nodup_append] at hnd
    obtain ⟨n1, n23, d1⟩ := hnd
    rw [List.nodup_append] at n23
    obtain ⟨n2, n3, d23⟩ := n23
    have hout := M.out
    rw [hs] at hout
    simp only [hi, decide_true, cond_true, idxN_eq (show 0 ≤ (done.length : Int) by omega) hi, Int.toNat_natCast, bnd_some, M.hid, arRow_eq M.get M.at_, arRow_set M.get hlt, arSet_set M.get, wrap_id (n := k + 1) (by omega) (by omega), wrap_id (n := k + 1 + 1) (by omega) (by omega), wrap_id (n := k + 1 + 1 + 1) (by omega) (by omega), wrap_id (n := k + 1 + 1 + 1 + 1) (by omega) (by omega), wrap_id (n := k + 1 + 1 + 1 + 1 + 1) (by omega) (by omega)]
    have o1 : Only [M.i] B (arSet B .stmH (some M.i) done.length (⟨k, k + 1, k + 1 + 1, k + 1 + 1 + 1, k + 1 + 1 + 1 + 1, M.x.args, M.x.body, M.x.els⟩ : StmH)) := set_only (c := .stmH) (by simp)
    have ne1 : ∀ n ∈ s1, n ∉ [M.i] := fun n hn hm => hout (by simp at hm; rw [← hm]; simp [hn])
    have ne2 : ∀ n ∈ s2, n ∉ [M.i] := fun n hn hm => hout (by simp at hm; rw [← hm]; simp [hn])
    have ne3 : ∀ n ∈ s3, n ∉ [M.i] := fun n hn hm => hout (by simp at hm; rw [← hm]; simp [hn])
    refine Ok.bnd (laws_markExprS_p_ok (l := as) M.x.args s1 _ (k + 1 + 1 + 1 + 1 + 1) (hT1.only o1 ne1) n1 (by omega) (by omega)) fun r ⟨e1, t1, o2⟩ => ?_
    have hget : ∀ {D : List Ent} {s : List Nat}, Only s (arSet B .stmH (some M.i) done.length (⟨k, k + 1, k + 1 + 1, k + 1 + 1 + 1, k + 1 + 1 + 1 + 1, M.x.args, M.x.body, M.x.els⟩ : StmH)) D → M.i ∉ s → arGet D .stmH (some M.i) = some (M.rows.set done.length (⟨k, k + 1, k + 1 + 1, k + 1 + 1 + 1, k + 1 + 1 + 1 + 1, M.x.args, M.x.body, M.x.els⟩ : StmH)) := fun o hm => arGet_of (fun n hn => by injection hn with hn; rw [← hn]; exact o.same _ hm) (arSet_get (c := .stmH) M.get)
    have hrow : ∀ {D : List Ent}, arGet D .stmH (some M.i) = some (M.rows.set done.length (⟨k, k + 1, k + 1 + 1, k + 1 + 1 + 1, k + 1 + 1 + 1 + 1, M.x.args, M.x.body, M.x.els⟩ : StmH)) → arRow D .stmH (some M.i) done.length = some (⟨k, k + 1, k + 1 + 1, k + 1 + 1 + 1, k + 1 + 1 + 1 + 1, M.x.args, M.x.body, M.x.els⟩ : StmH) := fun hg => arRow_eq hg (List.getElem?_set_self hlt)
    have g2 := hget o2 (fun hm => hout (by simp [hm]))
    rw [hrow g2, bnd_some]
    refine Ok.bnd (p1 M.x.body s2 r.2 r.1 ((hT2.only o1 ne2).only o2 (fun n hn hm => d1 n hm n (by simp [hn]) rfl)) n2 (by rw [e1]; omega) (by rw [e1]; omega)) fun r2 ⟨e2, t2, o3⟩ => ?_
    have g3 : arGet r2.2 .stmH (some M.i) = some (M.rows.set done.length (⟨k, k + 1, k + 1 + 1, k + 1 + 1 + 1, k + 1 + 1 + 1 + 1, M.x.args, M.x.body, M.x.els⟩ : StmH)) := arGet_of (fun n hn => by injection hn with hn; rw [← hn]; exact o3.same _ (fun hm => hout (by simp [hm]))) g2
    rw [hrow g3, bnd_some]
    refine Ok.bnd (p2 M.x.els s3 r2.2 r2.1 (((hT3.only o1 ne3).only o2 (fun n hn hm => d1 n hm n (by simp [hn]) rfl)).only o3 (fun n hn hm => d23 n hm n hn rfl)) n3 (by rw [e2, e1]; omega) (by rw [e2, e1]; omega)) fun r3 ⟨e3, t3, o4⟩ => ?_
    have g4 : arGet r3.2 .stmH (some M.i) = some (M.rows.set done.length (⟨k, k + 1, k + 1 + 1, k + 1 + 1 + 1, k + 1 + 1 + 1 + 1, M.x.args, M.x.body, M.x.els⟩ : StmH)) := arGet_of (fun n hn => by injection hn with hn; rw [← hn]; exact o4.same _ (fun hm => hout (by simp [hm]))) g3
    have tt1 : Tr r3.2 .expH M.x.args (mkXs (k + 1 + 1 + 1 + 1 + 1) as) s1 := (t1.only o3 (fun n hn hm => d1 n hn n (by simp [hm]) rfl)).only o4 (fun n hn hm => d1 n hn n (by simp [hm]) rfl)
    have tt2 : Tr r3.2 .stmH M.x.body (mkSs r.1 bd) s2 := t2.only o4 (fun n hn hm => d23 n hn n hm rfl)
    have oB : Only (M.i :: M.s) B r3.2 := by
      rw [hs]
      exact (((o1.mono (by simp)).trans (o2.mono fun n hn => by simp [hn])).trans (o3.mono fun n hn => by simp [hn])).trans (o4.mono fun n hn => by simp [hn])
    have hb2 := M.back (B := r3.2) (x' := (⟨k, k + 1, k + 1 + 1, k + 1 + 1 + 1, k + 1 + 1 + 1 + 1, M.x.args, M.x.body, M.x.els⟩ : StmH)) (y' := ⟨k, k + 1, k + 1 + 1, ⟨k + 1 + 1 + 1, k + 1 + 1 + 1 + 1, mkXs (k + 1 + 1 + 1 + 1 + 1) as⟩, mkSs r.1 bd, mkSs r2.1 el⟩) g4 ⟨_, _, _, s1, s2, s3, tt1, tt2, t3, rfl, hs⟩ oB
    rw [set_mid] at hb2
    have ho2 : Only ids A r3.2 := ho.trans (oB.mono fun n hn => by
      rcases List.mem_cons.1 hn with rfl | hn
      · exact M.iin
      · exact M.ins n hn)
    rw [wrap_succ (show (done.length : Int) < 9223372036854775807 by omega)]
    have ih := markS_l nd hb rest (done ++ [⟨k, k + 1, k + 1 + 1, ⟨k + 1 + 1 + 1, k + 1 + 1 + 1 + 1, mkXs (k + 1 + 1 + 1 + 1 + 1) as⟩, mkSs r.1 bd, mkSs r2.1 el⟩]) r3.1 r3.2 (fun e he => hp e (List.mem_cons_of_mem _ he)) (by rw [List.append_assoc]; exact hb2) ho2 (by rw [e3, e2, e1]; omega) (by rw [e3, e2, e1]; omega)
    simp only [List.length_append, List.length_cons, List.length_nil, Nat.zero_add] at ih
    refine ih.mono fun q ⟨q1, q2, q3⟩ => ⟨?_, ?_, q3⟩
    · rw [q1, e3, e2, e1]; simp only [nSs, hnz]; omega
    · have ek : k + 1 + 1 = k + 2 := by omega
      have ek3 : k + 1 + 1 + 1 = k + 3 := by omega
      have ek4 : k + 1 + 1 + 1 + 1 = k + 4 := by omega
      have ek5 : k + 1 + 1 + 1 + 1 + 1 = k + 5 := by omega
      have ea : r.1 = k + 5 + 2 * emXs as := by rw [e1]; omega
      have eb : r2.1 = k + 5 + 2 * emXs as + nSs bd := by rw [e2, e1]; omega
      have ec : r3.1 = k + nS e := by rw [e3, e2, e1, hnz]; omega
      rw [List.append_assoc, eb, ec, ea, ek5, ek4, ek3, ek] at q2
      have em : mkS k e = ⟨k, k + 1, k + 2, ⟨k + 3, k + 4, mkXs (k + 5) as⟩, mkSs (k + 5 + 2 * emXs as) bd, mkSs (k + 5 + 2 * emXs as + nSs bd) el⟩ := by rw [mkS_eq, emX_eq, ea0, eb0, ec0]
      rw [mkSs, em]
      exact q2

theorem markSs_ok : ∀ (N : Nat) (l : List Stm), mSs l ≤ N → MarkS l
  | 0, l, hN => by
    intro h ids A k hT nd h0 hk
    apply Ok.le (laws_markStmtS_p_le _ _ _)
    have hl := mSs_len l
    have hc := hT.cnt
    have hnil : l = [] := List.eq_nil_of_length_eq_zero (by omega)
    subst hnil
    refine Ok.bnd (markS_l (A := A) nd (by rw [hc]; simp) [] [] k A (by simp) hT (Only.refl _ _) h0 hk) fun r hr => Ok.of hr
  | N + 1, l, hN => by
    intro h ids A k hT nd h0 hk
    apply Ok.le (laws_markStmtS_p_le _ _ _)
    have hl := mSs_len l
    have hc := hT.cnt
    refine Ok.bnd (markS_l (A := A) nd (by rw [hc]; omega) l [] k A (fun e he => ⟨markSs_ok N e.body (by have := mS_mem he; rw [mS_eq] at this; omega), markSs_ok N e.els (by have := mS_mem he; rw [mS_eq] at this; omega)⟩) hT (Only.refl _ _) h0 hk) fun r hr => Ok.of hr

theorem laws_markStmtS_p_ok {l : List Stm} : MarkS l := markSs_ok _ l (Nat.le_refl _)

/-- Numbers. -/
theorem markI_ok {h : Hd} {ids : List Nat} {A : List Ent} {l : List Int} {k : Int} (hT : Tr A .int h l ids) (hl : (l.length : Int) ≤ 4294967296) (h0 : 0 ≤ k) (hk : k + l.length ≤ 4611686018427387904) : Ok (laws_markIntS_p h k A) fun r => r.1 = k + l.length ∧ Tr r.2 .int h (mkI k l) ids ∧ Only ids A r.2 := by
  obtain ⟨rows, ss, T, hids⟩ := Tr_iff.1 hT
  have hlen := T.len
  have hls := T.lens
  have hrow : ∀ j, j < rows.length → l[j]? = rows[j]? ∧ ss[j]? = some [] := by
    intro j hj
    have h1 : rows[j]? = some rows[j] := List.getElem?_eq_getElem hj
    have h2 : l[j]? = some (l[j]'(by omega)) := List.getElem?_eq_getElem _
    have h3 : ss[j]? = some (ss[j]'(by omega)) := List.getElem?_eq_getElem _
    obtain ⟨q1, q2⟩ := (show l[j]'(by omega) = rows[j] ∧ ss[j]'(by omega) = [] from T.row j _ _ _ h1 h2 h3)
    exact ⟨by rw [h1, h2, q1], by rw [h3, q2]⟩
  have hlr : l = rows := by
    apply List.ext_getElem?
    intro j
    by_cases hj : j < rows.length
    · exact (hrow j hj).1
    · rw [List.getElem?_eq_none (by omega), List.getElem?_eq_none (by omega)]
  subst hlr
  have hss : ss.flatten = [] := by
    rw [List.flatten_eq_nil_iff]
    intro s hs
    obtain ⟨j, hj⟩ := List.getElem?_of_mem hs
    have hlt := (List.getElem?_eq_some_iff.1 hj).1
    have := (hrow j (by omega)).2
    rw [hj] at this
    injection this
  rw [hss, List.append_nil] at hids
  refine (laws_markIntS_p_ok T.get T.cnt (by omega) h0 hk).mono fun r ⟨e1, hm⟩ => ⟨e1, ?_, hm.len, fun n hn => ?_⟩
  · have T2 : Ls r.2 .int h (mkI k l) (mkI k l) (List.replicate l.length []) := ⟨hm.get, by rw [mkI_len]; exact T.cnt, rfl, by simp [mkI_len], fun j x y s hx hy hs => by
      rw [hx] at hy
      injection hy with hy
      rw [List.getElem?_replicate] at hs
      split at hs
      · injection hs with hs; exact ⟨hy.symm, hs.symm⟩
      · cases hs⟩
    have := T2.tr
    rw [hids]
    simpa using this
  · by_cases hlt : n < A.length
    · exact hm.ext.same n hlt fun e => hn (by rw [hids, e]; simp)
    · rw [List.getElem?_eq_none (by rw [hm.len]; omega), List.getElem?_eq_none (by omega)]

def ToX (e : Exp) : Prop := ∀ A : List Ent, Ok (laws_toExpr_p e A) fun r => ∃ s, MkR A .expH r.1 e r.2 s

theorem set_take {α : Type} {b l : List α} {i : Nat} (hi : i < l.length) (hb : b.length = l.length) (ht : b.take i = l.take i) : (b.set i l[i]).take (i + 1) = l.take (i + 1) := by
  rw [take_get (by simpa using (by omega : i < b.length)), take_get hi, List.take_set_of_le (by omega), ht]
  simp

theorem toXp_l {l : List Exp} {A : List Ent} {h : Hd} (hl : (l.length : Int) ≤ 4294967296) (hp : ∀ e ∈ l, ToX e) : ∀ (d i : Nat) (b : List Exp) (B : List Ent), i + d = l.length → b.length = l.length → b.take i = l.take i → (∃ ids, Mk A .expH b h B ids) →
    Ok (laws_toExprS_p_l1 l h i B) fun r => r.1 = h ∧ ∃ ids, Mk A .expH l h r.2 ids
  | 0, i, b, B, hd, hb, ht, hm => by
    apply Ok.le (laws_toExprS_p_l1_le _ _ _ _)
    have hi : ¬ ((i : Int) < l.length) := by omega
    have : b = l := by rw [List.take_of_length_le (by omega), List.take_of_length_le (by omega)] at ht; exact ht
    subst this
    simp only [hi, decide_false, cond_false]
    exact Ok.of ⟨rfl, hm⟩
  | d + 1, i, b, B, hd, hb, ht, ⟨ids, hm⟩ => by
    apply Ok.le (laws_toExprS_p_l1_le _ _ _ _)
    have hi : i < l.length := by omega
    have hi' : (i : Int) < l.length := by omega
    have hc := hm.tr.cnt
    have hn : (i : Int) < ((h.n : Nat) : Int) := by omega
    simp only [hi', decide_true, cond_true, geti_some hi, bnd_some, wrap_succ (show (i : Int) < 9223372036854775807 by omega)]
    refine Ok.bnd (hp _ (List.getElem_mem hi) B) fun r ⟨s, hr⟩ => ?_
    rw [idxN_eq (show 0 ≤ (i : Int) by omega) hn, bnd_some, Int.toNat_natCast]
    obtain ⟨⟨z, hz⟩, hput⟩ := hm.put flatC_expH (j := i) (by omega) hr
    rw [hz, bnd_some]
    exact toXp_l hl hp d (i + 1) (b.set i l[i]) _ (by omega) (by simpa using hb) (set_take hi hb ht) hput

theorem made_eq {n : Nat} (h : (n : Int) ≤ 4294967296) : made (n : Int) = some n := by unfold made; rw [if_pos (by omega)]; simp

theorem laws_toExprS_p_of {l : List Exp} (hl : (l.length : Int) ≤ 4294967296) (hp : ∀ e ∈ l, ToX e) (A : List Ent) : Ok (laws_toExprS_p l A) fun r => ∃ ids, Mk A .expH l r.1 r.2 ids := by
  apply Ok.le (laws_toExprS_p_le _ _)
  rw [made_eq hl, bnd_some]
  have h0 := Mk.zero (A := A) flatC_expH zero_exp l.length
  refine Ok.bnd (toXp_l hl hp l.length 0 _ _ (by omega) (by simp) (by simp) h0) fun r ⟨e1, hr⟩ => ?_
  exact Ok.of (by dsimp only; rw [e1]; exact hr)

theorem laws_toExpr_p_ok : ∀ e : Exp, emX e ≤ 4294967296 → ToX e := by
  refine Exp.ind fun e ih hm A => ?_
  apply Ok.le (laws_toExpr_p_le e A)
  rw [emX_eq] at hm
  have hlen := emXs_len e.args
  refine Ok.bnd (laws_toExprS_p_of (l := e.args) (by omega) (fun a ha => ih a ha (by have := emX_mem ha; omega)) A) fun r ⟨ids, hr⟩ => ?_
  have ee : (⟨e.op, e.n, e.args⟩ : Exp) = e := by cases e; rfl
  have hR := MkR.exp hr e.op e.n
  rw [ee] at hR
  exact Ok.of ⟨ids, hR⟩

def ToS (e : Stm) : Prop := ∀ A : List Ent, Ok (laws_toStmt_p e A) fun r => ∃ s, MkR A .stmH r.1 e r.2 s

theorem toSp_l {l : List Stm} {A : List Ent} {h : Hd} (hl : (l.length : Int) ≤ 4294967296) (hp : ∀ e ∈ l, ToS e) : ∀ (d i : Nat) (b : List Stm) (B : List Ent), i + d = l.length → b.length = l.length → b.take i = l.take i → (∃ ids, Mk A .stmH b h B ids) →
    Ok (laws_toStmtS_p_l1 l h i B) fun r => r.1 = h ∧ ∃ ids, Mk A .stmH l h r.2 ids
  | 0, i, b, B, hd, hb, ht, hm => by
    apply Ok.le (laws_toStmtS_p_l1_le _ _ _ _)
    have hi : ¬ ((i : Int) < l.length) := by omega
    have : b = l := by rw [List.take_of_length_le (by omega), List.take_of_length_le (by omega)] at ht; exact ht
    subst this
    simp only [hi, decide_false, cond_false]
    exact Ok.of ⟨rfl, hm⟩
  | d + 1, i, b, B, hd, hb, ht, ⟨ids, hm⟩ => by
    apply Ok.le (laws_toStmtS_p_l1_le _ _ _ _)
    have hi : i < l.length := by omega
    have hi' : (i : Int) < l.length := by omega
    have hc := hm.tr.cnt
    have hn : (i : Int) < ((h.n : Nat) : Int) := by omega
    simp only [hi', decide_true, cond_true, geti_some hi, bnd_some, wrap_succ (show (i : Int) < 9223372036854775807 by omega)]
    refine Ok.bnd (hp _ (List.getElem_mem hi) B) fun r ⟨s, hr⟩ => ?_
    rw [idxN_eq (show 0 ≤ (i : Int) by omega) hn, bnd_some, Int.toNat_natCast]
    obtain ⟨⟨z, hz⟩, hput⟩ := hm.put flatC_stmH (j := i) (by omega) hr
    rw [hz, bnd_some]
    exact toSp_l hl hp d (i + 1) (b.set i l[i]) _ (by omega) (by simpa using hb) (set_take hi hb ht) hput

theorem laws_toStmtS_p_of {l : List Stm} (hl : (l.length : Int) ≤ 4294967296) (hp : ∀ e ∈ l, ToS e) (A : List Ent) : Ok (laws_toStmtS_p l A) fun r => ∃ ids, Mk A .stmH l r.1 r.2 ids := by
  apply Ok.le (laws_toStmtS_p_le _ _)
  rw [made_eq hl, bnd_some]
  have h0 := Mk.zero (A := A) flatC_stmH zero_stm l.length
  refine Ok.bnd (toSp_l hl hp l.length 0 _ _ (by omega) (by simp) (by simp) h0) fun r ⟨e1, hr⟩ => ?_
  exact Ok.of (by dsimp only; rw [e1]; exact hr)

theorem laws_toStmt_p_ok : ∀ e : Stm, mS e ≤ 4294967296 → ToS e := by
  refine Stm.ind fun e ih1 ih2 hm A => ?_
  apply Ok.le (laws_toStmt_p_le e A)
  rw [mS_eq] at hm
  have hl1 := mSs_len e.body
  have hl2 := mSs_len e.els
  refine Ok.bnd (laws_toExpr_p_ok e.e (by omega) A) fun r ⟨s1, h1⟩ => ?_
  refine Ok.bnd (laws_toStmtS_p_of (l := e.body) (by omega) (fun a ha => ih1 a ha (by have := mS_mem ha; omega)) r.2) fun r2 ⟨s2, h2⟩ => ?_
  refine Ok.bnd (laws_toStmtS_p_of (l := e.els) (by omega) (fun a ha => ih2 a ha (by have := mS_mem ha; omega)) r2.2) fun r3 ⟨s3, h3⟩ => ?_
  obtain ⟨as, t1, e1⟩ := (show ∃ as, Tr r.2 .expH r.1.args as s1 ∧ e.e = ⟨r.1.op, r.1.n, as⟩ from h1.rw_)
  have m1 : Mk A .expH as r.1.args r.2 s1 := ⟨t1, h1.nd, h1.new, h1.grow⟩
  have g2 := h2.grow
  have g3 := h3.grow
  have m1' := (m1.keep g2).keep g3
  have m2' := (h2.base m1.grow).keep g3
  have m3' := h3.base (m1.grow.trans g2)
  have hR := MkR.stm m1' m2' m3' (m1.apart h2.new) (m1.apart fun n hn => Nat.le_trans g2.len (h3.new n hn)) (h2.apart h3.new) e.kind e.var e.box r.1.op r.1.n
  have ee : (⟨e.kind, e.var, e.box, ⟨r.1.op, r.1.n, as⟩, e.body, e.els⟩ : Stm) = e := by
    rw [← e1]; exact stm_eta2 _
  rw [ee] at hR
  exact Ok.of ⟨_, hR⟩

theorem laws_toStmtS_p_ok {l : List Stm} (hm : mSs l ≤ 4294967296) (A : List Ent) : Ok (laws_toStmtS_p l A) fun r => ∃ ids, Mk A .stmH l r.1 r.2 ids :=
  laws_toStmtS_p_of (by have := mSs_len l; omega) (fun e he => laws_toStmt_p_ok e (by have := mS_mem he; omega)) A

def mkT (k : Int) (t : Tk) : Tk := ⟨mkI k t.vars, mkSs (k + t.vars.length) t.rest⟩

def nT (t : Tk) : Nat := t.vars.length + nSs t.rest

def mks {α : Type} (w : α → Nat) (mk : Int → α → α) : Int → List α → List α
  | _, [] => []
  | k, y :: r => mk k y :: mks w mk (k + w y) r

def wsum {α : Type} (w : α → Nat) : List α → Nat
  | [] => 0
  | y :: r => w y + wsum w r

theorem mks_len {α : Type} {w : α → Nat} {mk : Int → α → α} : ∀ (k : Int) (l : List α), (mks w mk k l).length = l.length
  | _, [] => rfl
  | k, y :: r => by simp only [mks, List.length_cons, mks_len]

theorem wsum_le {α : Type} {w b : α → Nat} (h : ∀ y, w y ≤ b y) : ∀ l : List α, wsum w l ≤ wsum b l
  | [] => Nat.le_refl _
  | y :: r => by have := h y; have := wsum_le h r; simp only [wsum]; omega

theorem mark_list {c : TC} {h : Hd} {ids : List Nat} {A : List Ent} {w b : Den c.seen → Nat} {mk : Int → Den c.seen → Den c.seen} {Q : Den c.seen → Prop} {L : Int → Int → List Ent → Option (Int × List Ent)} (nd : ids.Nodup)
    (hend : ∀ (k i : Int) (B : List Ent), ¬ (i < ((h.n : Nat) : Int)) → L k i B = some (k, B))
    (hstep : ∀ (j : Nat) (k : Int) (B : List Ent) (y : Den c.seen) (l : List (Den c.seen)), Q y → (j : Int) < ((h.n : Nat) : Int) → ((h.n : Nat) : Int) ≤ 4611686018427387904 → ∀ M : Mid B c h l ids j y, 0 ≤ k → k + b y ≤ 4611686018427387904 →
      ∃ B' : List Ent, Only (M.i :: M.s) B B' ∧ Tr B' c h (l.set j (mk k y)) ids ∧ ∀ r, L (k + w y) ((j + 1 : Nat) : Int) B' = some r → L k j B = some r)
    (hwb : ∀ y, w y ≤ b y) (hb : ((h.n : Nat) : Int) ≤ 4611686018427387904) : ∀ (rest done : List (Den c.seen)) (k : Int) (B : List Ent), (∀ y ∈ rest, Q y) → Tr B c h (done ++ rest) ids → Only ids A B → 0 ≤ k → k + wsum b rest ≤ 4611686018427387904 →
    Ok (L k done.length B) fun r => r.1 = k + wsum w rest ∧ Tr r.2 c h (done ++ mks w mk k rest) ids ∧ Only ids A r.2
  | [], done, k, B, _, hT, ho, h0, hk => by
    have hn := hT.cnt
    simp only [List.length_append, List.length_nil] at hn
    rw [hend k _ B (by omega)]
    exact Ok.of ⟨by simp [wsum], hT, ho⟩
  | y :: rest, done, k, B, hq, hT, ho, h0, hk => by
    have hn := hT.cnt
    simp only [List.length_append, List.length_cons] at hn
    simp only [wsum] at hk
    have hwy := hwb y
    obtain ⟨M⟩ := hT.mid nd (j := done.length) (y := y) (get_mid done y rest)
    obtain ⟨B', o1, t1, hr⟩ := hstep done.length k B y _ (hq y List.mem_cons_self) (by omega) hb M h0 (by omega)
    rw [set_mid] at t1
    have ho2 : Only ids A B' := ho.trans (o1.mono fun n hn => by
      rcases List.mem_cons.1 hn with rfl | hn
      · exact M.iin
      · exact M.ins n hn)
    have ih := mark_list nd hend hstep hwb hb rest (done ++ [mk k y]) (k + w y) B' (fun z hz => hq z (List.mem_cons_of_mem _ hz)) (by rw [List.append_assoc]; exact t1) ho2 (by omega) (by omega)
    simp only [List.length_append, List.length_cons, List.length_nil, Nat.zero_add] at ih
    obtain ⟨q, e, q1, q2, q3⟩ := ih
    refine ⟨q, hr q e, ?_, ?_, q3⟩
    · rw [q1]; simp only [wsum]; omega
    · rw [List.append_assoc] at q2
      exact q2

theorem held_list {α : Type} {w b : α → Nat} {mk : Int → α → α} {Q : α → Prop} {H : List α → Int → Int → Option (Int ⊕ (Int × Int))} {L : List α}
    (hend : ∀ (k i : Int), ¬ (i < (L.length : Int)) → H L k i = some (.inl k))
    (hstep : ∀ (j : Nat) (k : Int) (y : α), Q y → (j : Int) < (L.length : Int) → L[j]? = some (mk k y) → 0 ≤ k → k + b y ≤ 4611686018427387904 → ∀ r, H L (k + w y) ((j + 1 : Nat) : Int) = some r → H L k j = some r)
    (hwb : ∀ y, w y ≤ b y) : ∀ (rest done : List α) (k : Int), (∀ y ∈ rest, Q y) → L = done ++ mks w mk k rest → 0 ≤ k → k + wsum b rest ≤ 4611686018427387904 → H L k done.length = some (.inl (k + wsum w rest))
  | [], done, k, _, hl, h0, hk => by
    rw [hend k _ (by rw [hl]; simp [mks])]
    simp [wsum]
  | y :: rest, done, k, hq, hl, h0, hk => by
    simp only [wsum] at hk
    have hwy := hwb y
    have hlen : L.length = done.length + (rest.length + 1) := by rw [hl]; simp [mks_len]
    have ih := held_list hend hstep hwb rest (done ++ [mk k y]) (k + w y) (fun z hz => hq z (List.mem_cons_of_mem _ hz)) (by rw [List.append_assoc]; exact hl) (by omega) (by omega)
    simp only [List.length_append, List.length_cons, List.length_nil, Nat.zero_add] at ih
    rw [hstep done.length k y (hq y List.mem_cons_self) (by omega) (by rw [hl]; exact get_mid done _ _) h0 (by omega) _ ih]
    rw [show k + (w y : Int) + wsum w rest = k + ((w y + wsum w rest : Nat) : Int) by omega]
    rfl

/-- A row that is put where it stands. -/
theorem row_self {D : List Ent} {c : TC} {h : Option Nat} {rows : List (Den c)} {j : Nat} {x : Den c} (hg : arGet D c h = some rows) (hx : rows[j]? = some x) : arGet D c h = some (rows.set j x) := by
  have hlt := (List.getElem?_eq_some_iff.1 hx).1
  have e : rows.set j x = rows := by
    have := (List.getElem?_eq_some_iff.1 hx).2
    rw [← this]
    exact List.set_getElem_self _
  rw [e]; exact hg

def bT (t : Tk) : Nat := t.vars.length + 5 * mSs t.rest

theorem nT_le (t : Tk) : nT t ≤ bT t := by have := nSs_le t.rest; unfold nT bT; omega

theorem laws_markTaskS_p_ok {l : List Tk} {h : Hd} {ids : List Nat} {A : List Ent} {k : Int} (hT : Tr A .tkH h l ids) (nd : ids.Nodup) (h0 : 0 ≤ k) (hl : (l.length : Int) ≤ 4611686018427387904) (hq : ∀ t ∈ l, (t.vars.length : Int) ≤ 4294967296) (hk : k + wsum bT l ≤ 4611686018427387904) :
    Ok (laws_markTaskS_p h k A) fun r => r.1 = k + wsum nT l ∧ Tr r.2 .tkH h (mks nT mkT k l) ids ∧ Only ids A r.2 := by
  apply Ok.le (laws_markTaskS_p_le _ _ _)
  have hc := hT.cnt
  have := mark_list (c := .tkH) (h := h) (ids := ids) (A := A) (w := nT) (b := bT) (mk := mkT) (Q := fun t => (t.vars.length : Int) ≤ 4294967296) (L := fun k i B => laws_markTaskS_p_l1 h k i B) nd
    (fun k i B hi => by
      apply laws_markTaskS_p_l1_le
      simp only [hi, decide_false, cond_false])
    (fun j k B y l hqy hi hb M h0 hk => by
      obtain ⟨vs, rs, s1, s2, t1, t2, hy, hs⟩ := (show ∃ vs rs s1 s2, Tr B .int M.x.vars vs s1 ∧ Tr B .stmH M.x.rest rs s2 ∧ y = ⟨vs, rs⟩ ∧ M.s = s1 ++ s2 from M.row)
      subst hy
      have hnd := M.nds
      have hout := M.out
      rw [hs] at hout
      rw [hs, List.nodup_append] at hnd
      obtain ⟨n1, n2, d⟩ := hnd
      unfold bT at hk
      dsimp only at hk hqy
      obtain ⟨r, e, e1, t3, o1⟩ := markI_ok t1 hqy h0 (by omega)
      obtain ⟨r2, f, f1, t4, o2⟩ := laws_markStmtS_p_ok (l := rs) M.x.rest s2 r.2 r.1 (t2.only o1 fun n hn hm => d n hm n hn rfl) n2 (by omega) (by omega)
      have oB : Only (M.i :: M.s) B r2.2 := by rw [hs]; exact (o1.mono fun n hn => by simp [hn]).trans (o2.mono fun n hn => by simp [hn])
      have g1 : arGet r.2 .tkH (some M.i) = some M.rows := arGet_of (fun n hn => by injection hn with hn; rw [← hn]; exact o1.same _ (fun hm => hout (by simp [hm]))) M.get
      have g2 : arGet r2.2 .tkH (some M.i) = some M.rows := arGet_of (fun n hn => by injection hn with hn; rw [← hn]; exact o2.same _ (fun hm => hout (by simp [hm]))) g1
      refine ⟨r2.2, oB, M.back (x' := M.x) (y' := mkT k ⟨vs, rs⟩) (row_self g2 M.at_) ⟨_, _, s1, s2, t3.only o2 (fun n hn hm => d n hn n hm rfl), t4, by rw [e1]; rfl, hs⟩ oB, fun r' hr' => ?_⟩
      apply laws_markTaskS_p_l1_le
      simp only [hi, decide_true, cond_true, idxN_eq (show 0 ≤ (j : Int) by omega) hi, Int.toNat_natCast, bnd_some, M.hid, arRow_eq M.get M.at_, e, arRow_eq g1 M.at_, f, wrap_succ (show (j : Int) < 9223372036854775807 by omega)]
      rw [f1, e1, show k + (vs.length : Int) + nSs rs = k + ((nT ⟨vs, rs⟩ : Nat) : Int) by unfold nT; dsimp only; omega]
      exact hr')
    nT_le (by rw [hc]; exact hl) l [] k A hq hT (Only.refl _ _) h0 hk
  exact Ok.bnd this fun r hr => Ok.of hr

def nB (b : Bx) : Nat := 1 + b.items.length

def mkB (k : Int) (b : Bx) : Bx := ⟨k, mkI (k + 1) b.items⟩

theorem laws_markBoxS_p_ok {l : List Bx} {h : Hd} {ids : List Nat} {A : List Ent} {k : Int} (hT : Tr A .bxH h l ids) (nd : ids.Nodup) (h0 : 0 ≤ k) (hl : (l.length : Int) ≤ 4611686018427387904) (hq : ∀ t ∈ l, (t.items.length : Int) ≤ 4294967296) (hk : k + wsum nB l ≤ 4611686018427387904) :
    Ok (laws_markBoxS_p h k A) fun r => r.1 = k + wsum nB l ∧ Tr r.2 .bxH h (mks nB mkB k l) ids ∧ Only ids A r.2 := by
  apply Ok.le (laws_markBoxS_p_le _ _ _)
  have hc := hT.cnt
  have := mark_list (c := .bxH) (h := h) (ids := ids) (A := A) (w := nB) (b := nB) (mk := mkB) (Q := fun t => (t.items.length : Int) ≤ 4294967296) (L := fun k i B => laws_markBoxS_p_l1 h k i B) nd
    (fun k i B hi => by
      apply laws_markBoxS_p_l1_le
      simp only [hi, decide_false, cond_false])
    (fun j k B y l hqy hi hb M h0 hk => by
      obtain ⟨vs, t1, hy⟩ := (show ∃ vs, Tr B .int M.x.items vs M.s ∧ y = ⟨M.x.room, vs⟩ from M.row)
      have hvs : vs = y.items := by rw [hy]
      subst hvs
      unfold nB at hk
      have hlt := (List.getElem?_eq_some_iff.1 M.at_).1
      have o1 : Only [M.i] B (arSet B .bxH (some M.i) j (⟨k, M.x.items⟩ : BxH)) := set_only (c := .bxH) (by simp)
      obtain ⟨r, e, e1, t3, o2⟩ := markI_ok (k := k + 1) (t1.only o1 (fun n hn hm => M.out (by simp at hm; rw [← hm]; exact hn))) hqy (by omega) (by omega)
      have oB : Only (M.i :: M.s) B r.2 := (o1.mono (by simp)).trans (o2.mono fun n hn => List.mem_cons_of_mem _ hn)
      refine ⟨r.2, oB, M.back (x' := (⟨k, M.x.items⟩ : BxH)) (y' := mkB k y) (arGet_of (fun n hn => by injection hn with hn; rw [← hn]; exact o2.same _ M.out) (arSet_get (c := .bxH) M.get)) ⟨_, t3, rfl⟩ oB, fun r' hr' => ?_⟩
      apply laws_markBoxS_p_l1_le
      simp only [hi, decide_true, cond_true, idxN_eq (show 0 ≤ (j : Int) by omega) hi, Int.toNat_natCast, bnd_some, M.hid, arRow_eq M.get M.at_, arRow_set M.get hlt, wrap_id (n := k + 1) (by omega) (by omega), e, wrap_succ (show (j : Int) < 9223372036854775807 by omega)]
      rw [e1, show k + 1 + (y.items.length : Int) = k + ((nB y : Nat) : Int) by unfold nB; omega]
      exact hr')
    (fun _ => Nat.le_refl _) (by rw [hc]; exact hl) l [] k A hq hT (Only.refl _ _) h0 hk
  exact Ok.bnd this fun r hr => Ok.of hr

def nW (v : Wld) : Nat := wsum nT v.tasks + wsum nB v.boxes + v.out.length

def mkW (k : Int) (v : Wld) : Wld := ⟨mks nT mkT k v.tasks, mks nB mkB (k + wsum nT v.tasks) v.boxes, v.turn, v.idle, mkI (k + wsum nT v.tasks + wsum nB v.boxes) v.out⟩

/-- A world that is not too large. -/
structure SzW (v : Wld) : Prop where
  tasks : (v.tasks.length : Int) ≤ 4611686018427387904
  vars : ∀ t ∈ v.tasks, (t.vars.length : Int) ≤ 4294967296
  boxes : (v.boxes.length : Int) ≤ 4611686018427387904
  items : ∀ t ∈ v.boxes, (t.items.length : Int) ≤ 4294967296
  out : (v.out.length : Int) ≤ 4294967296
  sum : (1 + wsum bT v.tasks + wsum nB v.boxes + v.out.length : Nat) ≤ 4611686018427387904

theorem Rw.wld_view {A : List Ent} {x : WldH} {y : Wld} {s : List Nat} (h : Rw A .wldH x y s) (hn : s.Nodup) : arView A .tkH x.tasks.id = some y.tasks ∧ arView A .bxH x.boxes.id = some y.boxes ∧ arView A .int x.out.id = some y.out ∧ x.turn = y.turn ∧ x.idle = y.idle := by
  obtain ⟨l, r, o, s1, s2, s3, h1, h2, h3, rfl, rfl⟩ := (show ∃ l r o s1 s2 s3, Tr A .tkH x.tasks l s1 ∧ Tr A .bxH x.boxes r s2 ∧ Tr A .int x.out o s3 ∧ y = ⟨l, r, x.turn, x.idle, o⟩ ∧ s = s1 ++ (s2 ++ s3) from h)
  rw [List.nodup_append, List.nodup_append] at hn
  exact ⟨h1.view hn.1, h2.view hn.2.1.1, h3.view hn.2.1.2.1, rfl, rfl⟩

theorem laws_markWorld_p_ok {A : List Ent} {x : WldH} {y : Wld} {s : List Nat} (h : Rw A .wldH x y s) (hn : s.Nodup) (hs : SzW y) : Ok (laws_markWorld_p x 1 A) fun r => r.1 = 1 + nW y ∧ Rw r.2 .wldH x (mkW 1 y) s ∧ Only s A r.2 := by
  apply Ok.le (laws_markWorld_p_le x 1 A)
  obtain ⟨l, r, o, s1, s2, s3, h1, h2, h3, hy, rfl⟩ := (show ∃ l r o s1 s2 s3, Tr A .tkH x.tasks l s1 ∧ Tr A .bxH x.boxes r s2 ∧ Tr A .int x.out o s3 ∧ y = ⟨l, r, x.turn, x.idle, o⟩ ∧ s = s1 ++ (s2 ++ s3) from h)
  rw [List.nodup_append, List.nodup_append] at hn
  obtain ⟨n1, ⟨n2, n3, d23⟩, d1⟩ := hn
  have hsum := hs.sum
  have e0 : l = y.tasks := by rw [hy]
  have e1 : r = y.boxes := by rw [hy]
  have e2 : o = y.out := by rw [hy]
  subst e0 e1 e2
  have hle := wsum_le nT_le y.tasks
  refine Ok.bnd (laws_markTaskS_p_ok (k := 1) h1 n1 (by omega) hs.tasks hs.vars (by omega)) fun q1 ⟨e3, t1, o1⟩ => ?_
  refine Ok.bnd (laws_markBoxS_p_ok (k := q1.1) (h2.only o1 fun n hn hm => d1 n hm n (by simp [hn]) rfl) n2 (by omega) hs.boxes hs.items (by omega)) fun q2 ⟨e4, t2, o2⟩ => ?_
  refine Ok.bnd (markI_ok (k := q2.1) ((h3.only o1 fun n hn hm => d1 n hm n (by simp [hn]) rfl).only o2 fun n hn hm => d23 n hm n hn rfl) hs.out (by omega) (by omega)) fun q3 ⟨e5, t3, o3⟩ => ?_
  have ea : q1.1 = 1 + (wsum nT y.tasks : Int) := e3
  have eb : q2.1 = 1 + (wsum nT y.tasks : Int) + wsum nB y.boxes := by rw [e4, ea]
  rw [ea] at t2
  rw [eb] at t3
  refine Ok.of ⟨by dsimp only [nW]; omega, ⟨_, _, _, s1, s2, s3, (t1.only o2 fun n hn hm => d1 n hn n (by simp [hm]) rfl).only o3 (fun n hn hm => d1 n hn n (by simp [hm]) rfl), t2.only o3 (fun n hn hm => d23 n hn n hm rfl), t3, ?_, rfl⟩, ((o1.mono fun n hn => by simp [hn]).trans (o2.mono fun n hn => by simp [hn])).trans (o3.mono fun n hn => by simp [hn])⟩
  unfold mkW
  have ht : y.turn = x.turn := by rw [hy]
  have hi : y.idle = x.idle := by rw [hy]
  rw [ht, hi]

theorem fill_list {c : TC} (hf : flatC c) {l : List (Den c.seen)} {A : List Ent} {h : Hd} {T : Den c.seen → List Ent → Option (Den c × List Ent)} {L : Int → List Ent → Option (Hd × List Ent)}
    (hend : ∀ (i : Int) (B : List Ent), ¬ (i < (l.length : Int)) → L i B = some (h, B))
    (hstep : ∀ (j : Nat) (B : List Ent) (r : Den c × List Ent) (z : Den c) (hj : j < l.length), ((h.n : Nat) : Int) = l.length → T l[j] B = some r → arRow r.2 c h.id j = some z → ∀ q, L ((j + 1 : Nat) : Int) (arSet r.2 c h.id j r.1) = some q → L j B = some q)
    (hp : ∀ y ∈ l, ∀ B : List Ent, Ok (T y B) fun r => ∃ s, MkR B c r.1 y r.2 s) : ∀ (d i : Nat) (b : List (Den c.seen)) (B : List Ent), i + d = l.length → b.length = l.length → b.take i = l.take i → (∃ ids, Mk A c b h B ids) →
    Ok (L i B) fun r => r.1 = h ∧ ∃ ids, Mk A c l h r.2 ids
  | 0, i, b, B, hd, hb, ht, hm => by
    have : b = l := by rw [List.take_of_length_le (by omega), List.take_of_length_le (by omega)] at ht; exact ht
    subst this
    rw [hend i B (by omega)]
    exact Ok.of ⟨rfl, hm⟩
  | d + 1, i, b, B, hd, hb, ht, ⟨ids, hm⟩ => by
    have hi : i < l.length := by omega
    have hc := hm.tr.cnt
    obtain ⟨r, e, s, hr⟩ := hp _ (List.getElem_mem hi) B
    obtain ⟨⟨z, hz⟩, hput⟩ := hm.put hf (j := i) (by omega) hr
    obtain ⟨q, e2, q1, q2⟩ := fill_list hf hend hstep hp d (i + 1) (b.set i l[i]) _ (by omega) (by simpa using hb) (set_take hi hb ht) hput
    exact ⟨q, hstep i B r z hi (by omega) e hz q e2, q1, q2⟩

theorem laws_toIntS_p_mk {a : List Int} (hl : (a.length : Int) ≤ 4294967296) (A : List Ent) : Ok (laws_toIntS_p a A) fun r => ∃ ids, Mk A .int a r.1 r.2 ids := (laws_toIntS_p_ok hl A).mono fun r hr => ⟨_, hr.2.1.toMk⟩

def ilen (l : List Int) : Nat := l.length

theorem laws_markIntSS_p_ok {l : List (List Int)} {h : Hd} {ids : List Nat} {A : List Ent} {k : Int} (hT : Tr A .intsH h l ids) (nd : ids.Nodup) (h0 : 0 ≤ k) (hl : (l.length : Int) ≤ 4611686018427387904) (hq : ∀ t ∈ l, (t.length : Int) ≤ 4294967296) (hk : k + wsum ilen l ≤ 4611686018427387904) :
    Ok (laws_markIntSS_p h k A) fun r => r.1 = k + wsum ilen l ∧ Tr r.2 .intsH h (mks ilen mkI k l) ids ∧ Only ids A r.2 := by
  apply Ok.le (laws_markIntSS_p_le _ _ _)
  have hc := hT.cnt
  have := mark_list (c := .intsH) (h := h) (ids := ids) (A := A) (w := ilen) (b := ilen) (mk := mkI) (Q := fun t => (t.length : Int) ≤ 4294967296) (L := fun k i B => laws_markIntSS_p_l1 h k i B) nd
    (fun k i B hi => by
      apply laws_markIntSS_p_l1_le
      simp only [hi, decide_false, cond_false])
    (fun j k B y l hqy hi hb M h0 hk => by
      unfold ilen at hk
      obtain ⟨r, e, e1, t1, o1⟩ := markI_ok (k := k) (show Tr B .int M.x y M.s from M.row) hqy h0 (by omega)
      have oB : Only (M.i :: M.s) B r.2 := o1.mono fun n hn => List.mem_cons_of_mem _ hn
      have g1 : arGet r.2 .intsH (some M.i) = some M.rows := arGet_of (fun n hn => by injection hn with hn; rw [← hn]; exact o1.same _ M.out) M.get
      refine ⟨r.2, oB, M.back (x' := M.x) (y' := mkI k y) (row_self g1 M.at_) t1 oB, fun r' hr' => ?_⟩
      apply laws_markIntSS_p_l1_le
      simp only [hi, decide_true, cond_true, idxN_eq (show 0 ≤ (j : Int) by omega) hi, Int.toNat_natCast, bnd_some, M.hid, arRow_eq M.get M.at_, e, e1, wrap_succ (show (j : Int) < 9223372036854775807 by omega)]
      exact hr')
    (fun _ => Nat.le_refl _) (by rw [hc]; exact hl) l [] k A hq hT (Only.refl _ _) h0 hk
  exact Ok.bnd this fun r hr => Ok.of hr

theorem laws_heldIntSS_eq {l : List (List Int)} {k : Int} (h0 : 0 ≤ k) (hl : (l.length : Int) ≤ 4611686018427387904) (hq : ∀ t ∈ l, (t.length : Int) ≤ 4294967296) (hk : k + wsum ilen l ≤ 4611686018427387904) : laws_heldIntSS (mks ilen mkI k l) k = some (k + wsum ilen l) := by
  apply laws_heldIntSS_le
  have := held_list (w := ilen) (b := ilen) (mk := mkI) (Q := fun t => (t.length : Int) ≤ 4294967296) (H := laws_heldIntSS_l1) (L := mks ilen mkI k l)
    (fun k i hi => by
      apply laws_heldIntSS_l1_le
      simp only [hi, decide_false, cond_false])
    (fun j k y hqy hi hg h0 hk r hr => by
      apply laws_heldIntSS_l1_le
      unfold ilen at hk hr
      have hn : ¬ (k + (y.length : Int) < 0) := by omega
      have hlen : (j : Int) < 4611686018427387904 := by rw [mks_len] at hi; omega
      simp only [hi, decide_true, cond_true, geti_nat', hg, bnd_some, laws_heldIntS_eq (l := y) (by omega) h0 (by omega), hn, decide_false, cond_false, wrap_succ (show (j : Int) < 9223372036854775807 by omega)]
      exact hr)
    (fun _ => Nat.le_refl _) l [] k hq rfl h0 hk
  have e : laws_heldIntSS_l1 (mks ilen mkI k l) k 0 = some (.inl (k + wsum ilen l)) := this
  rw [e]; simp [selm]

def one (b : Bool) : Nat := 1

def mkF (k : Int) (b : Bool) : Bool := decide (Int.tmod k 3 = 0)

theorem wsum_one : ∀ l : List Bool, wsum one l = l.length
  | [] => rfl
  | b :: r => by have := wsum_one r; simp only [wsum, one, List.length_cons]; omega

theorem laws_markBoolS_p_ok {l : List Bool} {h : Hd} {ids : List Nat} {A : List Ent} {k : Int} (hT : Tr A .bool h l ids) (nd : ids.Nodup) (h0 : 0 ≤ k) (hl : (l.length : Int) ≤ 4611686018427387904) (hk : k + wsum one l ≤ 4611686018427387904) :
    Ok (laws_markBoolS_p h k A) fun r => r.1 = k + wsum one l ∧ Tr r.2 .bool h (mks one mkF k l) ids ∧ Only ids A r.2 := by
  apply Ok.le (laws_markBoolS_p_le _ _ _)
  have hc := hT.cnt
  have := mark_list (c := .bool) (h := h) (ids := ids) (A := A) (w := one) (b := one) (mk := mkF) (Q := fun _ => True) (L := fun k i B => laws_markBoolS_p_l1 h k i B) nd
    (fun k i B hi => by
      apply laws_markBoolS_p_l1_le
      simp only [hi, decide_false, cond_false])
    (fun j k B y l _ hi hb M h0 hk => by
      unfold one at hk
      obtain ⟨hy, hs⟩ := (show y = M.x ∧ M.s = [] from M.row)
      have o1 : Only [M.i] B (arSet B .bool (some M.i) j (decide (Int.tmod k 3 = 0))) := set_only (c := .bool) (by simp)
      refine ⟨_, o1.mono (by simp), M.back (x' := (decide (Int.tmod k 3 = 0) : Bool)) (y' := mkF k y) (arSet_get (c := .bool) M.get) ⟨rfl, hs⟩ (o1.mono (by simp)), fun r' hr' => ?_⟩
      apply laws_markBoolS_p_l1_le
      simp only [hi, decide_true, cond_true, idxN_eq (show 0 ≤ (j : Int) by omega) hi, Int.toNat_natCast, bnd_some, M.hid, arRow_eq M.get M.at_, wrap_id (n := k + 1) (by omega) (by omega), wrap_succ (show (j : Int) < 9223372036854775807 by omega)]
      exact hr')
    (fun _ => Nat.le_refl _) (by rw [hc]; exact hl) l [] k A (fun _ _ => trivial) hT (Only.refl _ _) h0 hk
  exact Ok.bnd this fun r hr => Ok.of hr

theorem laws_heldBoolS_eq {l : List Bool} {k : Int} (h0 : 0 ≤ k) (hl : (l.length : Int) ≤ 4611686018427387904) (hk : k + wsum one l ≤ 4611686018427387904) : laws_heldBoolS (mks one mkF k l) k = some (k + wsum one l) := by
  apply laws_heldBoolS_le
  have := held_list (w := one) (b := one) (mk := mkF) (Q := fun _ => True) (H := laws_heldBoolS_l1) (L := mks one mkF k l)
    (fun k i hi => by
      apply laws_heldBoolS_l1_le
      simp only [hi, decide_false, cond_false])
    (fun j k y _ hi hg h0 hk r hr => by
      apply laws_heldBoolS_l1_le
      unfold one at hk
      have hlen : (j : Int) < 4611686018427387904 := by rw [mks_len] at hi; omega
      simp only [hi, decide_true, cond_true, geti_nat', hg, bnd_some, mkF, beq_self_eq_true, Bool.not_true, cond_false, wrap_id (n := k + 1) (by omega) (by omega), wrap_succ (show (j : Int) < 9223372036854775807 by omega)]
      exact hr)
    (fun _ => Nat.le_refl _) l [] k (fun _ _ => trivial) rfl h0 hk
  have e : laws_heldBoolS_l1 (mks one mkF k l) k 0 = some (.inl (k + wsum one l)) := this
  rw [e]; simp [selm]

def nO (o : Otc) : Nat := o.out.length + wsum ilen o.items + wsum one o.ended

def mkO (k : Int) (o : Otc) : Otc := ⟨mkI k o.out, mks ilen mkI (k + o.out.length) o.items, mks one mkF (k + o.out.length + wsum ilen o.items) o.ended, o.rest⟩

structure SzO (o : Otc) : Prop where
  out : (o.out.length : Int) ≤ 4294967296
  items : (o.items.length : Int) ≤ 4294960000
  each : ∀ t ∈ o.items, (t.length : Int) ≤ 4294967296
  ended : (o.ended.length : Int) ≤ 4294960000
  sum : 1 + o.out.length + wsum ilen o.items + wsum one o.ended ≤ 4611686018427387904

theorem Rw.otc_view {A : List Ent} {x : OtcH} {y : Otc} {s : List Nat} (h : Rw A .otcH x y s) (hn : s.Nodup) : arView A .int x.out.id = some y.out ∧ arView A .intsH x.items.id = some y.items ∧ arView A .bool x.ended.id = some y.ended ∧ x.rest = y.rest := by
  obtain ⟨l, r, o, s1, s2, s3, h1, h2, h3, rfl, rfl⟩ := (show ∃ l r o s1 s2 s3, Tr A .int x.out l s1 ∧ Tr A .intsH x.items r s2 ∧ Tr A .bool x.ended o s3 ∧ y = ⟨l, r, o, x.rest⟩ ∧ s = s1 ++ (s2 ++ s3) from h)
  rw [List.nodup_append, List.nodup_append] at hn
  exact ⟨h1.view hn.1, h2.view hn.2.1.1, h3.view hn.2.1.2.1, rfl⟩

theorem laws_markOutcome_p_ok {A : List Ent} {x : OtcH} {y : Otc} {s : List Nat} (h : Rw A .otcH x y s) (hn : s.Nodup) (hs : SzO y) : Ok (laws_markOutcome_p x 1 A) fun r => r.1 = 1 + nO y ∧ Rw r.2 .otcH x (mkO 1 y) s ∧ Only s A r.2 := by
  apply Ok.le (laws_markOutcome_p_le x 1 A)
  obtain ⟨l, r, o, s1, s2, s3, h1, h2, h3, hy, rfl⟩ := (show ∃ l r o s1 s2 s3, Tr A .int x.out l s1 ∧ Tr A .intsH x.items r s2 ∧ Tr A .bool x.ended o s3 ∧ y = ⟨l, r, o, x.rest⟩ ∧ s = s1 ++ (s2 ++ s3) from h)
  rw [List.nodup_append, List.nodup_append] at hn
  obtain ⟨n1, ⟨n2, n3, d23⟩, d1⟩ := hn
  have hsum := hs.sum
  have e0 : l = y.out := by rw [hy]
  have e1 : r = y.items := by rw [hy]
  have e2 : o = y.ended := by rw [hy]
  subst e0 e1 e2
  have hi := hs.items
  have he := hs.ended
  refine Ok.bnd (markI_ok (k := 1) h1 hs.out (by omega) (by omega)) fun q1 ⟨e3, t1, o1⟩ => ?_
  refine Ok.bnd (laws_markIntSS_p_ok (k := q1.1) (h2.only o1 fun n hn hm => d1 n hm n (by simp [hn]) rfl) n2 (by omega) (by omega) hs.each (by omega)) fun q2 ⟨e4, t2, o2⟩ => ?_
  refine Ok.bnd (laws_markBoolS_p_ok (k := q2.1) ((h3.only o1 fun n hn hm => d1 n hm n (by simp [hn]) rfl).only o2 fun n hn hm => d23 n hm n hn rfl) n3 (by omega) (by omega) (by omega)) fun q3 ⟨e5, t3, o3⟩ => ?_
  have ea : q1.1 = 1 + (y.out.length : Int) := e3
  have eb : q2.1 = 1 + (y.out.length : Int) + wsum ilen y.items := by rw [e4, ea]
  rw [ea] at t2
  rw [eb] at t3
  refine Ok.of ⟨by dsimp only [nO]; omega, ⟨_, _, _, s1, s2, s3, (t1.only o2 fun n hn hm => d1 n hn n (by simp [hm]) rfl).only o3 (fun n hn hm => d1 n hn n (by simp [hm]) rfl), t2.only o3 (fun n hn hm => d23 n hn n hm rfl), t3, ?_, rfl⟩, ((o1.mono fun n hn => by simp [hn]).trans (o2.mono fun n hn => by simp [hn])).trans (o3.mono fun n hn => by simp [hn])⟩
  unfold mkO
  have ht : y.rest = x.rest := by rw [hy]
  rw [ht]

theorem laws_heldOutcome_eq {y : Otc} (hs : SzO y) : laws_heldOutcome (mkO 1 y) 1 = some (1 + nO y) := by
  apply laws_heldOutcome_le
  have hsum := hs.sum
  have hi := hs.items
  have he := hs.ended
  have n1 : ¬ (1 + (y.out.length : Int) < 0) := by omega
  have n2 : ¬ (1 + (y.out.length : Int) + wsum ilen y.items < 0) := by omega
  have n3 : ¬ (1 + (y.out.length : Int) + wsum ilen y.items + wsum one y.ended < 0) := by omega
  simp only [mkO, laws_heldIntS_eq (l := y.out) (k := 1) (by have := hs.out; omega) (by omega) (by omega), bnd_some, n1, decide_false, cond_false, laws_heldIntSS_eq (l := y.items) (k := 1 + y.out.length) (by omega) (by omega) hs.each (by omega), n2, laws_heldBoolS_eq (l := y.ended) (k := 1 + y.out.length + wsum ilen y.items) (by omega) (by omega) (by omega), n3]
  congr 1
  unfold nO; omega

theorem eqIntSS_l {a : List (List Int)} (hl : (a.length : Int) ≤ 4294967296) (hp : ∀ e ∈ a, laws_eqIntS e e = some true) : ∀ (d i : Nat), i + d = a.length → laws_eqIntSS_l1 a a i = some (.inl ())
  | 0, i, hd => by
    apply laws_eqIntSS_l1_le
    have hi : ¬ ((i : Int) < a.length) := by omega
    simp [hi]
  | d + 1, i, hd => by
    apply laws_eqIntSS_l1_le
    have hi : i < a.length := by omega
    have hi' : (i : Int) < a.length := by omega
    rw [geti_some hi, wrap_succ (by omega)]
    simp only [hi', decide_true, cond_true, bnd_some, hp _ (List.getElem_mem hi), Bool.not_true, cond_false]
    exact eqIntSS_l hl hp d (i + 1) (by omega)

theorem eqBoolS_l {a : List Bool} (hl : (a.length : Int) ≤ 4294967296) : ∀ (d i : Nat), i + d = a.length → laws_eqBoolS_l1 a a i = some (.inl ())
  | 0, i, hd => by
    apply laws_eqBoolS_l1_le
    have hi : ¬ ((i : Int) < a.length) := by omega
    simp [hi]
  | d + 1, i, hd => by
    apply laws_eqBoolS_l1_le
    have hi : i < a.length := by omega
    have hi' : (i : Int) < a.length := by omega
    rw [geti_some hi, wrap_succ (by omega)]
    simp only [hi', decide_true, cond_true, bnd_some, beq_self_eq_true, Bool.not_true, cond_false]
    exact eqBoolS_l hl d (i + 1) (by omega)

theorem laws_eqOutcome_refl {o : Otc} (hs : SzO o) : laws_eqOutcome o o = some true := by
  apply laws_eqOutcome_le
  have h1 := hs.items
  have h2 := hs.ended
  have e1 : laws_eqIntSS o.items o.items = some true := by
    apply laws_eqIntSS_le
    rw [show (0 : Int) = ((0 : Nat) : Int) by rfl, eqIntSS_l (by omega) (fun e he => laws_eqIntS_refl (by have := hs.each e he; omega)) o.items.length 0 (by omega)]
    simp [selm]
  have e2 : laws_eqBoolS o.ended o.ended = some true := by
    apply laws_eqBoolS_le
    rw [show (0 : Int) = ((0 : Nat) : Int) by rfl, eqBoolS_l (by omega) o.ended.length 0 (by omega)]
    simp [selm]
  rw [laws_eqIntS_refl (by have := hs.out; omega), bnd_some, e1, bnd_some, e2]
  simp

theorem laws_toTask_p_ok {t : Tk} (hv : (t.vars.length : Int) ≤ 4294967296) (hm : mSs t.rest ≤ 4294967296) (A : List Ent) : Ok (laws_toTask_p t A) fun r => ∃ s, MkR A .tkH r.1 t r.2 s := by
  apply Ok.le (laws_toTask_p_le _ _)
  refine Ok.bnd (laws_toIntS_p_mk hv A) fun r1 ⟨i1, m1⟩ => ?_
  refine Ok.bnd (laws_toStmtS_p_ok hm r1.2) fun r2 ⟨i2, m2⟩ => ?_
  have hR := MkR.tk (m1.keep m2.grow) (m2.base m1.grow) (m1.apart m2.new)
  exact Ok.of ⟨_, hR⟩

theorem laws_toBox_p_ok {t : Bx} (hv : (t.items.length : Int) ≤ 4294967296) (A : List Ent) : Ok (laws_toBox_p t A) fun r => ∃ s, MkR A .bxH r.1 t r.2 s := by
  apply Ok.le (laws_toBox_p_le _ _)
  refine Ok.bnd (laws_toIntS_p_mk hv A) fun r1 ⟨i1, m1⟩ => ?_
  have hR := MkR.bx m1 t.room
  exact Ok.of ⟨_, hR⟩

theorem laws_toTaskS_p_ok {l : List Tk} (hl : (l.length : Int) ≤ 4294967296) (hm : ∀ x ∈ l, mT x ≤ 4294967296) (A : List Ent) : Ok (laws_toTaskS_p l A) fun r => ∃ ids, Mk A .tkH l r.1 r.2 ids := by
  apply Ok.le (laws_toTaskS_p_le _ _)
  rw [made_eq hl, bnd_some]
  have h0 := Mk.zero (A := A) flatC_tkH zero_tk l.length
  have := fill_list flatC_tkH (l := l) (A := A) (h := ⟨some A.length, l.length⟩) (T := laws_toTask_p) (L := fun i B => laws_toTaskS_p_l1 l ⟨some A.length, l.length⟩ i B)
    (fun i B hi => by
      apply laws_toTaskS_p_l1_le
      simp only [hi, decide_false, cond_false])
    (fun j B r z hj hn e hz q hq => by
      apply laws_toTaskS_p_l1_le
      have hj' : (j : Int) < (l.length : Int) := by omega
      simp only [hj', decide_true, cond_true, geti_some hj, bnd_some, e, idxN_eq (n := l.length) (show 0 ≤ (j : Int) by omega) hj', Int.toNat_natCast, hz, wrap_succ (show (j : Int) < 9223372036854775807 by omega)]
      exact hq)
    (fun y hy B => laws_toTask_p_ok (by have := hm y hy; unfold mT at this; omega) (by have := hm y hy; unfold mT at this; omega) B) l.length 0 _ _ (by omega) (by simp) (by simp) h0
  refine Ok.bnd this fun r ⟨e1, hr⟩ => ?_
  exact Ok.of (by dsimp only; rw [e1]; exact hr)

theorem laws_toBoxS_p_ok {l : List Bx} (hl : (l.length : Int) ≤ 4294967296) (hm : ∀ x ∈ l, mB x ≤ 4294967296) (A : List Ent) : Ok (laws_toBoxS_p l A) fun r => ∃ ids, Mk A .bxH l r.1 r.2 ids := by
  apply Ok.le (laws_toBoxS_p_le _ _)
  rw [made_eq hl, bnd_some]
  have h0 := Mk.zero (A := A) flatC_bxH zero_bx l.length
  have := fill_list flatC_bxH (l := l) (A := A) (h := ⟨some A.length, l.length⟩) (T := laws_toBox_p) (L := fun i B => laws_toBoxS_p_l1 l ⟨some A.length, l.length⟩ i B)
    (fun i B hi => by
      apply laws_toBoxS_p_l1_le
      simp only [hi, decide_false, cond_false])
    (fun j B r z hj hn e hz q hq => by
      apply laws_toBoxS_p_l1_le
      have hj' : (j : Int) < (l.length : Int) := by omega
      simp only [hj', decide_true, cond_true, geti_some hj, bnd_some, e, idxN_eq (n := l.length) (show 0 ≤ (j : Int) by omega) hj', Int.toNat_natCast, hz, wrap_succ (show (j : Int) < 9223372036854775807 by omega)]
      exact hq)
    (fun y hy B => laws_toBox_p_ok (by have := hm y hy; unfold mB at this; omega) B) l.length 0 _ _ (by omega) (by simp) (by simp) h0
  refine Ok.bnd this fun r ⟨e1, hr⟩ => ?_
  exact Ok.of (by dsimp only; rw [e1]; exact hr)

theorem laws_toWorld_p_ok {v : Wld} (h : mW v ≤ 4294967296) (A : List Ent) : Ok (laws_toWorld_p v A) fun r => ∃ s, MkR A .wldH r.1 v r.2 s := by
  apply Ok.le (laws_toWorld_p_le _ _)
  obtain ⟨h1, h2, h3, h4, h5⟩ := mW_parts h
  refine Ok.bnd (laws_toTaskS_p_ok h1 h2 A) fun r1 ⟨i1, m1⟩ => ?_
  refine Ok.bnd (laws_toBoxS_p_ok h3 h4 r1.2) fun r2 ⟨i2, m2⟩ => ?_
  refine Ok.bnd (laws_toIntS_p_mk h5 r2.2) fun r3 ⟨i3, m3⟩ => ?_
  have g2 := m2.grow
  have g3 := m3.grow
  have hR := MkR.wld ((m1.keep g2).keep g3) ((m2.base m1.grow).keep g3) (m3.base (m1.grow.trans g2)) (m1.apart m2.new) (m1.apart fun n hn => Nat.le_trans g2.len (m3.new n hn)) (m2.apart m3.new) v.turn v.idle
  exact Ok.of ⟨_, hR⟩

theorem clone_p_mk {l : List Int} (hl : (l.length : Int) ≤ 4294967296) (A : List Ent) : Ok (slices_Clone___int_int__p l A) fun r => ∃ ids, Mk A .int l r.1 r.2 ids := by
  apply Ok.le (slices_Clone___int_int__p_le l A)
  rw [if_pos (by omega)]
  exact Ok.of ⟨_, (Made.push (A := A) (B := A) (c := .int) (l := l) (Grow.refl A) flatC_int).toMk⟩

theorem outcomeOfp_l {l : List Bx} {A : List Ent} {x0 x1 x2 : Hd} {f3 : Bool} {ho he : Hd} {rs : Bool} (hl : (l.length : Int) ≤ 4294967295) (hm : ∀ b ∈ l, mB b ≤ 4294967296) : ∀ (d i : Nat) (h : Hd) (B : List Ent), i + d = l.length → (∃ ids, Mk A .intsH (itemsOf (l.take i)) h B ids) →
    Ok (impl_outcomeOf_p_l1 l l.length i x0 x1 x2 f3 ho h he rs B) fun r => r.2.2.2.2.1 = ho ∧ (∃ ids, Mk A .intsH (itemsOf l) r.2.2.2.2.2.1 r.2.2.2.2.2.2.2.2 ids) ∧ r.2.2.2.2.2.2.1 = he ∧ r.2.2.2.2.2.2.2.1 = rs
  | 0, i, h, B, hd, hmk => by
    apply Ok.le (impl_outcomeOf_p_l1_le _ _ _ _ _ _ _ _ _ _ _ _)
    have hi : ¬ ((i : Int) < l.length) := by omega
    simp only [hi, decide_false, cond_false]
    rw [List.take_of_length_le (by omega)] at hmk
    exact Ok.of ⟨rfl, hmk, rfl, rfl⟩
  | d + 1, i, h, B, hd, ⟨ids, hmk⟩ => by
    apply Ok.le (impl_outcomeOf_p_l1_le _ _ _ _ _ _ _ _ _ _ _ _)
    have hi : i < l.length := by omega
    have hi' : (i : Int) < l.length := by omega
    have hc := hmk.tr.cnt
    simp only [itemsOf, List.length_map, List.length_take] at hc
    have hb := hm _ (List.getElem_mem hi)
    unfold mB at hb
    simp only [hi', decide_true, cond_true, geti_some hi, bnd_some, wrap_succ (show (i : Int) < 9223372036854775807 by omega)]
    refine Ok.bnd (clone_p_mk (l := l[i].items) (by omega) B) fun r ⟨s, hr⟩ => ?_
    refine Ok.bnd (hmk.app flatC_intsH (MkR.ints hr) (by omega)) fun B3 hB3 => ?_
    rw [items_take hi] at hB3
    exact outcomeOfp_l hl hm d (i + 1) _ B3 (by omega) hB3

theorem endsp_l {l : List Tk} (hl : (l.length : Int) ≤ 4294960000) {A : List Ent} {x0 x1 x2 : Hd} {f3 : Bool} {ho hi_ : Hd} {rs : Bool} : ∀ (d i : Nat) (h : Hd) (B : List Ent), i + d = l.length → Made .bool A ((l.take i).map endOf) h B →
    Ok (impl_WorldOutcome_p_l1 l l.length i x0 x1 x2 f3 ho hi_ h rs B) fun q => q.2.2.2.2.1 = ho ∧ q.2.2.2.2.2.1 = hi_ ∧ q.2.2.2.2.2.2.2.1 = rs ∧ Made .bool A (l.map endOf) q.2.2.2.2.2.2.1 q.2.2.2.2.2.2.2.2
  | 0, i, h, B, hd, hg => by
    apply Ok.le (impl_WorldOutcome_p_l1_le _ _ _ _ _ _ _ _ _ _ _ _)
    have hi : ¬ ((i : Int) < l.length) := by omega
    simp only [hi, decide_false, cond_false]
    rw [List.take_of_length_le (by omega)] at hg
    exact Ok.of ⟨rfl, rfl, rfl, hg⟩
  | d + 1, i, h, B, hd, hg => by
    apply Ok.le (impl_WorldOutcome_p_l1_le _ _ _ _ _ _ _ _ _ _ _ _)
    have hi : i < l.length := by omega
    have hi' : (i : Int) < l.length := by omega
    have hn := hg.cnt
    simp only [List.length_map, List.length_take] at hn
    simp only [hi', decide_true, cond_true, geti_some hi, bnd_some, wrap_succ (show (i : Int) < 9223372036854775807 by omega)]
    refine Ok.bnd (Made.app (c := .bool) hg (ys := [decide ((l[i].rest.length : Int) = 0)]) flatC_bool (by simp; omega)) fun B2 hB2 => ?_
    have g2 := hB2.1
    rw [ends_take hi] at g2
    exact endsp_l hl d (i + 1) _ B2 (by omega) g2

theorem impl_WorldOutcome_p_ok {v : Wld} (h : mW v ≤ 4294960000) (A : List Ent) : Ok (impl_WorldOutcome_p v A) fun r => ∃ s, MkR A .otcH r.1 (outV v) r.2 s := by
  apply Ok.le (impl_WorldOutcome_p_le _ _)
  obtain ⟨h1, h2, h3, h4, h5⟩ := mW_parts (v := v) (by omega)
  have hb : v.boxes.length ≤ 4294960000 := by have := mBs_len v.boxes; unfold mW at h; omega
  have ht : v.tasks.length ≤ 4294960000 := by have := mTs_len v.tasks; unfold mW at h; omega
  refine Ok.bnd (Ok.eq (impl_WorldValid_eq (by omega))) fun r1 e1 => ?_
  subst e1
  refine Ok.bif (fun hc => ?_) (fun hc => ?_)
  · have hc : worldOk v = false := by simpa using hc
    have e : outV v = ⟨[], [], [], false⟩ := by unfold outV; rw [hc]; rfl
    rw [e]
    exact Ok.of ⟨_, MkR.otc (Mk.nil .int (Grow.refl A)) (Mk.nil .intsH (Grow.refl A)) (Mk.nil .bool (Grow.refl A)) (by simp) (by simp) (by simp) false⟩
  · have hc : worldOk v = true := by simpa using hc
    have e : outV v = ⟨v.out, itemsOf v.boxes, v.tasks.map endOf, decide (v.idle = (v.tasks.length : Int))⟩ := by unfold outV; rw [if_pos hc]
    rw [e]
    have ho : Ok (impl_outcomeOf_p v.out v.boxes (decide (v.idle = (v.tasks.length : Int))) A) fun q => ∃ s1 s2 D, Mk A .int v.out q.1.out D s1 ∧ Mk D .intsH (itemsOf v.boxes) q.1.items q.2 s2 ∧ q.1.ended = ⟨none, 0⟩ ∧ q.1.rest = decide (v.idle = (v.tasks.length : Int)) := by
      apply Ok.le (impl_outcomeOf_p_le _ _ _ _)
      refine Ok.bnd (clone_p_mk (l := v.out) (by omega) A) fun r ⟨s1, m1⟩ => ?_
      refine Ok.bnd (outcomeOfp_l (l := v.boxes) (A := r.2) (x0 := ⟨none, 0⟩) (x1 := ⟨none, 0⟩) (x2 := ⟨none, 0⟩) (f3 := false) (ho := r.1) (he := ⟨none, 0⟩) (rs := decide (v.idle = (v.tasks.length : Int))) (by omega) h4 v.boxes.length 0 ⟨none, 0⟩ r.2 (by omega) ⟨[], Mk.nil _ (Grow.refl _)⟩) fun q ⟨q1, ⟨s2, q2⟩, q3, q4⟩ => ?_
      exact Ok.of ⟨s1, s2, r.2, by dsimp only; rw [q1]; exact m1, q2, q3, q4⟩
    refine Ok.bnd ho fun r3 ⟨s1, s2, D, m1, m2, e3, e4⟩ => ?_
    rw [e3, e4]
    refine Ok.bnd (endsp_l (l := v.tasks) (by omega) (A := r3.2) (x0 := ⟨none, 0⟩) (x1 := ⟨none, 0⟩) (x2 := ⟨none, 0⟩) (f3 := false) (ho := r3.1.out) (hi_ := r3.1.items) (rs := decide (v.idle = (v.tasks.length : Int))) v.tasks.length 0 ⟨none, 0⟩ r3.2 (by omega) (Made.nil (Grow.refl _))) fun r4 ⟨q1, q2, q3, q4⟩ => ?_
    have m3 := q4.toMkB
    have hR := MkR.otc ((m1.keep m2.grow).keep m3.grow) ((m2.base m1.grow).keep m3.grow) (m3.base (m1.grow.trans m2.grow)) (m1.apart m2.new) (m1.apart fun n hn => Nat.le_trans m2.grow.len (m3.new n hn)) (m2.apart m3.new) (decide (v.idle = (v.tasks.length : Int)))
    rw [q1, q2, q3]
    exact Ok.of ⟨_, hR⟩

theorem wsum_bT : ∀ l : List Tk, wsum bT l ≤ 5 * mTs l
  | [] => by simp [wsum, mTs]
  | x :: r => by have := wsum_bT r; simp only [wsum, mTs, bT, mT]; omega

theorem wsum_nB : ∀ l : List Bx, wsum nB l ≤ mBs l
  | [] => by simp [wsum, mBs]
  | x :: r => by have := wsum_nB r; simp only [wsum, mBs, nB, mB]; omega

theorem mW_szW {v : Wld} (h : mW v ≤ 1048576) : SzW v := by
  obtain ⟨h1, h2, h3, h4, h5⟩ := mW_parts (v := v) (by omega)
  have q1 := wsum_bT v.tasks
  have q2 := wsum_nB v.boxes
  unfold mW at h
  exact ⟨by omega, fun t ht => by have := h2 t ht; unfold mT at this; omega, by omega, fun t ht => by have := h4 t ht; unfold mB at this; omega, by omega, by omega⟩

theorem wsum_items : ∀ l : List Bx, wsum ilen (itemsOf l) ≤ mBs l
  | [] => by simp [wsum, itemsOf, mBs]
  | x :: r => by
    have := wsum_items r
    unfold itemsOf at this
    simp only [itemsOf, List.map_cons, wsum, mBs, ilen, mB]; omega

theorem outV_szO {v : Wld} (h : mW v ≤ 1048576) : SzO (outV v) := by
  obtain ⟨h1, h2, h3, h4, h5⟩ := mW_parts (v := v) (by omega)
  have q1 := mTs_len v.tasks
  have q2 := mBs_len v.boxes
  have q3 := wsum_items v.boxes
  unfold mW at h
  unfold outV
  split
  · refine ⟨by dsimp only; omega, by simp [itemsOf]; omega, fun t ht => ?_, by simp; omega, ?_⟩
    · simp only [itemsOf, List.mem_map] at ht
      obtain ⟨b, hb, rfl⟩ := ht
      have := h4 b hb
      unfold mB at this; omega
    · rw [wsum_one]; simp only [List.length_map]; omega
  · exact ⟨by simp, by simp, by simp, by simp, by simp [wsum]⟩

theorem laws_FnExactWorldOutcome_eq (v : Wld) (hw : wfW v) : laws_FnExactWorldOutcome v = some true := by
  apply laws_FnExactWorldOutcome_le
  apply Ok.some
  refine Ok.bnd (Ok.eq (laws_szWorld_eq hw)) fun r1 e1 => ?_
  subst e1
  refine Ok.bif (fun _ => Ok.of rfl) (fun hc => ?_)
  have hm : mW v ≤ 1048576 := by
    simp only [decide_eq_false_iff_not] at hc
    rw [left_neg (by omega)] at hc
    omega
  have hz := outV_szO hm
  have hzw := mW_szW hm
  have hnn : (0 : Int) ≤ nO (outV v) := by omega
  refine Ok.bnd (Ok.eq (laws_toWorld_eq (v := v) (by omega))) fun r2 e2 => ?_
  rw [e2]
  refine Ok.bnd (Ok.eq (spec_WorldOutcome_eq (v := v) (by omega))) fun r3 e3 => ?_
  subst e3
  refine Ok.bnd (laws_toWorld_p_ok (v := v) (by omega) []) fun r4 ⟨i4, h4⟩ => ?_
  have v4 := Rw.wld_view h4.rw_ h4.nd
  rw [v4.1, bnd_some, v4.2.1, bnd_some, v4.2.2.1, bnd_some, v4.2.2.2.1, v4.2.2.2.2, wld_eta]
  refine Ok.bnd (impl_WorldOutcome_p_ok (v := v) (by omega) _) fun r8 ⟨i8, h8⟩ => ?_
  refine Ok.bnd (join_ok h8.grow) fun B9 ⟨g9, l9, s9⟩ => ?_
  have h9 := h8.join g9 s9
  have v9 := Rw.otc_view h9.rw_ h9.nd
  rw [v9.1, bnd_some, v9.2.1, bnd_some, v9.2.2.1, bnd_some, v9.2.2.2]
  have heq : laws_eqOutcome (outV v) (outV v) = some true := laws_eqOutcome_refl hz
  refine Ok.bnd (Ok.eq heq) fun r13 e13 => ?_
  subst e13
  refine Ok.bif (fun h => absurd h (by simp)) (fun _ => ?_)
  refine Ok.bnd (Ok.eq (laws_toWorld_eq (v := v) (by omega))) fun r14 e14 => ?_
  rw [e14]
  have h4' := h4.keep g9
  have v4' := Rw.wld_view h4'.rw_ h4'.nd
  rw [v4'.1, bnd_some, v4'.2.1, bnd_some, v4'.2.2.1, bnd_some, wld_eta]
  refine Ok.bnd (Ok.eq (laws_eqWorld_refl (v := v) (by omega))) fun r18 e18 => ?_
  subst e18
  refine Ok.bif (fun h => absurd h (by simp)) (fun _ => ?_)
  have hnw : (0 : Int) ≤ nW v := by omega
  refine Ok.bnd (laws_markWorld_p_ok h4'.rw_ h4'.nd hzw) fun r19 ⟨e19, _, o19⟩ => ?_
  refine Ok.bif (fun h => absurd h (by simp only [decide_eq_true_eq]; omega)) (fun _ => ?_)
  have h20 : Rw r19.2 .otcH r8.1 (outV v) i8 := h9.rw_.only o19 (fun n hn hm => by
    have q1 := h9.new n hn
    have q2 := h4.rw_.lt n hm
    omega)
  have v20 := Rw.otc_view h20 h9.nd
  rw [v20.1, bnd_some, v20.2.1, bnd_some, v20.2.2.1, bnd_some]
  refine Ok.bnd (Ok.eq heq) fun r23 e23 => ?_
  subst e23
  refine Ok.bif (fun h => absurd h (by simp)) (fun _ => ?_)
  refine Ok.bnd (laws_markOutcome_p_ok h20 h9.nd hz) fun r24 ⟨e24, h24, _⟩ => ?_
  have v24 := Rw.otc_view h24 h9.nd
  rw [v24.1, bnd_some, v24.2.1, bnd_some, v24.2.2.1, bnd_some]
  have hheld := laws_heldOutcome_eq hz
  have ew : (⟨(mkO 1 (outV v)).out, (mkO 1 (outV v)).items, (mkO 1 (outV v)).ended, (outV v).rest⟩ : Otc) = mkO 1 (outV v) := rfl
  rw [ew]
  refine Ok.bnd (Ok.eq hheld) fun r28 e28 => ?_
  subst e28
  refine Ok.bif (fun h => absurd h (by simp only [decide_eq_true_eq]; omega)) (fun _ => ?_)
  refine Ok.bif (fun h => absurd h (by simp [e24])) (fun _ => ?_)
  refine Ok.bnd (Ok.eq (laws_toWorld_eq (v := v) (by omega))) fun r29 e29 => ?_
  rw [e29]
  refine Ok.bnd (Ok.eq (impl_WorldOutcome_eq (v := v) (by omega))) fun r30 e30 => ?_
  subst e30
  refine Ok.bnd (Ok.eq heq) fun r31 e31 => ?_
  subst e31
  refine Ok.bif (fun h => absurd h (by simp)) (fun _ => ?_)
  rw [bnd_some, bnd_some, bnd_some, ew]
  refine Ok.bnd (Ok.eq hheld) fun r35 e35 => ?_
  subst e35
  refine Ok.bif (fun h => absurd h (by simp only [decide_eq_true_eq]; omega)) (fun _ => ?_)
  refine Ok.bif (fun h => absurd h (by simp [e24])) (fun _ => ?_)
  exact Ok.of rfl
end Go.TFnExactWorldOutcome
