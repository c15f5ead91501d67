/- The plain law: what the functions answer. -/
import Derived.Test.YtpkgdoapdijmeaaDFnExactWorldValidE0
import Derived.Test.YtpkgdoapdijmeaaDFnExactWorldValidE1
import Derived.Test.YtpkgdoapdijmeaaTvRow3
set_option linter.unusedVariables false
set_option linter.unusedSimpArgs false
namespace Go.TFnExactWorldValid
open Go Go.RowKit Go.Vs Go.Tv
theorem spec_l6In_eq (a b c : Int) : spec_l6In a b c = some (decide (b ≤ a ∧ a ≤ c)) := by
  apply spec_l6In_le
  by_cases h : b ≤ a <;> simp [h]

theorem spec_OpValid_eq (a : Int) : spec_OpValid a = some (decide (1 ≤ a ∧ a ≤ 12)) := by
  apply spec_OpValid_le; simp [spec_l6In_eq]

theorem spec_WordValid_eq (a : Int) : spec_WordValid a = some (decide (-2147483648 ≤ a ∧ a ≤ 2147483647)) := by
  apply spec_WordValid_le; simp [spec_l6In_eq]

theorem impl_OpValid_eq (a : Int) : impl_OpValid a = some (decide (1 ≤ a ∧ a ≤ 12)) := by
  apply impl_OpValid_le
  by_cases h : 1 ≤ a <;> simp [h]

theorem impl_WordValid_eq (a : Int) : impl_WordValid a = some (decide (-2147483648 ≤ a ∧ a ≤ 2147483647)) := by
  apply impl_WordValid_le
  by_cases h : -2147483648 ≤ a <;> simp [h]

theorem geti_some {α : Type} {l : List α} {i : Nat} (h : i < l.length) : geti l (i : Int) = some l[i] := by
  rw [geti_nat', List.getElem?_eq_getElem h]

theorem wrap_succ {i : Nat} (h : (i : Int) < 9223372036854775807) : wrap64 ((i : Int) + 1) = ((i + 1 : Nat) : Int) := by
  rw [wrap_id (by omega) (by omega)]; omega

theorem made_some {n : Nat} (h : (n : Int) ≤ 4294967296) : made (n : Int) = some n := by simp [made]; omega

/-- What a loop that fills a list has done. -/
theorem fill_step {α : Type} {a b : List α} {i : Nat} (hl : b.length = a.length) (hi : i < a.length) (h : b.take i = a.take i) : (b.set i a[i]).take (i + 1) = a.take (i + 1) := by
  rw [List.take_set]
  apply List.ext_getElem?
  intro j
  rw [List.getElem?_set]
  by_cases hj : i = j
  · subst hj
    simp [hl, hi]; omega
  · rw [if_neg hj]
    by_cases hlt : j < i
    · have := congrArg (fun l : List α => l[j]?) h
      simp only [List.getElem?_take] at this ⊢
      rw [if_pos hlt, if_pos hlt] at this
      rw [if_pos (by omega), if_pos (by omega)]; exact this
    · simp only [List.getElem?_take]
      rw [if_neg (by omega), if_neg (by omega)]

theorem exp_eta (e : Exp) : (⟨e.op, e.n, e.args⟩ : Exp) = e := by cases e; rfl

theorem stm_eta (s : Stm) : (⟨s.kind, s.var, s.box, ⟨s.e.op, s.e.n, s.e.args⟩, s.body, s.els⟩ : Stm) = s := by
  obtain ⟨k, v, b, e, bd, el⟩ := s
  cases e; rfl

mutual
theorem Exp.ind {P : Exp → Prop} (h : ∀ e : Exp, (∀ a ∈ e.args, P a) → P e) : ∀ e : Exp, P e
  | ⟨o, n, as⟩ => h ⟨o, n, as⟩ (Exp.inds h as)
theorem Exp.inds {P : Exp → Prop} (h : ∀ e : Exp, (∀ a ∈ e.args, P a) → P e) : ∀ l : List Exp, ∀ a ∈ l, P a
  | [], a, ha => by cases ha
  | e :: r, a, ha => by
    rcases List.mem_cons.1 ha with e1 | h1
    · rw [e1]; exact Exp.ind h e
    · exact Exp.inds h r a h1
end

mutual
theorem Stm.ind {P : Stm → Prop} (h : ∀ s : Stm, (∀ a ∈ s.body, P a) → (∀ a ∈ s.els, P a) → P s) : ∀ s : Stm, P s
  | ⟨k, v, b, e, bd, el⟩ => h ⟨k, v, b, e, bd, el⟩ (Stm.inds h bd) (Stm.inds h el)
theorem Stm.inds {P : Stm → Prop} (h : ∀ s : Stm, (∀ a ∈ s.body, P a) → (∀ a ∈ s.els, P a) → P s) : ∀ l : List Stm, ∀ a ∈ l, P a
  | [], a, ha => by cases ha
  | e :: r, a, ha => by
    rcases List.mem_cons.1 ha with e1 | h1
    · rw [e1]; exact Stm.ind h e
    · exact Stm.inds h r a h1
end

/-- Is an expression valid with at most some depth? -/
def expOk : Nat → Exp → Bool
  | 0, _ => false
  | d + 1, e =>
    if e.op = 0 then decide (0 ≤ e.n ∧ e.n ≤ 99999) && e.args.isEmpty
    else if e.op = 13 then decide (0 ≤ e.n ∧ e.n < 4) && e.args.isEmpty
    else decide (1 ≤ e.op ∧ e.op ≤ 12) && decide (e.n = 0) && match e.args with | [a, b] => expOk d a && expOk d b | _ => false

theorem len0 {α : Type} (l : List α) : ((l.length : Int) = 0) ↔ l = [] := by
  constructor
  · intro h; exact List.eq_nil_of_length_eq_zero (by omega)
  · intro h; subst h; rfl

theorem two_args {l : List Exp} : ((l.length : Int) = 2) ↔ ∃ a b, l = [a, b] := by
  constructor
  · intro h
    match l, h with
    | [a, b], _ => exact ⟨a, b, rfl⟩
    | [], h => simp at h
    | [_], h => simp at h
    | _ :: _ :: _ :: _, h => simp at h; omega
  · rintro ⟨a, b, rfl⟩; rfl

theorem geti0 {α : Type} (a : α) (l : List α) : geti (a :: l) 0 = some a := by simp [geti]

theorem geti1 {α : Type} (a b : α) (l : List α) : geti (a :: b :: l) 1 = some b := by simp [geti]

theorem pred_d (d : Nat) (h : d ≤ 5) : wrap64 (((d + 1 : Nat) : Int) - 1) = (d : Int) := by rw [wrap_id (by omega) (by omega)]; omega

theorem impl_exprValid_eq : ∀ (d : Nat) (e : Exp), d ≤ 5 → impl_exprValid e (d : Int) = some (expOk d e)
  | d, e, hd => by
    apply impl_exprValid_le
    simp only [impl_OpValid_eq, bnd_some, exp_eta]
    by_cases h0 : e.op = 0
    · cases d with
      | zero => by_cases h1 : 0 ≤ e.n <;> by_cases h2 : e.n ≤ 99999 <;> by_cases h3 : e.args = [] <;> simp [h0, h1, h2, h3, expOk, len0]
      | succ d => by_cases h1 : 0 ≤ e.n <;> by_cases h2 : e.n ≤ 99999 <;> by_cases h3 : e.args = [] <;> simp [h0, h1, h2, h3, expOk, len0] <;> omega
    · by_cases h13 : e.op = 13
      · cases d with
        | zero => by_cases h1 : 0 ≤ e.n <;> by_cases h2 : e.n < 4 <;> by_cases h3 : e.args = [] <;> simp [h13, h1, h2, h3, expOk, len0]
        | succ d => by_cases h1 : 0 ≤ e.n <;> by_cases h2 : e.n < 4 <;> by_cases h3 : e.args = [] <;> simp [h13, h1, h2, h3, expOk, len0] <;> omega
      · by_cases h1 : 1 ≤ e.op ∧ e.op ≤ 12
        · by_cases h2 : e.n = 0
          · by_cases h3 : (e.args.length : Int) = 2
            · obtain ⟨a, b, hab⟩ := two_args.1 h3
              cases d with
              | zero => simp [h0, h13, h1, h2, h3, expOk]
              | succ d =>
                cases d with
                | zero => simp [h0, h13, h1, h2, h3, expOk, hab]
                | succ d =>
                  have hd1 : (1 : Int) < (d : Int) + 1 + 1 := by omega
                  rw [pred_d (d + 1) (by omega), hab, geti0, geti1]
                  simp only [bnd_some, impl_exprValid_eq (d + 1) _ (by omega)]
                  have e1 : expOk (d + 1 + 1) e = (expOk (d + 1) a && expOk (d + 1) b) := by
                    rw [expOk]; simp [h0, h13, h1, h2, hab]
                  rw [e1]
                  cases expOk (d + 1) a <;> simp [h0, h13, h1, h2, hd1]
            · have hm : (match e.args with | [a, b] => (fun d => expOk d a && expOk d b) | _ => fun _ => false) = fun _ => false := by
                split
                · rename_i a b hab; exact absurd (two_args.2 ⟨a, b, hab⟩) h3
                · rfl
              have e1 : expOk d e = false := by
                cases d with
                | zero => rfl
                | succ d =>
                  rw [expOk]; simp only [h0, h13, if_false]
                  split
                  · rename_i a b hab; exact absurd (two_args.2 ⟨a, b, hab⟩) h3
                  · simp
              rw [e1]; simp [h0, h13, h1, h2, h3]
          · have e1 : expOk d e = false := by cases d <;> simp [expOk, h0, h13, h2]
            rw [e1]; simp [h0, h13, h1, h2]
        · have e1 : expOk d e = false := by cases d <;> simp [expOk, h0, h13, h1]
          rw [e1]; simp [h0, h13, h1]

theorem impl_ExprValid_eq (e : Exp) : impl_ExprValid e = some (expOk 5 e) := by
  apply impl_ExprValid_le
  rw [exp_eta, show (5 : Int) = ((5 : Nat) : Int) by rfl, impl_exprValid_eq 5 e (by omega)]
  rfl

theorem spec_l4Ok_eq : ∀ (d : Nat) (e : Exp), d ≤ 5 → spec_l4Ok e (d : Int) = some (expOk d e)
  | 0, e, hd => by
    apply spec_l4Ok_le
    simp [expOk]
  | d + 1, e, hd => by
    apply spec_l4Ok_le
    have hd0 : ¬ (((d + 1 : Nat) : Int) < 1) := by omega
    simp only [spec_l6In_eq, spec_OpValid_eq, bnd_some, exp_eta, hd0, decide_false, cond_false, expOk]
    by_cases h0 : e.op = 0
    · by_cases h1 : 0 ≤ e.n ∧ e.n ≤ 99999 <;> by_cases h3 : e.args = [] <;> simp [h0, h1, h3, len0]
    · by_cases h13 : e.op = 13
      · have e3 : (e.n < 4) = (e.n ≤ 3) := propext (by omega)
        by_cases h1 : 0 ≤ e.n ∧ e.n ≤ 3 <;> by_cases h3 : e.args = [] <;> simp [h13, h1, h3, len0, e3]
      · by_cases h1 : 1 ≤ e.op ∧ e.op ≤ 12
        · by_cases h2 : e.n = 0
          · by_cases h3 : (e.args.length : Int) = 2
            · obtain ⟨a, b, hab⟩ := two_args.1 h3
              rw [pred_d d (by omega), hab, geti0, geti1]
              simp only [bnd_some, spec_l4Ok_eq d _ (by omega)]
              cases expOk d a <;> simp [h0, h13, h1, h2]
            · have e1 : (match e.args with | [a, b] => expOk d a && expOk d b | _ => false) = false := by
                split
                · rename_i a b hab; exact absurd (two_args.2 ⟨a, b, hab⟩) h3
                · rfl
              rw [e1]; simp [h0, h13, h1, h2, h3]
          · simp [h0, h13, h1, h2]
        · simp [h0, h13, h1]

theorem spec_ExprValid_eq (e : Exp) : spec_ExprValid e = some (expOk 5 e) := by
  apply spec_ExprValid_le
  rw [exp_eta, show (5 : Int) = ((5 : Nat) : Int) by rfl, spec_l4Ok_eq 5 e (by omega)]
  rfl

theorem w1 : wrap64 1 = 1 := by unfold wrap64; omega

mutual
def emX : Exp → Nat
  | ⟨_, _, as⟩ => emXs as
def emXs : List Exp → Nat
  | [] => 0
  | e :: r => 1 + emX e + emXs r
end

mutual
def mS : Stm → Nat
  | ⟨_, _, _, e, bd, el⟩ => emX e + mSs bd + mSs el
def mSs : List Stm → Nat
  | [] => 0
  | s :: r => 1 + mS s + mSs r
end

theorem emX_eq (e : Exp) : emX e = emXs e.args := by cases e; simp [emX]

theorem mS_eq (s : Stm) : mS s = emX s.e + mSs s.body + mSs s.els := by cases s; simp [mS]

theorem emXs_drop {l : List Exp} {i : Nat} (hi : i < l.length) : emXs (l.drop i) = 1 + emX l[i] + emXs (l.drop (i + 1)) := by
  rw [List.drop_eq_getElem_cons hi]; simp only [emXs]

theorem mSs_drop {l : List Stm} {i : Nat} (hi : i < l.length) : mSs (l.drop i) = 1 + mS l[i] + mSs (l.drop (i + 1)) := by
  rw [List.drop_eq_getElem_cons hi]; simp only [mSs]

theorem emXs_len : ∀ l : List Exp, l.length ≤ emXs l
  | [] => Nat.le_refl _
  | e :: r => by have := emXs_len r; simp only [emXs, List.length_cons]; omega

theorem mSs_len : ∀ l : List Stm, l.length ≤ mSs l
  | [] => Nat.le_refl _
  | e :: r => by have := mSs_len r; simp only [mSs, List.length_cons]; omega

theorem emX_mem : ∀ {l : List Exp} {e : Exp}, e ∈ l → emX e < emXs l
  | [], e, h => by cases h
  | a :: r, e, h => by
    simp only [emXs]
    rcases List.mem_cons.1 h with rfl | h
    · omega
    · have := emX_mem h; omega

theorem mS_mem : ∀ {l : List Stm} {e : Stm}, e ∈ l → mS e < mSs l
  | [], e, h => by cases h
  | a :: r, e, h => by
    simp only [mSs]
    rcases List.mem_cons.1 h with rfl | h
    · omega
    · have := mS_mem h; omega

/-- What is left of a budget. -/
def left (n : Int) (m : Nat) : Int := if (m : Int) ≤ n then n - m else -1

theorem left_pos {n : Int} {m : Nat} (h : (m : Int) ≤ n) : left n m = n - m := by unfold left; rw [if_pos h]

theorem left_out {n : Int} {m : Nat} (h : n < (m : Int)) : left n m = -1 := by unfold left; rw [if_neg (by omega)]

theorem szExprS_l {l : List Exp} (hl : (l.length : Int) ≤ 1048576) (hp : ∀ e ∈ l, ∀ n : Int, 0 ≤ n → n ≤ 1048576 → laws_szExpr e n = some (left n (emX e))) :
    ∀ (d i : Nat) (n : Int), i + d = l.length → 0 ≤ n → n ≤ 1048576 → ∃ k, laws_szExprS_l1 l n i = some (if (emXs (l.drop i) : Int) ≤ n + (l.length - i : Int) then .inl (n + (l.length - i : Int) - emXs (l.drop i)) else .inr (k, -1))
  | 0, i, n, hd, h0, h1 => by
    refine ⟨0, ?_⟩
    apply laws_szExprS_l1_le
    have hi : ¬ ((i : Int) < l.length) := by omega
    rw [List.drop_eq_nil_of_le (by omega), if_pos (by simp [emXs]; omega)]
    simp [hi, emXs]; omega
  | d + 1, i, n, hd, h0, h1 => by
    have hi : i < l.length := by omega
    have hi' : (i : Int) < l.length := by omega
    have hp' := hp _ (List.getElem_mem hi) n h0 h1
    rw [emXs_drop hi]
    by_cases hc : (emX l[i] : Int) ≤ n
    · obtain ⟨k, hk⟩ := szExprS_l hl hp d (i + 1) (n - emX l[i]) (by omega) (by omega) (by omega)
      refine ⟨k, ?_⟩
      apply laws_szExprS_l1_le
      rw [geti_some hi, wrap_succ (by omega)]
      simp only [hi', decide_true, cond_true, bnd_some, exp_eta, hp', left_pos hc, hk]
      have hn : ¬ (n - (emX l[i] : Int) < 0) := by omega
      simp only [hn, decide_false, cond_false]
      by_cases hq : ((emXs (l.drop (i + 1)) : Nat) : Int) ≤ n - (emX l[i] : Int) + ((l.length : Int) - ((i + 1 : Nat) : Int))
      · rw [if_pos hq, if_pos (by omega)]; congr 2; omega
      · rw [if_neg hq, if_neg (by omega)]
    · refine ⟨-1, ?_⟩
      apply laws_szExprS_l1_le
      rw [geti_some hi]
      simp only [hi', decide_true, cond_true, bnd_some, exp_eta, hp', left_out (show n < (emX l[i] : Int) by omega)]
      have := emXs_len (l.drop (i + 1))
      rw [List.length_drop] at this
      rw [if_neg (by omega)]
      simp

theorem laws_szExprS_eq {l : List Exp} (hl : (l.length : Int) ≤ 9223372036854775807) (hp : ∀ e ∈ l, ∀ n : Int, 0 ≤ n → n ≤ 1048576 → laws_szExpr e n = some (left n (emX e))) {n : Int} (h0 : 0 ≤ n) (h1 : n ≤ 1048576) : laws_szExprS l n = some (left n (emXs l)) := by
  apply laws_szExprS_le
  rw [wrap_id (by omega) (by omega)]
  have hlen := emXs_len l
  by_cases hc : n - (l.length : Int) < 0
  · simp only [hc, decide_true, cond_true]; rw [left_out (by omega)]
  · simp only [hc, decide_false, cond_false]
    obtain ⟨k, hk⟩ := szExprS_l (by omega) hp l.length 0 (n - l.length) (by omega) (by omega) (by omega)
    rw [show (0 : Int) = ((0 : Nat) : Int) by rfl, hk]
    simp only [List.drop_zero, bnd_some, left]
    by_cases hq : (emXs l : Int) ≤ n
    · rw [if_pos (by omega), if_pos hq]; simp only [selm]; congr 1; omega
    · rw [if_neg (by omega), if_neg hq]; simp only [selm]

theorem laws_szExpr_eq : ∀ (e : Exp), wfX e → ∀ n : Int, 0 ≤ n → n ≤ 1048576 → laws_szExpr e n = some (left n (emX e)) := by
  apply Exp.ind
  intro e ih hw n h0 h1
  apply laws_szExpr_le
  have h2 := wfX_mk hw
  rw [laws_szExprS_eq h2.2.2.1 (fun a ha => ih a ha (wfXs_iff.1 h2.2.2.2 a ha)) h0 h1, bnd_some, emX_eq]
  by_cases hq : (emXs e.args : Int) ≤ n
  · rw [left_pos hq]
    have : ¬ (n - (emXs e.args : Int) < 0) := by omega
    simp only [this, decide_false, cond_false]
  · rw [left_out (by omega)]; simp

theorem szStmtS_l {l : List Stm} (hl : (l.length : Int) ≤ 1048576) (hp : ∀ e ∈ l, ∀ n : Int, 0 ≤ n → n ≤ 1048576 → laws_szStmt e n = some (left n (mS e))) :
    ∀ (d i : Nat) (n : Int), i + d = l.length → 0 ≤ n → n ≤ 1048576 → ∃ k, laws_szStmtS_l1 l n i = some (if (mSs (l.drop i) : Int) ≤ n + (l.length - i : Int) then .inl (n + (l.length - i : Int) - mSs (l.drop i)) else .inr (k, -1))
  | 0, i, n, hd, h0, h1 => by
    refine ⟨0, ?_⟩
    apply laws_szStmtS_l1_le
    have hi : ¬ ((i : Int) < l.length) := by omega
    rw [List.drop_eq_nil_of_le (by omega), if_pos (by simp [mSs]; omega)]
    simp [hi, mSs]; omega
  | d + 1, i, n, hd, h0, h1 => by
    have hi : i < l.length := by omega
    have hi' : (i : Int) < l.length := by omega
    have hp' := hp _ (List.getElem_mem hi) n h0 h1
    rw [mSs_drop hi]
    by_cases hc : (mS l[i] : Int) ≤ n
    · obtain ⟨k, hk⟩ := szStmtS_l hl hp d (i + 1) (n - mS l[i]) (by omega) (by omega) (by omega)
      refine ⟨k, ?_⟩
      apply laws_szStmtS_l1_le
      rw [geti_some hi, wrap_succ (by omega)]
      simp only [hi', decide_true, cond_true, bnd_some, stm_eta, hp', left_pos hc, hk]
      have hn : ¬ (n - (mS l[i] : Int) < 0) := by omega
      simp only [hn, decide_false, cond_false]
      by_cases hq : ((mSs (l.drop (i + 1)) : Nat) : Int) ≤ n - (mS l[i] : Int) + ((l.length : Int) - ((i + 1 : Nat) : Int))
      · rw [if_pos hq, if_pos (by omega)]; congr 2; omega
      · rw [if_neg hq, if_neg (by omega)]
    · refine ⟨-1, ?_⟩
      apply laws_szStmtS_l1_le
      rw [geti_some hi]
      simp only [hi', decide_true, cond_true, bnd_some, stm_eta, hp', left_out (show n < (mS l[i] : Int) by omega)]
      have := mSs_len (l.drop (i + 1))
      rw [List.length_drop] at this
      rw [if_neg (by omega)]
      simp

theorem laws_szStmtS_eq {l : List Stm} (hl : (l.length : Int) ≤ 9223372036854775807) (hp : ∀ e ∈ l, ∀ n : Int, 0 ≤ n → n ≤ 1048576 → laws_szStmt e n = some (left n (mS e))) {n : Int} (h0 : 0 ≤ n) (h1 : n ≤ 1048576) : laws_szStmtS l n = some (left n (mSs l)) := by
  apply laws_szStmtS_le
  rw [wrap_id (by omega) (by omega)]
  have hlen := mSs_len l
  by_cases hc : n - (l.length : Int) < 0
  · simp only [hc, decide_true, cond_true]; rw [left_out (by omega)]
  · simp only [hc, decide_false, cond_false]
    obtain ⟨k, hk⟩ := szStmtS_l (by omega) hp l.length 0 (n - l.length) (by omega) (by omega) (by omega)
    rw [show (0 : Int) = ((0 : Nat) : Int) by rfl, hk]
    simp only [List.drop_zero, bnd_some, left]
    by_cases hq : (mSs l : Int) ≤ n
    · rw [if_pos (by omega), if_pos hq]; simp only [selm]; congr 1; omega
    · rw [if_neg (by omega), if_neg hq]; simp only [selm]

theorem left_left {n : Int} {a b : Nat} (h : (a : Int) ≤ n) : left (n - a) b = left n (a + b) := by
  unfold left
  by_cases hb : (b : Int) ≤ n - a
  · rw [if_pos hb, if_pos (by omega)]; omega
  · rw [if_neg hb, if_neg (by omega)]

theorem laws_szStmt_eq : ∀ (e : Stm), wfS e → ∀ n : Int, 0 ≤ n → n ≤ 1048576 → laws_szStmt e n = some (left n (mS e)) := by
  apply Stm.ind
  intro e ih1 ih2 hw n h0 h1
  apply laws_szStmt_le
  obtain ⟨_, _, _, w1, w2, w3, w4, w5⟩ := wfS_mk hw
  rw [mS_eq, exp_eta, laws_szExpr_eq e.e w1 n h0 h1, bnd_some]
  by_cases c1 : (emX e.e : Int) ≤ n
  · rw [left_pos c1]
    have g1 : ¬ (n - (emX e.e : Int) < 0) := by omega
    simp only [g1, decide_false, cond_false]
    rw [laws_szStmtS_eq w2 (fun a ha => ih1 a ha (wfSs_iff.1 w3 a ha)) (by omega) (by omega), bnd_some, left_left c1]
    by_cases c2 : ((emX e.e + mSs e.body : Nat) : Int) ≤ n
    · rw [left_pos c2]
      have g2 : ¬ (n - ((emX e.e + mSs e.body : Nat) : Int) < 0) := by omega
      simp only [g2, decide_false, cond_false]
      rw [laws_szStmtS_eq w4 (fun a ha => ih2 a ha (wfSs_iff.1 w5 a ha)) (by omega) (by omega), bnd_some, left_left c2]
      by_cases c3 : ((emX e.e + mSs e.body + mSs e.els : Nat) : Int) ≤ n
      · rw [left_pos c3]
        have g3 : ¬ (n - ((emX e.e + mSs e.body + mSs e.els : Nat) : Int) < 0) := by omega
        simp only [g3, decide_false, cond_false]
      · rw [left_out (by omega)]; simp
    · rw [left_out (show n < ((emX e.e + mSs e.body : Nat) : Int) by omega), left_out (by omega)]; simp
  · rw [left_out (show n < (emX e.e : Int) by omega), left_out (by omega)]; simp

theorem toExprS_l {a : List Exp} (hl : (a.length : Int) ≤ 4294967296) (hp : ∀ e ∈ a, laws_toExpr e = some e) : ∀ (d i : Nat) (b : List Exp), i + d = a.length → b.length = a.length → b.take i = a.take i → laws_toExprS_l1 a i b = some a
  | 0, i, b, hd, hb, ht => by
    apply laws_toExprS_l1_le
    have hi : ¬ ((i : Int) < a.length) := by omega
    have : b = a := by rw [List.take_of_length_le (by omega), List.take_of_length_le (by omega)] at ht; exact ht
    simp [hi, this]
  | d + 1, i, b, hd, hb, ht => by
    apply laws_toExprS_l1_le
    have hi : i < a.length := by omega
    have hi' : (i : Int) < a.length := by omega
    rw [geti_some hi, geti_some (l := b) (by omega), wrap_succ (by omega)]
    simp only [hi', decide_true, cond_true, bnd_some, exp_eta, hp _ (List.getElem_mem hi), Int.toNat_natCast, List.getElem?_eq_getElem (show i < b.length by omega)]
    exact toExprS_l hl hp d (i + 1) _ (by omega) (by simpa using hb) (fill_step hb hi ht)

theorem laws_toExprS_eq {a : List Exp} (hl : (a.length : Int) ≤ 4294967296) (hp : ∀ e ∈ a, laws_toExpr e = some e) : laws_toExprS a = some a := by
  apply laws_toExprS_le
  rw [made_some hl, bnd_some, show (0 : Int) = ((0 : Nat) : Int) by rfl, toExprS_l hl hp a.length 0 _ (by omega) (by simp) (by simp)]
  rfl

theorem laws_toExpr_eq : ∀ e : Exp, emX e ≤ 4294967296 → laws_toExpr e = some e := by
  apply Exp.ind
  intro e ih hm
  apply laws_toExpr_le
  rw [emX_eq] at hm
  have := emXs_len e.args
  rw [laws_toExprS_eq (by omega) (fun a ha => ih a ha (by have := emX_mem ha; omega)), bnd_some, exp_eta]

theorem toStmtS_l {a : List Stm} (hl : (a.length : Int) ≤ 4294967296) (hp : ∀ e ∈ a, laws_toStmt e = some e) : ∀ (d i : Nat) (b : List Stm), i + d = a.length → b.length = a.length → b.take i = a.take i → laws_toStmtS_l1 a i b = some a
  | 0, i, b, hd, hb, ht => by
    apply laws_toStmtS_l1_le
    have hi : ¬ ((i : Int) < a.length) := by omega
    have : b = a := by rw [List.take_of_length_le (by omega), List.take_of_length_le (by omega)] at ht; exact ht
    simp [hi, this]
  | d + 1, i, b, hd, hb, ht => by
    apply laws_toStmtS_l1_le
    have hi : i < a.length := by omega
    have hi' : (i : Int) < a.length := by omega
    rw [geti_some hi, geti_some (l := b) (by omega), wrap_succ (by omega)]
    simp only [hi', decide_true, cond_true, bnd_some, stm_eta, hp _ (List.getElem_mem hi), Int.toNat_natCast, List.getElem?_eq_getElem (show i < b.length by omega)]
    exact toStmtS_l hl hp d (i + 1) _ (by omega) (by simpa using hb) (fill_step hb hi ht)

theorem laws_toStmtS_eq_ {a : List Stm} (hl : (a.length : Int) ≤ 4294967296) (hp : ∀ e ∈ a, laws_toStmt e = some e) : laws_toStmtS a = some a := by
  apply laws_toStmtS_le
  rw [made_some hl, bnd_some, show (0 : Int) = ((0 : Nat) : Int) by rfl, toStmtS_l hl hp a.length 0 _ (by omega) (by simp) (by simp)]
  rfl

theorem laws_toStmt_eq : ∀ e : Stm, mS e ≤ 4294967296 → laws_toStmt e = some e := by
  apply Stm.ind
  intro e ih1 ih2 hm
  apply laws_toStmt_le
  rw [mS_eq] at hm
  have l1 := mSs_len e.body
  have l2 := mSs_len e.els
  rw [exp_eta, laws_toExpr_eq e.e (by omega), bnd_some, laws_toStmtS_eq_ (by omega) (fun a ha => ih1 a ha (by have := mS_mem ha; omega)), bnd_some,
    laws_toStmtS_eq_ (by omega) (fun a ha => ih2 a ha (by have := mS_mem ha; omega)), bnd_some, stm_eta]

theorem laws_toStmtS_eq {a : List Stm} (h : mSs a ≤ 4294967296) : laws_toStmtS a = some a :=
  laws_toStmtS_eq_ (by have := mSs_len a; omega) fun e he => laws_toStmt_eq e (by have := mS_mem he; omega)

theorem toIntS_l {a : List Int} (hl : (a.length : Int) ≤ 4294967296) : ∀ (d i : Nat) (b : List Int), i + d = a.length → b.length = a.length → b.take i = a.take i → laws_toIntS_l1 a i b = some a
  | 0, i, b, hd, hb, ht => by
    apply laws_toIntS_l1_le
    have hi : ¬ ((i : Int) < a.length) := by omega
    have : b = a := by rw [List.take_of_length_le (by omega), List.take_of_length_le (by omega)] at ht; exact ht
    simp [hi, this]
  | d + 1, i, b, hd, hb, ht => by
    apply laws_toIntS_l1_le
    have hi : i < a.length := by omega
    have hi' : (i : Int) < a.length := by omega
    rw [geti_some hi, geti_some (l := b) (by omega), wrap_succ (by omega)]
    simp only [hi', decide_true, cond_true, bnd_some, Int.toNat_natCast, List.getElem?_eq_getElem (show i < b.length by omega)]
    exact toIntS_l hl d (i + 1) _ (by omega) (by simpa using hb) (fill_step hb hi ht)

theorem laws_toIntS_eq {a : List Int} (hl : (a.length : Int) ≤ 4294967296) : laws_toIntS a = some a := by
  apply laws_toIntS_le
  rw [made_some hl, bnd_some, show (0 : Int) = ((0 : Nat) : Int) by rfl, toIntS_l hl a.length 0 _ (by omega) (by simp) (by simp)]
  rfl

theorem tk_eta (t : Tk) : (⟨t.vars, t.rest⟩ : Tk) = t := by cases t; rfl

theorem laws_toTask_eq {t : Tk} (h : t.vars.length + mSs t.rest ≤ 4294967296) : laws_toTask t = some t := by
  apply laws_toTask_le
  rw [laws_toIntS_eq (by omega), bnd_some, laws_toStmtS_eq (by omega), bnd_some, tk_eta]

theorem eqExprS_l {a : List Exp} (hl : (a.length : Int) ≤ 4294967296) (hp : ∀ e ∈ a, laws_eqExpr e e = some true) : ∀ (d i : Nat), i + d = a.length → laws_eqExprS_l1 a a i = some (.inl ())
  | 0, i, hd => by
    apply laws_eqExprS_l1_le
    have hi : ¬ ((i : Int) < a.length) := by omega
    simp [hi]
  | d + 1, i, hd => by
    apply laws_eqExprS_l1_le
    have hi : i < a.length := by omega
    have hi' : (i : Int) < a.length := by omega
    rw [geti_some hi, wrap_succ (by omega)]
    simp only [hi', decide_true, cond_true, bnd_some, exp_eta, hp _ (List.getElem_mem hi), Bool.not_true, cond_false]
    exact eqExprS_l hl hp d (i + 1) (by omega)

theorem laws_eqExprS_refl {a : List Exp} (hl : (a.length : Int) ≤ 4294967296) (hp : ∀ e ∈ a, laws_eqExpr e e = some true) : laws_eqExprS a a = some true := by
  apply laws_eqExprS_le
  rw [show (0 : Int) = ((0 : Nat) : Int) by rfl, eqExprS_l hl hp a.length 0 (by omega)]
  simp [selm]

theorem laws_eqExpr_refl : ∀ e : Exp, emX e ≤ 4294967296 → laws_eqExpr e e = some true := by
  apply Exp.ind
  intro e ih hm
  apply laws_eqExpr_le
  rw [emX_eq] at hm
  have := emXs_len e.args
  rw [laws_eqExprS_refl (by omega) (fun a ha => ih a ha (by have := emX_mem ha; omega))]
  simp

theorem eqStmtS_l {a : List Stm} (hl : (a.length : Int) ≤ 4294967296) (hp : ∀ e ∈ a, laws_eqStmt e e = some true) : ∀ (d i : Nat), i + d = a.length → laws_eqStmtS_l1 a a i = some (.inl ())
  | 0, i, hd => by
    apply laws_eqStmtS_l1_le
    have hi : ¬ ((i : Int) < a.length) := by omega
    simp [hi]
  | d + 1, i, hd => by
    apply laws_eqStmtS_l1_le
    have hi : i < a.length := by omega
    have hi' : (i : Int) < a.length := by omega
    rw [geti_some hi, wrap_succ (by omega)]
    simp only [hi', decide_true, cond_true, bnd_some, stm_eta, hp _ (List.getElem_mem hi), Bool.not_true, cond_false]
    exact eqStmtS_l hl hp d (i + 1) (by omega)

theorem laws_eqStmtS_refl_ {a : List Stm} (hl : (a.length : Int) ≤ 4294967296) (hp : ∀ e ∈ a, laws_eqStmt e e = some true) : laws_eqStmtS a a = some true := by
  apply laws_eqStmtS_le
  rw [show (0 : Int) = ((0 : Nat) : Int) by rfl, eqStmtS_l hl hp a.length 0 (by omega)]
  simp [selm]

theorem laws_eqStmt_refl : ∀ e : Stm, mS e ≤ 4294967296 → laws_eqStmt e e = some true := by
  apply Stm.ind
  intro e ih1 ih2 hm
  apply laws_eqStmt_le
  rw [mS_eq] at hm
  have l1 := mSs_len e.body
  have l2 := mSs_len e.els
  rw [exp_eta, laws_eqExpr_refl e.e (by omega), laws_eqStmtS_refl_ (by omega) (fun a ha => ih1 a ha (by have := mS_mem ha; omega)),
    laws_eqStmtS_refl_ (by omega) (fun a ha => ih2 a ha (by have := mS_mem ha; omega))]
  simp

theorem laws_eqStmtS_refl {a : List Stm} (h : mSs a ≤ 4294967296) : laws_eqStmtS a a = some true :=
  laws_eqStmtS_refl_ (by have := mSs_len a; omega) fun e he => laws_eqStmt_refl e (by have := mS_mem he; omega)

theorem eqIntS_l {a : List Int} (hl : (a.length : Int) ≤ 4294967296) : ∀ (d i : Nat), i + d = a.length → laws_eqIntS_l1 a a i = some (.inl ())
  | 0, i, hd => by
    apply laws_eqIntS_l1_le
    have hi : ¬ ((i : Int) < a.length) := by omega
    simp [hi]
  | d + 1, i, hd => by
    apply laws_eqIntS_l1_le
    have hi : i < a.length := by omega
    have hi' : (i : Int) < a.length := by omega
    rw [geti_some hi, wrap_succ (by omega)]
    simp only [hi', decide_true, cond_true, bnd_some, Bool.not_true, cond_false]
    exact eqIntS_l hl d (i + 1) (by omega)

theorem laws_eqIntS_refl {a : List Int} (hl : (a.length : Int) ≤ 4294967296) : laws_eqIntS a a = some true := by
  apply laws_eqIntS_le
  rw [show (0 : Int) = ((0 : Nat) : Int) by rfl, eqIntS_l hl a.length 0 (by omega)]
  simp [selm]

theorem laws_eqTask_refl {t : Tk} (h : t.vars.length + mSs t.rest ≤ 4294967296) : laws_eqTask t t = some true := by
  apply laws_eqTask_le
  rw [laws_eqIntS_refl (by omega), laws_eqStmtS_refl (by omega)]
  simp

mutual
def cS : Stm → Nat
  | ⟨_, _, _, _, bd, el⟩ => 1 + cSs bd + cSs el
def cSs : List Stm → Nat
  | [] => 0
  | s :: r => cS s + cSs r
end

theorem cS_eq (s : Stm) : cS s = 1 + cSs s.body + cSs s.els := by cases s; simp [cS]

theorem cSs_drop {l : List Stm} {i : Nat} (hi : i < l.length) : cSs (l.drop i) = cS l[i] + cSs (l.drop (i + 1)) := by
  rw [List.drop_eq_getElem_cons hi]; simp only [cSs]

theorem cSs_len : ∀ l : List Stm, l.length ≤ cSs l
  | [] => Nat.le_refl _
  | e :: r => by have := cSs_len r; have := cS_eq e; simp only [cSs, List.length_cons]; omega

mutual
theorem cS_le : ∀ s : Stm, cS s ≤ 1 + mS s
  | ⟨_, _, _, e, bd, el⟩ => by have := cSs_le bd; have := cSs_le el; simp only [cS, mS]; omega
theorem cSs_le : ∀ l : List Stm, cSs l ≤ mSs l
  | [] => Nat.le_refl _
  | s :: r => by have := cS_le s; have := cSs_le r; simp only [cSs, mSs]; omega
end

theorem cS_mem : ∀ {l : List Stm} {e : Stm}, e ∈ l → cS e ≤ cSs l
  | [], e, h => by cases h
  | a :: r, e, h => by
    simp only [cSs]
    rcases List.mem_cons.1 h with rfl | h
    · omega
    · have := cS_mem h; omega

theorem count_ls {l : List Stm} (hp : ∀ s ∈ l, spec_l11Count s.body = some (cSs s.body : Int) ∧ spec_l11Count s.els = some (cSs s.els : Int)) (hb : cSs l ≤ 4294967296) :
    ∀ (d i : Nat) (k : Int), i + d = l.length → 0 ≤ k → k + cSs (l.drop i) ≤ 4294967296 → spec_l11Count_l1 l k i = some (k + cSs (l.drop i))
  | 0, i, k, hd, h0, h1 => by
    apply spec_l11Count_l1_le
    have hi : ¬ ((i : Int) < l.length) := by omega
    rw [List.drop_eq_nil_of_le (by omega)]
    simp [hi, cSs]
  | d + 1, i, k, hd, h0, h1 => by
    apply spec_l11Count_l1_le
    have hi : i < l.length := by omega
    have hi' : (i : Int) < l.length := by omega
    obtain ⟨p1, p2⟩ := hp _ (List.getElem_mem hi)
    have hlen := cSs_len l
    have hc := cSs_drop hi
    have hs := cS_eq l[i]
    rw [geti_some hi, wrap_succ (by omega)]
    simp only [hi', decide_true, cond_true, bnd_some, p1, p2]
    rw [wrap_id (n := k + 1) (by omega) (by omega), wrap_id (n := k + 1 + (cSs l[i].body : Int)) (by omega) (by omega), wrap_id (by omega) (by omega),
      count_ls hp hb d (i + 1) _ (by omega) (by omega) (by omega)]
    congr 1; omega

theorem spec_l11Count_eq_ {l : List Stm} (hp : ∀ s ∈ l, spec_l11Count s.body = some (cSs s.body : Int) ∧ spec_l11Count s.els = some (cSs s.els : Int)) (hb : cSs l ≤ 4294967296) : spec_l11Count l = some (cSs l : Int) := by
  apply spec_l11Count_le
  have := count_ls hp hb l.length 0 0 (by omega) (by omega) (by simp; omega)
  rw [show ((0 : Nat) : Int) = 0 by rfl] at this
  rw [this]; simp

theorem count_parts : ∀ s : Stm, cS s ≤ 4294967296 → spec_l11Count s.body = some (cSs s.body : Int) ∧ spec_l11Count s.els = some (cSs s.els : Int) := by
  apply Stm.ind
  intro s ih1 ih2 hb
  rw [cS_eq] at hb
  exact ⟨spec_l11Count_eq_ (fun a ha => ih1 a ha (by have := cS_mem ha; omega)) (by omega), spec_l11Count_eq_ (fun a ha => ih2 a ha (by have := cS_mem ha; omega)) (by omega)⟩

theorem spec_l11Count_eq {l : List Stm} (hb : cSs l ≤ 4294967296) : spec_l11Count l = some (cSs l : Int) :=
  spec_l11Count_eq_ (fun s hs => count_parts s (by have := cS_mem hs; omega)) hb

/-- What a statement's own parts must be. -/
def hdr (s : Stm) : Prop :=
  (s.kind = 1 ∧ (0 ≤ s.var ∧ s.var < 4) ∧ s.box = 0 ∧ expOk 5 s.e = true ∧ (s.body.length : Int) = 0 ∧ (s.els.length : Int) = 0) ∨
  (s.kind = 2 ∧ s.var = 0 ∧ s.box = 0 ∧ expOk 5 s.e = true) ∨
  (s.kind = 3 ∧ s.var = 0 ∧ s.box = 0 ∧ expOk 5 s.e = true ∧ (s.els.length : Int) = 0) ∨
  (s.kind = 4 ∧ s.var = 0 ∧ (0 ≤ s.box ∧ s.box < 3) ∧ expOk 5 s.e = true ∧ (s.body.length : Int) = 0 ∧ (s.els.length : Int) = 0) ∨
  (s.kind = 5 ∧ (0 ≤ s.var ∧ s.var < 4) ∧ (0 ≤ s.box ∧ s.box < 3) ∧ (s.e.op = 0 ∧ s.e.n = 0 ∧ (s.e.args.length : Int) = 0) ∧ (s.body.length : Int) = 0 ∧ (s.els.length : Int) = 0) ∨
  (s.kind = 6 ∧ s.var = 0 ∧ s.box = 0 ∧ (s.e.op = 0 ∧ s.e.n = 0 ∧ (s.e.args.length : Int) = 0) ∧ (s.body.length : Int) = 0 ∧ (s.els.length : Int) = 0) ∨
  (s.kind = 7 ∧ s.var = 0 ∧ s.box = 0 ∧ expOk 5 s.e = true ∧ (s.body.length : Int) = 0 ∧ (s.els.length : Int) = 0)

instance (s : Stm) : Decidable (hdr s) := by unfold hdr; infer_instance

def sOk : Nat → Stm → Bool
  | 0, s => decide (hdr s) && !decide (s.kind = 2 ∨ s.kind = 3)
  | d + 1, s => decide (hdr s) && (if s.kind = 2 ∨ s.kind = 3 then s.body.all (sOk d) && s.els.all (sOk d) else true)

theorem impl_stmtValid_1_eq (x n : Int) (b : Bool) (hn : 1 ≤ n) : impl_stmtValid_1 x n b = some (decide (if b then 0 ≤ x ∧ x < n else x = 0)) := by
  apply impl_stmtValid_1_le
  cases b
  · by_cases h : x = 0 <;> simp [h]
  · by_cases h : x = 0
    · simp [h]; omega
    · by_cases h2 : 0 < x
      · simp [h, h2]; omega
      · simp [h, h2]; omega

theorem spec_l11Var_eq (s : Stm) (b : Bool) : spec_l11Var s b = some (decide (if b then 0 ≤ s.var ∧ s.var < 4 else s.var = 0)) := by
  apply spec_l11Var_le
  simp only [spec_l6In_eq, bnd_some, cond_some]
  apply some_dec
  cases b <;> simp; omega

theorem spec_l11Box_eq (s : Stm) (b : Bool) : spec_l11Box s b = some (decide (if b then 0 ≤ s.box ∧ s.box < 3 else s.box = 0)) := by
  apply spec_l11Box_le
  simp only [spec_l6In_eq, bnd_some, cond_some]
  apply some_dec
  cases b <;> simp; omega

theorem spec_l11Plain_eq (e : Exp) : spec_l11Plain e = some (decide (e.op = 0 ∧ e.n = 0 ∧ (e.args.length : Int) = 0)) := by
  apply spec_l11Plain_le
  simp only [cond_some]
  apply some_dec
  simp only [cond_iff, decide_eq_true_eq, Bool.false_eq_true]
  by_cases h : e.op = 0 <;> by_cases h2 : e.n = 0 <;> simp [h, h2]

theorem spec_l11Simple_eq (s : Stm) (n2 : s.kind ≠ 2) (n3 : s.kind ≠ 3) : spec_l11Simple s = some (decide (hdr s)) := by
  apply spec_l11Simple_le
  simp only [stm_eta, exp_eta, spec_l11Var_eq, spec_l11Box_eq, spec_l11Plain_eq, spec_ExprValid_eq, bnd_some, cond_some]
  apply some_dec
  obtain ⟨k, v, b, e, bd, el⟩ := s
  have a1 : (0 : Int) ≤ bd.length := by omega
  have a2 : (0 : Int) ≤ el.length := by omega
  have a3 : (0 : Int) ≤ e.args.length := by omega
  simp only [hdr, cond_iff, decide_eq_true_eq, if_true, Bool.false_eq_true, if_false, Bool.not_eq_true', decide_eq_false_iff_not]
  generalize (bd.length : Int) = n1 at a1
  generalize (el.length : Int) = n2' at a2
  generalize (e.args.length : Int) = n3' at a3
  simp only [] at n2 n3
  cases hv : expOk 5 e
  all_goals
    by_cases h1 : k = 1
    · subst h1; simp; try omega
    by_cases h4 : k = 4
    · subst h4; simp; try omega
    by_cases h5 : k = 5
    · subst h5; simp; try omega
    by_cases h7 : k = 7
    · subst h7; simp; try omega
    by_cases h6 : k = 6
    · subst h6; simp; try omega
    simp [h1, n2, n3, h4, h5, h6, h7]

theorem hdr2 {s : Stm} (h : s.kind = 2) : hdr s ↔ s.var = 0 ∧ s.box = 0 ∧ expOk 5 s.e = true := by simp [hdr, h]

theorem hdr3 {s : Stm} (h : s.kind = 3) : hdr s ↔ s.var = 0 ∧ s.box = 0 ∧ expOk 5 s.e = true ∧ (s.els.length : Int) = 0 := by simp [hdr, h]

theorem if_alike {α : Type} {P Q : Prop} [Decidable P] [Decidable Q] {a b c : α} (h : P ↔ Q) (ha : a = b) : (if P then a else c) = if Q then b else c := by
  subst ha
  by_cases hp : P
  · rw [if_pos hp, if_pos (h.1 hp)]
  · rw [if_neg hp, if_neg fun x => hp (h.2 x)]

theorem blocks_l {l : List Stm} {n : Int} {f : Stm → Bool} (hl : (l.length : Int) ≤ 4294967296) (hp : ∀ s ∈ l, spec_l11Ok s n = some (f s)) :
    ∀ (d i : Nat), i + d = l.length → spec_l11Blocks_l1 l n i = some (if (l.drop i).all f then .inl () else .inr false)
  | 0, i, hd => by
    apply spec_l11Blocks_l1_le
    have hi : ¬ ((i : Int) < l.length) := by omega
    rw [List.drop_eq_nil_of_le (by omega)]
    simp [hi]
  | d + 1, i, hd => by
    apply spec_l11Blocks_l1_le
    have hi : i < l.length := by omega
    have hi' : (i : Int) < l.length := by omega
    rw [geti_some hi, wrap_succ (by omega), blocks_l hl hp d (i + 1) (by omega)]
    have e1 : (l.drop i).all f = (f l[i] && (l.drop (i + 1)).all f) := by rw [List.drop_eq_getElem_cons hi, List.all_cons]
    rw [e1]
    simp only [hi', decide_true, cond_true, bnd_some, stm_eta, hp _ (List.getElem_mem hi)]
    cases f l[i] <;> simp

theorem spec_l11Blocks_eq_ {l : List Stm} {n : Int} {f : Stm → Bool} (hl : (l.length : Int) ≤ 4294967296) (hp : ∀ s ∈ l, spec_l11Ok s n = some (f s)) : spec_l11Blocks l n = some (l.all f) := by
  apply spec_l11Blocks_le
  rw [show (0 : Int) = ((0 : Nat) : Int) by rfl, blocks_l hl hp l.length 0 (by omega), List.drop_zero]
  cases l.all f <;> simp [selm]

theorem spec_l11Ok_eq : ∀ (d : Nat) (s : Stm), d ≤ 3 → mS s ≤ 4294967296 → spec_l11Ok s (d : Int) = some (sOk d s)
  | 0, s, hd, hm => by
    apply spec_l11Ok_le
    by_cases h2 : s.kind = 2
    · simp [h2, sOk]
    · by_cases h3 : s.kind = 3
      · simp [h3, sOk]
      · simp [h2, h3, sOk, stm_eta, spec_l11Simple_eq s h2 h3]
  | d + 1, s, hd, hm => by
    apply spec_l11Ok_le
    have hm' := mS_eq s
    have l1 := mSs_len s.body
    have l2 := mSs_len s.els
    have hd0 : ¬ (((d + 1 : Nat) : Int) < 1) := by omega
    have b1 : spec_l11Blocks s.body (d : Int) = some (s.body.all (sOk d)) := spec_l11Blocks_eq_ (by omega) fun a ha => spec_l11Ok_eq d a (by omega) (by have := mS_mem ha; omega)
    have b2 : spec_l11Blocks s.els (d : Int) = some (s.els.all (sOk d)) := spec_l11Blocks_eq_ (by omega) fun a ha => spec_l11Ok_eq d a (by omega) (by have := mS_mem ha; omega)
    rw [show wrap64 (((d + 1 : Nat) : Int) - 1) = (d : Int) by rw [wrap_id (by omega) (by omega)]; omega]
    simp only [stm_eta, exp_eta, spec_l11Var_eq, spec_l11Box_eq, spec_ExprValid_eq, b1, b2, bnd_some, hd0, decide_false, cond_false]
    by_cases h2 : s.kind = 2
    · have h3 : s.kind ≠ 3 := by omega
      have hh : decide (hdr s) = (decide (s.var = 0) && decide (s.box = 0) && expOk 5 s.e) := by
        rw [Bool.eq_iff_iff]; simp [hdr2 h2, and_assoc]
      simp only [sOk, hh, h2, true_or, if_true]
      by_cases v : s.var = 0 <;> by_cases b : s.box = 0 <;> cases expOk 5 s.e <;> cases s.body.all (sOk d) <;> simp [v, b]
    · by_cases h3 : s.kind = 3
      · by_cases he : (s.els.length : Int) = 0
        · have hh : decide (hdr s) = (decide (s.var = 0) && decide (s.box = 0) && expOk 5 s.e) := by
            rw [Bool.eq_iff_iff]; simp [hdr3 h3, and_assoc, he]
          simp only [sOk, hh, h3, or_true, if_true]
          by_cases v : s.var = 0 <;> by_cases b : s.box = 0 <;> cases expOk 5 s.e <;> cases s.body.all (sOk d) <;> simp [v, b, he]
        · have hh : decide (hdr s) = false := by
            simp [hdr3 h3]; intro _ _ _ h; exact absurd (by rw [h]; rfl) he
          have hpos : 0 < (s.els.length : Int) := by omega
          simp only [sOk, hh, h3, or_true, if_true, hpos]
          simp
      · have hh := spec_l11Simple_eq s h2 h3
        simp only [sOk, h2, h3, or_false, if_false]
        simp [h2, h3]
        show bnd (spec_l11Simple s) _ = _
        rw [hh]; rfl

theorem spec_l11Blocks_eq {d : Nat} {l : List Stm} (hd : d ≤ 3) (hm : mSs l ≤ 4294967296) : spec_l11Blocks l (d : Int) = some (l.all (sOk d)) :=
  spec_l11Blocks_eq_ (by have := mSs_len l; omega) fun s hs => spec_l11Ok_eq d s hd (by have := mS_mem hs; omega)

def stOk (l : List Stm) : Bool := decide (l.all (sOk 3) = true ∧ (cSs l : Int) ≤ 16)

theorem spec_StmtsValid_eq (l : List Stm) (hm : mSs l ≤ 4294967296) : spec_StmtsValid l = some (stOk l) := by
  apply spec_StmtsValid_le
  have hc := cSs_le l
  rw [show (3 : Int) = ((3 : Nat) : Int) by rfl, spec_l11Blocks_eq (by omega) hm, bnd_some, spec_l11Count_eq (by omega)]
  unfold stOk
  cases l.all (sOk 3) <;> simp

theorem cut_one {α : Type} {l : List α} {i : Nat} (hi : i < l.length) : cutL l (i : Int) ((i + 1 : Nat) : Int) = some [l[i]] := by
  unfold cutL
  rw [if_pos (by omega)]
  simp only [Int.toNat_natCast, Option.some.injEq]
  rw [List.drop_take, List.drop_eq_getElem_cons hi, show i + 1 - i = 1 by omega]
  simp only [List.take_succ_cons, List.take_zero]

def words (l : List Int) : Bool := l.all fun n => decide (-2147483648 ≤ n ∧ n ≤ 2147483647)

theorem areWords_l {l : List Int} (hl : (l.length : Int) ≤ 4294967296) : ∀ (d i : Nat), i + d = l.length → impl_areWords_l1 l l.length i = some (if words (l.drop i) then .inl () else .inr false)
  | 0, i, hd => by
    apply impl_areWords_l1_le
    have hi : ¬ ((i : Int) < l.length) := by omega
    rw [List.drop_eq_nil_of_le (by omega)]
    simp [hi, words]
  | d + 1, i, hd => by
    apply impl_areWords_l1_le
    have hi : i < l.length := by omega
    have hi' : (i : Int) < l.length := by omega
    have e1 : words (l.drop i) = (decide (-2147483648 ≤ l[i] ∧ l[i] ≤ 2147483647) && words (l.drop (i + 1))) := by unfold words; rw [List.drop_eq_getElem_cons hi, List.all_cons]
    rw [geti_some hi, wrap_succ (by omega), areWords_l hl d (i + 1) (by omega), e1]
    simp only [hi', decide_true, cond_true, bnd_some, impl_WordValid_eq]
    cases decide (-2147483648 ≤ l[i] ∧ l[i] ≤ 2147483647) <;> simp

theorem impl_areWords_eq {l : List Int} (hl : (l.length : Int) ≤ 4294967296) : impl_areWords l = some (words l) := by
  apply impl_areWords_le
  rw [show (0 : Int) = ((0 : Nat) : Int) by rfl, areWords_l hl l.length 0 (by omega), List.drop_zero]
  cases words l <;> simp [selm]

theorem l4Words_l {l : List Int} (hl : (l.length : Int) ≤ 4294967296) : ∀ (d i : Nat), i + d = l.length → spec_l4Words_l1 l i = some (if words (l.drop i) then .inl () else .inr false)
  | 0, i, hd => by
    apply spec_l4Words_l1_le
    have hi : ¬ ((i : Int) < l.length) := by omega
    rw [List.drop_eq_nil_of_le (by omega)]
    simp [hi, words]
  | d + 1, i, hd => by
    apply spec_l4Words_l1_le
    have hi : i < l.length := by omega
    have hi' : (i : Int) < l.length := by omega
    have e1 : words (l.drop i) = (decide (-2147483648 ≤ l[i] ∧ l[i] ≤ 2147483647) && words (l.drop (i + 1))) := by unfold words; rw [List.drop_eq_getElem_cons hi, List.all_cons]
    rw [geti_some hi, wrap_succ (by omega), l4Words_l hl d (i + 1) (by omega), e1]
    simp only [hi', decide_true, cond_true, bnd_some, spec_WordValid_eq]
    cases decide (-2147483648 ≤ l[i] ∧ l[i] ≤ 2147483647) <;> simp

theorem spec_l4Words_eq {l : List Int} (hl : (l.length : Int) ≤ 4294967296) (n : Int) : spec_l4Words l n = some (decide ((l.length : Int) = n) && words l) := by
  apply spec_l4Words_le
  rw [show (0 : Int) = ((0 : Nat) : Int) by rfl, l4Words_l hl l.length 0 (by omega), List.drop_zero]
  by_cases h : (l.length : Int) = n <;> cases words l <;> simp [selm, h]

def rests (l : List Stm) : Bool := l.all fun s => stOk [s]

theorem rests_drop {l : List Stm} {i : Nat} (hi : i < l.length) : rests (l.drop i) = (stOk [l[i]] && rests (l.drop (i + 1))) := by
  unfold rests; rw [List.drop_eq_getElem_cons hi, List.all_cons]

theorem mSs_one (s : Stm) : mSs [s] = 1 + mS s := by simp [mSs]

theorem spec_rests {v : List Int} {l : List Stm} (hm : mSs l ≤ 4294967296) : ∀ (d i : Nat), i + d = l.length → spec_TaskValid_l1 i v l = some (if rests (l.drop i) then .inl (v, l) else .inr (false, v, l))
  | 0, i, hd => by
    apply spec_TaskValid_l1_le
    have hi : ¬ ((i : Int) < l.length) := by omega
    rw [List.drop_eq_nil_of_le (by omega)]
    simp [hi, rests]
  | d + 1, i, hd => by
    apply spec_TaskValid_l1_le
    have hi : i < l.length := by omega
    have hi' : (i : Int) < l.length := by omega
    have hlen := mSs_len l
    have hmem := mS_mem (List.getElem_mem hi)
    rw [wrap_succ (by omega), cut_one hi, rests_drop hi, spec_rests hm d (i + 1) (by omega)]
    simp only [hi', decide_true, cond_true, bnd_some, spec_StmtsValid_eq [l[i]] (by rw [mSs_one]; omega)]
    cases stOk [l[i]] <;> simp

def taskOk (t : Tk) : Bool := decide ((t.vars.length : Int) = 4) && words t.vars && rests t.rest

theorem spec_TaskValid_eq (t : Tk) (hv : (t.vars.length : Int) ≤ 4294967296) (hm : mSs t.rest ≤ 4294967296) : spec_TaskValid t = some (taskOk t) := by
  apply spec_TaskValid_le
  rw [show (0 : Int) = ((0 : Nat) : Int) by rfl, spec_rests hm t.rest.length 0 (by omega), List.drop_zero]
  unfold taskOk
  cases rests t.rest
  · simp [selm]
  · simp [selm, spec_l4Words_eq hv]

def hdN (many : Int) (s : Stm) : Prop := hdr s ∧ (s.kind = 4 ∨ s.kind = 5 → s.box < many)

instance (many : Int) (s : Stm) : Decidable (hdN many s) := by unfold hdN; infer_instance

def gOk (many : Int) : Nat → Stm → Bool
  | 0, s => decide (hdN many s) && !decide (s.kind = 2 ∨ s.kind = 3)
  | d + 1, s => decide (hdN many s) && (if s.kind = 2 ∨ s.kind = 3 then s.body.all (gOk many d) && s.els.all (gOk many d) else true)

theorem impl_stmtValid_1_zero (x n : Int) (hn : 0 ≤ n) : impl_stmtValid_1 x n true = some (decide (x = 0 ∨ (0 ≤ x ∧ x < n))) := by
  apply impl_stmtValid_1_le
  by_cases h : x = 0
  · simp [h]
  · by_cases h2 : 0 < x
    · simp [h, h2]; omega
    · simp [h, h2]; omega

theorem impl_stmtValid_1_false (x n : Int) : impl_stmtValid_1 x n false = some (decide (x = 0)) := by
  apply impl_stmtValid_1_le
  by_cases h : x = 0 <;> simp [h]

theorem impl_stmtValid_n {many : Int} (hmn : 0 ≤ many ∧ many ≤ 3) (s : Stm) : impl_stmtValid s many = some (decide (hdN many s)) := by
  apply impl_stmtValid_le
  simp only [impl_stmtValid_1_zero _ many hmn.1, impl_stmtValid_1_eq _ 4 true (by omega), impl_stmtValid_1_false, impl_ExprValid_eq, exp_eta, bnd_some, cond_some]
  apply some_dec
  obtain ⟨k, v, b, e, bd, el⟩ := s
  have a1 : (0 : Int) ≤ bd.length := by omega
  have a2 : (0 : Int) ≤ el.length := by omega
  have a3 : (0 : Int) ≤ e.args.length := by omega
  simp only [hdN, hdr, cond_iff, decide_eq_true_eq, if_true, Bool.false_eq_true, if_false, Bool.not_eq_true', decide_eq_false_iff_not]
  generalize (bd.length : Int) = n1 at a1
  generalize (el.length : Int) = n2 at a2
  generalize (e.args.length : Int) = n3 at a3
  cases hv : expOk 5 e
  all_goals
    by_cases h1 : k = 1
    · subst h1; simp; try omega
    by_cases h2 : k = 2
    · subst h2; simp; try omega
    by_cases h3 : k = 3
    · subst h3; simp; try omega
    by_cases h4 : k = 4
    · subst h4; simp; try omega
    by_cases h5 : k = 5
    · subst h5; simp; try omega
    by_cases h7 : k = 7
    · subst h7; simp; try omega
    by_cases h6 : k = 6
    · subst h6; simp; try omega
    simp [h1, h2, h3, h4, h5, h6, h7]

theorem block_n {many : Int} (hmn : 0 ≤ many ∧ many ≤ 3) {l : List Stm} {d0 : Nat} (hl : (l.length : Int) ≤ 4294967296) (hd0 : d0 ≤ 3)
    (hp : ∀ d, d0 = d + 1 → ∀ (bl : List Stm) (n : Int), (∃ s ∈ l, bl = s.body ∨ bl = s.els) → 0 ≤ n → n ≤ 16 → ∃ c, impl_blockValid bl many (3 - (d : Int)) n = some (decide (bl.all (gOk many d) = true ∧ n + cSs bl ≤ 16), c) ∧ (bl.all (gOk many d) = true → n + cSs bl ≤ 16 → c = n + cSs bl)) :
    ∀ (d i : Nat) (n : Int), i + d = l.length → 0 ≤ n → n ≤ 16 → ∃ c, impl_blockValid_l1 l many (3 - (d0 : Int)) l.length i n = some (if (l.drop i).all (gOk many d0) = true ∧ n + (cSs (l.drop i) - (l.length - i : Int)) ≤ 16 then .inl (n + (cSs (l.drop i) - (l.length - i : Int))) else .inr (false, c))
  | 0, i, n, hd, h0, h1 => by
    refine ⟨0, ?_⟩
    apply impl_blockValid_l1_le
    have hi : ¬ ((i : Int) < l.length) := by omega
    rw [List.drop_eq_nil_of_le (by omega), if_pos ⟨by simp, by simp [cSs]; omega⟩]
    simp [hi, cSs]; omega
  | d + 1, i, n, hd, h0, h1 => by
    have hi : i < l.length := by omega
    have hi' : (i : Int) < l.length := by omega
    have e1 : (l.drop i).all (gOk many d0) = (gOk many d0 l[i] && (l.drop (i + 1)).all (gOk many d0)) := by rw [List.drop_eq_getElem_cons hi, List.all_cons]
    have e2 := cSs_drop hi
    have e3 := cS_eq l[i]
    have e4 := cSs_len (l.drop (i + 1))
    rw [List.length_drop] at e4
    have hn3 : ¬ ((3 : Int) < 3 - (d0 : Int)) := by omega
    by_cases hh : hdN many l[i]
    · by_cases hk : l[i].kind = 2 ∨ l[i].kind = 3
      · cases d0 with
        | zero =>
          have s0 : gOk many 0 l[i] = false := by simp [gOk, hk]
          refine ⟨n, ?_⟩
          apply impl_blockValid_l1_le
          rw [geti_some hi, e1, s0]
          simp only [hi', decide_true, cond_true, bnd_some, stm_eta, impl_stmtValid_n hmn, hh, Bool.not_true, cond_false]
          rcases hk with hk | hk <;> simp [hk]
        | succ d1 =>
          have hn4 : ¬ ((3 : Int) ≤ 3 - ((d1 + 1 : Nat) : Int)) := by omega
          have hw : wrap64 (3 - ((d1 + 1 : Nat) : Int) + 1) = 3 - (d1 : Int) := by rw [wrap_id (by omega) (by omega)]; omega
          have s1 : gOk many (d1 + 1) l[i] = (l[i].body.all (gOk many d1) && l[i].els.all (gOk many d1)) := by simp [gOk, hh, hk]
          obtain ⟨c1, k1, k2⟩ := hp d1 rfl l[i].body n ⟨l[i], List.getElem_mem hi, .inl rfl⟩ h0 h1
          by_cases g1 : l[i].body.all (gOk many d1) = true ∧ n + cSs l[i].body ≤ 16
          · have hc1 := k2 g1.1 g1.2
            obtain ⟨c2, m1, m2⟩ := hp d1 rfl l[i].els (n + cSs l[i].body) ⟨l[i], List.getElem_mem hi, .inr rfl⟩ (by omega) g1.2
            by_cases g2 : l[i].els.all (gOk many d1) = true ∧ n + cSs l[i].body + cSs l[i].els ≤ 16
            · have hc2 := m2 g2.1 g2.2
              obtain ⟨c, hc⟩ := block_n hmn hl hd0 hp d (i + 1) (n + cSs l[i].body + cSs l[i].els) (by omega) (by omega) g2.2
              refine ⟨c, ?_⟩
              apply impl_blockValid_l1_le
              rw [geti_some hi, e1, s1, g1.1, g2.1, wrap_succ (by omega), hw]
              subst hc1 hc2
              have dk1 : decide (l[i].body.all (gOk many d1) = true ∧ n + (cSs l[i].body : Int) ≤ 16) = true := decide_eq_true g1
              have dk2 : decide (l[i].els.all (gOk many d1) = true ∧ n + (cSs l[i].body : Int) + (cSs l[i].els : Int) ≤ 16) = true := decide_eq_true g2
              rw [dk1] at k1
              rw [dk2] at m1
              have hcond : ((true && true && (l.drop (i + 1)).all (gOk many (d1 + 1))) = true ∧ n + ((cSs (l.drop i) : Int) - ((l.length : Int) - (i : Int))) ≤ 16) ↔ ((l.drop (i + 1)).all (gOk many (d1 + 1)) = true ∧ n + (cSs l[i].body : Int) + (cSs l[i].els : Int) + ((cSs (l.drop (i + 1)) : Int) - ((l.length : Int) - ((i + 1 : Nat) : Int))) ≤ 16) := by
                simp only [Bool.true_and, Bool.and_true]
                constructor
                · rintro ⟨x, y⟩; exact ⟨x, by omega⟩
                · rintro ⟨x, y⟩; exact ⟨x, by omega⟩
              have hval : n + ((cSs (l.drop i) : Int) - ((l.length : Int) - (i : Int))) = n + (cSs l[i].body : Int) + (cSs l[i].els : Int) + ((cSs (l.drop (i + 1)) : Int) - ((l.length : Int) - ((i + 1 : Nat) : Int))) := by omega
              rw [if_alike hcond (congrArg (Sum.inl (β := Bool × Int)) hval), ← hc]
              simp only [hi', decide_true, cond_true, bnd_some, stm_eta, impl_stmtValid_n hmn, hh, Bool.not_true, cond_false, hn3, hn4, decide_false, k1, m1]
              rcases hk with hk | hk <;> simp [hk]
            · refine ⟨c2, ?_⟩
              apply impl_blockValid_l1_le
              rw [geti_some hi, e1, s1, g1.1, hw]
              subst hc1
              have dk1 : decide (l[i].body.all (gOk many d1) = true ∧ n + (cSs l[i].body : Int) ≤ 16) = true := decide_eq_true g1
              have dk2 : decide (l[i].els.all (gOk many d1) = true ∧ n + (cSs l[i].body : Int) + (cSs l[i].els : Int) ≤ 16) = false := decide_eq_false g2
              rw [dk1] at k1
              rw [dk2] at m1
              rw [if_neg (by
                rintro ⟨x, y⟩
                simp only [Bool.true_and, Bool.and_eq_true] at x
                exact g2 ⟨x.1, by omega⟩)]
              simp only [hi', decide_true, cond_true, bnd_some, stm_eta, impl_stmtValid_n hmn, hh, Bool.not_true, cond_false, hn3, hn4, decide_false, k1, m1]
              rcases hk with hk | hk <;> simp [hk]
          · refine ⟨c1, ?_⟩
            apply impl_blockValid_l1_le
            rw [geti_some hi, e1, s1, hw]
            have dk1 : decide (l[i].body.all (gOk many d1) = true ∧ n + (cSs l[i].body : Int) ≤ 16) = false := decide_eq_false g1
            rw [dk1] at k1
            rw [if_neg (by
              rintro ⟨x, y⟩
              simp only [Bool.and_eq_true] at x
              exact g1 ⟨x.1.1, by omega⟩)]
            simp only [hi', decide_true, cond_true, bnd_some, stm_eta, impl_stmtValid_n hmn, hh, Bool.not_true, cond_false, hn3, hn4, decide_false, k1]
            rcases hk with hk | hk <;> simp [hk]
      · have n2 : l[i].kind ≠ 2 := fun h => hk (.inl h)
        have n3 : l[i].kind ≠ 3 := fun h => hk (.inr h)
        have s1 : gOk many d0 l[i] = true := by cases d0 <;> simp [gOk, hh, n2, n3]
        have hbe : l[i].body = [] ∧ l[i].els = [] := by
          have hh' := hh
          have hh' := hh'.1
          simp only [hdr, n2, n3, false_and, false_or] at hh'
          have : (l[i].body.length : Int) = 0 ∧ (l[i].els.length : Int) = 0 := by
            rcases hh' with h | h | h | h | h
            · exact ⟨h.2.2.2.2.1, h.2.2.2.2.2⟩
            · exact ⟨h.2.2.2.2.1, h.2.2.2.2.2⟩
            · exact ⟨h.2.2.2.2.1, h.2.2.2.2.2⟩
            · exact ⟨h.2.2.2.2.1, h.2.2.2.2.2⟩
            · exact ⟨h.2.2.2.2.1, h.2.2.2.2.2⟩
          exact ⟨List.eq_nil_of_length_eq_zero (by omega), List.eq_nil_of_length_eq_zero (by omega)⟩
        rw [hbe.1, hbe.2] at e3
        simp only [cSs] at e3
        obtain ⟨c, hc⟩ := block_n hmn hl hd0 hp d (i + 1) n (by omega) h0 h1
        refine ⟨c, ?_⟩
        apply impl_blockValid_l1_le
        rw [geti_some hi, e1, s1, wrap_succ (by omega)]
        have hcond : ((true && (l.drop (i + 1)).all (gOk many d0)) = true ∧ n + ((cSs (l.drop i) : Int) - ((l.length : Int) - (i : Int))) ≤ 16) ↔ ((l.drop (i + 1)).all (gOk many d0) = true ∧ n + ((cSs (l.drop (i + 1)) : Int) - ((l.length : Int) - ((i + 1 : Nat) : Int))) ≤ 16) := by
          simp only [Bool.true_and]
          constructor
          · rintro ⟨x, y⟩; exact ⟨x, by omega⟩
          · rintro ⟨x, y⟩; exact ⟨x, by omega⟩
        have hval : n + ((cSs (l.drop i) : Int) - ((l.length : Int) - (i : Int))) = n + ((cSs (l.drop (i + 1)) : Int) - ((l.length : Int) - ((i + 1 : Nat) : Int))) := by omega
        rw [if_alike hcond (congrArg (Sum.inl (β := Bool × Int)) hval), ← hc]
        simp only [hi', decide_true, cond_true, bnd_some, stm_eta, impl_stmtValid_n hmn, hh, Bool.not_true, cond_false, hn3, decide_false]
        simp [n2, n3]
    · have s1 : gOk many d0 l[i] = false := by cases d0 <;> simp [gOk, hh]
      refine ⟨n, ?_⟩
      apply impl_blockValid_l1_le
      rw [geti_some hi, e1, s1]
      simp only [hi', decide_true, cond_true, bnd_some, stm_eta, impl_stmtValid_n hmn, hh, decide_false, Bool.not_false]
      simp

theorem impl_blockValid_n {many : Int} (hmn : 0 ≤ many ∧ many ≤ 3) : ∀ (d : Nat) (l : List Stm) (n : Int), d ≤ 3 → mSs l ≤ 4294967296 → 0 ≤ n → n ≤ 16 →
    ∃ c, impl_blockValid l many (3 - (d : Int)) n = some (decide (l.all (gOk many d) = true ∧ n + cSs l ≤ 16), c) ∧ (l.all (gOk many d) = true → n + cSs l ≤ 16 → c = n + cSs l)
  | d, l, n, hd, hm, h0, h1 => by
    have hlen := mSs_len l
    have hcl := cSs_len l
    by_cases hc : (16 : Int) < n + l.length
    · refine ⟨n + l.length, ?_, fun _ h => by omega⟩
      apply impl_blockValid_le
      rw [wrap_id (by omega) (by omega)]
      have : ¬ (l.all (gOk many d) = true ∧ n + (cSs l : Int) ≤ 16) := fun h => by omega
      rw [decide_eq_false this]
      simp [hc]
    · obtain ⟨c, h⟩ := block_n hmn (l := l) (d0 := d) (by omega) hd (fun d1 e1 bl m hb g0 g1 => by
        obtain ⟨s, hs, hbl⟩ := hb
        have := mS_mem hs
        have := mS_eq s
        have hmb : mSs bl ≤ 4294967296 := by rcases hbl with rfl | rfl <;> omega
        exact impl_blockValid_n hmn d1 bl m (by omega) hmb g0 g1) l.length 0 (n + l.length) (by omega) (by omega) (by omega)
      rw [List.drop_zero] at h
      by_cases g : l.all (gOk many d) = true ∧ n + (cSs l : Int) ≤ 16
      · refine ⟨n + cSs l, ?_, fun _ _ => rfl⟩
        apply impl_blockValid_le
        rw [wrap_id (by omega) (by omega), show (0 : Int) = ((0 : Nat) : Int) by rfl, h, if_pos ⟨g.1, by omega⟩, decide_eq_true g]
        simp only [hc, decide_false, cond_false, bnd_some, selm]
        congr 2; omega
      · refine ⟨c, ?_, fun a b => absurd ⟨a, b⟩ g⟩
        apply impl_blockValid_le
        rw [wrap_id (by omega) (by omega), show (0 : Int) = ((0 : Nat) : Int) by rfl, h, if_neg (fun x => g ⟨x.1, by omega⟩), decide_eq_false g]
        simp only [hc, decide_false, cond_false, bnd_some, selm]
  termination_by d => d

mutual
def bS (many : Int) : Stm → Bool
  | ⟨k, _, b, _, bd, el⟩ => !(decide (k = 4 ∨ k = 5) && decide (many ≤ b)) && bSs many bd && bSs many el
def bSs (many : Int) : List Stm → Bool
  | [] => true
  | s :: r => bS many s && bSs many r
end

theorem bS_eq (many : Int) (s : Stm) : bS many s = (!(decide (s.kind = 4 ∨ s.kind = 5) && decide (many ≤ s.box)) && bSs many s.body && bSs many s.els) := by cases s; simp [bS]

theorem bSs_eq (many : Int) : ∀ l : List Stm, bSs many l = l.all (bS many)
  | [] => rfl
  | s :: r => by simp [bSs, bSs_eq many r]

theorem hdr_leaf {s : Stm} (h : hdr s) (n2 : s.kind ≠ 2) (n3 : s.kind ≠ 3) : s.body = [] ∧ s.els = [] := by
  simp only [hdr, n2, n3, false_and, false_or] at h
  have : (s.body.length : Int) = 0 ∧ (s.els.length : Int) = 0 := by
    rcases h with h | h | h | h | h
    · exact ⟨h.2.2.2.2.1, h.2.2.2.2.2⟩
    · exact ⟨h.2.2.2.2.1, h.2.2.2.2.2⟩
    · exact ⟨h.2.2.2.2.1, h.2.2.2.2.2⟩
    · exact ⟨h.2.2.2.2.1, h.2.2.2.2.2⟩
    · exact ⟨h.2.2.2.2.1, h.2.2.2.2.2⟩
  exact ⟨List.eq_nil_of_length_eq_zero (by omega), List.eq_nil_of_length_eq_zero (by omega)⟩

theorem hdN_dec (many : Int) (s : Stm) : decide (hdN many s) = (decide (hdr s) && !(decide (s.kind = 4 ∨ s.kind = 5) && decide (many ≤ s.box))) := by
  rw [Bool.eq_iff_iff]
  simp only [hdN, decide_eq_true_eq, Bool.and_eq_true, Bool.not_eq_true', Bool.and_eq_false_iff, decide_eq_false_iff_not]
  by_cases h : s.kind = 4 ∨ s.kind = 5
  · simp [h]
  · simp [h]

theorem all_and {α : Type} {f g h : α → Bool} (hp : ∀ a, f a = (g a && h a)) : ∀ l : List α, l.all f = (l.all g && l.all h)
  | [] => rfl
  | a :: r => by
    simp only [List.all_cons, hp a, all_and hp r]
    cases g a <;> cases h a <;> simp

theorem gOk_eq (many : Int) : ∀ (d : Nat) (s : Stm), gOk many d s = (sOk d s && bS many s)
  | 0, s => by
    simp only [gOk, sOk, hdN_dec, bS_eq]
    by_cases hh : hdr s
    · by_cases hk : s.kind = 2 ∨ s.kind = 3
      · simp [hk]
      · have hl := hdr_leaf hh (fun h => hk (.inl h)) (fun h => hk (.inr h))
        rw [hl.1, hl.2]
        simp [hh, hk, bSs]
    · simp [hh]
  | d + 1, s => by
    simp only [gOk, sOk, hdN_dec, bS_eq]
    by_cases hh : hdr s
    · by_cases hk : s.kind = 2 ∨ s.kind = 3
      · have hk4 : ¬ (s.kind = 4 ∨ s.kind = 5) := by omega
        rw [all_and (gOk_eq many d) s.body, all_and (gOk_eq many d) s.els, bSs_eq, bSs_eq]
        simp only [hk, if_true, hk4, decide_false, Bool.false_and, Bool.not_false, hh, decide_true, Bool.true_and, Bool.and_true]
        cases s.body.all (sOk d) <;> cases s.body.all (bS many) <;> cases s.els.all (sOk d) <;> simp
      · have hl := hdr_leaf hh (fun h => hk (.inl h)) (fun h => hk (.inr h))
        rw [hl.1, hl.2]
        simp [hh, hk, bSs]
    · simp [hh]

theorem l12_l {l : List Stm} {many : Int} (hl : (l.length : Int) ≤ 4294967296) (hp : ∀ s ∈ l, spec_l12Boxes s.body many = some (bSs many s.body) ∧ spec_l12Boxes s.els many = some (bSs many s.els)) :
    ∀ (d i : Nat), i + d = l.length → spec_l12Boxes_l1 l many i = some (if bSs many (l.drop i) then .inl () else .inr false)
  | 0, i, hd => by
    apply spec_l12Boxes_l1_le
    have hi : ¬ ((i : Int) < l.length) := by omega
    rw [List.drop_eq_nil_of_le (by omega)]
    simp [hi, bSs]
  | d + 1, i, hd => by
    apply spec_l12Boxes_l1_le
    have hi : i < l.length := by omega
    have hi' : (i : Int) < l.length := by omega
    obtain ⟨p1, p2⟩ := hp _ (List.getElem_mem hi)
    have e1 : bSs many (l.drop i) = (bS many l[i] && bSs many (l.drop (i + 1))) := by rw [List.drop_eq_getElem_cons hi]; simp only [bSs]
    rw [geti_some hi, wrap_succ (by omega), l12_l hl hp d (i + 1) (by omega), e1, bS_eq]
    simp only [hi', decide_true, cond_true, bnd_some, p1, p2]
    by_cases h4 : l[i].kind = 4
    · by_cases hb : many ≤ l[i].box <;> cases bSs many l[i].body <;> cases bSs many l[i].els <;> simp [h4, hb]
    · by_cases h5 : l[i].kind = 5
      · by_cases hb : many ≤ l[i].box <;> cases bSs many l[i].body <;> cases bSs many l[i].els <;> simp [h5, hb]
      · cases bSs many l[i].body <;> cases bSs many l[i].els <;> simp [h4, h5]

theorem spec_l12Boxes_eq_ {l : List Stm} {many : Int} (hl : (l.length : Int) ≤ 4294967296) (hp : ∀ s ∈ l, spec_l12Boxes s.body many = some (bSs many s.body) ∧ spec_l12Boxes s.els many = some (bSs many s.els)) : spec_l12Boxes l many = some (bSs many l) := by
  apply spec_l12Boxes_le
  rw [show (0 : Int) = ((0 : Nat) : Int) by rfl, l12_l hl hp l.length 0 (by omega), List.drop_zero]
  cases bSs many l <;> simp [selm]

theorem l12_parts (many : Int) : ∀ s : Stm, mS s ≤ 4294967296 → spec_l12Boxes s.body many = some (bSs many s.body) ∧ spec_l12Boxes s.els many = some (bSs many s.els) := by
  apply Stm.ind
  intro s ih1 ih2 hb
  rw [mS_eq] at hb
  have l1 := mSs_len s.body
  have l2 := mSs_len s.els
  exact ⟨spec_l12Boxes_eq_ (by omega) (fun a ha => ih1 a ha (by have := mS_mem ha; omega)), spec_l12Boxes_eq_ (by omega) (fun a ha => ih2 a ha (by have := mS_mem ha; omega))⟩

theorem spec_l12Boxes_eq {l : List Stm} {many : Int} (hb : mSs l ≤ 4294967296) : spec_l12Boxes l many = some (bSs many l) :=
  spec_l12Boxes_eq_ (by have := mSs_len l; omega) (fun s hs => l12_parts many s (by have := mS_mem hs; omega))

def gtOk (many : Int) (l : List Stm) : Bool := decide (l.all (gOk many 3) = true ∧ (cSs l : Int) ≤ 16)

theorem gtOk_eq (many : Int) (l : List Stm) : gtOk many l = (stOk l && bSs many l) := by
  unfold gtOk stOk
  rw [all_and (gOk_eq many 3) l, bSs_eq]
  cases l.all (sOk 3) <;> cases l.all (bS many) <;> simp

theorem impl_stmtsValid_n {many : Int} (hmn : 0 ≤ many ∧ many ≤ 3) (l : List Stm) (hm : mSs l ≤ 4294967296) : impl_stmtsValid l many = some (stOk l && bSs many l) := by
  apply impl_stmtsValid_le
  obtain ⟨c, h, _⟩ := impl_blockValid_n hmn 3 l 0 (by omega) hm (by omega) (by omega)
  rw [show (3 : Int) - ((3 : Nat) : Int) = 0 by omega] at h
  rw [h, bnd_some, ← gtOk_eq]
  simp [gtOk]

def restsN (many : Int) (l : List Stm) : Bool := l.all fun s => stOk [s] && bSs many [s]

theorem restsN_drop {many : Int} {l : List Stm} {i : Nat} (hi : i < l.length) : restsN many (l.drop i) = ((stOk [l[i]] && bSs many [l[i]]) && restsN many (l.drop (i + 1))) := by
  unfold restsN; rw [List.drop_eq_getElem_cons hi, List.all_cons]

theorem impl_rests_n {many : Int} (hmn : 0 ≤ many ∧ many ≤ 3) {v : List Int} {l : List Stm} (hm : mSs l ≤ 4294967296) : ∀ (d i : Nat), i + d = l.length → impl_taskValid_l1 many l.length i v l = some (if restsN many (l.drop i) then .inl () else .inr false)
  | 0, i, hd => by
    apply impl_taskValid_l1_le
    have hi : ¬ ((i : Int) < l.length) := by omega
    rw [List.drop_eq_nil_of_le (by omega)]
    simp [hi, restsN]
  | d + 1, i, hd => by
    apply impl_taskValid_l1_le
    have hi : i < l.length := by omega
    have hi' : (i : Int) < l.length := by omega
    have hlen := mSs_len l
    have hmem := mS_mem (List.getElem_mem hi)
    rw [wrap_succ (by omega), cut_one hi, restsN_drop hi, impl_rests_n hmn hm d (i + 1) (by omega)]
    simp only [hi', decide_true, cond_true, bnd_some, impl_stmtsValid_n hmn [l[i]] (by rw [mSs_one]; omega)]
    cases stOk [l[i]] <;> cases bSs many [l[i]] <;> simp

theorem restsN_eq (many : Int) (l : List Stm) : restsN many l = (rests l && bSs many l) := by
  unfold restsN rests
  rw [bSs_eq]
  refine all_and (fun s => ?_) l
  simp [bSs]

theorem impl_taskValid_n {many : Int} (hmn : 0 ≤ many ∧ many ≤ 3) (t : Tk) (hv : (t.vars.length : Int) ≤ 4294967296) (hm : mSs t.rest ≤ 4294967296) : impl_taskValid t many = some (taskOk t && bSs many t.rest) := by
  apply impl_taskValid_le
  rw [impl_areWords_eq hv, show (0 : Int) = ((0 : Nat) : Int) by rfl, impl_rests_n hmn hm t.rest.length 0 (by omega), List.drop_zero, restsN_eq]
  unfold taskOk
  by_cases h4 : (t.vars.length : Int) = 4 <;> cases words t.vars <;> cases rests t.rest <;> cases bSs many t.rest <;> simp [selm, h4]

def mT (t : Tk) : Nat := t.vars.length + mSs t.rest

def mB (b : Bx) : Nat := b.items.length

theorem toTask_l {a : List Tk} (hl : (a.length : Int) ≤ 4294967296) (hp : ∀ e ∈ a, laws_toTask e = some e) : ∀ (d i : Nat) (b : List Tk), i + d = a.length → b.length = a.length → b.take i = a.take i → laws_toTaskS_l1 a i b = some a
  | 0, i, b, hd, hb, ht => by
    apply laws_toTaskS_l1_le
    have hi : ¬ ((i : Int) < a.length) := by omega
    have : b = a := by rw [List.take_of_length_le (by omega), List.take_of_length_le (by omega)] at ht; exact ht
    simp [hi, this]
  | d + 1, i, b, hd, hb, ht => by
    apply laws_toTaskS_l1_le
    have hi : i < a.length := by omega
    have hi' : (i : Int) < a.length := by omega
    rw [geti_some hi, geti_some (l := b) (by omega), wrap_succ (by omega)]
    simp only [hi', decide_true, cond_true, bnd_some, hp _ (List.getElem_mem hi), Int.toNat_natCast, List.getElem?_eq_getElem (show i < b.length by omega)]
    exact toTask_l hl hp d (i + 1) _ (by omega) (by simpa using hb) (fill_step hb hi ht)

theorem laws_toTaskS_eq {a : List Tk} (hl : (a.length : Int) ≤ 4294967296) (hp : ∀ e ∈ a, laws_toTask e = some e) : laws_toTaskS a = some a := by
  apply laws_toTaskS_le
  rw [made_some hl, bnd_some, show (0 : Int) = ((0 : Nat) : Int) by rfl, toTask_l hl hp a.length 0 _ (by omega) (by simp) (by simp)]
  rfl

theorem eqTask_l {a : List Tk} (hl : (a.length : Int) ≤ 4294967296) (hp : ∀ e ∈ a, laws_eqTask e e = some true) : ∀ (d i : Nat), i + d = a.length → laws_eqTaskS_l1 a a i = some (.inl ())
  | 0, i, hd => by
    apply laws_eqTaskS_l1_le
    have hi : ¬ ((i : Int) < a.length) := by omega
    simp [hi]
  | d + 1, i, hd => by
    apply laws_eqTaskS_l1_le
    have hi : i < a.length := by omega
    have hi' : (i : Int) < a.length := by omega
    rw [geti_some hi, wrap_succ (by omega)]
    simp only [hi', decide_true, cond_true, bnd_some, hp _ (List.getElem_mem hi), Bool.not_true, cond_false]
    exact eqTask_l hl hp d (i + 1) (by omega)

theorem laws_eqTaskS_refl {a : List Tk} (hl : (a.length : Int) ≤ 4294967296) (hp : ∀ e ∈ a, laws_eqTask e e = some true) : laws_eqTaskS a a = some true := by
  apply laws_eqTaskS_le
  rw [show (0 : Int) = ((0 : Nat) : Int) by rfl, eqTask_l hl hp a.length 0 (by omega)]
  simp [selm]

theorem toBox_l {a : List Bx} (hl : (a.length : Int) ≤ 4294967296) (hp : ∀ e ∈ a, laws_toBox e = some e) : ∀ (d i : Nat) (b : List Bx), i + d = a.length → b.length = a.length → b.take i = a.take i → laws_toBoxS_l1 a i b = some a
  | 0, i, b, hd, hb, ht => by
    apply laws_toBoxS_l1_le
    have hi : ¬ ((i : Int) < a.length) := by omega
    have : b = a := by rw [List.take_of_length_le (by omega), List.take_of_length_le (by omega)] at ht; exact ht
    simp [hi, this]
  | d + 1, i, b, hd, hb, ht => by
    apply laws_toBoxS_l1_le
    have hi : i < a.length := by omega
    have hi' : (i : Int) < a.length := by omega
    rw [geti_some hi, geti_some (l := b) (by omega), wrap_succ (by omega)]
    simp only [hi', decide_true, cond_true, bnd_some, hp _ (List.getElem_mem hi), Int.toNat_natCast, List.getElem?_eq_getElem (show i < b.length by omega)]
    exact toBox_l hl hp d (i + 1) _ (by omega) (by simpa using hb) (fill_step hb hi ht)

theorem laws_toBoxS_eq {a : List Bx} (hl : (a.length : Int) ≤ 4294967296) (hp : ∀ e ∈ a, laws_toBox e = some e) : laws_toBoxS a = some a := by
  apply laws_toBoxS_le
  rw [made_some hl, bnd_some, show (0 : Int) = ((0 : Nat) : Int) by rfl, toBox_l hl hp a.length 0 _ (by omega) (by simp) (by simp)]
  rfl

theorem eqBox_l {a : List Bx} (hl : (a.length : Int) ≤ 4294967296) (hp : ∀ e ∈ a, laws_eqBox e e = some true) : ∀ (d i : Nat), i + d = a.length → laws_eqBoxS_l1 a a i = some (.inl ())
  | 0, i, hd => by
    apply laws_eqBoxS_l1_le
    have hi : ¬ ((i : Int) < a.length) := by omega
    simp [hi]
  | d + 1, i, hd => by
    apply laws_eqBoxS_l1_le
    have hi : i < a.length := by omega
    have hi' : (i : Int) < a.length := by omega
    rw [geti_some hi, wrap_succ (by omega)]
    simp only [hi', decide_true, cond_true, bnd_some, hp _ (List.getElem_mem hi), Bool.not_true, cond_false]
    exact eqBox_l hl hp d (i + 1) (by omega)

theorem laws_eqBoxS_refl {a : List Bx} (hl : (a.length : Int) ≤ 4294967296) (hp : ∀ e ∈ a, laws_eqBox e e = some true) : laws_eqBoxS a a = some true := by
  apply laws_eqBoxS_le
  rw [show (0 : Int) = ((0 : Nat) : Int) by rfl, eqBox_l hl hp a.length 0 (by omega)]
  simp [selm]

def mTs : List Tk → Nat
  | [] => 0
  | e :: r => 1 + mT e + mTs r

theorem mTs_drop {l : List Tk} {i : Nat} (hi : i < l.length) : mTs (l.drop i) = 1 + mT l[i] + mTs (l.drop (i + 1)) := by
  rw [List.drop_eq_getElem_cons hi]; simp only [mTs]

theorem mTs_len : ∀ l : List Tk, l.length ≤ mTs l
  | [] => Nat.le_refl _
  | e :: r => by have := mTs_len r; simp only [mTs, List.length_cons]; omega

theorem mTs_mem : ∀ {l : List Tk} {e : Tk}, e ∈ l → mT e < mTs l
  | [], e, h => by cases h
  | a :: r, e, h => by
    simp only [mTs]
    rcases List.mem_cons.1 h with rfl | h
    · omega
    · have := mTs_mem h; omega

theorem szTaskS_l {l : List Tk} (hl : (l.length : Int) ≤ 1048576) (hp : ∀ e ∈ l, ∀ n : Int, 0 ≤ n → n ≤ 1048576 → laws_szTask e n = some (left n (mT e))) :
    ∀ (d i : Nat) (n : Int), i + d = l.length → 0 ≤ n → n ≤ 1048576 → ∃ k, laws_szTaskS_l1 l n i = some (if (mTs (l.drop i) : Int) ≤ n + (l.length - i : Int) then .inl (n + (l.length - i : Int) - mTs (l.drop i)) else .inr (k, -1))
  | 0, i, n, hd, h0, h1 => by
    refine ⟨0, ?_⟩
    apply laws_szTaskS_l1_le
    have hi : ¬ ((i : Int) < l.length) := by omega
    rw [List.drop_eq_nil_of_le (by omega), if_pos (by simp [mTs]; omega)]
    simp [hi, mTs]; omega
  | d + 1, i, n, hd, h0, h1 => by
    have hi : i < l.length := by omega
    have hi' : (i : Int) < l.length := by omega
    have hp' := hp _ (List.getElem_mem hi) n h0 h1
    rw [mTs_drop hi]
    by_cases hc : (mT l[i] : Int) ≤ n
    · obtain ⟨k, hk⟩ := szTaskS_l hl hp d (i + 1) (n - mT l[i]) (by omega) (by omega) (by omega)
      refine ⟨k, ?_⟩
      apply laws_szTaskS_l1_le
      rw [geti_some hi, wrap_succ (by omega)]
      simp only [hi', decide_true, cond_true, bnd_some, hp', left_pos hc, hk]
      have hn : ¬ (n - (mT l[i] : Int) < 0) := by omega
      simp only [hn, decide_false, cond_false]
      by_cases hq : ((mTs (l.drop (i + 1)) : Nat) : Int) ≤ n - (mT l[i] : Int) + ((l.length : Int) - ((i + 1 : Nat) : Int))
      · rw [if_pos hq, if_pos (by omega)]; congr 2; omega
      · rw [if_neg hq, if_neg (by omega)]
    · refine ⟨-1, ?_⟩
      apply laws_szTaskS_l1_le
      rw [geti_some hi]
      simp only [hi', decide_true, cond_true, bnd_some, hp', left_out (show n < (mT l[i] : Int) by omega)]
      have := mTs_len (l.drop (i + 1))
      rw [List.length_drop] at this
      rw [if_neg (by omega)]
      simp

theorem laws_szTaskS_eq {l : List Tk} (hl : (l.length : Int) ≤ 9223372036854775807) (hp : ∀ e ∈ l, ∀ n : Int, 0 ≤ n → n ≤ 1048576 → laws_szTask e n = some (left n (mT e))) {n : Int} (h0 : 0 ≤ n) (h1 : n ≤ 1048576) : laws_szTaskS l n = some (left n (mTs l)) := by
  apply laws_szTaskS_le
  rw [wrap_id (by omega) (by omega)]
  have hlen := mTs_len l
  by_cases hc : n - (l.length : Int) < 0
  · simp only [hc, decide_true, cond_true]; rw [left_out (by omega)]
  · simp only [hc, decide_false, cond_false]
    obtain ⟨k, hk⟩ := szTaskS_l (by omega) hp l.length 0 (n - l.length) (by omega) (by omega) (by omega)
    rw [show (0 : Int) = ((0 : Nat) : Int) by rfl, hk]
    simp only [List.drop_zero, bnd_some, left]
    by_cases hq : (mTs l : Int) ≤ n
    · rw [if_pos (by omega), if_pos hq]; simp only [selm]; congr 1; omega
    · rw [if_neg (by omega), if_neg hq]; simp only [selm]

def mBs : List Bx → Nat
  | [] => 0
  | e :: r => 1 + mB e + mBs r

theorem mBs_drop {l : List Bx} {i : Nat} (hi : i < l.length) : mBs (l.drop i) = 1 + mB l[i] + mBs (l.drop (i + 1)) := by
  rw [List.drop_eq_getElem_cons hi]; simp only [mBs]

theorem mBs_len : ∀ l : List Bx, l.length ≤ mBs l
  | [] => Nat.le_refl _
  | e :: r => by have := mBs_len r; simp only [mBs, List.length_cons]; omega

theorem mBs_mem : ∀ {l : List Bx} {e : Bx}, e ∈ l → mB e < mBs l
  | [], e, h => by cases h
  | a :: r, e, h => by
    simp only [mBs]
    rcases List.mem_cons.1 h with rfl | h
    · omega
    · have := mBs_mem h; omega

theorem szBoxS_l {l : List Bx} (hl : (l.length : Int) ≤ 1048576) (hp : ∀ e ∈ l, ∀ n : Int, 0 ≤ n → n ≤ 1048576 → laws_szBox e n = some (left n (mB e))) :
    ∀ (d i : Nat) (n : Int), i + d = l.length → 0 ≤ n → n ≤ 1048576 → ∃ k, laws_szBoxS_l1 l n i = some (if (mBs (l.drop i) : Int) ≤ n + (l.length - i : Int) then .inl (n + (l.length - i : Int) - mBs (l.drop i)) else .inr (k, -1))
  | 0, i, n, hd, h0, h1 => by
    refine ⟨0, ?_⟩
    apply laws_szBoxS_l1_le
    have hi : ¬ ((i : Int) < l.length) := by omega
    rw [List.drop_eq_nil_of_le (by omega), if_pos (by simp [mBs]; omega)]
    simp [hi, mBs]; omega
  | d + 1, i, n, hd, h0, h1 => by
    have hi : i < l.length := by omega
    have hi' : (i : Int) < l.length := by omega
    have hp' := hp _ (List.getElem_mem hi) n h0 h1
    rw [mBs_drop hi]
    by_cases hc : (mB l[i] : Int) ≤ n
    · obtain ⟨k, hk⟩ := szBoxS_l hl hp d (i + 1) (n - mB l[i]) (by omega) (by omega) (by omega)
      refine ⟨k, ?_⟩
      apply laws_szBoxS_l1_le
      rw [geti_some hi, wrap_succ (by omega)]
      simp only [hi', decide_true, cond_true, bnd_some, hp', left_pos hc, hk]
      have hn : ¬ (n - (mB l[i] : Int) < 0) := by omega
      simp only [hn, decide_false, cond_false]
      by_cases hq : ((mBs (l.drop (i + 1)) : Nat) : Int) ≤ n - (mB l[i] : Int) + ((l.length : Int) - ((i + 1 : Nat) : Int))
      · rw [if_pos hq, if_pos (by omega)]; congr 2; omega
      · rw [if_neg hq, if_neg (by omega)]
    · refine ⟨-1, ?_⟩
      apply laws_szBoxS_l1_le
      rw [geti_some hi]
      simp only [hi', decide_true, cond_true, bnd_some, hp', left_out (show n < (mB l[i] : Int) by omega)]
      have := mBs_len (l.drop (i + 1))
      rw [List.length_drop] at this
      rw [if_neg (by omega)]
      simp

theorem laws_szBoxS_eq {l : List Bx} (hl : (l.length : Int) ≤ 9223372036854775807) (hp : ∀ e ∈ l, ∀ n : Int, 0 ≤ n → n ≤ 1048576 → laws_szBox e n = some (left n (mB e))) {n : Int} (h0 : 0 ≤ n) (h1 : n ≤ 1048576) : laws_szBoxS l n = some (left n (mBs l)) := by
  apply laws_szBoxS_le
  rw [wrap_id (by omega) (by omega)]
  have hlen := mBs_len l
  by_cases hc : n - (l.length : Int) < 0
  · simp only [hc, decide_true, cond_true]; rw [left_out (by omega)]
  · simp only [hc, decide_false, cond_false]
    obtain ⟨k, hk⟩ := szBoxS_l (by omega) hp l.length 0 (n - l.length) (by omega) (by omega) (by omega)
    rw [show (0 : Int) = ((0 : Nat) : Int) by rfl, hk]
    simp only [List.drop_zero, bnd_some, left]
    by_cases hq : (mBs l : Int) ≤ n
    · rw [if_pos (by omega), if_pos hq]; simp only [selm]; congr 1; omega
    · rw [if_neg (by omega), if_neg hq]; simp only [selm]

theorem laws_szIntS_eq {l : List Int} (hl : (l.length : Int) ≤ 9223372036854775807) {n : Int} (h0 : 0 ≤ n) (h1 : n ≤ 1048576) : laws_szIntS l n = some (left n l.length) := by
  apply laws_szIntS_le
  rw [wrap_id (by omega) (by omega)]
  by_cases h : (l.length : Int) ≤ n
  · rw [left_pos h]
    have : ¬ (n - (l.length : Int) < 0) := by omega
    simp only [this, decide_false, cond_false]
  · rw [left_out (by omega)]
    have : n - (l.length : Int) < 0 := by omega
    simp only [this, decide_true, cond_true]

theorem laws_szTask_n {t : Tk} (hw : wfT t) {n : Int} (h0 : 0 ≤ n) (h1 : n ≤ 1048576) : laws_szTask t n = some (left n (mT t)) := by
  apply laws_szTask_le
  obtain ⟨w1, w2, w3, w4⟩ := hw
  unfold mT
  rw [laws_szIntS_eq w1 h0 h1, bnd_some]
  by_cases c1 : (t.vars.length : Int) ≤ n
  · rw [left_pos c1]
    have g1 : ¬ (n - (t.vars.length : Int) < 0) := by omega
    simp only [g1, decide_false, cond_false]
    rw [laws_szStmtS_eq w3 (fun a ha => laws_szStmt_eq a (wfSs_iff.1 w4 a ha)) (by omega) (by omega), bnd_some, left_left c1]
    by_cases c2 : ((t.vars.length + mSs t.rest : Nat) : Int) ≤ n
    · rw [left_pos c2]
      have g2 : ¬ (n - ((t.vars.length + mSs t.rest : Nat) : Int) < 0) := by omega
      simp only [g2, decide_false, cond_false]
    · rw [left_out (by omega)]; simp
  · rw [left_out (show n < (t.vars.length : Int) by omega), left_out (by omega)]; simp

theorem laws_szBox_n {b : Bx} (hw : wfB b) {n : Int} (h0 : 0 ≤ n) (h1 : n ≤ 1048576) : laws_szBox b n = some (left n (mB b)) := by
  apply laws_szBox_le
  unfold mB
  rw [laws_szIntS_eq hw.2.1 h0 h1, bnd_some]
  by_cases c1 : (b.items.length : Int) ≤ n
  · rw [left_pos c1]
    have g1 : ¬ (n - (b.items.length : Int) < 0) := by omega
    simp only [g1, decide_false, cond_false]
  · rw [left_out (by omega)]; simp

def mW (v : Wld) : Nat := mTs v.tasks + mBs v.boxes + v.out.length

theorem laws_szWorld_eq {v : Wld} (hw : wfW v) : laws_szWorld v 1048576 = some (left 1048576 (mW v)) := by
  apply laws_szWorld_le
  obtain ⟨w1, w2, w3, w4, w5, w6, w7, w8⟩ := hw
  unfold mW
  rw [laws_szTaskS_eq w1 (fun t ht n h0 h1 => laws_szTask_n (w2 t ht) h0 h1) (by omega) (by omega), bnd_some]
  by_cases c1 : (mTs v.tasks : Int) ≤ 1048576
  · rw [left_pos c1]
    have g1 : ¬ (1048576 - (mTs v.tasks : Int) < 0) := by omega
    simp only [g1, decide_false, cond_false]
    rw [laws_szBoxS_eq w3 (fun t ht n h0 h1 => laws_szBox_n (w4 t ht) h0 h1) (by omega) (by omega), bnd_some, left_left c1]
    by_cases c2 : ((mTs v.tasks + mBs v.boxes : Nat) : Int) ≤ 1048576
    · rw [left_pos c2]
      have g2 : ¬ (1048576 - ((mTs v.tasks + mBs v.boxes : Nat) : Int) < 0) := by omega
      simp only [g2, decide_false, cond_false]
      rw [laws_szIntS_eq w7 (by omega) (by omega), bnd_some, left_left c2]
      by_cases c3 : ((mTs v.tasks + mBs v.boxes + v.out.length : Nat) : Int) ≤ 1048576
      · rw [left_pos c3]
        have g3 : ¬ (1048576 - ((mTs v.tasks + mBs v.boxes + v.out.length : Nat) : Int) < 0) := by omega
        simp only [g3, decide_false, cond_false]
      · rw [left_out (by omega)]; simp
    · rw [left_out (show (1048576 : Int) < ((mTs v.tasks + mBs v.boxes : Nat) : Int) by omega), left_out (by omega)]; simp
  · rw [left_out (show (1048576 : Int) < (mTs v.tasks : Int) by omega), left_out (by omega)]; simp

theorem laws_toBox_eq {b : Bx} (h : mB b ≤ 4294967296) : laws_toBox b = some b := by
  apply laws_toBox_le
  unfold mB at h
  rw [laws_toIntS_eq (by omega), bnd_some]

theorem laws_eqBox_refl {b : Bx} (h : mB b ≤ 4294967296) : laws_eqBox b b = some true := by
  apply laws_eqBox_le
  unfold mB at h
  rw [laws_eqIntS_refl (by omega)]; simp

theorem mW_parts {v : Wld} (h : mW v ≤ 4294967296) : (v.tasks.length : Int) ≤ 4294967296 ∧ (∀ t ∈ v.tasks, mT t ≤ 4294967296) ∧ (v.boxes.length : Int) ≤ 4294967296 ∧ (∀ b ∈ v.boxes, mB b ≤ 4294967296) ∧ (v.out.length : Int) ≤ 4294967296 := by
  unfold mW at h
  have h1 := mTs_len v.tasks
  have h2 := mBs_len v.boxes
  refine ⟨by omega, fun t ht => ?_, by omega, fun b hb => ?_, by omega⟩
  · have := mTs_mem ht; omega
  · have := mBs_mem hb; omega

theorem laws_toWorld_eq {v : Wld} (h : mW v ≤ 4294967296) : laws_toWorld v = some v := by
  obtain ⟨h1, h2, h3, h4, h5⟩ := mW_parts h
  apply laws_toWorld_le
  rw [laws_toTaskS_eq h1 (fun t ht => laws_toTask_eq (h2 t ht)), bnd_some, laws_toBoxS_eq h3 (fun b hb => laws_toBox_eq (h4 b hb)), bnd_some, laws_toIntS_eq h5, bnd_some]

theorem laws_eqWorld_refl {v : Wld} (h : mW v ≤ 4294967296) : laws_eqWorld v v = some true := by
  obtain ⟨h1, h2, h3, h4, h5⟩ := mW_parts h
  apply laws_eqWorld_le
  rw [laws_eqTaskS_refl h1 (fun t ht => laws_eqTask_refl (h2 t ht)), laws_eqBoxS_refl h3 (fun b hb => laws_eqBox_refl (h4 b hb)), laws_eqIntS_refl h5]
  simp

def boxOk (b : Bx) : Bool := decide (1 ≤ b.room ∧ b.room ≤ 4) && decide ((b.items.length : Int) ≤ b.room) && words b.items

theorem impl_BoxValid_eq {b : Bx} (h : mB b ≤ 4294967296) : impl_BoxValid b = some (boxOk b) := by
  apply impl_BoxValid_le
  unfold mB at h
  rw [impl_areWords_eq (by omega)]
  unfold boxOk
  by_cases h1 : 1 ≤ b.room <;> by_cases h2 : b.room ≤ 4 <;> by_cases h3 : (b.items.length : Int) ≤ b.room <;> cases words b.items <;> simp [h1, h2, h3]

theorem spec_BoxValid_eq {b : Bx} (h : mB b ≤ 4294967296) : spec_BoxValid b = some (boxOk b) := by
  apply spec_BoxValid_le
  unfold mB at h
  rw [spec_l4Words_eq (by omega), spec_l6In_eq]
  unfold boxOk
  by_cases h1 : 1 ≤ b.room ∧ b.room ≤ 4 <;> by_cases h3 : (b.items.length : Int) ≤ b.room <;> cases words b.items <;> simp [h1, h3]

theorem impl_boxes_l {l : List Bx} (hl : (l.length : Int) ≤ 4294967296) (hp : ∀ b ∈ l, mB b ≤ 4294967296) : ∀ (d i : Nat), i + d = l.length → impl_boxesValid_l1 l l l.length i = some (if (l.drop i).all boxOk then .inl l else .inr (l, false))
  | 0, i, hd => by
    apply impl_boxesValid_l1_le
    have hi : ¬ ((i : Int) < l.length) := by omega
    rw [List.drop_eq_nil_of_le (by omega)]
    simp [hi]
  | d + 1, i, hd => by
    apply impl_boxesValid_l1_le
    have hi : i < l.length := by omega
    have hi' : (i : Int) < l.length := by omega
    have e1 : (l.drop i).all boxOk = (boxOk l[i] && (l.drop (i + 1)).all boxOk) := by rw [List.drop_eq_getElem_cons hi, List.all_cons]
    rw [geti_some hi, wrap_succ (by omega), impl_boxes_l hl hp d (i + 1) (by omega), e1]
    simp only [hi', decide_true, cond_true, bnd_some, impl_BoxValid_eq (hp _ (List.getElem_mem hi))]
    cases boxOk l[i] <;> simp

theorem spec_boxes_l {l : List Bx} (hl : (l.length : Int) ≤ 4294967296) (hp : ∀ b ∈ l, mB b ≤ 4294967296) : ∀ (d i : Nat), i + d = l.length → spec_l15Boxes_l1 l i = some (if (l.drop i).all boxOk then .inl l else .inr (l, false))
  | 0, i, hd => by
    apply spec_l15Boxes_l1_le
    have hi : ¬ ((i : Int) < l.length) := by omega
    rw [List.drop_eq_nil_of_le (by omega)]
    simp [hi]
  | d + 1, i, hd => by
    apply spec_l15Boxes_l1_le
    have hi : i < l.length := by omega
    have hi' : (i : Int) < l.length := by omega
    have e1 : (l.drop i).all boxOk = (boxOk l[i] && (l.drop (i + 1)).all boxOk) := by rw [List.drop_eq_getElem_cons hi, List.all_cons]
    rw [geti_some hi, wrap_succ (by omega), spec_boxes_l hl hp d (i + 1) (by omega), e1]
    simp only [hi', decide_true, cond_true, bnd_some, spec_BoxValid_eq (hp _ (List.getElem_mem hi))]
    cases boxOk l[i] <;> simp

theorem impl_boxesValid_eq {l : List Bx} (hl : (l.length : Int) ≤ 4294967296) (hp : ∀ b ∈ l, mB b ≤ 4294967296) : impl_boxesValid l = some (l.all boxOk && decide ((l.length : Int) ≤ 3)) := by
  apply impl_boxesValid_le
  rw [show (0 : Int) = ((0 : Nat) : Int) by rfl, impl_boxes_l hl hp l.length 0 (by omega), List.drop_zero]
  cases l.all boxOk <;> simp [selm]

theorem spec_l15Boxes_eq {l : List Bx} (hl : (l.length : Int) ≤ 4294967296) (hp : ∀ b ∈ l, mB b ≤ 4294967296) : spec_l15Boxes l = some (l.all boxOk && decide ((l.length : Int) ≤ 3)) := by
  apply spec_l15Boxes_le
  rw [show (0 : Int) = ((0 : Nat) : Int) by rfl, spec_boxes_l hl hp l.length 0 (by omega), List.drop_zero]
  cases l.all boxOk <;> simp [selm]

def tkOk (many : Int) (t : Tk) : Bool := taskOk t && bSs many t.rest

theorem impl_tasks_l {l t0 : List Tk} {bx : List Bx} {n k : Int} {o : List Int} (hb : (bx.length : Int) ≤ 3) (hl : (l.length : Int) ≤ 4294967296) (hp : ∀ t ∈ l, mT t ≤ 4294967296) : ∀ (d i : Nat), i + d = l.length → impl_WorldValid_l1 l l.length i t0 bx n k o = some (if (l.drop i).all (tkOk bx.length) then .inl () else .inr false)
  | 0, i, hd => by
    apply impl_WorldValid_l1_le
    have hi : ¬ ((i : Int) < l.length) := by omega
    rw [List.drop_eq_nil_of_le (by omega)]
    simp [hi]
  | d + 1, i, hd => by
    apply impl_WorldValid_l1_le
    have hi : i < l.length := by omega
    have hi' : (i : Int) < l.length := by omega
    have hm := hp _ (List.getElem_mem hi)
    unfold mT at hm
    have e1 : (l.drop i).all (tkOk bx.length) = (tkOk bx.length l[i] && (l.drop (i + 1)).all (tkOk bx.length)) := by rw [List.drop_eq_getElem_cons hi, List.all_cons]
    rw [geti_some hi, wrap_succ (by omega), impl_tasks_l hb hl hp d (i + 1) (by omega), e1]
    simp only [hi', decide_true, cond_true, bnd_some, impl_taskValid_n ⟨Int.natCast_nonneg _, hb⟩ l[i] (by omega) (by omega)]
    unfold tkOk
    cases taskOk l[i] <;> cases bSs (bx.length : Int) l[i].rest <;> simp

theorem spec_tasks_l {l : List Tk} {bx : List Bx} {n k : Int} {o : List Int} (hl : (l.length : Int) ≤ 4294967296) (hp : ∀ t ∈ l, mT t ≤ 4294967296) : ∀ (d i : Nat), i + d = l.length → spec_WorldValid_l1 l.length i l bx n k o = some (if (l.drop i).all (tkOk bx.length) then .inl (l, bx, n, k, o) else .inr (false, l, bx, n, k, o))
  | 0, i, hd => by
    apply spec_WorldValid_l1_le
    have hi : ¬ ((i : Int) < l.length) := by omega
    rw [List.drop_eq_nil_of_le (by omega)]
    simp [hi]
  | d + 1, i, hd => by
    apply spec_WorldValid_l1_le
    have hi : i < l.length := by omega
    have hi' : (i : Int) < l.length := by omega
    have hm := hp _ (List.getElem_mem hi)
    unfold mT at hm
    have e1 : (l.drop i).all (tkOk bx.length) = (tkOk bx.length l[i] && (l.drop (i + 1)).all (tkOk bx.length)) := by rw [List.drop_eq_getElem_cons hi, List.all_cons]
    rw [geti_some hi, wrap_succ (by omega), spec_tasks_l hl hp d (i + 1) (by omega), e1]
    simp only [hi', decide_true, cond_true, bnd_some, spec_TaskValid_eq l[i] (by omega) (by omega), spec_l12Boxes_eq (show mSs l[i].rest ≤ 4294967296 by omega)]
    unfold tkOk
    cases taskOk l[i] <;> cases bSs (bx.length : Int) l[i].rest <;> simp

def worldOk (v : Wld) : Bool := decide (1 ≤ (v.tasks.length : Int) ∧ (v.tasks.length : Int) ≤ 3) && (v.boxes.all boxOk && decide ((v.boxes.length : Int) ≤ 3)) && decide (0 ≤ v.turn ∧ v.turn < (v.tasks.length : Int)) && decide (0 ≤ v.idle ∧ v.idle ≤ (v.tasks.length : Int)) && v.tasks.all (tkOk v.boxes.length) && words v.out

theorem impl_WorldValid_eq {v : Wld} (h : mW v ≤ 4294967296) : impl_WorldValid v = some (worldOk v) := by
  obtain ⟨h1, h2, h3, h4, h5⟩ := mW_parts h
  apply impl_WorldValid_le
  have ht : impl_turnsValid (v.tasks.length : Int) v.turn v.idle v.out = some (decide (1 ≤ (v.tasks.length : Int) ∧ (v.tasks.length : Int) ≤ 3) && decide (0 ≤ v.turn ∧ v.turn < (v.tasks.length : Int)) && decide (0 ≤ v.idle ∧ v.idle ≤ (v.tasks.length : Int)) && words v.out) := by
    apply impl_turnsValid_le
    rw [impl_areWords_eq h5]
    generalize (v.tasks.length : Int) = n
    by_cases c1 : 1 ≤ n <;> by_cases c2 : n ≤ 3 <;> by_cases c3 : 0 ≤ v.turn <;> by_cases c4 : v.turn < n <;> by_cases c5 : 0 ≤ v.idle <;> by_cases c6 : v.idle ≤ n <;> simp [c1, c2, c3, c4, c5, c6]
  rw [ht, impl_boxesValid_eq h3 h4, bnd_some]
  unfold worldOk
  by_cases hb : (v.boxes.length : Int) ≤ 3
  · rw [show (0 : Int) = ((0 : Nat) : Int) by rfl, impl_tasks_l hb h1 h2 v.tasks.length 0 (by omega), List.drop_zero]
    rw [show ((0 : Nat) : Int) = 0 by rfl]
    generalize decide (1 ≤ (v.tasks.length : Int) ∧ (v.tasks.length : Int) ≤ 3) = x1
    generalize decide (0 ≤ v.turn ∧ v.turn < (v.tasks.length : Int)) = x2
    generalize decide (0 ≤ v.idle ∧ v.idle ≤ (v.tasks.length : Int)) = x3
    cases x1 <;> cases x2 <;> cases x3 <;> cases words v.out <;> cases v.boxes.all boxOk <;> cases v.tasks.all (tkOk v.boxes.length) <;> simp [selm, hb]
  · generalize decide (1 ≤ (v.tasks.length : Int) ∧ (v.tasks.length : Int) ≤ 3) = x1
    generalize decide (0 ≤ v.turn ∧ v.turn < (v.tasks.length : Int)) = x2
    generalize decide (0 ≤ v.idle ∧ v.idle ≤ (v.tasks.length : Int)) = x3
    cases x1 <;> cases x2 <;> cases x3 <;> cases words v.out <;> simp [hb]

theorem spec_WorldValid_eq {v : Wld} (h : mW v ≤ 4294967296) : spec_WorldValid v = some (worldOk v) := by
  obtain ⟨h1, h2, h3, h4, h5⟩ := mW_parts h
  apply spec_WorldValid_le
  rw [wrap_id (n := (v.tasks.length : Int) - 1) (by omega) (by omega)]
  simp only [spec_l6In_eq, spec_l15Boxes_eq h3 h4, bnd_some]
  unfold worldOk
  rw [show (0 : Int) = ((0 : Nat) : Int) by rfl, spec_tasks_l h1 h2 v.tasks.length 0 (by omega), List.drop_zero]
  rw [show ((0 : Nat) : Int) = 0 by rfl]
  have et : (0 ≤ v.turn ∧ v.turn ≤ (v.tasks.length : Int) - 1) = (0 ≤ v.turn ∧ v.turn < (v.tasks.length : Int)) := propext (by omega)
  simp only [et]
  generalize decide (1 ≤ (v.tasks.length : Int) ∧ (v.tasks.length : Int) ≤ 3) = x1
  generalize decide (0 ≤ v.turn ∧ v.turn < (v.tasks.length : Int)) = x2
  generalize decide (0 ≤ v.idle ∧ v.idle ≤ (v.tasks.length : Int)) = x3
  generalize (v.boxes.all boxOk && decide ((v.boxes.length : Int) ≤ 3)) = x4
  cases x1 <;> cases x2 <;> cases x3 <;> cases x4 <;> cases v.tasks.all (tkOk v.boxes.length) <;> simp [selm, spec_l4Words_eq h5]

theorem laws_FnExactWorldValid_eq (v : Wld) (hw : wfW v) : laws_FnExactWorldValid v = some true := by
  apply laws_FnExactWorldValid_le
  rw [laws_szWorld_eq hw, bnd_some]
  by_cases hb : (mW v : Int) ≤ 1048576
  · rw [left_pos hb]
    have hn : ¬ (1048576 - (mW v : Int) < 0) := by omega
    have hm : mW v ≤ 4294967296 := by omega
    simp only [hn, decide_false, cond_false, laws_toWorld_eq hm, bnd_some, spec_WorldValid_eq hm, impl_WorldValid_eq hm, laws_eqWorld_refl hm]
    simp
  · rw [left_out (by omega)]; simp
end Go.TFnExactWorldValid
