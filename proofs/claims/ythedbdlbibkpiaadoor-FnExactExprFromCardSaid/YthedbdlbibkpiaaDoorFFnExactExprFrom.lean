/- The plain law: what the functions answer. -/
import Derived.Test.YthedbdlbibkpiaaDoorDFnExactExprFromE0
import Derived.Test.YthedbdlbibkpiaaDoorDFnExactExprFromE1
import Derived.Test.YthedbdlbibkpiaaDoorLkA
import Derived.Lib.ItoaLen
import Derived.Test.YthedbdlbibkpiaaDoorLkU
set_option linter.unusedVariables false
set_option linter.unusedSimpArgs false
namespace Go.TFnExactExprFrom
open Go Go.RowKit Go.Vs Go.Tv
theorem spec_l6In_eq (a b c : Int) : spec_l6In a b c = some (decide (b ≤ a ∧ a ≤ c)) := by
  apply spec_l6In_le
  by_cases h : b ≤ a <;> simp [h]

theorem spec_OpValid_eq (a : Int) : spec_OpValid a = some (decide (1 ≤ a ∧ a ≤ 12)) := by
  apply spec_OpValid_le; simp [spec_l6In_eq]

theorem impl_OpValid_eq (a : Int) : impl_OpValid a = some (decide (1 ≤ a ∧ a ≤ 12)) := by
  apply impl_OpValid_le
  by_cases h : 1 ≤ a <;> simp [h]

theorem geti_some {α : Type} {l : List α} {i : Nat} (h : i < l.length) : geti l (i : Int) = some l[i] := by
  rw [geti_nat', List.getElem?_eq_getElem h]

theorem wrap_succ {i : Nat} (h : (i : Int) < 9223372036854775807) : wrap64 ((i : Int) + 1) = ((i + 1 : Nat) : Int) := by
  rw [wrap_id (by omega) (by omega)]; omega

theorem exp_eta (e : Exp) : (⟨e.op, e.n, e.args⟩ : Exp) = e := by cases e; rfl

mutual
theorem Exp.ind {P : Exp → Prop} (h : ∀ e : Exp, (∀ a ∈ e.args, P a) → P e) : ∀ e : Exp, P e
  | ⟨o, n, as⟩ => h ⟨o, n, as⟩ (Exp.inds h as)
theorem Exp.inds {P : Exp → Prop} (h : ∀ e : Exp, (∀ a ∈ e.args, P a) → P e) : ∀ l : List Exp, ∀ a ∈ l, P a
  | [], a, ha => by cases ha
  | e :: r, a, ha => by
    rcases List.mem_cons.1 ha with e1 | h1
    · rw [e1]; exact Exp.ind h e
    · exact Exp.inds h r a h1
end

/-- Is an expression valid with at most some depth? -/
def expOk : Nat → Exp → Bool
  | 0, _ => false
  | d + 1, e =>
    if e.op = 0 then decide (0 ≤ e.n ∧ e.n ≤ 99999) && e.args.isEmpty
    else if e.op = 13 then decide (0 ≤ e.n ∧ e.n < 4) && e.args.isEmpty
    else decide (1 ≤ e.op ∧ e.op ≤ 12) && decide (e.n = 0) && match e.args with | [a, b] => expOk d a && expOk d b | _ => false

theorem len0 {α : Type} (l : List α) : ((l.length : Int) = 0) ↔ l = [] := by
  constructor
  · intro h; exact List.eq_nil_of_length_eq_zero (by omega)
  · intro h; subst h; rfl

theorem two_args {l : List Exp} : ((l.length : Int) = 2) ↔ ∃ a b, l = [a, b] := by
  constructor
  · intro h
    match l, h with
    | [a, b], _ => exact ⟨a, b, rfl⟩
    | [], h => simp at h
    | [_], h => simp at h
    | _ :: _ :: _ :: _, h => simp at h; omega
  · rintro ⟨a, b, rfl⟩; rfl

theorem geti0 {α : Type} (a : α) (l : List α) : geti (a :: l) 0 = some a := by simp [geti]

theorem geti1 {α : Type} (a b : α) (l : List α) : geti (a :: b :: l) 1 = some b := by simp [geti]

theorem pred_d (d : Nat) (h : d ≤ 5) : wrap64 (((d + 1 : Nat) : Int) - 1) = (d : Int) := by rw [wrap_id (by omega) (by omega)]; omega

theorem impl_exprValid_eq : ∀ (d : Nat) (e : Exp), d ≤ 5 → impl_exprValid e (d : Int) = some (expOk d e)
  | d, e, hd => by
    apply impl_exprValid_le
    simp only [impl_OpValid_eq, bnd_some, exp_eta]
    by_cases h0 : e.op = 0
    · cases d with
      | zero => by_cases h1 : 0 ≤ e.n <;> by_cases h2 : e.n ≤ 99999 <;> by_cases h3 : e.args = [] <;> simp [h0, h1, h2, h3, expOk, len0]
      | succ d => by_cases h1 : 0 ≤ e.n <;> by_cases h2 : e.n ≤ 99999 <;> by_cases h3 : e.args = [] <;> simp [h0, h1, h2, h3, expOk, len0] <;> omega
    · by_cases h13 : e.op = 13
      · cases d with
        | zero => by_cases h1 : 0 ≤ e.n <;> by_cases h2 : e.n < 4 <;> by_cases h3 : e.args = [] <;> simp [h13, h1, h2, h3, expOk, len0]
        | succ d => by_cases h1 : 0 ≤ e.n <;> by_cases h2 : e.n < 4 <;> by_cases h3 : e.args = [] <;> simp [h13, h1, h2, h3, expOk, len0] <;> omega
      · by_cases h1 : 1 ≤ e.op ∧ e.op ≤ 12
        · by_cases h2 : e.n = 0
          · by_cases h3 : (e.args.length : Int) = 2
            · obtain ⟨a, b, hab⟩ := two_args.1 h3
              cases d with
              | zero => simp [h0, h13, h1, h2, h3, expOk]
              | succ d =>
                cases d with
                | zero => simp [h0, h13, h1, h2, h3, expOk, hab]
                | succ d =>
                  have hd1 : (1 : Int) < (d : Int) + 1 + 1 := by omega
                  rw [pred_d (d + 1) (by omega), hab, geti0, geti1]
                  simp only [bnd_some, impl_exprValid_eq (d + 1) _ (by omega)]
                  have e1 : expOk (d + 1 + 1) e = (expOk (d + 1) a && expOk (d + 1) b) := by
                    rw [expOk]; simp [h0, h13, h1, h2, hab]
                  rw [e1]
                  cases expOk (d + 1) a <;> simp [h0, h13, h1, h2, hd1]
            · have hm : (match e.args with | [a, b] => (fun d => expOk d a && expOk d b) | _ => fun _ => false) = fun _ => false := by
                split
                · rename_i a b hab; exact absurd (two_args.2 ⟨a, b, hab⟩) h3
                · rfl
              have e1 : expOk d e = false := by
                cases d with
                | zero => rfl
                | succ d =>
                  rw [expOk]; simp only [h0, h13, if_false]
                  split
                  · rename_i a b hab; exact absurd (two_args.2 ⟨a, b, hab⟩) h3
                  · simp
              rw [e1]; simp [h0, h13, h1, h2, h3]
          · have e1 : expOk d e = false := by cases d <;> simp [expOk, h0, h13, h2]
            rw [e1]; simp [h0, h13, h1, h2]
        · have e1 : expOk d e = false := by cases d <;> simp [expOk, h0, h13, h1]
          rw [e1]; simp [h0, h13, h1]

theorem impl_ExprValid_eq (e : Exp) : impl_ExprValid e = some (expOk 5 e) := by
  apply impl_ExprValid_le
  rw [exp_eta, show (5 : Int) = ((5 : Nat) : Int) by rfl, impl_exprValid_eq 5 e (by omega)]
  rfl

theorem spec_l4Ok_eq : ∀ (d : Nat) (e : Exp), d ≤ 5 → spec_l4Ok e (d : Int) = some (expOk d e)
  | 0, e, hd => by
    apply spec_l4Ok_le
    simp [expOk]
  | d + 1, e, hd => by
    apply spec_l4Ok_le
    have hd0 : ¬ (((d + 1 : Nat) : Int) < 1) := by omega
    simp only [spec_l6In_eq, spec_OpValid_eq, bnd_some, exp_eta, hd0, decide_false, cond_false, expOk]
    by_cases h0 : e.op = 0
    · by_cases h1 : 0 ≤ e.n ∧ e.n ≤ 99999 <;> by_cases h3 : e.args = [] <;> simp [h0, h1, h3, len0]
    · by_cases h13 : e.op = 13
      · have e3 : (e.n < 4) = (e.n ≤ 3) := propext (by omega)
        by_cases h1 : 0 ≤ e.n ∧ e.n ≤ 3 <;> by_cases h3 : e.args = [] <;> simp [h13, h1, h3, len0, e3]
      · by_cases h1 : 1 ≤ e.op ∧ e.op ≤ 12
        · by_cases h2 : e.n = 0
          · by_cases h3 : (e.args.length : Int) = 2
            · obtain ⟨a, b, hab⟩ := two_args.1 h3
              rw [pred_d d (by omega), hab, geti0, geti1]
              simp only [bnd_some, spec_l4Ok_eq d _ (by omega)]
              cases expOk d a <;> simp [h0, h13, h1, h2]
            · have e1 : (match e.args with | [a, b] => expOk d a && expOk d b | _ => false) = false := by
                split
                · rename_i a b hab; exact absurd (two_args.2 ⟨a, b, hab⟩) h3
                · rfl
              rw [e1]; simp [h0, h13, h1, h2, h3]
          · simp [h0, h13, h1, h2]
        · simp [h0, h13, h1]

theorem spec_ExprValid_eq (e : Exp) : spec_ExprValid e = some (expOk 5 e) := by
  apply spec_ExprValid_le
  rw [exp_eta, show (5 : Int) = ((5 : Nat) : Int) by rfl, spec_l4Ok_eq 5 e (by omega)]
  rfl

/-- A valid expression is a number, a variable, or an operation on two valid ones. -/
theorem expOk_cases {d : Nat} {e : Exp} (h : expOk (d + 1) e = true) : (e.op = 0 ∧ e.args = [] ∧ 0 ≤ e.n ∧ e.n ≤ 99999) ∨ (e.op = 13 ∧ e.args = [] ∧ 0 ≤ e.n ∧ e.n < 4) ∨
    (1 ≤ e.op ∧ e.op ≤ 12 ∧ e.n = 0 ∧ ∃ a b, e.args = [a, b] ∧ expOk d a = true ∧ expOk d b = true) := by
  unfold expOk at h
  split at h
  · rename_i h0; simp at h; exact .inl ⟨h0, h.2, h.1⟩
  · split at h
    · rename_i h0; simp at h; exact .inr (.inl ⟨h0, h.2, h.1⟩)
    · simp only [Bool.and_eq_true, decide_eq_true_eq] at h
      obtain ⟨⟨h1, h2⟩, h3⟩ := h
      split at h3
      · rename_i a b hab
        simp only [Bool.and_eq_true] at h3
        exact .inr (.inr ⟨h1.1, h1.2, h2, a, b, hab, h3.1, h3.2⟩)
      · cases h3

theorem w01 : wrap64 (0 + 1) = 1 := by unfold wrap64; omega

theorem w11 : wrap64 (1 + 1) = 2 := by unfold wrap64; omega

theorem w1 : wrap64 1 = 1 := by unfold wrap64; omega

theorem l4Leaf_eq (o n : Int) : spec_l4Leaf o n = some (o, n, .own false, []) := by apply spec_l4Leaf_le; rfl

theorem l4Both_eq (o : Int) (a b : Exp) : spec_l4Both o a b = some (o, 0, .full, [a, b]) := by apply spec_l4Both_le; simp [exp_eta]

mutual
def emX : Exp → Nat
  | ⟨_, _, as⟩ => emXs as
def emXs : List Exp → Nat
  | [] => 0
  | e :: r => 1 + emX e + emXs r
end

theorem emX_eq (e : Exp) : emX e = emXs e.args := by cases e; simp [emX]

theorem emXs_len : ∀ l : List Exp, l.length ≤ emXs l
  | [] => Nat.le_refl _
  | e :: r => by have := emXs_len r; simp only [emXs, List.length_cons]; omega

theorem emX_mem : ∀ {l : List Exp} {e : Exp}, e ∈ l → emX e < emXs l
  | [], e, h => by cases h
  | a :: r, e, h => by
    simp only [emXs]
    rcases List.mem_cons.1 h with rfl | h
    · omega
    · have := emX_mem h; omega

/-- What is left of a budget. -/
def left (n : Int) (m : Nat) : Int := if (m : Int) ≤ n then n - m else -1

theorem eqExprS_l {a : List Exp} (hl : (a.length : Int) ≤ 4294967296) (hp : ∀ e ∈ a, laws_eqExpr e e = some true) : ∀ (d i : Nat), i + d = a.length → laws_eqExprS_l1 a a i = some (.inl ())
  | 0, i, hd => by
    apply laws_eqExprS_l1_le
    have hi : ¬ ((i : Int) < a.length) := by omega
    simp [hi]
  | d + 1, i, hd => by
    apply laws_eqExprS_l1_le
    have hi : i < a.length := by omega
    have hi' : (i : Int) < a.length := by omega
    rw [geti_some hi, wrap_succ (by omega)]
    simp only [hi', decide_true, cond_true, bnd_some, exp_eta, hp _ (List.getElem_mem hi), Bool.not_true, cond_false]
    exact eqExprS_l hl hp d (i + 1) (by omega)

theorem laws_eqExprS_refl {a : List Exp} (hl : (a.length : Int) ≤ 4294967296) (hp : ∀ e ∈ a, laws_eqExpr e e = some true) : laws_eqExprS a a = some true := by
  apply laws_eqExprS_le
  rw [show (0 : Int) = ((0 : Nat) : Int) by rfl, eqExprS_l hl hp a.length 0 (by omega)]
  simp [selm]

theorem laws_eqExpr_refl : ∀ e : Exp, emX e ≤ 4294967296 → laws_eqExpr e e = some true := by
  apply Exp.ind
  intro e ih hm
  apply laws_eqExpr_le
  rw [emX_eq] at hm
  have := emXs_len e.args
  rw [laws_eqExprS_refl (by omega) (fun a ha => ih a ha (by have := emX_mem ha; omega))]
  simp

def opTs : List (List UInt8) := [[124], [94], [38], [61, 61], [60], [60, 60], [62, 62], [43], [45], [42], [47], [37]]

def opT (n : Int) : List UInt8 := if 1 ≤ n ∧ n ≤ 12 then opTs.getD (n - 1).toNat [] else []

theorem opTs_get {n : Int} (h0 : 1 ≤ n) (h1 : n ≤ 12) : opTs[(n - 1).toNat]? = some (opT n) := by
  unfold opT
  rw [if_pos ⟨h0, h1⟩, List.getD_eq_getElem?_getD]
  have hl : (n - 1).toNat < opTs.length := by show (n - 1).toNat < 12; omega
  rw [List.getElem?_eq_getElem hl]; rfl

theorem spec_OpText_eq (n : Int) : spec_OpText n = some (opT n) := by
  apply spec_OpText_le
  rw [spec_OpValid_eq, bnd_some]
  by_cases h : 1 ≤ n ∧ n ≤ 12
  · simp only [h, and_self, decide_true, Bool.not_true, cond_false]
    rw [wrap_id (by omega) (by omega)]
    unfold geti
    rw [if_pos (by omega)]
    rw [show ([[124], [94], [38], [61, 61], [60], [60, 60], [62, 62], [43], [45], [42], [47], [37]] : List (List UInt8)) = opTs from rfl, opTs_get h.1 h.2]; rfl
  · simp only [h, decide_false, Bool.not_false, cond_true]
    unfold opT; rw [if_neg h]

abbrev Tok := List UInt8

def dg (c : UInt8) : Bool := decide (48 ≤ c.toNat ∧ c.toNat ≤ 57)

def lt (c : UInt8) : Bool := decide (97 ≤ c.toNat ∧ c.toNat ≤ 122)

def bl (c : UInt8) : Bool := decide (c.toNat = 32 ∨ c.toNat = 10)

def syms : List UInt8 := [43, 45, 42, 47, 37, 38, 124, 94, 60, 62, 40, 41, 123, 125, 61, 59]

def ones : List UInt8 := [124, 94, 38, 60, 43, 45, 42, 47, 37, 40, 41, 123, 125, 61, 59]

def twos : List (List UInt8) := [[61, 61], [60, 60], [62, 62]]

def tokLen : List UInt8 → Nat
  | [] => 0
  | c :: r =>
    if dg c then 1 + (r.takeWhile dg).length
    else if lt c then 1 + (r.takeWhile lt).length
    else if twos.any (fun t => t.isPrefixOf (c :: r)) then 2
    else if c ∈ ones then 1 else 0

theorem tokLen_le : ∀ l : List UInt8, tokLen l ≤ l.length
  | [] => Nat.le_refl _
  | c :: r => by
    have h1 := (List.takeWhile_sublist (l := r) dg).length_le
    have h2 := (List.takeWhile_sublist (l := r) lt).length_le
    have h3 : twos.any (fun t => t.isPrefixOf (c :: r)) = true → 2 ≤ (c :: r).length := by
      intro h
      obtain ⟨t, ht, hp⟩ := List.any_eq_true.mp h
      have := (List.isPrefixOf_iff_prefix.mp hp).length_le
      have : t.length = 2 := by
        unfold twos at ht
        simp only [List.mem_cons, List.not_mem_nil, or_false] at ht
        rcases ht with rfl | rfl | rfl <;> rfl
      omega
    simp only [tokLen]
    by_cases c1 : dg c = true
    · simp only [c1, if_true, List.length_cons]; omega
    · simp only [c1, Bool.false_eq_true, if_false]
      by_cases c2 : lt c = true
      · simp only [c2, if_true, List.length_cons]; omega
      · simp only [c2, Bool.false_eq_true, if_false]
        by_cases c3 : twos.any (fun t => t.isPrefixOf (c :: r)) = true
        · simp only [c3, if_true]; exact h3 c3
        · simp only [c3, Bool.false_eq_true, if_false]
          by_cases c4 : c ∈ ones
          · simp only [c4, if_true, List.length_cons]; simp
          · simp [c4]

def toks : List UInt8 → Option (List Tok)
  | [] => some []
  | c :: r =>
    if bl c then toks r
    else if h : tokLen (c :: r) = 0 then none
    else bnd (toks ((c :: r).drop (tokLen (c :: r)))) fun t => some ((c :: r).take (tokLen (c :: r)) :: t)
termination_by l => l.length
decreasing_by
  · simp
  · simp only [List.length_drop, List.length_cons]; omega

theorem w1n {n : Nat} (h : n ≤ 1000000000000) : wrap64 ((n : Int) + 1) = ((n + 1 : Nat) : Int) := by rw [wrap_id (by omega) (by omega)]; rfl

theorem geti_lt {α : Type} {l : List α} {i : Nat} (h : i < l.length) : geti l (i : Int) = some l[i] := by rw [geti_nat', List.getElem?_eq_getElem h]

theorem impl_isDigit_eq (c : UInt8) : impl_isDigit (c.toNat : Int) = some (dg c) := by
  apply impl_isDigit_le
  unfold dg
  by_cases h : 48 ≤ c.toNat
  · have h' : (48 : Int) ≤ c.toNat := by omega
    simp only [h', decide_true, cond_true, h, true_and]
    congr 1; congr 1; apply propext; omega
  · have h' : ¬ (48 : Int) ≤ c.toNat := by omega
    simp only [h', decide_false, cond_false, h, false_and]

theorem impl_isLetter_eq (c : UInt8) : impl_isLetter (c.toNat : Int) = some (lt c) := by
  apply impl_isLetter_le
  unfold lt
  by_cases h : 97 ≤ c.toNat
  · have h' : (97 : Int) ≤ c.toNat := by omega
    simp only [h', decide_true, cond_true, h, true_and]
    congr 1; congr 1; apply propext; omega
  · have h' : ¬ (97 : Int) ≤ c.toNat := by omega
    simp only [h', decide_false, cond_false, h, false_and]

theorem digits_l {s : List UInt8} (hs : s.length ≤ 1000000000) (t9 t10 : Int) : ∀ (d i : Nat), i + d = s.length →
    impl_tokenLength_l1_l2_33100 s i t9 t10 = some (s, ((i + ((s.drop i).takeWhile dg).length : Nat) : Int), t9, t10)
  | 0, i, h => by
    apply impl_tokenLength_l1_l2_33100_le
    have h1 : ¬ ((i : Int) < s.length) := by omega
    simp only [h1, decide_false, cond_false]
    rw [List.drop_eq_nil_of_le (by omega)]; rfl
  | d + 1, i, h => by
    apply impl_tokenLength_l1_l2_33100_le
    have h1 : (i : Int) < s.length := by omega
    have hl : i < s.length := by omega
    simp only [h1, decide_true, cond_true]
    rw [geti_lt hl, bnd_some, impl_isDigit_eq, bnd_some, List.drop_eq_getElem_cons hl, List.takeWhile_cons]
    cases hd : dg s[i]
    · simp
    · simp only [cond_true, if_true]
      rw [w1n (by omega), digits_l hs t9 t10 d (i + 1) (by omega)]
      simp only [List.length_cons]
      rw [Nat.add_assoc, Nat.add_comm 1]

theorem letters_l {s : List UInt8} (hs : s.length ≤ 1000000000) (t9 t10 : Int) : ∀ (d i : Nat), i + d = s.length →
    impl_tokenLength_l1_l2_33200 s i t9 t10 = some (s, ((i + ((s.drop i).takeWhile lt).length : Nat) : Int), t9, t10)
  | 0, i, h => by
    apply impl_tokenLength_l1_l2_33200_le
    have h1 : ¬ ((i : Int) < s.length) := by omega
    simp only [h1, decide_false, cond_false]
    rw [List.drop_eq_nil_of_le (by omega)]; rfl
  | d + 1, i, h => by
    apply impl_tokenLength_l1_l2_33200_le
    have h1 : (i : Int) < s.length := by omega
    have hl : i < s.length := by omega
    simp only [h1, decide_true, cond_true]
    rw [geti_lt hl, bnd_some, impl_isLetter_eq, bnd_some, List.drop_eq_getElem_cons hl, List.takeWhile_cons]
    cases hd : lt s[i]
    · simp
    · simp only [cond_true, if_true]
      rw [w1n (by omega), letters_l hs t9 t10 d (i + 1) (by omega)]
      simp only [List.length_cons]
      rw [Nat.add_assoc, Nat.add_comm 1]

theorem tokenLength_l1_eq {s : List UInt8} (hs : s.length ≤ 1000000000) : impl_tokenLength_l1 s 2 0 =
    some (if 0 < (s.takeWhile dg).length then .inr (s, ((s.takeWhile dg).length : Int)) else if 0 < (s.takeWhile lt).length then .inr (s, ((s.takeWhile lt).length : Int)) else .inl s) := by
  apply impl_tokenLength_l1_le
  have e0 := digits_l hs 2 0 s.length 0 (by omega)
  have e1 := letters_l hs 2 1 s.length 0 (by omega)
  simp only [List.drop_zero, Nat.zero_add, Int.ofNat_zero, Int.natCast_zero] at e0 e1
  simp only [show (0 : Int) < 2 by omega, decide_true, cond_true]
  rw [show (0 : Int) = ((0 : Nat) : Int) from rfl] at e0
  rw [show impl_tokenLength_l1_l2_33100 s 0 2 0 = _ from e0, bnd_some]
  by_cases h0 : 0 < (s.takeWhile dg).length
  · have h0' : (0 : Int) < ((s.takeWhile dg).length : Int) := by omega
    simp only [h0', decide_true, cond_true, h0, if_true]
  · have h0' : ¬ (0 : Int) < ((s.takeWhile dg).length : Int) := by omega
    simp only [h0', decide_false, cond_false, h0, if_false]
    rw [show wrap64 (((0 : Nat) : Int) + 1) = 1 from w01]
    apply impl_tokenLength_l1_le
    simp only [show (1 : Int) < 2 by omega, show ¬ (1 : Int) = 0 by omega, show (1 : Int) - 1 = 0 by omega, decide_true, decide_false, cond_false, cond_true]
    rw [show impl_tokenLength_l1_l2_33200 s 0 2 1 = _ from e1, bnd_some]
    by_cases h1 : 0 < (s.takeWhile lt).length
    · have h1' : (0 : Int) < ((s.takeWhile lt).length : Int) := by omega
      simp only [h1', decide_true, cond_true, h1, if_true]
    · have h1' : ¬ (0 : Int) < ((s.takeWhile lt).length : Int) := by omega
      simp only [h1', decide_false, cond_false, h1, if_false]
      rw [show wrap64 (1 + 1) = 2 from w11]
      apply impl_tokenLength_l1_le
      simp only [show ¬ (2 : Int) < 2 by omega, decide_false, cond_false]

theorem tokenLength_l3_eq {s : List UInt8} (m : Md) (l : List (List UInt8)) (hl : l.length ≤ 1000) : ∀ (d i : Nat), i + d = l.length →
    impl_tokenLength_l3 s m l l.length i = some (if (l.drop i).any (fun t => t.isPrefixOf s) then .inr (s, 2) else .inl s)
  | 0, i, h => by
    apply impl_tokenLength_l3_le
    have h1 : ¬ ((i : Int) < l.length) := by omega
    simp only [h1, decide_false, cond_false]
    rw [List.drop_eq_nil_of_le (by omega)]; rfl
  | d + 1, i, h => by
    apply impl_tokenLength_l3_le
    have h1 : (i : Int) < l.length := by omega
    have hi : i < l.length := by omega
    simp only [h1, decide_true, cond_true]
    have hp : strings_HasPrefix s l[i] = some (l[i].isPrefixOf s) := strings_HasPrefix_le _ _ _ rfl
    rw [geti_lt hi, bnd_some, hp, bnd_some, List.drop_eq_getElem_cons hi, List.any_cons]
    cases l[i].isPrefixOf s
    · simp only [cond_false, Bool.false_or]
      rw [w1n (by omega), tokenLength_l3_eq m l hl d (i + 1) (by omega)]
    · simp

theorem index_pos (c : UInt8) : ∀ l : List UInt8, (0 ≤ Lib.indexByte l c ↔ c ∈ l) ∧ -1 ≤ Lib.indexByte l c
  | [] => by simp [Lib.indexByte]
  | a :: r => by
    have ih := index_pos c r
    unfold Lib.indexByte
    by_cases h : a = c
    · subst h; simp
    · have h' : ¬ c = a := fun e => h e.symm
      simp only [h, h', if_false, List.mem_cons, false_or, beq_iff_eq]
      by_cases hc : c ∈ r
      · have h2 := ih.1.mpr hc
        simp only [hc, iff_true]
        split <;> omega
      · have h2 : ¬ 0 ≤ Lib.indexByte r c := fun h => hc (ih.1.mp h)
        simp only [hc, iff_false]
        split <;> omega

theorem impl_tokenLength_eq {s : List UInt8} (hs : s.length ≤ 1000000000) : impl_tokenLength s = some (tokLen s : Int) := by
  apply impl_tokenLength_le
  rw [show ((([33100, 33200] : List Nat).length : Nat) : Int) = 2 from rfl, tokenLength_l1_eq hs, bnd_some]
  cases s with
  | nil =>
    simp only [List.takeWhile_nil, List.length_nil, Nat.lt_irrefl, if_false, selm]
    rw [show (0 : Int) = ((0 : Nat) : Int) from rfl, tokenLength_l3_eq _ _ (by decide) 3 0 (by decide), bnd_some]
    rfl
  | cons c r =>
    simp only [List.takeWhile_cons, tokLen]
    cases hd : dg c
    · simp only [Bool.false_eq_true, if_false, List.length_nil, Nat.lt_irrefl]
      cases hl : lt c
      · simp only [Bool.false_eq_true, if_false, List.length_nil, Nat.lt_irrefl, selm]
        rw [show impl_tokenLength_l3 (c :: r) .full ([[61, 61], [60, 60], [62, 62]] : List (List UInt8)) (([[61, 61], [60, 60], [62, 62]] : List (List UInt8)).length : Int) 0 = _ from tokenLength_l3_eq _ _ (by decide) 3 0 (by decide), bnd_some]
        rw [List.drop_zero]
        change selm (if twos.any (fun t => t.isPrefixOf (c :: r)) = true then _ else _) _ _ = some (((if twos.any (fun t => t.isPrefixOf (c :: r)) = true then 2 else if c ∈ ones then 1 else 0 : Nat)) : Int)
        by_cases c3 : twos.any (fun t => t.isPrefixOf (c :: r)) = true
        · simp only [c3, if_true, selm]; rfl
        · simp only [c3, if_false, selm, Bool.false_eq_true]
          rw [show ((c :: r : List UInt8) == []) = false from rfl]
          simp only [Bool.not_false, cond_true]
          rw [show geti (c :: r) 0 = some c from geti0 _ _, bnd_some]
          have hi : strings_IndexByte ([124, 94, 38, 60, 43, 45, 42, 47, 37, 40, 41, 123, 125, 61, 59]) (c.toNat : Int) = some (Lib.indexByte ones c) := by
            apply strings_IndexByte_le _ _
            have e : ((c.toNat : Int).toNat.toUInt8) = c := by
              rw [Int.toNat_natCast]; exact UInt8.ofNat_toNat
            rw [e]; rfl
          rw [hi, bnd_some]
          by_cases c4 : c ∈ ones
          · have := (index_pos c ones).1.mpr c4
            simp [this, c4]
          · have : ¬ 0 ≤ Lib.indexByte ones c := fun h => c4 ((index_pos c ones).1.mp h)
            simp [this, c4]
      · simp only [if_true, List.length_cons, selm, Nat.zero_lt_succ]
        rw [Nat.add_comm]
    · simp only [if_true, List.length_cons, selm, Nat.zero_lt_succ]
      rw [Nat.add_comm]

theorem appL_one {α : Type} {l : List α} {a : α} (h : l.length ≤ 1000000) : appL l [a] = some (l ++ [a]) := by
  unfold appL; rw [if_pos (by simp only [List.length_cons, List.length_nil]; omega)]

theorem cutL_some {α : Type} {l : List α} {lo hi : Nat} (h1 : lo ≤ hi) (h2 : hi ≤ l.length) : cutL l (lo : Int) (hi : Int) = some ((l.take hi).drop lo) := by
  unfold cutL
  rw [if_pos (by omega), Int.toNat_natCast, Int.toNat_natCast]

theorem drop_take_drop {α : Type} (l : List α) (i n : Nat) : (l.take (i + n)).drop i = (l.drop i).take n := by
  rw [List.drop_take]; congr 1; omega

theorem toks_nil : toks [] = some [] := by unfold toks; rfl

theorem toks_bl {c : UInt8} (r : List UInt8) (h : bl c = true) : toks (c :: r) = toks r := by
  conv => lhs; unfold toks
  rw [if_pos h]

theorem toks_no {c : UInt8} {r : List UInt8} (h : bl c = false) (h0 : tokLen (c :: r) = 0) : toks (c :: r) = none := by
  unfold toks
  rw [if_neg (by simp [h]), dif_pos h0]

theorem toks_tok {c : UInt8} {r : List UInt8} (h : bl c = false) (h0 : tokLen (c :: r) ≠ 0) :
    toks (c :: r) = bnd (toks ((c :: r).drop (tokLen (c :: r)))) fun t => some ((c :: r).take (tokLen (c :: r)) :: t) := by
  conv => lhs; unfold toks
  rw [if_neg (by simp [h]), dif_neg h0]

theorem impl_Tokens_l {s : List UInt8} (hs : s.length ≤ 20000) : ∀ (d i : Nat) (b : Bool) (l : List Tok), s.length ≤ i + d → l.length ≤ i → i ≤ s.length →
    (∀ t, toks (s.drop i) = some t → ∃ b', impl_Tokens_l1 s b l i = some (.inl (b', l ++ t))) ∧
    (toks (s.drop i) = none → ∃ b' l', impl_Tokens_l1 s b l i = some (.inr ((false, []), false, (b', l'))))
  | d, i, b, l, h, hl, hi => by
    by_cases hlt : i < s.length
    · have h1 : (i : Int) < s.length := by omega
      obtain ⟨d, rfl⟩ : ∃ d', d = d' + 1 := ⟨d - 1, by omega⟩
      have e := List.drop_eq_getElem_cons hlt
      have hg : geti s (i : Int) = some s[i] := geti_lt hlt
      generalize s[i] = c at e hg
      cases hb : bl c
      · have hb' : ¬ ((c.toNat : Int) = 32) ∧ ¬ ((c.toNat : Int) = 10) := by
          unfold bl at hb
          have := of_decide_eq_false hb
          omega
        have hc : cutL s (i : Int) (s.length : Int) = some (s.drop i) := by
          rw [cutL_some (by omega) (by omega), List.take_length]
        have ht : impl_tokenLength (s.drop i) = some (tokLen (s.drop i) : Int) := impl_tokenLength_eq (by simp only [List.length_drop]; omega)
        have hle := tokLen_le (s.drop i)
        rw [List.length_drop] at hle
        by_cases h0 : tokLen (s.drop i) = 0
        · have hn : toks (s.drop i) = none := by rw [e]; exact toks_no hb (by rw [← e]; exact h0)
          rw [hn]
          refine ⟨fun t h => by (cases h), fun _ => ⟨b, l, ?_⟩⟩
          apply impl_Tokens_l1_le
          simp only [h1, decide_true, cond_true, hg, bnd_some, hb'.1, hb'.2, decide_false, cond_false, hc, ht, h0, Int.ofNat_zero, Int.natCast_zero]
        · have hn : toks (s.drop i) = bnd (toks (s.drop (i + tokLen (s.drop i)))) fun t => some ((s.drop i).take (tokLen (s.drop i)) :: t) := by
            conv => lhs; rw [e]
            rw [toks_tok hb (by rw [← e]; exact h0), ← e, List.drop_drop]
          rw [hn]
          have ih := impl_Tokens_l hs d (i + tokLen (s.drop i)) true (l ++ [(s.drop i).take (tokLen (s.drop i))]) (by omega) (by simp only [List.length_append, List.length_cons, List.length_nil]; omega) (by omega)
          have hw : wrap64 ((i : Int) + (tokLen (s.drop i) : Int)) = ((i + tokLen (s.drop i) : Nat) : Int) := by rw [wrap_id (by omega) (by omega)]; rfl
          have h0' : ¬ ((tokLen (s.drop i) : Int) = 0) := by omega
          have hc2 : cutL s (i : Int) ((i + tokLen (s.drop i) : Nat) : Int) = some ((s.drop i).take (tokLen (s.drop i))) := by
            rw [cutL_some (by omega) (by omega), drop_take_drop]
          have step : ∀ x, impl_Tokens_l1 s true (l ++ [(s.drop i).take (tokLen (s.drop i))]) ((i + tokLen (s.drop i) : Nat) : Int) = some x → impl_Tokens_l1 s b l i = some x := by
            intro x hx
            apply impl_Tokens_l1_le
            simp only [h1, decide_true, cond_true, hg, bnd_some, hb'.1, hb'.2, decide_false, cond_false, hc, ht, h0', hw, hc2]
            rw [appL_one (by omega), bnd_some, hx]
          refine ⟨fun t h => ?_, fun h => ?_⟩
          · cases ht2 : toks (s.drop (i + tokLen (s.drop i))) with
            | none => rw [ht2] at h; cases h
            | some t2 =>
              rw [ht2, bnd_some] at h
              injection h with h
              subst h
              obtain ⟨b', hx⟩ := ih.1 t2 ht2
              refine ⟨b', step _ ?_⟩
              rw [hx, List.append_assoc]; rfl
          · cases ht2 : toks (s.drop (i + tokLen (s.drop i))) with
            | none =>
              obtain ⟨b', l', hx⟩ := ih.2 ht2
              exact ⟨b', l', step _ hx⟩
            | some t2 => rw [ht2, bnd_some] at h; cases h
      · have hn : toks (s.drop i) = toks (s.drop (i + 1)) := by rw [e]; exact toks_bl _ hb
        rw [hn]
        have ih := impl_Tokens_l hs d (i + 1) b l (by omega) (by omega) (by omega)
        have step : ∀ x, impl_Tokens_l1 s b l ((i + 1 : Nat) : Int) = some x → impl_Tokens_l1 s b l i = some x := by
          intro x hx
          apply impl_Tokens_l1_le
          have hb' := of_decide_eq_true hb
          by_cases h32 : (c.toNat : Int) = 32
          · simp only [h1, decide_true, cond_true, hg, bnd_some, h32]
            rw [w1n (by omega), hx]
          · have h10 : (c.toNat : Int) = 10 := by omega
            simp only [h1, decide_true, cond_true, hg, bnd_some, h10, show ¬ ((10 : Int) = 32) by omega, decide_false, cond_false]
            rw [w1n (by omega), hx]
        refine ⟨fun t h => ?_, fun h => ?_⟩
        · obtain ⟨b', hx⟩ := ih.1 t h
          exact ⟨b', step _ hx⟩
        · obtain ⟨b', l', hx⟩ := ih.2 h
          exact ⟨b', l', step _ hx⟩
    · rw [List.drop_eq_nil_of_le (by omega), toks_nil]
      refine ⟨fun t h => ⟨b, ?_⟩, fun h => by cases h⟩
      injection h with h
      subst h
      apply impl_Tokens_l1_le
      have h1 : ¬ ((i : Int) < s.length) := by omega
      simp only [h1, decide_false, cond_false, List.append_nil]

theorem impl_Tokens_eq (s : List UInt8) : impl_Tokens s = some (if 20000 < s.length then ([], false) else match toks s with | some t => (t, true) | none => ([], false)) := by
  apply impl_Tokens_le
  by_cases h : 20000 < s.length
  · have h' : (20000 : Int) < s.length := by omega
    simp only [h, h', decide_true, cond_true, if_true]
  · have h' : ¬ (20000 : Int) < s.length := by omega
    simp only [h, h', decide_false, cond_false, if_false]
    have := impl_Tokens_l (s := s) (by omega) s.length 0 false [] (by omega) (by simp) (by omega)
    rw [List.drop_zero] at this
    cases ht : toks s with
    | some t =>
      obtain ⟨b', e⟩ := this.1 t ht
      rw [show impl_Tokens_l1 s false [] 0 = _ from e, bnd_some]; rfl
    | none =>
      obtain ⟨b', l', e⟩ := this.2 ht
      rw [show impl_Tokens_l1 s false [] 0 = _ from e, bnd_some]; rfl

def knd (c : UInt8) : Int := if dg c then 1 else if lt c then 2 else if bl c then 3 else if c ∈ syms then 4 else 0

theorem l3Kind_l (c : UInt8) (l : List UInt8) (hl : l.length ≤ 1000) : ∀ (d i : Nat), i + d = l.length →
    spec_l3Kind_l1 (c.toNat : Int) l i = some (if c ∈ l.drop i then .inr 4 else .inl ())
  | 0, i, h => by
    apply spec_l3Kind_l1_le
    have h1 : ¬ ((i : Int) < l.length) := by omega
    simp only [h1, decide_false, cond_false]
    rw [List.drop_eq_nil_of_le (by omega)]; rfl
  | d + 1, i, h => by
    apply spec_l3Kind_l1_le
    have h1 : (i : Int) < l.length := by omega
    have hi : i < l.length := by omega
    simp only [h1, decide_true, cond_true]
    rw [geti_lt hi, bnd_some, List.drop_eq_getElem_cons hi]
    by_cases hc : l[i] = c
    · simp only [hc, decide_true, cond_true, List.mem_cons, true_or, if_true]
    · have hc' : ¬ ((l[i].toNat : Int) = (c.toNat : Int)) := fun e => hc (UInt8.toNat_inj.mp (by omega))
      have hc2 : ¬ c = l[i] := fun e => hc e.symm
      simp only [hc', decide_false, cond_false, List.mem_cons, hc2, false_or]
      rw [w1n (by omega), l3Kind_l c l hl d (i + 1) (by omega)]

theorem l3Kind_eq (c : UInt8) : spec_l3Kind (c.toNat : Int) = some (knd c) := by
  apply spec_l3Kind_le
  have e := l3Kind_l c syms (by decide) 16 0 (by decide)
  rw [List.drop_zero] at e
  have e' : spec_l3Kind_l1 (c.toNat : Int) ([43, 45, 42, 47, 37, 38, 124, 94, 60, 62, 40, 41, 123, 125, 61, 59]) 0 = some (if c ∈ syms then .inr 4 else .inl ()) := e
  rw [e']
  simp only [bnd_some]
  unfold knd dg lt bl
  by_cases h1 : (48 : Int) ≤ c.toNat <;> by_cases h2 : (c.toNat : Int) ≤ 57 <;> by_cases h3 : (97 : Int) ≤ c.toNat <;> by_cases h4 : (c.toNat : Int) ≤ 122 <;>
    by_cases h5 : (c.toNat : Int) = 32 <;> by_cases h6 : (c.toNat : Int) = 10 <;> try omega
  all_goals
    have g1 : (48 ≤ c.toNat) = ((48 : Int) ≤ c.toNat) := propext (by omega)
    have g2 : (c.toNat ≤ 57) = ((c.toNat : Int) ≤ 57) := propext (by omega)
    have g3 : (97 ≤ c.toNat) = ((97 : Int) ≤ c.toNat) := propext (by omega)
    have g4 : (c.toNat ≤ 122) = ((c.toNat : Int) ≤ 122) := propext (by omega)
    have g5 : (c.toNat = 32) = ((c.toNat : Int) = 32) := propext (by omega)
    have g6 : (c.toNat = 10) = ((c.toNat : Int) = 10) := propext (by omega)
    simp only [g1, g2, g3, g4, g5, g6, h1, h2, h3, h4, h5, h6, decide_true, decide_false, cond_true, cond_false, true_and, and_true, and_false, false_and, or_true, or_false, false_or, if_true, if_false, Bool.false_eq_true]
    try (first | rfl | (split <;> rfl))

theorem knd_dg {c : UInt8} (h : dg c = true) : knd c = 1 := by unfold knd; rw [if_pos h]

theorem dg_lt {c : UInt8} (h : lt c = true) : dg c = false := by unfold dg lt at *; have := of_decide_eq_true h; apply decide_eq_false; omega

theorem knd_lt {c : UInt8} (h : lt c = true) : knd c = 2 := by unfold knd; rw [if_neg (by simp [dg_lt h]), if_pos h]

theorem knd_one {c : UInt8} : (knd c = 1) ↔ dg c = true := by
  refine ⟨fun h => ?_, knd_dg⟩
  unfold knd at h
  split at h
  · assumption
  · split at h; · cases h
    split at h; · cases h
    split at h <;> cases h

theorem knd_two {c : UInt8} : (knd c = 2) ↔ lt c = true := by
  refine ⟨fun h => ?_, knd_lt⟩
  unfold knd at h
  split at h; · cases h
  split at h
  · assumption
  · split at h; · cases h
    split at h <;> cases h

theorem bl_not {c : UInt8} (h : bl c = true) : dg c = false ∧ lt c = false := by
  unfold dg lt bl at *; have := of_decide_eq_true h
  exact ⟨decide_eq_false (by omega), decide_eq_false (by omega)⟩

theorem knd_three {c : UInt8} : (knd c = 3) ↔ bl c = true := by
  refine ⟨fun h => ?_, fun h => ?_⟩
  · unfold knd at h
    split at h; · cases h
    split at h; · cases h
    split at h
    · assumption
    · split at h <;> cases h
  · obtain ⟨h1, h2⟩ := bl_not h
    unfold knd; simp [h, h1, h2]

theorem l3Run_l {s : List UInt8} (hs : s.length ≤ 1000000000) {at0 : Nat} (ha : at0 < s.length) {p : UInt8 → Bool} (hp : ∀ c, (knd c = knd s[at0]) ↔ p c = true) : ∀ (d i : Nat), i + d = s.length →
    spec_l3Run_l1 s at0 i = some ((i + ((s.drop i).takeWhile p).length : Nat) : Int)
  | 0, i, h => by
    apply spec_l3Run_l1_le
    have h1 : ¬ ((i : Int) < s.length) := by omega
    simp only [h1, decide_false, cond_false]
    rw [List.drop_eq_nil_of_le (by omega)]; rfl
  | d + 1, i, h => by
    apply spec_l3Run_l1_le
    have h1 : (i : Int) < s.length := by omega
    have hl : i < s.length := by omega
    simp only [h1, decide_true, cond_true]
    rw [geti_lt hl, bnd_some, l3Kind_eq, bnd_some, geti_lt ha, bnd_some, l3Kind_eq, bnd_some, List.drop_eq_getElem_cons hl, List.takeWhile_cons]
    cases hd : p s[i]
    · have : ¬ (knd s[i] = knd s[at0]) := by rw [hp]; simp [hd]
      simp only [this, decide_false, cond_false]; simp
    · have : knd s[i] = knd s[at0] := (hp _).mpr hd
      simp only [this, decide_true, cond_true, if_true]
      rw [w1n (by omega), l3Run_l hs ha hp d (i + 1) (by omega)]
      simp only [List.length_cons]
      rw [Nat.add_assoc, Nat.add_comm 1]

theorem l3Two_eq (s : List UInt8) : spec_l3Two s = some (twos.contains s) := by
  apply spec_l3Two_le
  unfold twos
  by_cases h1 : s = [60, 60]
  · subst h1; rfl
  · by_cases h2 : s = [62, 62]
    · subst h2; rfl
    · by_cases h3 : s = [61, 61]
      · subst h3; rfl
      · have e1 : (s == [60, 60]) = false := by rw [beq_eq_false_iff_ne]; exact h1
        have e2 : (s == [62, 62]) = false := by rw [beq_eq_false_iff_ne]; exact h2
        have e3 : (s == [61, 61]) = false := by rw [beq_eq_false_iff_ne]; exact h3
        rw [e1, e2, e3]
        simp only [cond_false, List.contains_cons, e1, e2, e3, Bool.or_false, List.contains_nil]

theorem twos_pre (c d : UInt8) (r : List UInt8) : twos.any (fun t => t.isPrefixOf (c :: d :: r)) = twos.contains [c, d] := by
  unfold twos
  have key : ∀ x : UInt8, ([x, x] : List UInt8).isPrefixOf (c :: d :: r) = ([c, d] == [x, x]) := by
    intro x
    have e1 : (x == c) = (c == x) := by rw [Bool.eq_iff_iff]; simp only [beq_iff_eq]; exact eq_comm
    have e2 : (x == d) = (d == x) := by rw [Bool.eq_iff_iff]; simp only [beq_iff_eq]; exact eq_comm
    simp only [List.isPrefixOf, Bool.and_true, e1, e2]
    show _ = (c == x && (d == x && true))
    rw [Bool.and_true]
  simp only [List.any_cons, List.any_nil, key, List.contains_cons, List.contains_nil]

theorem twos_one (c : UInt8) : twos.any (fun t => t.isPrefixOf [c]) = false := by
  unfold twos
  simp [List.isPrefixOf]

theorem twos_syms {c : UInt8} {r : List UInt8} (h : ¬ c ∈ syms) : twos.any (fun t => t.isPrefixOf (c :: r)) = false := by
  cases r with
  | nil => exact twos_one c
  | cons d r =>
    rw [twos_pre]
    cases hc : twos.contains [c, d] with
    | false => rfl
    | true =>
      exfalso
      rw [List.contains_iff_mem] at hc
      unfold twos at hc
      simp only [List.mem_cons, List.cons.injEq, List.not_mem_nil, or_false] at hc
      apply h
      rcases hc with ⟨rfl, _⟩ | ⟨rfl, _⟩ | ⟨rfl, _⟩ <;> decide

theorem ones_syms {c : UInt8} : (c ∈ ones ↔ c ∈ syms ∧ c ≠ 62) := by
  unfold ones syms
  simp only [List.mem_cons, List.not_mem_nil, or_false]
  constructor
  · intro h
    rcases h with rfl | rfl | rfl | rfl | rfl | rfl | rfl | rfl | rfl | rfl | rfl | rfl | rfl | rfl | rfl <;> decide
  · intro ⟨h, h2⟩
    rcases h with rfl | rfl | rfl | rfl | rfl | rfl | rfl | rfl | rfl | rfl | rfl | rfl | rfl | rfl | rfl | rfl <;> first | decide | exact absurd rfl h2

theorem l3End_sym {s : List UInt8} (hs : s.length ≤ 1000000000) {i : Nat} {c : UInt8} (hi : i < s.length) (hg : geti s (i : Int) = some c) {r : List UInt8} (ed : s.drop i = c :: r) (h1 : dg c = false) (h2 : lt c = false) (hb : bl c = false) :
    spec_l3End s i = some (if tokLen (s.drop i) = 0 then -1 else ((i + tokLen (s.drop i) : Nat) : Int)) := by
  apply spec_l3End_le
  rw [hg, bnd_some, l3Kind_eq, bnd_some]
  have hk : knd c = if c ∈ syms then 4 else 0 := by unfold knd; rw [if_neg (by simp [h1]), if_neg (by simp [h2]), if_neg (by simp [hb])]
  have ht : tokLen (c :: r) = if twos.any (fun t => t.isPrefixOf (c :: r)) then 2 else if c ∈ ones then 1 else 0 := by
    simp only [tokLen, h1, h2, Bool.false_eq_true, if_false]
  have hlen : s.length = i + (r.length + 1) := by
    have := congrArg List.length ed
    rw [List.length_drop, List.length_cons] at this; omega
  have hw1 : wrap64 ((i : Int) + 1) = ((i + 1 : Nat) : Int) := w1n (by omega)
  have hw2 : wrap64 ((i : Int) + 2) = ((i + 2 : Nat) : Int) := by rw [wrap_id (by omega) (by omega)]; rfl
  rw [hk, hw1, hw2, ed]
  by_cases h4 : c ∈ syms
  · have tail : (bif decide ((c.toNat : Int) = 62) then some (-1) else some ((i + 1 : Nat) : Int)) = some (if (if c ∈ ones then 1 else 0) = 0 then (-1 : Int) else ((i + (if c ∈ ones then 1 else 0) : Nat) : Int)) := by
      by_cases h62 : c = 62
      · subst h62; rfl
      · have ho : c ∈ ones := ones_syms.mpr ⟨h4, h62⟩
        have hn : ¬ ((c.toNat : Int) = 62) := fun e => h62 (UInt8.toNat_inj.mp (by show c.toNat = 62; omega))
        simp only [hn, ho, decide_false, cond_false, if_true]
        rw [if_neg (by omega)]
    simp only [h4, if_true, show ¬ ((4 : Int) = 1) by omega, show ¬ ((4 : Int) = 2) by omega, decide_true, decide_false, cond_false, Bool.not_true]
    cases r with
    | nil =>
      have hle : ¬ (((i + 2 : Nat) : Int) ≤ (s.length : Int)) := by
        rw [hlen]; simp only [List.length_nil]; omega
      simp only [hle, decide_false, cond_false]
      rw [ht, twos_one, bnd_some, tail]
      simp
    | cons d r =>
      have hle : (((i + 2 : Nat) : Int) ≤ (s.length : Int)) := by
        rw [hlen]; simp only [List.length_cons]; omega
      have hcut : cutL s (i : Int) ((i + 2 : Nat) : Int) = some [c, d] := by
        rw [cutL_some (by omega) (by omega), drop_take_drop, ed]; rfl
      simp only [hle, decide_true, cond_true]
      rw [hcut, bnd_some, l3Two_eq, bnd_some, ht, twos_pre]
      cases hc : twos.contains [c, d] with
      | true =>
        simp only [cond_true, if_true]
        rw [if_neg (by omega)]
      | false =>
        simp only [cond_false, Bool.false_eq_true, if_false]
        rw [bnd_some, tail]
  · have hn : twos.any (fun t => t.isPrefixOf (c :: r)) = false := twos_syms h4
    have ho : ¬ c ∈ ones := fun h => h4 (ones_syms.mp h).1
    rw [ht, hn]
    simp only [h4, ho, Bool.false_eq_true, if_false, show ¬ ((0 : Int) = 1) by omega, show ¬ ((0 : Int) = 2) by omega, show ¬ ((0 : Int) = 4) by omega, decide_false, cond_false, Bool.not_false, cond_true, if_true]

theorem l3End_eq {s : List UInt8} (hs : s.length ≤ 1000000000) {i : Nat} (hi : i < s.length) (hb : bl s[i] = false) :
    spec_l3End s i = some (if tokLen (s.drop i) = 0 then -1 else ((i + tokLen (s.drop i) : Nat) : Int)) := by
  have hg : geti s (i : Int) = some s[i] := geti_lt hi
  have ed := List.drop_eq_getElem_cons hi
  by_cases h1 : dg s[i] = true
  · have hk := knd_dg h1
    have hr : spec_l3Run s i = some ((i + ((s.drop i).takeWhile dg).length : Nat) : Int) := by
      apply spec_l3Run_le
      rw [l3Run_l hs hi (p := dg) (fun c => by rw [hk, knd_one]) (s.length - i) i (by omega), bnd_some]
    apply spec_l3End_le
    rw [hg, bnd_some, l3Kind_eq, bnd_some]
    simp only [hk, decide_true, cond_true]
    rw [hr, bnd_some, ed]
    simp only [tokLen, List.takeWhile_cons, h1, if_true, List.length_cons]
    rw [if_neg (by omega), Nat.add_comm 1]
  by_cases h2 : lt s[i] = true
  · have hk := knd_lt h2
    have hr : spec_l3Run s i = some ((i + ((s.drop i).takeWhile lt).length : Nat) : Int) := by
      apply spec_l3Run_le
      rw [l3Run_l hs hi (p := lt) (fun c => by rw [hk, knd_two]) (s.length - i) i (by omega), bnd_some]
    apply spec_l3End_le
    rw [hg, bnd_some, l3Kind_eq, bnd_some]
    simp only [hk, decide_true, cond_true, show ¬ ((2 : Int) = 1) by omega, decide_false, cond_false]
    rw [hr, bnd_some, ed]
    simp only [tokLen, List.takeWhile_cons, h1, h2, if_true, List.length_cons, Bool.false_eq_true, if_false]
    rw [if_neg (by omega), Nat.add_comm 1]
  exact l3End_sym hs hi hg ed (by simpa using h1) (by simpa using h2) hb

theorem spec_Tokens_l {s : List UInt8} (hs : s.length ≤ 20000) : ∀ (d i : Nat) (b : Bool) (l : List Tok), s.length ≤ i + d → l.length ≤ i → i ≤ s.length →
    (∀ t, toks (s.drop i) = some t → ∃ b', spec_Tokens_l1 s b l i = some (.inl (b', l ++ t))) ∧
    (toks (s.drop i) = none → ∃ b' l', spec_Tokens_l1 s b l i = some (.inr ((false, []), false, (b', l'))))
  | d, i, b, l, h, hl, hi => by
    by_cases hlt : i < s.length
    · have h1 : (i : Int) < s.length := by omega
      obtain ⟨d, rfl⟩ : ∃ d', d = d' + 1 := ⟨d - 1, by omega⟩
      have e := List.drop_eq_getElem_cons hlt
      have hg : geti s (i : Int) = some s[i] := geti_lt hlt
      cases hb : bl s[i]
      · have hend := l3End_eq (by omega) hlt hb
        generalize s[i] = c at e hg hb
        have hb' : ¬ (knd c = 3) := by rw [knd_three]; simp [hb]
        have hle := tokLen_le (s.drop i)
        rw [List.length_drop] at hle
        by_cases h0 : tokLen (s.drop i) = 0
        · have hn : toks (s.drop i) = none := by rw [e]; exact toks_no hb (by rw [← e]; exact h0)
          rw [hn]
          refine ⟨fun t h => by (cases h), fun _ => ⟨b, l, ?_⟩⟩
          apply spec_Tokens_l1_le
          rw [if_pos h0] at hend
          simp only [h1, decide_true, cond_true, hg, bnd_some, l3Kind_eq, hb', decide_false, cond_false, hend, show (-1 : Int) < 0 by omega]
        · have hn : toks (s.drop i) = bnd (toks (s.drop (i + tokLen (s.drop i)))) fun t => some ((s.drop i).take (tokLen (s.drop i)) :: t) := by
            conv => lhs; rw [e]
            rw [toks_tok hb (by rw [← e]; exact h0), ← e, List.drop_drop]
          rw [hn]
          rw [if_neg h0] at hend
          have ih := spec_Tokens_l hs d (i + tokLen (s.drop i)) true (l ++ [(s.drop i).take (tokLen (s.drop i))]) (by omega) (by simp only [List.length_append, List.length_cons, List.length_nil]; omega) (by omega)
          have h0' : ¬ (((i + tokLen (s.drop i) : Nat) : Int) < 0) := by omega
          have hc2 : cutL s (i : Int) ((i + tokLen (s.drop i) : Nat) : Int) = some ((s.drop i).take (tokLen (s.drop i))) := by
            rw [cutL_some (by omega) (by omega), drop_take_drop]
          have step : ∀ x, spec_Tokens_l1 s true (l ++ [(s.drop i).take (tokLen (s.drop i))]) ((i + tokLen (s.drop i) : Nat) : Int) = some x → spec_Tokens_l1 s b l i = some x := by
            intro x hx
            apply spec_Tokens_l1_le
            simp only [h1, decide_true, cond_true, hg, bnd_some, l3Kind_eq, hb', decide_false, cond_false, hend, h0', hc2]
            rw [appL_one (by omega), bnd_some, hx]
          refine ⟨fun t h => ?_, fun h => ?_⟩
          · cases ht2 : toks (s.drop (i + tokLen (s.drop i))) with
            | none => rw [ht2] at h; cases h
            | some t2 =>
              rw [ht2, bnd_some] at h
              injection h with h
              subst h
              obtain ⟨b', hx⟩ := ih.1 t2 ht2
              refine ⟨b', step _ ?_⟩
              rw [hx, List.append_assoc]; rfl
          · cases ht2 : toks (s.drop (i + tokLen (s.drop i))) with
            | none =>
              obtain ⟨b', l', hx⟩ := ih.2 ht2
              exact ⟨b', l', step _ hx⟩
            | some t2 => rw [ht2, bnd_some] at h; cases h
      · generalize s[i] = c at e hg hb
        have hn : toks (s.drop i) = toks (s.drop (i + 1)) := by rw [e]; exact toks_bl _ hb
        rw [hn]
        have ih := spec_Tokens_l hs d (i + 1) b l (by omega) (by omega) (by omega)
        have step : ∀ x, spec_Tokens_l1 s b l ((i + 1 : Nat) : Int) = some x → spec_Tokens_l1 s b l i = some x := by
          intro x hx
          apply spec_Tokens_l1_le
          have hb' : knd c = 3 := knd_three.mpr hb
          simp only [h1, decide_true, cond_true, hg, bnd_some, l3Kind_eq, hb']
          rw [w1n (by omega), hx]
        refine ⟨fun t h => ?_, fun h => ?_⟩
        · obtain ⟨b', hx⟩ := ih.1 t h
          exact ⟨b', step _ hx⟩
        · obtain ⟨b', l', hx⟩ := ih.2 h
          exact ⟨b', l', step _ hx⟩
    · rw [List.drop_eq_nil_of_le (by omega), toks_nil]
      refine ⟨fun t h => ⟨b, ?_⟩, fun h => by cases h⟩
      injection h with h
      subst h
      apply spec_Tokens_l1_le
      have h1 : ¬ ((i : Int) < s.length) := by omega
      simp only [h1, decide_false, cond_false, List.append_nil]

theorem spec_Tokens_eq (s : List UInt8) : spec_Tokens s = some (if 20000 < s.length then ([], false) else match toks s with | some t => (t, true) | none => ([], false)) := by
  apply spec_Tokens_le
  by_cases h : 20000 < s.length
  · have h' : (20000 : Int) < s.length := by omega
    simp only [h, h', decide_true, cond_true, if_true]
  · have h' : ¬ (20000 : Int) < s.length := by omega
    simp only [h, h', decide_false, cond_false, if_false]
    have := spec_Tokens_l (s := s) (by omega) s.length 0 true [] (by omega) (by simp) (by omega)
    rw [List.drop_zero] at this
    cases ht : toks s with
    | some t =>
      obtain ⟨b', e⟩ := this.1 t ht
      rw [show spec_Tokens_l1 s true ([] : List (List UInt8)) 0 = _ from e, bnd_some]; rfl
    | none =>
      obtain ⟨b', l', e⟩ := this.2 ht
      rw [show spec_Tokens_l1 s true ([] : List (List UInt8)) 0 = _ from e, bnd_some]; rfl

def opAt : List Tok → Nat → Tok → Nat
  | [], _, _ => 0
  | x :: r, n, t => if x = t then n else opAt r (n + 1) t

def opN (t : Tok) : Nat := opAt opTs 1 t

def levN (n : Nat) : Nat := [0, 1, 2, 3, 4, 5, 6, 6, 7, 7, 8, 8, 8].getD n 0

def nlev : List Tok → Nat
  | [] => 0
  | t :: _ => levN (opN t)

def lp : Tok := [40]

def rp : Tok := [41]

def numV (t : Tok) : Int := if 1 ≤ t.length ∧ t.length ≤ 5 then (match Lib.decFrom 0 t with | some n => (n : Int) | none => -1) else -1

def varV (t : Tok) : Int := match t with
  | [c] => if 97 ≤ c.toNat ∧ c.toNat ≤ 100 then (c.toNat : Int) - 97 else -1
  | _ => -1

def atom (t : Tok) : Option Exp := if 0 ≤ numV t then some ⟨0, numV t, []⟩ else if 0 ≤ varV t then some ⟨13, varV t, []⟩ else none

inductive J where
  | lev (k : Nat)
  | opd
  | loop (k : Nat) (e : Exp)

abbrev Out := Option (Exp × List Tok)

/-- By levels. -/
inductive P : J → List Tok → Out → Prop
  | nil : P .opd [] none
  | atom {t : Tok} {l : List Tok} {e : Exp} : t ≠ lp → atom t = some e → P .opd (t :: l) (some (e, l))
  | bad {t : Tok} {l : List Tok} : t ≠ lp → atom t = none → P .opd (t :: l) none
  | par {l r : List Tok} {e : Exp} : P (.lev 1) l (some (e, rp :: r)) → P .opd (lp :: l) (some (e, r))
  | parN {l : List Tok} : P (.lev 1) l none → P .opd (lp :: l) none
  | parE {l : List Tok} {e : Exp} : P (.lev 1) l (some (e, [])) → P .opd (lp :: l) none
  | parB {l r : List Tok} {t : Tok} {e : Exp} : P (.lev 1) l (some (e, t :: r)) → t ≠ rp → P .opd (lp :: l) none
  | top {k : Nat} {l : List Tok} {o : Out} : 8 < k → P .opd l o → P (.lev k) l o
  | levN {k : Nat} {l : List Tok} : k ≤ 8 → P (.lev (k + 1)) l none → P (.lev k) l none
  | levS {k : Nat} {l r : List Tok} {e : Exp} {o : Out} : k ≤ 8 → P (.lev (k + 1)) l (some (e, r)) → P (.loop k e) r o → P (.lev k) l o
  | stop {k : Nat} {e : Exp} {l : List Tok} : nlev l ≠ k → P (.loop k e) l (some (e, l))
  | step {k : Nat} {e b : Exp} {t : Tok} {l r : List Tok} {o : Out} : levN (opN t) = k → P (.lev (k + 1)) l (some (b, r)) → P (.loop k ⟨(opN t : Int), 0, [e, b]⟩) r o → P (.loop k e) (t :: l) o
  | stepN {k : Nat} {e : Exp} {t : Tok} {l : List Tok} : levN (opN t) = k → P (.lev (k + 1)) l none → P (.loop k e) (t :: l) none

/-- By climbing. -/
inductive C : J → List Tok → Out → Prop
  | nil : C .opd [] none
  | atom {t : Tok} {l : List Tok} {e : Exp} : t ≠ lp → atom t = some e → C .opd (t :: l) (some (e, l))
  | bad {t : Tok} {l : List Tok} : t ≠ lp → atom t = none → C .opd (t :: l) none
  | par {l r : List Tok} {e : Exp} : C (.lev 1) l (some (e, rp :: r)) → C .opd (lp :: l) (some (e, r))
  | parN {l : List Tok} : C (.lev 1) l none → C .opd (lp :: l) none
  | parE {l : List Tok} {e : Exp} : C (.lev 1) l (some (e, [])) → C .opd (lp :: l) none
  | parB {l r : List Tok} {t : Tok} {e : Exp} : C (.lev 1) l (some (e, t :: r)) → t ≠ rp → C .opd (lp :: l) none
  | exN {k : Nat} {l : List Tok} : C .opd l none → C (.lev k) l none
  | ex {k : Nat} {l r : List Tok} {e : Exp} {o : Out} : C .opd l (some (e, r)) → C (.loop k e) r o → C (.lev k) l o
  | stop {k : Nat} {e : Exp} {l : List Tok} : nlev l < k → C (.loop k e) l (some (e, l))
  | step {k : Nat} {e b : Exp} {t : Tok} {l r : List Tok} {o : Out} : k ≤ levN (opN t) → C (.lev (levN (opN t) + 1)) l (some (b, r)) → C (.loop k ⟨(opN t : Int), 0, [e, b]⟩) r o → C (.loop k e) (t :: l) o
  | stepN {k : Nat} {e : Exp} {t : Tok} {l : List Tok} : k ≤ levN (opN t) → C (.lev (levN (opN t) + 1)) l none → C (.loop k e) (t :: l) none

theorem levN_le (n : Nat) : levN n ≤ 8 := by
  by_cases h : n < 13
  · have : ∀ i : Fin 13, levN i.val ≤ 8 := by decide
    exact this ⟨n, h⟩
  · unfold levN
    rw [List.getD_eq_getElem?_getD, List.getElem?_eq_none (by simp; omega)]; simp

theorem nlev_le (l : List Tok) : nlev l ≤ 8 := by
  cases l with
  | nil => exact Nat.zero_le _
  | cons t l => exact levN_le _

/-- What is left begins with no operator of the level, or of a higher one. -/
theorem P_next : ∀ {j : J} {l : List Tok} {o : Out}, P j l o → ∀ e r, o = some (e, r) → match j with
    | .lev k => nlev r < k
    | .opd => True
    | .loop k _ => nlev l < k + 1 → nlev r < k := by
  intro j l o h
  induction h with
  | top hk h ih =>
    intro e r ho
    have := nlev_le r
    show nlev r < _
    omega
  | levN hk h ih => intro e r ho; cases ho
  | levS hk h1 h2 ih1 ih2 =>
    intro e r ho
    exact ih2 e r ho (ih1 _ _ rfl)
  | stop hn =>
    intro e r ho hl
    injection ho with ho; injection ho with h1 h2; subst h2
    omega
  | step hl h1 h2 ih1 ih2 =>
    intro e r ho hn
    exact ih2 e r ho (ih1 _ _ rfl)
  | stepN hl h ih => intro e r ho; cases ho
  | nil => intro e r ho; trivial
  | atom _ _ => intro e r ho; trivial
  | bad _ _ => intro e r ho; trivial
  | par _ _ => intro e r ho; trivial
  | parN _ _ => intro e r ho; trivial
  | parE _ _ => intro e r ho; trivial
  | parB _ _ _ => intro e r ho; trivial

/-- A loop of a level and then one of the level below. -/
theorem C_down : ∀ {j : J} {l : List Tok} {o1 : Out}, C j l o1 → match j with
    | .loop k e => ∀ k', k' ≤ k → (o1 = none → C (.loop k' e) l none) ∧ (∀ e' r' o, o1 = some (e', r') → C (.loop k' e') r' o → C (.loop k' e) l o)
    | _ => True := by
  intro j l o1 h
  induction h with
  | stop hn =>
    intro k' hk
    refine ⟨fun h => (by cases h), fun e' r' o ho hc => ?_⟩
    injection ho with ho; injection ho with h1 h2; subst h1; subst h2; exact hc
  | step hl h1 h2 ih1 ih2 =>
    intro k' hk
    refine ⟨fun h => .step (by omega) h1 ((ih2 k' hk).1 h), fun e' r' o ho hc => .step (by omega) h1 ((ih2 k' hk).2 e' r' o ho hc)⟩
  | stepN hl h1 ih =>
    intro k' hk
    exact ⟨fun _ => .stepN (by omega) h1, fun e' r' o ho => (by cases ho)⟩
  | _ => trivial

/-- Levels are climbed. -/
theorem P_C : ∀ {j : J} {l : List Tok} {o : Out}, P j l o → match j with
    | .lev k => C (.lev k) l o
    | .opd => C .opd l o
    | .loop k e => nlev l < k + 1 → C (.loop k e) l o := by
  intro j l o h
  induction h with
  | nil => exact .nil
  | atom h1 h2 => exact .atom h1 h2
  | bad h1 h2 => exact .bad h1 h2
  | par h ih => exact .par ih
  | parN h ih => exact .parN ih
  | parE h ih => exact .parE ih
  | parB h hn ih => exact .parB ih hn
  | top hk h ih =>
    rename_i k l o
    cases o with
    | none => exact .exN ih
    | some p =>
      obtain ⟨e, r⟩ := p
      exact .ex ih (.stop (by have := nlev_le r; omega))
  | levN hk h ih =>
    cases ih with
    | exN h1 => exact .exN h1
    | ex h1 h2 => exact .ex h1 ((C_down h2 _ (Nat.le_succ _)).1 rfl)
  | levS hk h1 h2 ih1 ih2 =>
    have hn := P_next h1 _ _ rfl
    cases ih1 with
    | ex h3 h4 => exact .ex h3 ((C_down h4 _ (Nat.le_succ _)).2 _ _ _ rfl (ih2 hn))
  | stop hn => intro hl; exact .stop (by omega)
  | step hl h1 h2 ih1 ih2 =>
    intro _
    exact .step (by omega) (by rw [hl]; exact ih1) (ih2 (P_next h1 _ _ rfl))
  | stepN hl h ih =>
    intro _
    exact .stepN (by omega) (by rw [hl]; exact ih)

/-- What is left is an end of the list. -/
theorem P_suf : ∀ {j : J} {l : List Tok} {o : Out}, P j l o → ∀ e r, o = some (e, r) → (∃ p, l = p ++ r) ∧ (match j with | .loop _ _ => r.length ≤ l.length | _ => r.length < l.length) := by
  intro j l o h
  induction h with
  | nil => intro e r ho; cases ho
  | atom _ _ =>
    intro e r ho
    injection ho with ho; injection ho with h1 h2; subst h2
    exact ⟨⟨[_], rfl⟩, by simp⟩
  | bad _ _ => intro e r ho; cases ho
  | par _ ih =>
    intro e r ho
    injection ho with ho; injection ho with h1 h2; subst h2
    obtain ⟨⟨p, hp⟩, hl⟩ := ih _ _ rfl
    refine ⟨⟨lp :: p ++ [rp], by rw [hp]; simp⟩, ?_⟩
    simp only [List.length_cons] at *; omega
  | parN _ _ => intro e r ho; cases ho
  | parE _ _ => intro e r ho; cases ho
  | parB _ _ _ => intro e r ho; cases ho
  | top hk h ih => intro e r ho; exact ih e r ho
  | levN hk h ih => intro e r ho; cases ho
  | levS hk h1 h2 ih1 ih2 =>
    intro e r ho
    obtain ⟨⟨p, hp⟩, hl⟩ := ih1 _ _ rfl
    obtain ⟨⟨q, hq⟩, hl2⟩ := ih2 e r ho
    refine ⟨⟨p ++ q, by rw [hp, hq, List.append_assoc]⟩, ?_⟩
    simp only at *; omega
  | stop hn =>
    intro e r ho
    injection ho with ho; injection ho with h1 h2; subst h2
    exact ⟨⟨[], rfl⟩, Nat.le_refl _⟩
  | step hl h1 h2 ih1 ih2 =>
    intro e r ho
    obtain ⟨⟨p, hp⟩, hl⟩ := ih1 _ _ rfl
    obtain ⟨⟨q, hq⟩, hl2⟩ := ih2 e r ho
    refine ⟨⟨_ :: (p ++ q), by rw [hp, hq]; simp; rfl⟩, ?_⟩
    simp only [List.length_cons] at *; omega
  | stepN hl h ih => intro e r ho; cases ho

def J.ok : J → Prop
  | .lev k => 1 ≤ k
  | .opd => True
  | .loop k _ => 1 ≤ k

theorem P_total : ∀ (n : Nat) (j : J) (l : List Tok), j.ok → l.length < n → (∃ o, P j l o)
  | 0, _, _, _, h => by omega
  | n + 1, j, l, hj, hn => by
    have opd : ∃ o, P .opd l o := by
      cases l with
      | nil => exact ⟨_, .nil⟩
      | cons t l =>
        by_cases ht : t = lp
        · subst ht
          obtain ⟨o, ho⟩ := P_total n (.lev 1) l (Nat.le_refl 1) (by simp only [List.length_cons] at hn; omega)
          cases o with
          | none => exact ⟨_, .parN ho⟩
          | some p =>
            obtain ⟨e, r⟩ := p
            cases r with
            | nil => exact ⟨_, .parE ho⟩
            | cons u r =>
              by_cases hu : u = rp
              · subst hu; exact ⟨_, .par ho⟩
              · exact ⟨_, .parB ho hu⟩
        · cases ha : atom t with
          | none => exact ⟨_, .bad ht ha⟩
          | some e => exact ⟨_, .atom ht ha⟩
    have lev : ∀ d k, 1 ≤ k → k + d = 9 → ∃ o, P (.lev k) l o := by
      intro d
      induction d with
      | zero =>
        intro k h1 hk
        obtain ⟨o, ho⟩ := opd
        exact ⟨o, .top (by omega) ho⟩
      | succ d ih =>
        intro k h1 hk
        obtain ⟨o, ho⟩ := ih (k + 1) (by omega) (by omega)
        cases o with
        | none => exact ⟨_, .levN (by omega) ho⟩
        | some p =>
          obtain ⟨e, r⟩ := p
          have hs := (P_suf ho e r rfl).2
          simp only at hs
          obtain ⟨o2, ho2⟩ := P_total n (.loop k e) r h1 (by omega)
          exact ⟨o2, .levS (by omega) ho ho2⟩
    cases j with
    | opd => exact opd
    | lev k =>
      by_cases hk : k ≤ 9
      · exact lev (9 - k) k hj (by omega)
      · obtain ⟨o, ho⟩ := opd
        exact ⟨o, .top (by omega) ho⟩
    | loop k e =>
      by_cases hl : nlev l = k
      · cases l with
        | nil =>
          exfalso
          have h1 : 1 ≤ k := hj
          have h2 : 0 = k := hl
          omega
        | cons t l =>
          obtain ⟨o, ho⟩ := P_total n (.lev (k + 1)) l (Nat.succ_le_succ (Nat.zero_le k)) (by simp only [List.length_cons] at hn; omega)
          cases o with
          | none => exact ⟨_, .stepN hl ho⟩
          | some p =>
            obtain ⟨b, r⟩ := p
            have hs := (P_suf ho b r rfl).2
            simp only at hs
            obtain ⟨o2, ho2⟩ := P_total n (.loop k ⟨(opN t : Int), 0, [e, b]⟩) r hj (by simp only [List.length_cons] at hn; omega)
            exact ⟨o2, .step hl ho ho2⟩
      · exact ⟨_, .stop hl⟩

theorem opN_le (t : Tok) : opN t ≤ 12 := by
  unfold opN
  rcases Nat.lt_or_ge (opAt opTs 1 t) 13 with h | h
  · omega
  · exfalso
    have key : ∀ (l : List Tok) (n : Nat), opAt l n t < n + l.length ∨ l = [] ∨ opAt l n t = 0 := by
      intro l
      induction l with
      | nil => intro n; exact Or.inr (Or.inl rfl)
      | cons x r ih =>
        intro n
        unfold opAt
        split
        · left; simp only [List.length_cons]; omega
        · rcases ih (n + 1) with h | h | h
          · left; simp only [List.length_cons]; omega
          · subst h; right; right; rfl
          · right; right; exact h
    rcases key opTs 1 with h2 | h2 | h2
    · have : opTs.length = 12 := rfl
      omega
    · cases h2
    · omega

theorem opFrom_l (t : Tok) : ∀ (d i : Nat), i + d = 12 → impl_opFrom_l1 t i = some (if opAt (opTs.drop i) (i + 1) t = 0 then .inl () else .inr (opAt (opTs.drop i) (i + 1) t : Int))
  | 0, i, h => by
    apply impl_opFrom_l1_le
    have h1 : ¬ ((i : Int) < 12) := by omega
    simp only [h1, decide_false, cond_false]
    rw [List.drop_eq_nil_of_le (show opTs.length ≤ i by show 12 ≤ i; omega)]; rfl
  | d + 1, i, h => by
    apply impl_opFrom_l1_le
    have h1 : ((i : Int) < 12) := by omega
    have hi : i < opTs.length := by show i < 12; omega
    simp only [h1, decide_true, cond_true]
    rw [show geti ([[124], [94], [38], [61, 61], [60], [60, 60], [62, 62], [43], [45], [42], [47], [37]] : List (List UInt8)) (i : Int) = some opTs[i] from geti_lt hi, bnd_some, List.drop_eq_getElem_cons hi]
    unfold opAt
    by_cases hc : opTs[i] = t
    · have hb : (opTs[i] == t) = true := by rw [beq_iff_eq]; exact hc
      simp only [hc, if_true, beq_self_eq_true, cond_true]
      rw [if_neg (by omega), show wrap64 (1 + (i : Int)) = ((i + 1 : Nat) : Int) by rw [wrap_id (by omega) (by omega)]; omega]
    · have hb : (opTs[i] == t) = false := by rw [beq_eq_false_iff_ne]; exact hc
      simp only [hb, cond_false, hc, if_false]
      rw [w1n (by omega), opFrom_l t d (i + 1) (by omega)]

theorem impl_opFrom_eq (t : Tok) : impl_opFrom t = some (opN t : Int) := by
  apply impl_opFrom_le
  rw [show impl_opFrom_l1 t 0 = _ from opFrom_l t 12 0 (by omega), bnd_some, List.drop_zero]
  change selm (if opN t = 0 then _ else _) _ _ = _
  by_cases h : opN t = 0
  · simp only [h, if_true, selm]; rfl
  · simp only [h, if_false, selm]; rfl

theorem l5Op_l (t : Tok) : ∀ (d i : Nat), i + d = 12 → spec_l5Op_l1 t ((i + 1 : Nat) : Int) = some (if opAt (opTs.drop i) (i + 1) t = 0 then .inl () else .inr (opAt (opTs.drop i) (i + 1) t : Int))
  | 0, i, h => by
    apply spec_l5Op_l1_le
    have h1 : ¬ (((i + 1 : Nat) : Int) ≤ 12) := by omega
    simp only [h1, decide_false, cond_false]
    rw [List.drop_eq_nil_of_le (show opTs.length ≤ i by show 12 ≤ i; omega)]; rfl
  | d + 1, i, h => by
    apply spec_l5Op_l1_le
    have h1 : (((i + 1 : Nat) : Int) ≤ 12) := by omega
    have hi : i < opTs.length := by show i < 12; omega
    simp only [h1, decide_true, cond_true]
    have ho : opT ((i + 1 : Nat) : Int) = opTs[i] := by
      have := opTs_get (n := ((i + 1 : Nat) : Int)) (by omega) (by omega)
      rw [show (((i + 1 : Nat) : Int) - 1).toNat = i by omega, List.getElem?_eq_getElem hi] at this
      injection this with this
      exact this.symm
    rw [spec_OpText_eq, bnd_some, ho, List.drop_eq_getElem_cons hi]
    unfold opAt
    by_cases hc : opTs[i] = t
    · have hb : (t == opTs[i]) = true := by rw [beq_iff_eq]; exact hc.symm
      simp only [hc, if_true, beq_self_eq_true, cond_true]
      rw [if_neg (by omega)]
    · have hb : (t == opTs[i]) = false := by rw [beq_eq_false_iff_ne]; exact fun e => hc e.symm
      simp only [hb, cond_false, hc, if_false]
      rw [w1n (by omega), l5Op_l t d (i + 1) (by omega)]

theorem spec_l5Op_eq (t : Tok) : spec_l5Op t = some (opN t : Int) := by
  apply spec_l5Op_le
  rw [show spec_l5Op_l1 t 1 = _ from l5Op_l t 12 0 (by omega), bnd_some, List.drop_zero]
  change selm (if opN t = 0 then _ else _) _ _ = _
  by_cases h : opN t = 0
  · simp only [h, if_true, selm]; rfl
  · simp only [h, if_false, selm]; rfl

theorem impl_OpLevel_nat {n : Nat} (h : n ≤ 12) : impl_OpLevel (n : Int) = some (levN n : Int) := by
  apply impl_OpLevel_le
  have : n = 0 ∨ n = 1 ∨ n = 2 ∨ n = 3 ∨ n = 4 ∨ n = 5 ∨ n = 6 ∨ n = 7 ∨ n = 8 ∨ n = 9 ∨ n = 10 ∨ n = 11 ∨ n = 12 := by omega
  rcases this with rfl | rfl | rfl | rfl | rfl | rfl | rfl | rfl | rfl | rfl | rfl | rfl | rfl <;> rfl

theorem spec_OpLevel_nat {n : Nat} (h : n ≤ 12) : spec_OpLevel (n : Int) = some (levN n : Int) := by
  apply spec_OpLevel_le
  rw [spec_OpValid_eq, bnd_some]
  have : n = 0 ∨ n = 1 ∨ n = 2 ∨ n = 3 ∨ n = 4 ∨ n = 5 ∨ n = 6 ∨ n = 7 ∨ n = 8 ∨ n = 9 ∨ n = 10 ∨ n = 11 ∨ n = 12 := by omega
  by_cases h0 : n = 0
  · subst h0; rfl
  · have hv : (1 : Int) ≤ n ∧ (n : Int) ≤ 12 := by omega
    simp only [hv, and_self, decide_true, Bool.not_true, cond_false]
    rw [wrap_id (by omega) (by omega)]
    rcases this with rfl | rfl | rfl | rfl | rfl | rfl | rfl | rfl | rfl | rfl | rfl | rfl | rfl
    · exact absurd rfl h0
    all_goals rfl

theorem dg_val {c : UInt8} (h : dg c = true) : Lib.digitVal c = some (c.toNat - 48) := by
  unfold Lib.digitVal; rw [if_pos (of_decide_eq_true h)]

theorem dg_noval {c : UInt8} (h : dg c = false) : Lib.digitVal c = none := by
  unfold Lib.digitVal; rw [if_neg (of_decide_eq_false h)]

theorem number_l {t : Tok} (ht : t.length ≤ 5) : ∀ (d i a : Nat), i + d = t.length → a < 10 ^ i →
    (∃ x, spec_l5Number_l1 t (a : Int) i = some x ∧ selm x (fun y => some y) (fun z => some z.1) = some (match Lib.decFrom a (t.drop i) with | some n => (n : Int) | none => -1))
  | 0, i, a, h, ha => by
    refine ⟨.inl (a : Int), ?_, ?_⟩
    · apply spec_l5Number_l1_le
      have h1 : ¬ ((i : Int) < t.length) := by omega
      simp only [h1, decide_false, cond_false]
    · rw [List.drop_eq_nil_of_le (by omega)]; rfl
  | d + 1, i, a, h, ha => by
    have h1 : (i : Int) < t.length := by omega
    have hl : i < t.length := by omega
    have hg := geti_lt hl
    have ed := List.drop_eq_getElem_cons hl
    generalize t[i] = c at hg ed
    rw [ed]
    cases hd : dg c
    · refine ⟨.inr (-1, (a : Int)), ?_, ?_⟩
      · apply spec_l5Number_l1_le
        have := of_decide_eq_false hd
        simp only [h1, decide_true, cond_true, hg, bnd_some]
        by_cases h48 : (c.toNat : Int) < 48
        · simp only [h48, decide_true, cond_true]
        · have h57 : (57 : Int) < c.toNat := by omega
          simp only [h48, h57, decide_true, decide_false, cond_true, cond_false]
      · simp only [selm, Lib.decFrom, dg_noval hd]
    · have hr := of_decide_eq_true hd
      have hp : (10 : Nat) ^ i ≤ 10 ^ 4 := Nat.pow_le_pow_right (by decide) (by omega)
      have hp4 : (10 : Nat) ^ 4 = 10000 := by decide
      have hw : wrap64 ((wrap64 (10 * (a : Int))) + (wrap64 ((((c.toNat : Int) - 48) % 256)))) = ((a * 10 + (c.toNat - 48) : Nat) : Int) := by
        rw [wrap_id (n := 10 * (a : Int)) (by omega) (by omega), wrap_id (n := ((c.toNat : Int) - 48) % 256) (by omega) (by omega), wrap_id (by omega) (by omega)]
        omega
      obtain ⟨x, hx1, hx2⟩ := number_l ht d (i + 1) (a * 10 + (c.toNat - 48)) (by omega) (by rw [Nat.pow_succ]; omega)
      refine ⟨x, ?_, ?_⟩
      · apply spec_l5Number_l1_le
        have h48 : ¬ (c.toNat : Int) < 48 := by omega
        have h57 : ¬ (57 : Int) < c.toNat := by omega
        simp only [h1, decide_true, cond_true, hg, bnd_some, h48, h57, decide_false, cond_false, hw]
        rw [w1n (by omega), hx1]
      · rw [hx2]
        simp only [Lib.decFrom, dg_val hd]

theorem spec_l5Number_eq (t : Tok) : spec_l5Number t = some (numV t) := by
  apply spec_l5Number_le
  rw [spec_l6In_eq, bnd_some]
  unfold numV
  by_cases h : 1 ≤ t.length ∧ t.length ≤ 5
  · have h' : (1 : Int) ≤ t.length ∧ (t.length : Int) ≤ 5 := by omega
    simp only [h, h', and_self, decide_true, Bool.not_true, cond_false, if_true]
    obtain ⟨x, hx1, hx2⟩ := number_l h.2 t.length 0 0 (by omega) (by decide)
    rw [List.drop_zero] at hx2
    rw [show spec_l5Number_l1 t 0 0 = some x from hx1, bnd_some, hx2]
    try rfl
  · have h' : ¬ ((1 : Int) ≤ t.length ∧ (t.length : Int) ≤ 5) := by omega
    simp only [h, h', decide_false, Bool.not_false, cond_true, if_false]

theorem l5Name_eq {v : Nat} (h : v ≤ 100) : spec_l5Name (v : Int) = some [UInt8.ofNat (97 + v)] := by
  apply spec_l5Name_le
  rw [wrap_id (by omega) (by omega)]
  have : ((97 + (v : Int)) % 256) = ((97 + v : Nat) : Int) := by omega
  rw [this]; rfl

theorem name_l (t : Tok) : ∀ (d i : Nat), i + d = 4 → (∀ c, t = [c] → ¬ (97 ≤ c.toNat ∧ c.toNat < 97 + i)) →
    (∃ x, spec_l5Var_l1 t (i : Int) = some x ∧ selm x (fun _ => some (-1)) (fun z => some z) = some (varV t))
  | 0, i, h, hc => by
    refine ⟨.inl (), ?_, ?_⟩
    · apply spec_l5Var_l1_le
      have h1 : ¬ ((i : Int) < 4) := by omega
      simp only [h1, decide_false, cond_false]
    · simp only [selm]
      unfold varV
      split
      · rename_i c
        rw [if_neg (by have := hc c rfl; omega)]
      · rfl
  | d + 1, i, h, hc => by
    have h1 : ((i : Int) < 4) := by omega
    by_cases he : t = [UInt8.ofNat (97 + i)]
    · refine ⟨.inr (i : Int), ?_, ?_⟩
      · apply spec_l5Var_l1_le
        simp only [h1, decide_true, cond_true]
        rw [l5Name_eq (by omega), bnd_some, he]
        simp
      · subst he
        have hn : (UInt8.ofNat (97 + i)).toNat = 97 + i := by rw [UInt8.toNat_ofNat']; omega
        simp only [selm, varV, hn]
        rw [if_pos (by omega)]
        congr 1; omega
    · obtain ⟨x, hx1, hx2⟩ := name_l t d (i + 1) (by omega) (by
        intro c e hcc
        have := hc c e
        have hcn : c.toNat = 97 + i := by omega
        apply he
        rw [e]; congr 1
        apply UInt8.toNat_inj.mp
        rw [UInt8.toNat_ofNat']; omega)
      refine ⟨x, ?_, hx2⟩
      apply spec_l5Var_l1_le
      simp only [h1, decide_true, cond_true]
      have hb : (t == [UInt8.ofNat (97 + i)]) = false := by rw [beq_eq_false_iff_ne]; exact he
      rw [l5Name_eq (by omega), bnd_some, hb, cond_false, w1n (by omega), hx1]

theorem spec_l5Var_eq (t : Tok) : spec_l5Var t = some (varV t) := by
  apply spec_l5Var_le
  obtain ⟨x, hx1, hx2⟩ := name_l t 4 0 (by omega) (by intro c _; omega)
  rw [show spec_l5Var_l1 t 0 = some x from hx1, bnd_some, hx2]

/-- The place of what is left. -/
def plc (L l : List Tok) : Nat := L.length - l.length

def Suf (L l : List Tok) : Prop := ∃ p, L = p ++ l

theorem Suf.tail {L l : List Tok} {t : Tok} (h : Suf L (t :: l)) : Suf L l ∧ plc L (t :: l) + 1 = plc L l ∧ plc L (t :: l) < L.length ∧ geti L (plc L (t :: l) : Int) = some t := by
  obtain ⟨p, rfl⟩ := h
  refine ⟨⟨p ++ [t], by simp⟩, ?_, ?_, ?_⟩
  · unfold plc; simp only [List.length_append, List.length_cons]; omega
  · unfold plc; simp only [List.length_append, List.length_cons]; omega
  · rw [geti_nat', show plc (p ++ t :: l) (t :: l) = p.length by unfold plc; simp only [List.length_append]; omega]
    simp

theorem Suf.trans {L l r : List Tok} (h : Suf L l) (h2 : ∃ p, l = p ++ r) : Suf L r := by
  obtain ⟨p, rfl⟩ := h
  obtain ⟨q, rfl⟩ := h2
  exact ⟨p ++ q, by rw [List.append_assoc]⟩

theorem plc_nil (L : List Tok) : plc L [] = L.length := by unfold plc; simp

def SA (L : List Tok) (f : Option (Exp × Int)) (o : Out) : Prop := match o with
  | some (e, r) => f = some (e, (plc L r : Int))
  | none => ∃ x, f = some (x, -1)

def SLo (L : List Tok) (f : Option (Int × Int × Int × (Bool × List Exp) × Int × Int × (Md × List Exp))) (o : Out) : Prop := match o with
  | some (e, r) => ∃ m, f = some ((plc L r : Int), 0, 0, (false, []), e.op, e.n, (m, e.args))
  | none => ∃ a b m c, f = some (-1, 0, 0, (false, []), a, b, (m, c))

theorem atom_num {t : Tok} {e : Exp} (h : atom t = some e) (h0 : 0 ≤ numV t) : e = ⟨0, numV t, []⟩ := by
  unfold atom at h; rw [if_pos h0] at h; injection h with h; exact h.symm

theorem atom_var {t : Tok} {e : Exp} (h : atom t = some e) (h0 : ¬ 0 ≤ numV t) : 0 ≤ varV t ∧ e = ⟨13, varV t, []⟩ := by
  unfold atom at h; rw [if_neg h0] at h
  split at h
  · injection h with h; exact ⟨by assumption, h.symm⟩
  · cases h

theorem spec_P : ∀ {j : J} {l : List Tok} {o : Out}, P j l o → ∀ L : List Tok, L.length ≤ 20000 → Suf L l → match j with
    | .opd => SA L (spec_l5First L (plc L l)) o
    | .lev k => 1 ≤ k → k ≤ 9 → SA L (spec_l5Parse L (plc L l) (k : Int)) o
    | .loop k e => 1 ≤ k → k ≤ 8 → ∀ m, SLo L (spec_l5Parse_l1 L (k : Int) (plc L l) 0 0 false [] e.op e.n m e.args) o := by
  intro j l o h
  induction h with
  | nil =>
    intro L hL hs
    refine ⟨⟨0, 0, []⟩, ?_⟩
    apply spec_l5First_le
    rw [plc_nil]
    simp
  | @atom t l e h1 h2 =>
    intro L hL hs
    obtain ⟨hs2, hp, hlt, hg⟩ := hs.tail
    show spec_l5First L (plc L (t :: l)) = _
    apply spec_l5First_le
    have c1 : ¬ ((L.length : Int) ≤ (plc L (t :: l) : Int)) := by omega
    have hb : (t == [40]) = false := by rw [beq_eq_false_iff_ne]; exact h1
    simp only [c1, decide_false, cond_false, hg, bnd_some, hb, spec_l5Number_eq]
    by_cases hn : 0 ≤ numV t
    · simp only [hn, decide_true, cond_true, l4Leaf_eq, bnd_some, atom_num h2 hn]
      rw [w1n (by omega), hp]
    · obtain ⟨hv, he⟩ := atom_var h2 hn
      simp only [hn, decide_false, cond_false, spec_l5Var_eq, bnd_some, hv, decide_true, cond_true, l4Leaf_eq, he]
      rw [w1n (by omega), hp]
  | @bad t l h1 h2 =>
    intro L hL hs
    obtain ⟨hs2, hp, hlt, hg⟩ := hs.tail
    refine ⟨⟨0, 0, []⟩, ?_⟩
    apply spec_l5First_le
    have c1 : ¬ ((L.length : Int) ≤ (plc L (t :: l) : Int)) := by omega
    have hb : (t == [40]) = false := by rw [beq_eq_false_iff_ne]; exact h1
    unfold atom at h2
    have hn : ¬ 0 ≤ numV t := by intro h; rw [if_pos h] at h2; cases h2
    rw [if_neg hn] at h2
    have hv : ¬ 0 ≤ varV t := by intro h; rw [if_pos h] at h2; cases h2
    simp only [c1, decide_false, cond_false, hg, bnd_some, hb, spec_l5Number_eq, hn, spec_l5Var_eq, hv]
  | @par l r e h ih =>
    intro L hL hs
    obtain ⟨hs2, hp, hlt, hg⟩ := hs.tail
    have h1 := ih L hL hs2 (Nat.le_refl 1) (by omega)
    have hs3 := hs2.trans (P_suf h _ _ rfl).1
    obtain ⟨hs4, hp2, hlt2, hg2⟩ := hs3.tail
    show spec_l5First L (plc L (lp :: l)) = _
    apply spec_l5First_le
    have c1 : ¬ ((L.length : Int) ≤ (plc L (lp :: l) : Int)) := by omega
    have c2 : ¬ ((plc L (rp :: r) : Int) < 0) := by omega
    have c3 : ¬ ((L.length : Int) ≤ (plc L (rp :: r) : Int)) := by omega
    have hb : (lp == [40]) = true := rfl
    have hb2 : (rp == [41]) = true := rfl
    simp only [c1, decide_false, cond_false, hg, bnd_some, hb, cond_true]
    rw [w1n (by omega), hp, show spec_l5Parse L (plc L l) 1 = _ from h1]
    simp only [bnd_some, c2, c3, decide_false, cond_false, hg2, hb2, Bool.not_true, exp_eta]
    rw [w1n (by omega), hp2]
  | @parN l h ih =>
    intro L hL hs
    obtain ⟨hs2, hp, hlt, hg⟩ := hs.tail
    obtain ⟨x, h1⟩ := ih L hL hs2 (Nat.le_refl 1) (by omega)
    refine ⟨⟨0, 0, []⟩, ?_⟩
    apply spec_l5First_le
    have c1 : ¬ ((L.length : Int) ≤ (plc L (lp :: l) : Int)) := by omega
    have hb : (lp == [40]) = true := rfl
    simp only [c1, decide_false, cond_false, hg, bnd_some, hb, cond_true]
    rw [w1n (by omega), hp, show spec_l5Parse L (plc L l) 1 = _ from h1]
    simp only [bnd_some, show (-1 : Int) < 0 by omega, decide_true, cond_true]
  | @parE l e h ih =>
    intro L hL hs
    obtain ⟨hs2, hp, hlt, hg⟩ := hs.tail
    have h1 := ih L hL hs2 (Nat.le_refl 1) (by omega)
    refine ⟨⟨0, 0, []⟩, ?_⟩
    apply spec_l5First_le
    have c1 : ¬ ((L.length : Int) ≤ (plc L (lp :: l) : Int)) := by omega
    have hb : (lp == [40]) = true := rfl
    simp only [c1, decide_false, cond_false, hg, bnd_some, hb, cond_true]
    rw [w1n (by omega), hp, show spec_l5Parse L (plc L l) 1 = _ from h1, plc_nil]
    have c2 : ¬ ((L.length : Int) < 0) := by omega
    simp only [bnd_some, c2, decide_false, cond_false, Int.le_refl, decide_true, cond_true]
  | @parB l r t e h hn ih =>
    intro L hL hs
    obtain ⟨hs2, hp, hlt, hg⟩ := hs.tail
    have h1 := ih L hL hs2 (Nat.le_refl 1) (by omega)
    have hs3 := hs2.trans (P_suf h _ _ rfl).1
    obtain ⟨hs4, hp2, hlt2, hg2⟩ := hs3.tail
    refine ⟨⟨0, 0, []⟩, ?_⟩
    apply spec_l5First_le
    have c1 : ¬ ((L.length : Int) ≤ (plc L (lp :: l) : Int)) := by omega
    have c2 : ¬ ((plc L (t :: r) : Int) < 0) := by omega
    have c3 : ¬ ((L.length : Int) ≤ (plc L (t :: r) : Int)) := by omega
    have hb : (lp == [40]) = true := rfl
    have hb2 : (t == [41]) = false := by rw [beq_eq_false_iff_ne]; exact hn
    simp only [c1, decide_false, cond_false, hg, bnd_some, hb, cond_true]
    rw [w1n (by omega), hp, show spec_l5Parse L (plc L l) 1 = _ from h1]
    simp only [bnd_some, c2, c3, decide_false, cond_false, hg2, hb2, Bool.not_false, cond_true]
  | @top k l o hk h ih =>
    intro L hL hs k1 k9
    have h1 := ih L hL hs
    have c1 : (8 : Int) < k := by omega
    cases o with
    | none =>
      obtain ⟨x, h1⟩ := h1
      refine ⟨x, ?_⟩
      apply spec_l5Parse_le
      simp only [c1, decide_true, cond_true, h1, bnd_some, exp_eta]
    | some p =>
      obtain ⟨e, r⟩ := p
      show spec_l5Parse _ _ _ = _
      apply spec_l5Parse_le
      simp only [c1, decide_true, cond_true, show spec_l5First L (plc L l) = _ from h1, bnd_some, exp_eta]
  | @levN k l hk h ih =>
    intro L hL hs k1 k9
    obtain ⟨x, h1⟩ := ih L hL hs (by omega) (by omega)
    have c1 : ¬ (8 : Int) < k := by omega
    refine ⟨x, ?_⟩
    apply spec_l5Parse_le
    simp only [c1, decide_false, cond_false]
    rw [w1n (by omega), h1, bnd_some]
    have hlo : spec_l5Parse_l1 L (k : Int) (-1) 0 0 false [] x.op x.n .share x.args = some (-1, 0, 0, (false, []), x.op, x.n, (.share, x.args)) := by
      apply spec_l5Parse_l1_le
      simp only [show ¬ (0 : Int) ≤ -1 by omega, decide_false, cond_false]
    rw [hlo, bnd_some]
    simp only [exp_eta]
  | @levS k l r e o hk h1 h2 ih1 ih2 =>
    intro L hL hs k1 k9
    have hs2 := hs.trans (P_suf h1 _ _ rfl).1
    have e1 := ih1 L hL hs (by omega) (by omega)
    have e2 := ih2 L hL hs2 k1 hk .share
    have c1 : ¬ (8 : Int) < k := by omega
    have step : ∀ y, (bnd (spec_l5Parse_l1 L (k : Int) (plc L r) 0 0 false [] e.op e.n .share e.args) fun r3 => some ((⟨r3.2.2.2.2.1, r3.2.2.2.2.2.1, r3.2.2.2.2.2.2.2⟩ : Exp), r3.1)) = some y → spec_l5Parse L (plc L l) (k : Int) = some y := by
      intro y hy
      apply spec_l5Parse_le
      simp only [c1, decide_false, cond_false]
      rw [w1n (by omega), show spec_l5Parse L (plc L l) ((k + 1 : Nat) : Int) = _ from e1, bnd_some]
      exact hy
    cases o with
    | none =>
      obtain ⟨a, b, m, c, e2⟩ := e2
      refine ⟨⟨a, b, c⟩, step _ ?_⟩
      rw [e2, bnd_some]
    | some p =>
      obtain ⟨e', r'⟩ := p
      obtain ⟨m, e2⟩ := e2
      refine step _ ?_
      rw [e2, bnd_some]
      simp only [exp_eta]
  | @stop k e l hn =>
    intro L hL hs k1 k8 m
    refine ⟨m, ?_⟩
    apply spec_l5Parse_l1_le
    have c0 : (0 : Int) ≤ (plc L l : Int) := by omega
    simp only [c0, decide_true, cond_true]
    cases l with
    | nil =>
      rw [plc_nil]
      simp only [Int.lt_irrefl, decide_false, cond_false]
    | cons t l =>
      obtain ⟨hs2, hp, hlt, hg⟩ := hs.tail
      have c1 : ((plc L (t :: l) : Int) < L.length) := by omega
      have c2 : ¬ ((levN (opN t) : Int) = (k : Int)) := fun h => hn (by have : levN (opN t) = k := by omega
                                                                        exact this)
      simp only [c1, decide_true, cond_true, hg, bnd_some, spec_l5Op_eq, spec_OpLevel_nat (opN_le t), c2, decide_false, cond_false]
  | @step k e b t l r o hl h1 h2 ih1 ih2 =>
    intro L hL hs k1 k8 m
    obtain ⟨hs2, hp, hlt, hg⟩ := hs.tail
    have hs3 := hs2.trans (P_suf h1 _ _ rfl).1
    have e1 := ih1 L hL hs2 (by omega) (by omega)
    have e2 := ih2 L hL hs3 k1 k8 (Md.dem .full)
    have c0 : (0 : Int) ≤ (plc L (t :: l) : Int) := by omega
    have c1 : ((plc L (t :: l) : Int) < L.length) := by omega
    have c2 : ((levN (opN t) : Int) = (k : Int)) := by omega
    have step : ∀ y, spec_l5Parse_l1 L (k : Int) (plc L r) 0 0 false [] (opN t : Int) 0 (Md.dem .full) [e, b] = some y → spec_l5Parse_l1 L (k : Int) (plc L (t :: l)) 0 0 false [] e.op e.n m e.args = some y := by
      intro y hy
      apply spec_l5Parse_l1_le
      simp only [c0, c1, c2, decide_true, cond_true, hg, bnd_some, spec_l5Op_eq, spec_OpLevel_nat (opN_le t)]
      rw [w1n (n := plc L (t :: l)) (by omega), w1n (n := k) (by omega), hp, show spec_l5Parse L (plc L l) ((k + 1 : Nat) : Int) = _ from e1, bnd_some, l4Both_eq, bnd_some]
      simp only [exp_eta]
      exact hy
    cases o with
    | none =>
      obtain ⟨a, b, m, c, e2⟩ := e2
      exact ⟨a, b, m, c, step _ e2⟩
    | some p =>
      obtain ⟨e', r'⟩ := p
      obtain ⟨m, e2⟩ := e2
      exact ⟨m, step _ e2⟩
  | @stepN k e t l hl h ih =>
    intro L hL hs k1 k8 m
    obtain ⟨hs2, hp, hlt, hg⟩ := hs.tail
    obtain ⟨x, e1⟩ := ih L hL hs2 (by omega) (by omega)
    have c0 : (0 : Int) ≤ (plc L (t :: l) : Int) := by omega
    have c1 : ((plc L (t :: l) : Int) < L.length) := by omega
    have c2 : ((levN (opN t) : Int) = (k : Int)) := by omega
    refine ⟨(opN t : Int), 0, Md.dem .full, [e, x], ?_⟩
    apply spec_l5Parse_l1_le
    simp only [c0, c1, c2, decide_true, cond_true, hg, bnd_some, spec_l5Op_eq, spec_OpLevel_nat (opN_le t)]
    rw [w1n (n := plc L (t :: l)) (by omega), w1n (n := k) (by omega), hp, e1, bnd_some, l4Both_eq, bnd_some]
    simp only [exp_eta]
    apply spec_l5Parse_l1_le
    simp only [show ¬ (0 : Int) ≤ -1 by omega, decide_false, cond_false]

def gt (t : Tok) : Prop := ∃ c r, t = c :: r ∧ (dg c = true → ∀ x ∈ t, dg x = true)

theorem peek_nil (L : List Tok) : impl_parser_peek L (L.length : Int) false = some ([], L, (L.length : Int), false) := by
  apply impl_parser_peek_le
  simp only [Int.lt_irrefl, decide_false, cond_false]

theorem peek_cons {L l : List Tok} {t : Tok} (h : Suf L (t :: l)) : impl_parser_peek L (plc L (t :: l) : Int) false = some (t, L, (plc L (t :: l) : Int), false) := by
  obtain ⟨hs2, hp, hlt, hg⟩ := h.tail
  apply impl_parser_peek_le
  have c1 : ((plc L (t :: l) : Int) < L.length) := by omega
  simp only [c1, decide_true, cond_true, Bool.not_false, hg, bnd_some]

theorem peek_fail (L : List Tok) (p : Int) : impl_parser_peek L p true = some ([], L, p, true) := by
  apply impl_parser_peek_le
  by_cases h : p < L.length
  · simp only [h, decide_true, cond_true, Bool.not_true, cond_false]
  · simp only [h, decide_false, cond_false]

theorem need_fail (L : List Tok) (p : Int) : impl_parser_need [41] L p true = some (L, p, true) := by
  apply impl_parser_need_le
  have : impl_parser_accept [41] L p true = some (false, L, p, true) := by
    apply impl_parser_accept_le
    rw [peek_fail, bnd_some]; rfl
  rw [this, bnd_some]; rfl

theorem need_nil (L : List Tok) : impl_parser_need [41] L (L.length : Int) false = some (L, (L.length : Int), true) := by
  apply impl_parser_need_le
  have : impl_parser_accept [41] L (L.length : Int) false = some (false, L, (L.length : Int), false) := by
    apply impl_parser_accept_le
    rw [peek_nil, bnd_some]; rfl
  rw [this, bnd_some]; rfl

theorem need_bad {L l : List Tok} {t : Tok} (h : Suf L (t :: l)) (hn : t ≠ rp) : impl_parser_need [41] L (plc L (t :: l) : Int) false = some (L, (plc L (t :: l) : Int), true) := by
  apply impl_parser_need_le
  have : impl_parser_accept [41] L (plc L (t :: l) : Int) false = some (false, L, (plc L (t :: l) : Int), false) := by
    apply impl_parser_accept_le
    have hb : (t == [41]) = false := by rw [beq_eq_false_iff_ne]; exact hn
    rw [peek_cons h, bnd_some]
    simp only [hb, Bool.not_false, cond_true]
  rw [this, bnd_some]; rfl

theorem need_good {L l : List Tok} (hL : L.length ≤ 20000) (h : Suf L (rp :: l)) : impl_parser_need [41] L (plc L (rp :: l) : Int) false = some (L, (plc L l : Int), false) := by
  obtain ⟨hs2, hp, hlt, hg⟩ := h.tail
  apply impl_parser_need_le
  have : impl_parser_accept [41] L (plc L (rp :: l) : Int) false = some (true, L, (plc L l : Int), false) := by
    apply impl_parser_accept_le
    have hb : (rp == [41]) = true := rfl
    rw [peek_cons h, bnd_some]
    simp only [hb, Bool.not_true, cond_false]
    rw [w1n (by omega), hp]
  rw [this, bnd_some]; rfl

theorem take_nil (L : List Tok) : ∃ p, impl_parser_take L (L.length : Int) false = some ([], L, p, true) := by
  refine ⟨wrap64 ((L.length : Int) + 1), ?_⟩
  apply impl_parser_take_le
  rw [peek_nil, bnd_some]
  simp only [show (([] : List UInt8) == []) = true from rfl, cond_true]

theorem take_cons {L l : List Tok} {t : Tok} (hL : L.length ≤ 20000) (h : Suf L (t :: l)) (ht : t ≠ []) : impl_parser_take L (plc L (t :: l) : Int) false = some (t, L, (plc L l : Int), false) := by
  obtain ⟨hs2, hp, hlt, hg⟩ := h.tail
  apply impl_parser_take_le
  have hb : (t == []) = false := by rw [beq_eq_false_iff_ne]; exact ht
  rw [peek_cons h, bnd_some]
  simp only [hb, cond_false]
  rw [w1n (by omega), hp]

theorem decFrom_dg : ∀ (t : Tok) (a : Nat), (∀ x ∈ t, dg x = true) → ∃ n, Lib.decFrom a t = some n
  | [], a, _ => ⟨a, rfl⟩
  | c :: r, a, h => by
    obtain ⟨n, hn⟩ := decFrom_dg r (a * 10 + (c.toNat - 48)) (fun x hx => h x (List.mem_cons_of_mem _ hx))
    refine ⟨n, ?_⟩
    simp only [Lib.decFrom, dg_val (h c (List.mem_cons_self ..))]
    exact hn

theorem dg_decFrom : ∀ (t : Tok) (a n : Nat), Lib.decFrom a t = some n → (∀ x ∈ t, dg x = true)
  | [], a, n, _ => by intro x hx; cases hx
  | c :: r, a, n, h => by
    intro x hx
    simp only [Lib.decFrom] at h
    cases hd : dg c with
    | false => rw [dg_noval hd] at h; cases h
    | true =>
      rw [dg_val hd] at h
      rcases List.mem_cons.mp hx with rfl | hx
      · exact hd
      · exact dg_decFrom r _ n h x hx

theorem numV_dg {t : Tok} (h : 0 ≤ numV t) : ∀ x ∈ t, dg x = true := by
  unfold numV at h
  split at h
  · split at h
    · rename_i n hn; exact dg_decFrom t 0 n hn
    · omega
  · omega

theorem number_good {L l : List Tok} {c : UInt8} {r : List UInt8} (hL : L.length ≤ 20000) (h : Suf L ((c :: r) :: l)) (hd : ∀ x ∈ (c :: r), dg x = true) :
    (0 ≤ numV (c :: r) → impl_parser_number L (plc L ((c :: r) :: l) : Int) false = some (numV (c :: r), L, (plc L l : Int), false)) ∧
    (¬ 0 ≤ numV (c :: r) → impl_parser_number L (plc L ((c :: r) :: l) : Int) false = some (0, L, (plc L l : Int), true)) := by
  obtain ⟨n, hn⟩ := decFrom_dg (c :: r) 0 hd
  have hb : ((c :: r : Tok) == []) = false := rfl
  refine ⟨fun h0 => ?_, fun h0 => ?_⟩
  · have hlen : (c :: r).length ≤ 5 := by
      unfold numV at h0; split at h0
      · rename_i hh; exact hh.2
      · omega
    have hv : numV (c :: r) = (n : Int) := by
      unfold numV; rw [if_pos ⟨by simp, hlen⟩, hn]
    apply impl_parser_number_le
    rw [take_cons hL h (by simp), bnd_some]
    have c5 : ¬ ((5 : Int) < ((c :: r : Tok).length : Int)) := by omega
    have hc := of_decide_eq_true (hd c (List.mem_cons_self ..))
    have ha : Lib.atoi (c :: r) = some (n : Int) := by
      unfold Lib.atoi
      have h1 : (c == 45) = false := by rw [beq_eq_false_iff_ne]; intro e; subst e; exact absurd hc (by decide)
      have h2 : (c == 43) = false := by rw [beq_eq_false_iff_ne]; intro e; subst e; exact absurd hc (by decide)
      simp only [h1, h2, Bool.false_eq_true, if_false]
      unfold Lib.decNat
      rw [if_neg (by simp), hn]; rfl
    have hat : strconv_Atoi (c :: r) = some (n : Int) := by
      apply strconv_Atoi_le
      rw [if_pos (by omega)]; exact ha
    simp only [hb, cond_false, c5, decide_false, geti0, bnd_some, impl_isDigit_eq, hd c (List.mem_cons_self ..), Bool.not_true, hat, hv]
  · have hlen : 5 < (c :: r).length := by
      apply Classical.byContradiction
      intro hle
      apply h0
      unfold numV; rw [if_pos ⟨by simp, by omega⟩, hn]
      show (0 : Int) ≤ (n : Int); omega
    apply impl_parser_number_le
    rw [take_cons hL h (by simp), bnd_some]
    have c5 : ((5 : Int) < ((c :: r : Tok).length : Int)) := by omega
    simp only [hb, cond_false, c5, decide_true, cond_true]

theorem variable_good {L l : List Tok} {t : Tok} (hL : L.length ≤ 20000) (h : Suf L (t :: l)) (ht : t ≠ []) :
    (0 ≤ varV t → impl_parser_variable L (plc L (t :: l) : Int) false = some (varV t, L, (plc L l : Int), false)) ∧
    (¬ 0 ≤ varV t → impl_parser_variable L (plc L (t :: l) : Int) false = some (0, L, (plc L l : Int), true)) := by
  have body : ∀ x, (bif (!decide ((t.length : Int) = 1)) then some (0, L, (plc L l : Int), true) else
      bnd (geti t 0) fun c2 => (bif (decide ((c2.toNat : Int) < 97)) then some (0, L, (plc L l : Int), true) else
      bnd (geti t 0) fun c3 => (bif (decide (101 ≤ (c3.toNat : Int))) then some (0, L, (plc L l : Int), true) else
      bnd (geti t 0) fun c4 => some ((wrap64 ((((c4.toNat : Int) - 97) % 256))), L, (plc L l : Int), false)))) = some x → impl_parser_variable L (plc L (t :: l) : Int) false = some x := by
    intro x hx
    apply impl_parser_variable_le
    rw [take_cons hL h ht, bnd_some]
    exact hx
  by_cases h1 : t.length = 1
  · obtain ⟨c, rfl⟩ : ∃ c, t = [c] := by
      match t, h1 with
      | [c], _ => exact ⟨c, rfl⟩
    have c1 : ((([c] : Tok).length : Nat) : Int) = 1 := rfl
    by_cases hr : 97 ≤ c.toNat ∧ c.toNat ≤ 100
    · have hv : varV [c] = (c.toNat : Int) - 97 := by unfold varV; simp only; rw [if_pos hr]
      refine ⟨fun _ => body _ ?_, fun h => absurd (by rw [hv]; omega) h⟩
      have d1 : ¬ (c.toNat : Int) < 97 := by omega
      have d2 : ¬ (101 : Int) ≤ c.toNat := by omega
      simp only [c1, decide_true, Bool.not_true, cond_false, geti0, bnd_some, d1, d2, decide_false]
      rw [hv, wrap_id (by omega) (by omega)]
      congr 2; omega
    · have hv : varV [c] = -1 := by unfold varV; simp only; rw [if_neg hr]
      refine ⟨fun h => absurd h (by rw [hv]; omega), fun _ => body _ ?_⟩
      by_cases d1 : (c.toNat : Int) < 97
      · simp only [c1, decide_true, Bool.not_true, cond_false, geti0, bnd_some, d1, cond_true]
      · have d2 : (101 : Int) ≤ c.toNat := by omega
        simp only [c1, decide_true, Bool.not_true, cond_false, geti0, bnd_some, d1, d2, decide_false, cond_true]
  · have hv : varV t = -1 := by
      unfold varV
      split
      · simp at h1
      · rfl
    have c1 : ¬ ((t.length : Int) = 1) := by omega
    refine ⟨fun h => absurd h (by rw [hv]; omega), fun _ => body _ ?_⟩
    simp only [c1, decide_false, Bool.not_false, cond_true]

def IA (L : List Tok) (f : Option (Exp × List Tok × Int × Bool)) (o : Out) : Prop := match o with
  | some (e, r) => f = some (e, L, (plc L r : Int), false)
  | none => ∃ x p, f = some (x, L, p, true)

def ILo (L : List Tok) (f : Option (List Tok × Int × Bool × Int × Int × (Bool × List Exp) × Int × Int × (Md × List Exp))) (o : Out) : Prop := match o with
  | some (e, r) => ∃ m, f = some (L, (plc L r : Int), false, 0, 0, (false, []), e.op, e.n, (m, e.args))
  | none => ∃ p a b m c, f = some (L, p, true, 0, 0, (false, []), a, b, (m, c))

theorem C_suf : ∀ {j : J} {l : List Tok} {o : Out}, C j l o → ∀ e r, o = some (e, r) → ∃ p, l = p ++ r := by
  intro j l o h
  induction h with
  | nil => intro e r ho; cases ho
  | atom _ _ =>
    intro e r ho
    injection ho with ho; injection ho with h1 h2; subst h2
    exact ⟨[_], rfl⟩
  | bad _ _ => intro e r ho; cases ho
  | par _ ih =>
    intro e r ho
    injection ho with ho; injection ho with h1 h2; subst h2
    obtain ⟨p, hp⟩ := ih _ _ rfl
    exact ⟨lp :: p ++ [rp], by rw [hp]; simp⟩
  | parN _ _ => intro e r ho; cases ho
  | parE _ _ => intro e r ho; cases ho
  | parB _ _ _ => intro e r ho; cases ho
  | exN h ih => intro e r ho; cases ho
  | ex h1 h2 ih1 ih2 =>
    intro e r ho
    obtain ⟨p, hp⟩ := ih1 _ _ rfl
    obtain ⟨q, hq⟩ := ih2 e r ho
    exact ⟨p ++ q, by rw [hp, hq, List.append_assoc]⟩
  | stop hn =>
    intro e r ho
    injection ho with ho; injection ho with h1 h2; subst h2
    exact ⟨[], rfl⟩
  | step hl h1 h2 ih1 ih2 =>
    intro e r ho
    obtain ⟨p, hp⟩ := ih1 _ _ rfl
    obtain ⟨q, hq⟩ := ih2 e r ho
    exact ⟨_ :: (p ++ q), by rw [hp, hq]; simp; rfl⟩
  | stepN hl h ih => intro e r ho; cases ho

theorem Suf.mem {L l : List Tok} {t : Tok} (h : Suf L (t :: l)) : t ∈ L := by
  obtain ⟨p, rfl⟩ := h; simp

theorem opN_nil : opN [] = 0 := rfl

theorem impl_C : ∀ {j : J} {l : List Tok} {o : Out}, C j l o → ∀ L : List Tok, L.length ≤ 20000 → (∀ t ∈ L, gt t) → Suf L l → match j with
    | .opd => IA L (impl_parser_operand L (plc L l) false) o
    | .lev k => k ≤ 9 → 1 ≤ k → IA L (impl_parser_expr (k : Int) L (plc L l) false) o
    | .loop k e => k ≤ 9 → 1 ≤ k → ∀ m, ILo L (impl_parser_expr_l1 (k : Int) L (plc L l) false 0 0 false [] e.op e.n m e.args) o := by
  intro j l o h
  induction h with
  | nil =>
    intro L hL hg hs
    obtain ⟨p, hp⟩ := take_nil L
    have hv : impl_parser_variable L (L.length : Int) false = some (0, L, p, true) := by
      apply impl_parser_variable_le
      rw [hp, bnd_some]
      simp
    refine ⟨⟨13, 0, []⟩, p, ?_⟩
    apply impl_parser_operand_le
    rw [plc_nil, peek_nil, bnd_some]
    simp only [show (([] : List UInt8) == [40]) = false from rfl, cond_false, show (([] : List UInt8) == []) = true from rfl, Bool.not_true, hv, bnd_some]
  | @atom t l e h1 h2 =>
    intro L hL hg hs
    obtain ⟨c, r, rfl, hd⟩ := hg t hs.mem
    show impl_parser_operand L (plc L ((c :: r) :: l)) false = _
    apply impl_parser_operand_le
    have hb : ((c :: r : Tok) == [40]) = false := by rw [beq_eq_false_iff_ne]; exact h1
    rw [peek_cons hs, bnd_some]
    simp only [hb, cond_false, show ((c :: r : List UInt8) == []) = false from rfl, Bool.not_false, cond_true, geti0, bnd_some, impl_isDigit_eq]
    cases hc : dg c
    · have hn : ¬ 0 ≤ numV (c :: r) := fun h => by have := numV_dg h c (List.mem_cons_self ..); rw [hc] at this; cases this
      obtain ⟨hv, he⟩ := atom_var h2 hn
      simp only [cond_false, (variable_good hL hs (by simp)).1 hv, bnd_some, he]
    · by_cases hn : 0 ≤ numV (c :: r)
      · simp only [cond_true, (number_good hL hs (hd hc)).1 hn, bnd_some, atom_num h2 hn]
      · exfalso
        obtain ⟨hv, he⟩ := atom_var h2 hn
        have hcr := of_decide_eq_true hc
        unfold varV at hv
        split at hv
        · rename_i c' heq
          injection heq with e1 e2; subst e1
          rw [if_neg (by omega)] at hv; omega
        · omega
  | @bad t l h1 h2 =>
    intro L hL hg hs
    obtain ⟨c, r, rfl, hd⟩ := hg t hs.mem
    unfold atom at h2
    have hn : ¬ 0 ≤ numV (c :: r) := by intro h; rw [if_pos h] at h2; cases h2
    rw [if_neg hn] at h2
    have hv : ¬ 0 ≤ varV (c :: r) := by intro h; rw [if_pos h] at h2; cases h2
    have hb : ((c :: r : Tok) == [40]) = false := by rw [beq_eq_false_iff_ne]; exact h1
    cases hc : dg c
    · refine ⟨⟨13, 0, []⟩, (plc L l : Int), ?_⟩
      apply impl_parser_operand_le
      rw [peek_cons hs, bnd_some]
      simp only [hb, cond_false, show ((c :: r : List UInt8) == []) = false from rfl, Bool.not_false, cond_true, geti0, bnd_some, impl_isDigit_eq, hc, (variable_good hL hs (by simp)).2 hv]
    · refine ⟨⟨0, 0, []⟩, (plc L l : Int), ?_⟩
      apply impl_parser_operand_le
      rw [peek_cons hs, bnd_some]
      simp only [hb, cond_false, show ((c :: r : List UInt8) == []) = false from rfl, Bool.not_false, cond_true, geti0, bnd_some, impl_isDigit_eq, hc, (number_good hL hs (hd hc)).2 hn]
  | @par l r e h ih =>
    intro L hL hg hs
    obtain ⟨hs2, hp, hlt, _⟩ := hs.tail
    have h1 := ih L hL hg hs2 (by omega) (Nat.le_refl 1)
    have hs3 := hs2.trans (C_suf h _ _ rfl)
    show impl_parser_operand L (plc L (lp :: l)) false = _
    apply impl_parser_operand_le
    rw [peek_cons hs, bnd_some]
    simp only [show (lp == [40]) = true from rfl, cond_true]
    rw [w1n (by omega), hp, show impl_parser_expr 1 L (plc L l) false = _ from h1, bnd_some, need_good hL hs3, bnd_some]
    simp only [exp_eta]
  | @parN l h ih =>
    intro L hL hg hs
    obtain ⟨hs2, hp, hlt, _⟩ := hs.tail
    obtain ⟨x, p, h1⟩ := ih L hL hg hs2 (by omega) (Nat.le_refl 1)
    refine ⟨x, p, ?_⟩
    apply impl_parser_operand_le
    rw [peek_cons hs, bnd_some]
    simp only [show (lp == [40]) = true from rfl, cond_true]
    rw [w1n (by omega), hp, show impl_parser_expr 1 L (plc L l) false = _ from h1, bnd_some, need_fail, bnd_some]
    simp only [exp_eta]
  | @parE l e h ih =>
    intro L hL hg hs
    obtain ⟨hs2, hp, hlt, _⟩ := hs.tail
    have h1 := ih L hL hg hs2 (by omega) (Nat.le_refl 1)
    refine ⟨e, (L.length : Int), ?_⟩
    apply impl_parser_operand_le
    rw [peek_cons hs, bnd_some]
    simp only [show (lp == [40]) = true from rfl, cond_true]
    rw [w1n (by omega), hp, show impl_parser_expr 1 L (plc L l) false = _ from h1, bnd_some, plc_nil, need_nil, bnd_some]
    simp only [exp_eta]
  | @parB l r t e h hn ih =>
    intro L hL hg hs
    obtain ⟨hs2, hp, hlt, _⟩ := hs.tail
    have h1 := ih L hL hg hs2 (by omega) (Nat.le_refl 1)
    have hs3 := hs2.trans (C_suf h _ _ rfl)
    refine ⟨e, (plc L (t :: r) : Int), ?_⟩
    apply impl_parser_operand_le
    rw [peek_cons hs, bnd_some]
    simp only [show (lp == [40]) = true from rfl, cond_true]
    rw [w1n (by omega), hp, show impl_parser_expr 1 L (plc L l) false = _ from h1, bnd_some, need_bad hs3 hn, bnd_some]
    simp only [exp_eta]
  | @exN k l h ih =>
    intro L hL hg hs k9 k1
    obtain ⟨x, p, h1⟩ := ih L hL hg hs
    refine ⟨x, p, ?_⟩
    apply impl_parser_expr_le
    have hl : impl_parser_expr_l1 (k : Int) L p true 0 0 false [] x.op x.n .share x.args = some (L, p, true, 0, 0, (false, []), x.op, x.n, (.share, x.args)) := by
      apply impl_parser_expr_l1_le
      simp only [Bool.not_true, cond_false]
    rw [h1, bnd_some, hl, bnd_some]
    simp only [exp_eta]
  | @ex k l r e o h1 h2 ih1 ih2 =>
    intro L hL hg hs k9 k1
    have e1 := ih1 L hL hg hs
    have e2 := ih2 L hL hg (hs.trans (C_suf h1 _ _ rfl)) k9 k1 .share
    cases o with
    | none =>
      obtain ⟨p, a, b, m, c, e2⟩ := e2
      refine ⟨⟨a, b, c⟩, p, ?_⟩
      apply impl_parser_expr_le
      rw [show impl_parser_operand L (plc L l) false = _ from e1, bnd_some, e2, bnd_some]
    | some q =>
      obtain ⟨e', r'⟩ := q
      obtain ⟨m, e2⟩ := e2
      show impl_parser_expr _ _ _ _ = _
      apply impl_parser_expr_le
      rw [show impl_parser_operand L (plc L l) false = _ from e1, bnd_some, e2, bnd_some]
      simp only [exp_eta]
  | @stop k e l hn =>
    intro L hL hg hs k9 k1 m
    refine ⟨m, ?_⟩
    apply impl_parser_expr_l1_le
    simp only [Bool.not_false, cond_true]
    cases l with
    | nil =>
      rw [plc_nil, peek_nil, bnd_some, impl_opFrom_eq, opN_nil, bnd_some]
      simp only [Int.ofNat_zero, Int.natCast_zero, decide_true, cond_true]
    | cons t l =>
      rw [peek_cons hs, bnd_some, impl_opFrom_eq, bnd_some]
      by_cases h0 : opN t = 0
      · simp only [h0, Int.ofNat_zero, Int.natCast_zero, decide_true, cond_true]
      · have c0 : ¬ ((opN t : Int) = 0) := by omega
        have c1 : ((levN (opN t) : Int) < (k : Int)) := by
          have : levN (opN t) < k := hn
          omega
        simp only [c0, decide_false, cond_false, impl_OpLevel_nat (opN_le t), bnd_some, c1, decide_true, cond_true]
  | @step k e b t l r o hl h1 h2 ih1 ih2 =>
    intro L hL hg hs k9 k1 m
    obtain ⟨hs2, hp, hlt, _⟩ := hs.tail
    have hs3 := hs2.trans (C_suf h1 _ _ rfl)
    have l8 := levN_le (opN t)
    have e1 := ih1 L hL hg hs2 (by omega) (by omega)
    have e2 := ih2 L hL hg hs3 k9 k1 .full
    have h0 : ¬ opN t = 0 := by intro h; rw [h] at hl; have : levN 0 = 0 := rfl; omega
    have c0 : ¬ ((opN t : Int) = 0) := by omega
    have c1 : ¬ ((levN (opN t) : Int) < (k : Int)) := by omega
    have step : ∀ y, impl_parser_expr_l1 (k : Int) L (plc L r) false 0 0 false [] (opN t : Int) 0 .full [e, b] = some y → impl_parser_expr_l1 (k : Int) L (plc L (t :: l)) false 0 0 false [] e.op e.n m e.args = some y := by
      intro y hy
      apply impl_parser_expr_l1_le
      simp only [Bool.not_false, cond_true]
      rw [peek_cons hs, bnd_some, impl_opFrom_eq, bnd_some]
      simp only [c0, decide_false, cond_false, impl_OpLevel_nat (opN_le t), bnd_some, c1]
      rw [w1n (n := levN (opN t)) (by omega), w1n (n := plc L (t :: l)) (by omega), hp, show impl_parser_expr ((levN (opN t) + 1 : Nat) : Int) L (plc L l) false = _ from e1, bnd_some]
      simp only [exp_eta]
      exact hy
    cases o with
    | none =>
      obtain ⟨p, a, b, m, c, e2⟩ := e2
      exact ⟨p, a, b, m, c, step _ e2⟩
    | some q =>
      obtain ⟨e', r'⟩ := q
      obtain ⟨m, e2⟩ := e2
      exact ⟨m, step _ e2⟩
  | @stepN k e t l hl h ih =>
    intro L hL hg hs k9 k1 m
    obtain ⟨hs2, hp, hlt, _⟩ := hs.tail
    have l8 := levN_le (opN t)
    obtain ⟨x, p, e1⟩ := ih L hL hg hs2 (by omega) (by omega)
    have h0 : ¬ opN t = 0 := by intro h; rw [h] at hl; have : levN 0 = 0 := rfl; omega
    have c0 : ¬ ((opN t : Int) = 0) := by omega
    have c1 : ¬ ((levN (opN t) : Int) < (k : Int)) := by omega
    refine ⟨p, (opN t : Int), 0, .full, [e, x], ?_⟩
    apply impl_parser_expr_l1_le
    simp only [Bool.not_false, cond_true]
    rw [peek_cons hs, bnd_some, impl_opFrom_eq, bnd_some]
    simp only [c0, decide_false, cond_false, impl_OpLevel_nat (opN_le t), bnd_some, c1]
    rw [w1n (n := levN (opN t)) (by omega), w1n (n := plc L (t :: l)) (by omega), hp, show impl_parser_expr ((levN (opN t) + 1 : Nat) : Int) L (plc L l) false = _ from e1, bnd_some]
    simp only [exp_eta]
    apply impl_parser_expr_l1_le
    simp only [Bool.not_true, cond_false]

theorem toks_ind {Q : List UInt8 → List Tok → Prop} (h0 : Q [] []) (h1 : ∀ c r t, bl c = true → toks r = some t → Q r t → Q (c :: r) t)
    (h2 : ∀ c r t, bl c = false → tokLen (c :: r) ≠ 0 → toks ((c :: r).drop (tokLen (c :: r))) = some t → Q ((c :: r).drop (tokLen (c :: r))) t → Q (c :: r) ((c :: r).take (tokLen (c :: r)) :: t)) :
    ∀ (n : Nat) (s : List UInt8) (t : List Tok), s.length ≤ n → toks s = some t → Q s t
  | n, [], t, _, h => by rw [toks_nil] at h; injection h with h; subst h; exact h0
  | 0, c :: r, t, hn, h => by simp at hn
  | n + 1, c :: r, t, hn, h => by
    cases hb : bl c with
    | true =>
      rw [toks_bl r hb] at h
      exact h1 c r t hb h (toks_ind h0 h1 h2 n r t (by simp only [List.length_cons] at hn; omega) h)
    | false =>
      by_cases hl : tokLen (c :: r) = 0
      · rw [toks_no hb hl] at h; cases h
      · rw [toks_tok hb hl] at h
        cases ht : toks ((c :: r).drop (tokLen (c :: r))) with
        | none => rw [ht] at h; cases h
        | some t2 =>
          rw [ht, bnd_some] at h
          injection h with h; subst h
          exact h2 c r t2 hb hl ht (toks_ind h0 h1 h2 n _ t2 (by rw [List.length_drop]; omega) ht)

theorem tok_gt (c : UInt8) (r : List UInt8) (h : tokLen (c :: r) ≠ 0) : gt ((c :: r).take (tokLen (c :: r))) := by
  obtain ⟨n, hn⟩ : ∃ n, tokLen (c :: r) = n + 1 := ⟨tokLen (c :: r) - 1, by omega⟩
  refine ⟨c, r.take n, by rw [hn, List.take_succ_cons], ?_⟩
  intro hd x hx
  rw [hn, List.take_succ_cons] at hx
  have : n = (r.takeWhile dg).length := by
    simp only [tokLen, hd, if_true] at hn; omega
  rcases List.mem_cons.mp hx with rfl | hx
  · exact hd
  · have he : r.take n = r.takeWhile dg := by
      rw [this]
      exact (List.prefix_iff_eq_take.mp (List.takeWhile_prefix dg)).symm
    rw [he] at hx
    exact List.all_eq_true.mp List.all_takeWhile x hx

theorem toks_gt {s : List UInt8} {t : List Tok} (h : toks s = some t) : ∀ x ∈ t, gt x :=
  toks_ind (Q := fun s t => ∀ x ∈ t, gt x) (fun x hx => by cases hx) (fun c r t _ _ ih => ih) (fun c r t _ hl _ ih x hx => by
    rcases List.mem_cons.mp hx with rfl | hx
    · exact tok_gt c r hl
    · exact ih x hx) s.length s t (Nat.le_refl _) h

theorem toks_len {s : List UInt8} {t : List Tok} (h : toks s = some t) : t.length ≤ s.length :=
  toks_ind (Q := fun s t => t.length ≤ s.length) (Nat.le_refl _) (fun c r t _ _ ih => by simp only [List.length_cons]; omega) (fun c r t _ hl _ ih => by
    rw [List.length_drop] at ih
    have := tokLen_le (c :: r)
    simp only [List.length_cons] at *; omega) s.length s t (Nat.le_refl _) h

/-- A text is read as an expression. -/
def Frm (s : List UInt8) (e : Exp) : Prop := s.length ≤ 20000 ∧ ∃ t, toks s = some t ∧ P (.lev 1) t (some (e, [])) ∧ expOk 5 e = true

theorem suf_all (L : List Tok) : Suf L L ∧ plc L L = 0 := ⟨⟨[], rfl⟩, by unfold plc; omega⟩

theorem from_pos {s : List UInt8} {e : Exp} (h : Frm s e) : impl_ExprFrom s = some (e, true) ∧ spec_ExprFrom s = some (e, true) := by
  obtain ⟨hl, t, ht, hp, ho⟩ := h
  have hlen := toks_len ht
  have h1 : impl_parser_expr 1 t (plc t t) false = some (e, t, (plc t [] : Int), false) := impl_C (P_C hp) t (by omega) (toks_gt ht) (suf_all t).1 (by omega) (by omega)
  have h2 : spec_l5Parse t (plc t t) 1 = some (e, (plc t [] : Int)) := spec_P hp t (by omega) (suf_all t).1 (by omega) (by omega)
  rw [(suf_all t).2, plc_nil] at h1 h2
  refine ⟨?_, ?_⟩
  · apply impl_ExprFrom_le
    rw [impl_Tokens_eq, if_neg (by omega), ht, bnd_some]
    simp only [Bool.not_true, cond_false]
    rw [show impl_parser_expr 1 t 0 false = _ from h1, bnd_some]
    simp only [decide_true, Bool.not_true, cond_false, exp_eta, impl_ExprValid_eq, bnd_some, ho]
  · apply spec_ExprFrom_le
    rw [spec_Tokens_eq, if_neg (by omega), ht, bnd_some]
    simp only [Bool.not_true, cond_false]
    rw [show spec_l5Parse t 0 1 = _ from h2, bnd_some]
    have hn : ¬ ((t.length : Int) < 0) := by omega
    simp only [decide_true, Bool.not_true, cond_false, exp_eta, spec_ExprValid_eq, bnd_some, ho, hn, decide_false]

theorem from_all (s : List UInt8) : (∃ e, Frm s e) ∨ (impl_ExprFrom s = some (⟨0, 0, []⟩, false) ∧ spec_ExprFrom s = some (⟨0, 0, []⟩, false)) := by
  by_cases hl : 20000 < s.length
  · right
    refine ⟨?_, ?_⟩
    · apply impl_ExprFrom_le
      rw [impl_Tokens_eq, if_pos hl, bnd_some]; rfl
    · apply spec_ExprFrom_le
      rw [spec_Tokens_eq, if_pos hl, bnd_some]; rfl
  · cases ht : toks s with
    | none =>
      right
      refine ⟨?_, ?_⟩
      · apply impl_ExprFrom_le
        rw [impl_Tokens_eq, if_neg hl, ht, bnd_some]; rfl
      · apply spec_ExprFrom_le
        rw [spec_Tokens_eq, if_neg hl, ht, bnd_some]; rfl
    | some t =>
      have hlen := toks_len ht
      obtain ⟨o, hp⟩ := P_total (t.length + 1) (.lev 1) t (Nat.le_refl 1) (by omega)
      have h1 : IA t (impl_parser_expr 1 t (plc t t) false) o := impl_C (P_C hp) t (by omega) (toks_gt ht) (suf_all t).1 (by omega) (by omega)
      have h2 : SA t (spec_l5Parse t (plc t t) 1) o := spec_P hp t (by omega) (suf_all t).1 (by omega) (by omega)
      rw [(suf_all t).2] at h1 h2
      cases o with
      | none =>
        right
        obtain ⟨x, p, h1⟩ := h1
        obtain ⟨y, h2⟩ := h2
        refine ⟨?_, ?_⟩
        · apply impl_ExprFrom_le
          rw [impl_Tokens_eq, if_neg hl, ht, bnd_some]
          simp only [Bool.not_true, cond_false]
          rw [show impl_parser_expr 1 t 0 false = _ from h1, bnd_some]
          simp only [cond_true]
        · apply spec_ExprFrom_le
          rw [spec_Tokens_eq, if_neg hl, ht, bnd_some]
          simp only [Bool.not_true, cond_false]
          rw [show spec_l5Parse t 0 1 = _ from h2, bnd_some]
          have hn : ¬ ((-1 : Int) = (t.length : Int)) := by omega
          simp only [hn, decide_false, Bool.not_false, cond_true]
      | some q =>
        obtain ⟨e, r⟩ := q
        by_cases hr : r = []
        · subst hr
          by_cases ho : expOk 5 e = true
          · left; exact ⟨e, by omega, t, ht, hp, ho⟩
          · right
            have ho : expOk 5 e = false := by simpa using ho
            rw [show IA t _ _ = (_ = some (e, t, (plc t [] : Int), false)) from rfl, plc_nil] at h1
            rw [show SA t _ _ = (_ = some (e, (plc t [] : Int))) from rfl, plc_nil] at h2
            refine ⟨?_, ?_⟩
            · apply impl_ExprFrom_le
              rw [impl_Tokens_eq, if_neg hl, ht, bnd_some]
              simp only [Bool.not_true, cond_false]
              rw [show impl_parser_expr 1 t 0 false = _ from h1, bnd_some]
              simp only [decide_true, Bool.not_true, cond_false, exp_eta, impl_ExprValid_eq, bnd_some, ho, Bool.not_false, cond_true]
            · apply spec_ExprFrom_le
              rw [spec_Tokens_eq, if_neg hl, ht, bnd_some]
              simp only [Bool.not_true, cond_false]
              rw [show spec_l5Parse t 0 1 = _ from h2, bnd_some]
              have hn : ¬ ((t.length : Int) < 0) := by omega
              simp only [decide_true, Bool.not_true, cond_false, exp_eta, spec_ExprValid_eq, bnd_some, ho, hn, decide_false, Bool.not_false, cond_true]
        · right
          have hpl : (plc t r) < t.length := by
            obtain ⟨⟨p, hp⟩, _⟩ := P_suf hp _ _ rfl
            have : r.length ≠ 0 := by rw [ne_eq, List.length_eq_zero_iff]; exact hr
            unfold plc; rw [hp, List.length_append]; omega
          have hne : ¬ ((plc t r : Int) = (t.length : Int)) := by omega
          refine ⟨?_, ?_⟩
          · apply impl_ExprFrom_le
            rw [impl_Tokens_eq, if_neg hl, ht, bnd_some]
            simp only [Bool.not_true, cond_false]
            rw [show impl_parser_expr 1 t 0 false = some (e, t, (plc t r : Int), false) from h1, bnd_some]
            simp only [hne, decide_false, Bool.not_false, cond_true, cond_false]
          · apply spec_ExprFrom_le
            rw [spec_Tokens_eq, if_neg hl, ht, bnd_some]
            simp only [Bool.not_true, cond_false]
            rw [show spec_l5Parse t 0 1 = some (e, (plc t r : Int)) from h2, bnd_some]
            simp only [hne, decide_false, Bool.not_false, cond_true, cond_false]

/-- What the program answers, and what that means. -/
theorem from_ok (s : List UInt8) : ∃ v, impl_ExprFrom s = some v ∧ spec_ExprFrom s = some v ∧ (v.2 = true → Frm s v.1) ∧ (v.2 = false → v.1 = ⟨0, 0, []⟩) := by
  rcases from_all s with ⟨e, h⟩ | ⟨h1, h2⟩
  · exact ⟨_, (from_pos h).1, (from_pos h).2, fun _ => h, fun h => by cases h⟩
  · exact ⟨_, h1, h2, fun h => (by cases h), fun _ => rfl⟩

/-- How the laws of what is read begin. -/
theorem Frm.ok {s : List UInt8} {e : Exp} (h : Frm s e) : expOk 5 e = true := by obtain ⟨_, _, _, _, h⟩ := h; exact h

theorem set_mid {α : Type} (d : List α) (e x : α) (r : List α) : (d ++ e :: r).set d.length x = d ++ x :: r := by
  rw [List.set_append_right _ _ (Nat.le_refl _)]; simp

theorem get_mid {α : Type} (d : List α) (e : α) (r : List α) : (d ++ e :: r)[d.length]? = some e := by
  rw [List.getElem?_append_right (Nat.le_refl _)]; simp

mutual
def mkX : Int → Exp → Exp
  | k, ⟨_, _, as⟩ => ⟨k, k + 1, mkXs (k + 2) as⟩
def mkXs : Int → List Exp → List Exp
  | _, [] => []
  | k, e :: r => mkX k e :: mkXs (k + 2 + 2 * emX e) r
end

theorem mkX_eq (k : Int) (e : Exp) : mkX k e = ⟨k, k + 1, mkXs (k + 2) e.args⟩ := by cases e; simp [mkX]

theorem mkXs_len : ∀ (k : Int) (l : List Exp), (mkXs k l).length = l.length
  | k, [] => by simp [mkXs]
  | k, e :: r => by simp only [mkXs, List.length_cons, mkXs_len]

def MarkX (l : List Exp) : Prop := ∀ (h : Hd) (ids : List Nat) (A : List Ent) (k : Int), Tr A .expH h l ids → ids.Nodup → 0 ≤ k → k + 2 * emXs l ≤ 4611686018427387904 → Ok (laws_markExprS_p h k A) fun r => r.1 = k + 2 * emXs l ∧ Tr r.2 .expH h (mkXs k l) ids ∧ Only ids A r.2

theorem markX_l {h : Hd} {ids : List Nat} {A : List Ent} (nd : ids.Nodup) (hb : ((h.n : Nat) : Int) ≤ 4611686018427387904) : ∀ (rest done : List Exp) (k : Int) (B : List Ent), (∀ e ∈ rest, MarkX e.args) → Tr B .expH h (done ++ rest) ids → Only ids A B → 0 ≤ k → k + 2 * emXs rest ≤ 4611686018427387904 →
    Ok (laws_markExprS_p_l1 h k done.length B) fun r => r.1 = k + 2 * emXs rest ∧ Tr r.2 .expH h (done ++ mkXs k rest) ids ∧ Only ids A r.2
  | [], done, k, B, _, hT, ho, h0, hk => by
    apply Ok.le (laws_markExprS_p_l1_le _ _ _ _)
    have hn := hT.cnt
    simp only [List.length_append, List.length_nil] at hn
    have hi : ¬ ((done.length : Int) < ((h.n : Nat) : Int)) := by omega
    simp only [hi, decide_false, cond_false]
    exact Ok.of ⟨by simp [emXs], hT, ho⟩
  | e :: rest, done, k, B, hp, hT, ho, h0, hk => by
    apply Ok.le (laws_markExprS_p_l1_le _ _ _ _)
    have hn := hT.cnt
    simp only [List.length_append, List.length_cons] at hn
    have hi : (done.length : Int) < ((h.n : Nat) : Int) := by omega
    obtain ⟨M⟩ := hT.mid nd (j := done.length) (y := e) (get_mid done e rest)
    have hlt := (List.getElem?_eq_some_iff.1 M.at_).1
    obtain ⟨as, hT', he⟩ := (show ∃ as, Tr B .expH M.x.args as M.s ∧ e = ⟨M.x.op, M.x.n, as⟩ from M.row)
    have ea : as = e.args := by rw [he]
    subst ea
    simp only [emXs, emX_eq] at hk
    simp only [hi, decide_true, cond_true, idxN_eq (show 0 ≤ (done.length : Int) by omega) hi, Int.toNat_natCast, bnd_some, M.hid, arRow_eq M.get M.at_, arRow_set M.get hlt, arSet_set M.get, wrap_id (n := k + 1) (by omega) (by omega), wrap_id (n := k + 1 + 1) (by omega) (by omega)]
    have o1 : Only [M.i] B (arSet B .expH (some M.i) done.length (⟨k, k + 1, M.x.args⟩ : ExpH)) := set_only (c := .expH) (by simp)
    refine Ok.bnd (hp _ List.mem_cons_self M.x.args M.s _ (k + 1 + 1) (hT'.only o1 (fun n hn hm => M.out (by simp at hm; rw [← hm]; exact hn))) M.nds (by omega) (by omega)) fun r ⟨e1, t1, o2⟩ => ?_
    have oB : Only (M.i :: M.s) B r.2 := (o1.mono (by simp)).trans (o2.mono (fun n hn => List.mem_cons_of_mem _ hn))
    have hb2 := M.back (B := r.2) (x' := (⟨k, k + 1, M.x.args⟩ : ExpH)) (y' := ⟨k, k + 1, mkXs (k + 1 + 1) e.args⟩) (arGet_of (fun n hn => by injection hn with hn; rw [← hn]; exact o2.same _ M.out) (arSet_get (c := .expH) M.get)) ⟨_, t1, rfl⟩ oB
    rw [set_mid] at hb2
    have ho2 : Only ids A r.2 := ho.trans (oB.mono fun n hn => by
      rcases List.mem_cons.1 hn with rfl | hn
      · exact M.iin
      · exact M.ins n hn)
    rw [wrap_succ (show (done.length : Int) < 9223372036854775807 by omega)]
    have ih := markX_l nd hb rest (done ++ [⟨k, k + 1, mkXs (k + 1 + 1) e.args⟩]) r.1 r.2 (fun e he => hp e (List.mem_cons_of_mem _ he)) (by rw [List.append_assoc]; exact hb2) ho2 (by rw [e1]; omega) (by rw [e1]; omega)
    simp only [List.length_append, List.length_cons, List.length_nil, Nat.zero_add] at ih
    refine ih.mono fun q ⟨q1, q2, q3⟩ => ⟨?_, ?_, q3⟩
    · rw [q1, e1]; simp only [emXs, emX_eq]; omega
    · have ek : k + 1 + 1 = k + 2 := by omega
      rw [List.append_assoc, e1, ek] at q2
      simp only [mkXs, mkX_eq, emX_eq]
      exact q2

theorem markXs_ok : ∀ (N : Nat) (l : List Exp), emXs l ≤ N → MarkX l
  | 0, l, hN => by
    intro h ids A k hT nd h0 hk
    apply Ok.le (laws_markExprS_p_le _ _ _)
    have hl := emXs_len l
    have hc := hT.cnt
    have hnil : l = [] := List.eq_nil_of_length_eq_zero (by omega)
    subst hnil
    refine Ok.bnd (markX_l (A := A) nd (by rw [hc]; simp) [] [] k A (by simp) hT (Only.refl _ _) h0 hk) fun r hr => Ok.of hr
  | N + 1, l, hN => by
    intro h ids A k hT nd h0 hk
    apply Ok.le (laws_markExprS_p_le _ _ _)
    have hl := emXs_len l
    have hc := hT.cnt
    refine Ok.bnd (markX_l (A := A) nd (by rw [hc]; omega) l [] k A (fun e he => markXs_ok N e.args (by have := emX_mem he; rw [emX_eq] at this; omega)) hT (Only.refl _ _) h0 hk) fun r hr => Ok.of hr

theorem laws_markExprS_p_ok {l : List Exp} : MarkX l := markXs_ok _ l (Nat.le_refl _)

def HeldX (l : List Exp) : Prop := ∀ k : Int, 0 ≤ k → k + 2 * emXs l ≤ 4611686018427387904 → laws_heldExprS (mkXs k l) k = some (k + 2 * emXs l)

theorem heldX_l {L : List Exp} (hL : (L.length : Int) ≤ 4611686018427387904) : ∀ (rest done : List Exp) (k : Int), (∀ e ∈ rest, HeldX e.args) → L = done ++ mkXs k rest → 0 ≤ k → k + 2 * emXs rest ≤ 4611686018427387904 → laws_heldExprS_l1 L k done.length = some (.inl (k + 2 * emXs rest))
  | [], done, k, _, hl, h0, hk => by
    subst hl
    apply laws_heldExprS_l1_le
    simp [mkXs, emXs]
  | e :: rest, done, k, hp, hl, h0, hk => by
    apply laws_heldExprS_l1_le
    simp only [emXs, emX_eq] at hk
    have hlen : L.length = done.length + (rest.length + 1) := by rw [hl]; simp [mkXs_len]
    have hi : (done.length : Int) < (L.length : Int) := by omega
    have hget : L[done.length]? = some (mkX k e) := by rw [hl]; exact get_mid done _ _
    have hh := hp e List.mem_cons_self (k + 2) (by omega) (by omega)
    have ek : k + 1 + 1 = k + 2 := by omega
    have ih := heldX_l hL rest (done ++ [mkX k e]) (k + 2 + 2 * emX e) (fun e he => hp e (List.mem_cons_of_mem _ he)) (by rw [List.append_assoc]; exact hl) (by omega) (by rw [emX_eq]; omega)
    simp only [List.length_append, List.length_cons, List.length_nil, Nat.zero_add, emX_eq] at ih
    have hneg : ¬ (k + 2 + 2 * (emXs e.args : Int) < 0) := by omega
    simp only [hi, decide_true, cond_true, geti_nat', hget, bnd_some, mkX_eq, Bool.not_true, cond_false, wrap_id (n := k + 1) (by omega) (by omega), ek, wrap_id (n := k + 2) (by omega) (by omega), hh, hneg, decide_false, wrap_succ (show (done.length : Int) < 9223372036854775807 by omega), ih, emXs]
    rw [show k + 2 + 2 * (emXs e.args : Int) + 2 * emXs rest = k + 2 * ((1 + emXs e.args + emXs rest : Nat) : Int) by omega, ← emX_eq]

theorem heldXs_ok : ∀ (N : Nat) (l : List Exp), emXs l ≤ N → HeldX l
  | 0, l, hN => by
    intro k h0 hk
    have hl := emXs_len l
    have hnil : l = [] := List.eq_nil_of_length_eq_zero (by omega)
    subst hnil
    apply laws_heldExprS_le
    have e : laws_heldExprS_l1 (mkXs k []) k 0 = some (.inl (k + 2 * emXs [])) := heldX_l (by simp [mkXs]) [] [] k (by simp) rfl h0 hk
    rw [e]; simp [selm]
  | N + 1, l, hN => by
    intro k h0 hk
    have hl := emXs_len l
    apply laws_heldExprS_le
    have e : laws_heldExprS_l1 (mkXs k l) k 0 = some (.inl (k + 2 * emXs l)) := heldX_l (by rw [mkXs_len]; omega) l [] k (fun e he => heldXs_ok N e.args (by have := emX_mem he; rw [emX_eq] at this; omega)) rfl h0 hk
    rw [e]; simp [selm]

theorem laws_heldExprS_eq {l : List Exp} : HeldX l := heldXs_ok _ l (Nat.le_refl _)

theorem mkr_open {A B : List Ent} {x : ExpH} {e : Exp} {s : List Nat} (h : MkR A .expH x e B s) : x.op = e.op ∧ x.n = e.n ∧ Mk A .expH e.args x.args B s := by
  obtain ⟨as, t, he⟩ := (show ∃ as, Tr B .expH x.args as s ∧ e = ⟨x.op, x.n, as⟩ from h.rw_)
  have h1 : e.op = x.op := by rw [he]
  have h2 : e.n = x.n := by rw [he]
  have h3 : e.args = as := by rw [he]
  subst h3
  exact ⟨h1.symm, h2.symm, t, h.nd, h.new, h.grow⟩

theorem exp_eta3 (e : Exp) : (⟨e.op, e.n, e.args⟩ : Exp) = e := by cases e; rfl

theorem mkr_close {A B : List Ent} {h : Hd} {e : Exp} {s : List Nat} (m : Mk A .expH e.args h B s) : MkR A .expH ⟨e.op, e.n, h⟩ e B s := by
  have := MkR.exp m e.op e.n
  rw [exp_eta3] at this
  exact this

theorem mk_two {A B D : List Ent} {c : TC} {x x2 : Den c} {y y2 : Den c.seen} {s s2 : List Nat} (hf : flatC c) (r1 : MkR A c x y B s) (r2 : MkR B c x2 y2 D s2) : ∃ ids, Mk A c [y, y2] ⟨some D.length, 2⟩ (arPush D c [x, x2]) ids := by
  have g1 := r2.grow
  have hx : Grow D (arPush D c [x, x2]) := (Grow.refl D).push hf
  have q1 := (r1.keep g1).keep hx
  have q2 := r2.keep hx
  have T : Ls (arPush D c [x, x2]) c ⟨some D.length, 2⟩ [y, y2] [x, x2] [s, s2] := by
    refine ⟨arGet_push, rfl, rfl, rfl, fun j a b t ha hb ht => ?_⟩
    match j, ha, hb, ht with
    | 0, ha, hb, ht =>
      simp at ha hb ht
      subst ha hb ht
      exact q1.rw_
    | 1, ha, hb, ht =>
      simp at ha hb ht
      subst ha hb ht
      exact q2.rw_
    | j + 2, ha, _, _ => simp at ha
  have l1 := r1.rw_.lt
  have l2 := r2.rw_.lt
  have hAB := r1.grow.len
  have hBD := g1.len
  refine ⟨_, T.tr, ?_, fun n hn => ?_, (r1.grow.trans g1).trans hx⟩
  · simp only [Option.toList_some, List.flatten_cons, List.flatten_nil, List.append_nil]
    refine nd_app (by simp) (nd_app r1.nd r2.nd fun n hn hm => ?_) (fun n hn hm => ?_)
    · have := l1 n hn
      have := r2.new n hm
      omega
    · simp at hn
      subst hn
      rcases List.mem_append.1 hm with hm | hm
      · have := l1 _ hm; omega
      · have := l2 _ hm; omega
  · simp only [Option.toList_some, List.flatten_cons, List.flatten_nil, List.append_nil] at hn
    rcases List.mem_append.1 hn with hn | hn
    · simp at hn; omega
    · rcases List.mem_append.1 hn with hn | hn
      · exact r1.new n hn
      · have := r2.new n hn; omega

def IAp (L : List Tok) (A : List Ent) (f : Option (ExpH × List Tok × Int × Bool × List Ent)) (o : Out) : Prop := match o with
  | some (e, r) => Ok f fun q => (∃ s, MkR A .expH q.1 e q.2.2.2.2 s) ∧ q.2.1 = L ∧ q.2.2.1 = (plc L r : Int) ∧ q.2.2.2.1 = false
  | none => Ok f fun q => q.2.1 = L ∧ q.2.2.2.1 = true ∧ Grow A q.2.2.2.2

def ILp (L : List Tok) (A : List Ent) (f : Option (List Tok × Int × Bool × Int × Int × Hd × Int × Int × Hd × List Ent)) (o : Out) : Prop := match o with
  | some (e, r) => Ok f fun q => q.1 = L ∧ q.2.1 = (plc L r : Int) ∧ q.2.2.1 = false ∧ q.2.2.2.2.2.2.1 = e.op ∧ q.2.2.2.2.2.2.2.1 = e.n ∧ ∃ ids, Mk A .expH e.args q.2.2.2.2.2.2.2.2.1 q.2.2.2.2.2.2.2.2.2 ids
  | none => Ok f fun q => q.1 = L ∧ q.2.2.1 = true ∧ Grow A q.2.2.2.2.2.2.2.2.2

theorem leaf_mk (A : List Ent) (op n : Int) : MkR A .expH ⟨op, n, ⟨none, 0⟩⟩ ⟨op, n, []⟩ A [] := MkR.exp (Mk.nil .expH (Grow.refl A)) op n

theorem impl_Cp : ∀ {j : J} {l : List Tok} {o : Out}, C j l o → ∀ L : List Tok, L.length ≤ 20000 → (∀ t ∈ L, gt t) → Suf L l → match j with
    | .opd => ∀ A, IAp L A (impl_parser_operand_p L (plc L l) false A) o
    | .lev k => k ≤ 9 → 1 ≤ k → ∀ A, IAp L A (impl_parser_expr_p (k : Int) L (plc L l) false A) o
    | .loop k e => k ≤ 9 → 1 ≤ k → ∀ A B hd ids, Mk A .expH e.args hd B ids → ILp L A (impl_parser_expr_p_l1 (k : Int) L (plc L l) false 0 0 ⟨none, 0⟩ e.op e.n hd B) o := by
  intro j l o h
  induction h with
  | nil =>
    intro L hL hg hs A
    obtain ⟨p, hp⟩ := take_nil L
    have hv : impl_parser_variable L (L.length : Int) false = some (0, L, p, true) := by
      apply impl_parser_variable_le
      rw [hp, bnd_some]
      simp
    refine Ok.le (impl_parser_operand_p_le _ _ _ _) ?_
    rw [plc_nil, peek_nil, bnd_some]
    simp only [show (([] : List UInt8) == [40]) = false from rfl, cond_false, show (([] : List UInt8) == []) = true from rfl, Bool.not_true, hv, bnd_some]
    exact Ok.of ⟨rfl, rfl, Grow.refl A⟩
  | @atom t l e h1 h2 =>
    intro L hL hg hs A
    obtain ⟨c, r, rfl, hd⟩ := hg t hs.mem
    refine Ok.le (impl_parser_operand_p_le _ _ _ _) ?_
    have hb : ((c :: r : Tok) == [40]) = false := by rw [beq_eq_false_iff_ne]; exact h1
    rw [peek_cons hs, bnd_some]
    simp only [hb, cond_false, show ((c :: r : List UInt8) == []) = false from rfl, Bool.not_false, cond_true, geti0, bnd_some, impl_isDigit_eq]
    cases hc : dg c
    · have hn : ¬ 0 ≤ numV (c :: r) := fun h => by have := numV_dg h c (List.mem_cons_self ..); rw [hc] at this; cases this
      obtain ⟨hv, he⟩ := atom_var h2 hn
      simp only [cond_false, (variable_good hL hs (by simp)).1 hv, bnd_some]
      rw [he]
      exact Ok.of ⟨⟨_, leaf_mk A 13 _⟩, rfl, rfl, rfl⟩
    · by_cases hn : 0 ≤ numV (c :: r)
      · simp only [cond_true, (number_good hL hs (hd hc)).1 hn, bnd_some]
        rw [atom_num h2 hn]
        exact Ok.of ⟨⟨_, leaf_mk A 0 _⟩, rfl, rfl, rfl⟩
      · exfalso
        obtain ⟨hv, he⟩ := atom_var h2 hn
        have hcr := of_decide_eq_true hc
        unfold varV at hv
        split at hv
        · rename_i c' heq
          injection heq with e1 e2; subst e1
          rw [if_neg (by omega)] at hv; omega
        · omega
  | @bad t l h1 h2 =>
    intro L hL hg hs A
    obtain ⟨c, r, rfl, hd⟩ := hg t hs.mem
    unfold atom at h2
    have hn : ¬ 0 ≤ numV (c :: r) := by intro h; rw [if_pos h] at h2; cases h2
    rw [if_neg hn] at h2
    have hv : ¬ 0 ≤ varV (c :: r) := by intro h; rw [if_pos h] at h2; cases h2
    have hb : ((c :: r : Tok) == [40]) = false := by rw [beq_eq_false_iff_ne]; exact h1
    refine Ok.le (impl_parser_operand_p_le _ _ _ _) ?_
    rw [peek_cons hs, bnd_some]
    cases hc : dg c
    · simp only [hb, cond_false, show ((c :: r : List UInt8) == []) = false from rfl, Bool.not_false, cond_true, geti0, bnd_some, impl_isDigit_eq, hc, (variable_good hL hs (by simp)).2 hv]
      exact Ok.of ⟨rfl, rfl, Grow.refl A⟩
    · simp only [hb, cond_false, show ((c :: r : List UInt8) == []) = false from rfl, Bool.not_false, cond_true, geti0, bnd_some, impl_isDigit_eq, hc, (number_good hL hs (hd hc)).2 hn]
      exact Ok.of ⟨rfl, rfl, Grow.refl A⟩
  | @par l r e h ih =>
    intro L hL hg hs A
    obtain ⟨hs2, hp, hlt, _⟩ := hs.tail
    have h1 := ih L hL hg hs2 (by omega) (Nat.le_refl 1) A
    have hs3 := hs2.trans (C_suf h _ _ rfl)
    refine Ok.le (impl_parser_operand_p_le _ _ _ _) ?_
    rw [peek_cons hs, bnd_some]
    simp only [show (lp == [40]) = true from rfl, cond_true]
    rw [w1n (by omega), hp]
    refine Ok.bnd h1 fun q ⟨⟨s, q1⟩, q2, q3, q4⟩ => ?_
    rw [q2, q3, q4, need_good hL hs3, bnd_some]
    exact Ok.of ⟨⟨s, q1⟩, rfl, rfl, rfl⟩
  | @parN l h ih =>
    intro L hL hg hs A
    obtain ⟨hs2, hp, hlt, _⟩ := hs.tail
    have h1 := ih L hL hg hs2 (by omega) (Nat.le_refl 1) A
    refine Ok.le (impl_parser_operand_p_le _ _ _ _) ?_
    rw [peek_cons hs, bnd_some]
    simp only [show (lp == [40]) = true from rfl, cond_true]
    rw [w1n (by omega), hp]
    refine Ok.bnd h1 fun q ⟨q1, q2, q3⟩ => ?_
    rw [q1, q2, need_fail, bnd_some]
    exact Ok.of ⟨rfl, rfl, q3⟩
  | @parE l e h ih =>
    intro L hL hg hs A
    obtain ⟨hs2, hp, hlt, _⟩ := hs.tail
    have h1 := ih L hL hg hs2 (by omega) (Nat.le_refl 1) A
    refine Ok.le (impl_parser_operand_p_le _ _ _ _) ?_
    rw [peek_cons hs, bnd_some]
    simp only [show (lp == [40]) = true from rfl, cond_true]
    rw [w1n (by omega), hp]
    refine Ok.bnd h1 fun q ⟨⟨s, q1⟩, q2, q3, q4⟩ => ?_
    rw [q2, q3, q4, plc_nil, need_nil, bnd_some]
    exact Ok.of ⟨rfl, rfl, q1.grow⟩
  | @parB l r t e h hn ih =>
    intro L hL hg hs A
    obtain ⟨hs2, hp, hlt, _⟩ := hs.tail
    have h1 := ih L hL hg hs2 (by omega) (Nat.le_refl 1) A
    have hs3 := hs2.trans (C_suf h _ _ rfl)
    refine Ok.le (impl_parser_operand_p_le _ _ _ _) ?_
    rw [peek_cons hs, bnd_some]
    simp only [show (lp == [40]) = true from rfl, cond_true]
    rw [w1n (by omega), hp]
    refine Ok.bnd h1 fun q ⟨⟨s, q1⟩, q2, q3, q4⟩ => ?_
    rw [q2, q3, q4, need_bad hs3 hn, bnd_some]
    exact Ok.of ⟨rfl, rfl, q1.grow⟩
  | @exN k l h ih =>
    intro L hL hg hs k9 k1 A
    have h1 := ih L hL hg hs A
    refine Ok.le (impl_parser_expr_p_le _ _ _ _ _) ?_
    refine Ok.bnd h1 fun q ⟨q1, q2, q3⟩ => ?_
    have hl : impl_parser_expr_p_l1 (k : Int) q.2.1 q.2.2.1 q.2.2.2.1 0 0 ⟨none, 0⟩ q.1.op q.1.n q.1.args q.2.2.2.2 = some (q.2.1, q.2.2.1, q.2.2.2.1, 0, 0, ⟨none, 0⟩, q.1.op, q.1.n, q.1.args, q.2.2.2.2) := by
      apply impl_parser_expr_p_l1_le
      simp only [q2, Bool.not_true, cond_false]
    rw [hl, bnd_some]
    exact Ok.of ⟨q1, q2, q3⟩
  | @ex k l r e o h1 h2 ih1 ih2 =>
    intro L hL hg hs k9 k1 A
    have e1 := ih1 L hL hg hs A
    have hs3 := hs.trans (C_suf h1 _ _ rfl)
    cases o with
    | none =>
      refine Ok.le (impl_parser_expr_p_le _ _ _ _ _) ?_
      refine Ok.bnd e1 fun q ⟨⟨s, q1⟩, q2, q3, q4⟩ => ?_
      obtain ⟨o1, o2, om⟩ := mkr_open q1
      have e2 := ih2 L hL hg hs3 k9 k1 A q.2.2.2.2 q.1.args s om
      rw [q2, q3, q4, o1, o2]
      exact Ok.bnd e2 fun w ⟨w1, w2, w3⟩ => Ok.of ⟨w1, w2, w3⟩
    | some q' =>
      refine Ok.le (impl_parser_expr_p_le _ _ _ _ _) ?_
      refine Ok.bnd e1 fun q ⟨⟨s, q1⟩, q2, q3, q4⟩ => ?_
      obtain ⟨o1, o2, om⟩ := mkr_open q1
      have e2 := ih2 L hL hg hs3 k9 k1 A q.2.2.2.2 q.1.args s om
      rw [q2, q3, q4, o1, o2]
      refine Ok.bnd e2 fun w ⟨w1, w2, w3, w4, w5, ids, w6⟩ => ?_
      refine Ok.of ⟨⟨ids, ?_⟩, w1, w2, w3⟩
      dsimp only
      rw [w4, w5]
      exact mkr_close w6
  | @stop k e l hn =>
    intro L hL hg hs k9 k1 A B hd ids hm
    refine Ok.le (impl_parser_expr_p_l1_le _ _ _ _ _ _ _ _ _ _ _) ?_
    simp only [Bool.not_false, cond_true]
    cases l with
    | nil =>
      rw [plc_nil, peek_nil, bnd_some, impl_opFrom_eq, opN_nil, bnd_some]
      simp only [Int.ofNat_zero, Int.natCast_zero, decide_true, cond_true]
      exact Ok.of ⟨rfl, rfl, rfl, rfl, rfl, ids, hm⟩
    | cons t l =>
      rw [peek_cons hs, bnd_some, impl_opFrom_eq, bnd_some]
      by_cases h0 : opN t = 0
      · simp only [h0, Int.ofNat_zero, Int.natCast_zero, decide_true, cond_true]
        exact Ok.of ⟨rfl, rfl, rfl, rfl, rfl, ids, hm⟩
      · have c0 : ¬ ((opN t : Int) = 0) := by omega
        have c1 : ((levN (opN t) : Int) < (k : Int)) := by
          have : levN (opN t) < k := hn
          omega
        simp only [c0, decide_false, cond_false, impl_OpLevel_nat (opN_le t), bnd_some, c1, decide_true, cond_true]
        exact Ok.of ⟨rfl, rfl, rfl, rfl, rfl, ids, hm⟩
  | @step k e b t l r o hl h1 h2 ih1 ih2 =>
    intro L hL hg hs k9 k1 A B hd ids hm
    obtain ⟨hs2, hp, hlt, _⟩ := hs.tail
    have hs3 := hs2.trans (C_suf h1 _ _ rfl)
    have l8 := levN_le (opN t)
    have e1 := ih1 L hL hg hs2 (by omega) (by omega) B
    have h0 : ¬ opN t = 0 := by intro h; rw [h] at hl; have : levN 0 = 0 := rfl; omega
    have c0 : ¬ ((opN t : Int) = 0) := by omega
    have c1 : ¬ ((levN (opN t) : Int) < (k : Int)) := by omega
    obtain ⟨q, eq, ⟨s, q1⟩, q2, q3, q4⟩ := e1
    obtain ⟨ids2, m2⟩ := mk_two flatC_expH (mkr_close hm) q1
    have e2 := ih2 L hL hg hs3 k9 k1 A _ _ ids2 m2
    have step : ∀ y, impl_parser_expr_p_l1 (k : Int) L (plc L r) false 0 0 ⟨none, 0⟩ (opN t : Int) 0 ⟨some q.2.2.2.2.length, 2⟩ (arPush q.2.2.2.2 .expH ([⟨e.op, e.n, hd⟩, q.1] : List ExpH)) = some y → impl_parser_expr_p_l1 (k : Int) L (plc L (t :: l)) false 0 0 ⟨none, 0⟩ e.op e.n hd B = some y := by
      intro y hy
      apply impl_parser_expr_p_l1_le
      simp only [Bool.not_false, cond_true]
      rw [peek_cons hs, bnd_some, impl_opFrom_eq, bnd_some]
      simp only [c0, decide_false, cond_false, impl_OpLevel_nat (opN_le t), bnd_some, c1]
      rw [w1n (n := levN (opN t)) (by omega), w1n (n := plc L (t :: l)) (by omega), hp, show impl_parser_expr_p ((levN (opN t) + 1 : Nat) : Int) L (plc L l) false B = _ from eq, bnd_some, q2, q3, q4]
      exact hy
    cases o with
    | none =>
      obtain ⟨y, ey, py⟩ := e2
      exact ⟨y, step _ ey, py⟩
    | some q' =>
      obtain ⟨y, ey, py⟩ := e2
      exact ⟨y, step _ ey, py⟩
  | @stepN k e t l hl h ih =>
    intro L hL hg hs k9 k1 A B hd ids hm
    obtain ⟨hs2, hp, hlt, _⟩ := hs.tail
    have l8 := levN_le (opN t)
    obtain ⟨q, eq, q1, q2, q3⟩ := ih L hL hg hs2 (by omega) (by omega) B
    have h0 : ¬ opN t = 0 := by intro h; rw [h] at hl; have : levN 0 = 0 := rfl; omega
    have c0 : ¬ ((opN t : Int) = 0) := by omega
    have c1 : ¬ ((levN (opN t) : Int) < (k : Int)) := by omega
    refine Ok.le (impl_parser_expr_p_l1_le _ _ _ _ _ _ _ _ _ _ _) ?_
    simp only [Bool.not_false, cond_true]
    rw [peek_cons hs, bnd_some, impl_opFrom_eq, bnd_some]
    simp only [c0, decide_false, cond_false, impl_OpLevel_nat (opN_le t), bnd_some, c1]
    rw [w1n (n := levN (opN t)) (by omega), w1n (n := plc L (t :: l)) (by omega), hp, show impl_parser_expr_p ((levN (opN t) + 1 : Nat) : Int) L (plc L l) false B = _ from eq, bnd_some]
    refine Ok.le (impl_parser_expr_p_l1_le _ _ _ _ _ _ _ _ _ _ _) ?_
    simp only [q2, Bool.not_true, cond_false]
    exact Ok.of ⟨q1, rfl, (hm.grow.trans q3).push flatC_expH⟩

theorem Rw.exp_view {A : List Ent} {x : ExpH} {y : Exp} {s : List Nat} (h : Rw A .expH x y s) (hn : s.Nodup) : arView A .expH x.args.id = some y.args ∧ x.op = y.op ∧ x.n = y.n := by
  obtain ⟨as, h1, rfl⟩ := (show ∃ as, Tr A .expH x.args as s ∧ y = ⟨x.op, x.n, as⟩ from h)
  exact ⟨h1.view hn, rfl, rfl⟩

/-- What is read, in an arena. -/
theorem impl_ExprFrom_p_ok (s : List UInt8) (A : List Ent) : ∃ v, impl_ExprFrom s = some v ∧ spec_ExprFrom s = some v ∧ (v.2 = true → Frm s v.1) ∧ (v.2 = false → v.1 = ⟨0, 0, []⟩) ∧ Ok (impl_ExprFrom_p s A) fun r => r.2.1 = v.2 ∧ ∃ t, MkR A .expH r.1 v.1 r.2.2 t := by
  obtain ⟨v, h1, h2, h3, h4⟩ := from_ok s
  refine ⟨v, h1, h2, h3, h4, ?_⟩
  refine Ok.le (impl_ExprFrom_p_le _ _) ?_
  have bad : ∀ {B : List Ent}, Grow A B → v.2 = false → (fun r : ExpH × Bool × List Ent => r.2.1 = v.2 ∧ ∃ t, MkR A .expH r.1 v.1 r.2.2 t) (⟨0, 0, ⟨none, 0⟩⟩, false, B) := by
    intro B g hv
    refine ⟨hv.symm, [], ?_⟩
    rw [h4 hv]
    exact MkR.exp (Mk.nil .expH g) 0 0
  have hdet : ∀ {w}, impl_ExprFrom s = some w → w = v := fun hw => by rw [h1] at hw; injection hw with hw; exact hw.symm
  rw [impl_Tokens_eq]
  by_cases hl : 20000 < s.length
  · have hv : v.2 = false := by
      have := hdet (w := (⟨0, 0, []⟩, false)) (by apply impl_ExprFrom_le; rw [impl_Tokens_eq, if_pos hl, bnd_some]; rfl)
      rw [← this]
    rw [if_pos hl, bnd_some]
    exact Ok.of (bad (Grow.refl A) hv)
  · rw [if_neg hl]
    cases ht : toks s with
    | none =>
      have hv : v.2 = false := by
        have := hdet (w := (⟨0, 0, []⟩, false)) (by apply impl_ExprFrom_le; rw [impl_Tokens_eq, if_neg hl, ht, bnd_some]; rfl)
        rw [← this]
      rw [bnd_some]
      exact Ok.of (bad (Grow.refl A) hv)
    | some t =>
      have hlen := toks_len ht
      obtain ⟨o, hp⟩ := P_total (t.length + 1) (.lev 1) t (Nat.le_refl 1) (by omega)
      have e1 : IA t (impl_parser_expr 1 t (plc t t) false) o := impl_C (P_C hp) t (by omega) (toks_gt ht) (suf_all t).1 (by omega) (by omega)
      have e2 : IAp t A (impl_parser_expr_p 1 t (plc t t) false A) o := impl_Cp (P_C hp) t (by omega) (toks_gt ht) (suf_all t).1 (by omega) (by omega) A
      rw [(suf_all t).2] at e1 e2
      rw [bnd_some]
      simp only [Bool.not_true, cond_false]
      cases o with
      | none =>
        obtain ⟨x, p, e1⟩ := e1
        have hv : v.2 = false := by
          have := hdet (w := (⟨0, 0, []⟩, false)) (by
            apply impl_ExprFrom_le
            rw [impl_Tokens_eq, if_neg hl, ht, bnd_some]
            simp only [Bool.not_true, cond_false]
            rw [show impl_parser_expr 1 t 0 false = _ from e1, bnd_some]
            simp only [cond_true])
          rw [← this]
        refine Ok.bnd e2 fun q ⟨q1, q2, q3⟩ => ?_
        rw [q2]
        exact Ok.of (bad q3 hv)
      | some w =>
        obtain ⟨e, r⟩ := w
        refine Ok.bnd e2 fun q ⟨⟨ids, q1⟩, q2, q3, q4⟩ => ?_
        rw [q4, q3]
        simp only [cond_false]
        by_cases hr : (plc t r : Int) = (t.length : Int)
        · have vw := Rw.exp_view q1.rw_ q1.nd
          simp only [hr, decide_true, Bool.not_true, cond_false]
          rw [vw.1, bnd_some, vw.2.1, vw.2.2, exp_eta3, impl_ExprValid_eq, bnd_some]
          have hx : impl_ExprFrom s = some (if expOk 5 e = true then (e, true) else (⟨0, 0, []⟩, false)) := by
            apply impl_ExprFrom_le
            rw [impl_Tokens_eq, if_neg hl, ht, bnd_some]
            simp only [Bool.not_true, cond_false]
            rw [show impl_parser_expr 1 t 0 false = some (e, t, (plc t r : Int), false) from e1, bnd_some]
            simp only [hr, decide_true, Bool.not_true, cond_false, exp_eta, impl_ExprValid_eq, bnd_some]
            cases expOk 5 e <;> rfl
          have hv := hdet hx
          cases ho : expOk 5 e
          · rw [ho] at hv
            simp only [Bool.not_false, cond_true]
            exact Ok.of (bad q1.grow (by rw [← hv]; rfl))
          · rw [ho] at hv
            simp only [Bool.not_true, cond_false]
            refine Ok.of ⟨by rw [← hv]; rfl, ids, ?_⟩
            rw [← hv]
            exact q1
        · have hx : impl_ExprFrom s = some (⟨0, 0, []⟩, false) := by
            apply impl_ExprFrom_le
            rw [impl_Tokens_eq, if_neg hl, ht, bnd_some]
            simp only [Bool.not_true, cond_false]
            rw [show impl_parser_expr 1 t 0 false = some (e, t, (plc t r : Int), false) from e1, bnd_some]
            simp only [hr, decide_false, Bool.not_false, cond_true, cond_false]
          simp only [hr, decide_false, Bool.not_false, cond_true]
          exact Ok.of (bad q1.grow (by rw [← hdet hx]))

theorem emX_ok : ∀ (d : Nat) (e : Exp), expOk d e = true → emX e + 2 ≤ 2 ^ (d + 1)
  | 0, e, h => by cases h
  | d + 1, e, h => by
    have hp : 0 < 2 ^ d := Nat.two_pow_pos d
    have e0 : 2 ^ (d + 1 + 1) = 2 ^ (d + 1) + 2 ^ (d + 1) := by rw [Nat.pow_succ]; omega
    have e1 : 2 ^ (d + 1) = 2 ^ d + 2 ^ d := by rw [Nat.pow_succ]; omega
    rw [emX_eq]
    rcases expOk_cases h with h | h | ⟨_, _, _, a, b, hab, ha, hb⟩
    · rw [h.2.1]; simp only [emXs]; omega
    · rw [h.2.1]; simp only [emXs]; omega
    · have ha := emX_ok d a ha
      have hb := emX_ok d b hb
      rw [hab]
      simp only [emXs]; omega

theorem laws_FnExactExprFrom_eq (s : List UInt8) : laws_FnExactExprFrom s = some true := by
  apply laws_FnExactExprFrom_le
  apply Ok.some
  refine Ok.bif (fun _ => Ok.of rfl) (fun _ => ?_)
  obtain ⟨v, h1, h2, h3, h4, h5⟩ := impl_ExprFrom_p_ok s (Vs.blank [])
  have hsz : emX v.1 ≤ 62 := by
    cases hv : v.2
    · rw [h4 hv]; simp [emX, emXs]
    · have := emX_ok 5 v.1 (Frm.ok (h3 hv))
      omega
  have heq : laws_eqExpr v.1 v.1 = some true := laws_eqExpr_refl v.1 (by omega)
  have hax : emXs v.1.args ≤ 62 := by rw [← emX_eq]; exact hsz
  refine Ok.bnd (Ok.eq h2) fun r1 e1 => ?_
  rw [e1]
  refine Ok.bnd h5 fun r2 ⟨e2, i2, m2⟩ => ?_
  refine Ok.bnd (join_ok m2.grow) fun B3 ⟨g3, l3, s3⟩ => ?_
  have m3 := m2.join g3 s3
  have v3 := Rw.exp_view m3.rw_ m3.nd
  rw [v3.1, bnd_some, v3.2.1, v3.2.2, exp_eta3]
  refine Ok.bnd (Ok.eq heq) fun r5 e5 => ?_
  subst e5
  refine Ok.bif (fun h => absurd h (by simp)) (fun _ => ?_)
  rw [e2]
  refine Ok.bif (fun h => absurd h (by simp)) (fun _ => ?_)
  have hmark : Ok (laws_markExpr_p r2.1 1 B3) fun r => r.1 = 1 + 2 * emXs v.1.args ∧ Tr r.2 .expH r2.1.args (mkXs 1 v.1.args) i2 := by
    refine Ok.le (laws_markExpr_p_le _ _ _) ?_
    obtain ⟨_, _, om⟩ := mkr_open m3
    exact Ok.bnd (laws_markExprS_p_ok (l := v.1.args) r2.1.args i2 B3 1 om.tr om.nd (by omega) (by omega)) fun r ⟨q1, q2, _⟩ => Ok.of ⟨q1, q2⟩
  refine Ok.bnd hmark fun r6 ⟨e6, t6⟩ => ?_
  rw [t6.view m3.nd, bnd_some]
  have hheld : laws_heldExpr ⟨v.1.op, v.1.n, mkXs 1 v.1.args⟩ 1 = some (1 + 2 * (emXs v.1.args : Int)) := by
    apply laws_heldExpr_le
    have hn : ¬ (1 + 2 * (emXs v.1.args : Int) < 0) := by omega
    simp only [laws_heldExprS_eq (l := v.1.args) 1 (by omega) (by omega), bnd_some, hn, decide_false, cond_false]
  refine Ok.bnd (Ok.eq hheld) fun r8 e8 => ?_
  subst e8
  refine Ok.bif (fun h => absurd h (by simp only [decide_eq_true_eq]; omega)) (fun _ => ?_)
  refine Ok.bif (fun h => absurd h (by simp [e6])) (fun _ => ?_)
  refine Ok.bnd (Ok.eq h1) fun r9 e9 => ?_
  rw [e9, exp_eta3]
  refine Ok.bnd (Ok.eq heq) fun r10 e10 => ?_
  subst e10
  refine Ok.bif (fun h => absurd h (by simp)) (fun _ => ?_)
  refine Ok.bif (fun h => absurd h (by simp)) (fun _ => ?_)
  rw [bnd_some]
  refine Ok.bnd (Ok.eq hheld) fun r12 e12 => ?_
  subst e12
  refine Ok.bif (fun h => absurd h (by simp only [decide_eq_true_eq]; omega)) (fun _ => ?_)
  refine Ok.bif (fun h => absurd h (by simp [e6])) (fun _ => ?_)
  exact Ok.of rfl
end Go.TFnExactExprFrom
