/- The plain law: what the functions answer. -/
import Derived.Test.YtbofepgnakbohaaDFnExactCodeValidE0
import Derived.Test.YtbofepgnakbohaaLk
set_option linter.unusedVariables false
set_option linter.unusedSimpArgs false
namespace Go.TFnExactCodeValid
open Go Go.RowKit Go.Vs Go.Tv
theorem spec_l6In_eq (a b c : Int) : spec_l6In a b c = some (decide (b ≤ a ∧ a ≤ c)) := by
  apply spec_l6In_le
  by_cases h : b ≤ a <;> simp [h]

theorem spec_OpValid_eq (a : Int) : spec_OpValid a = some (decide (1 ≤ a ∧ a ≤ 12)) := by
  apply spec_OpValid_le; simp [spec_l6In_eq]

theorem spec_WordValid_eq (a : Int) : spec_WordValid a = some (decide (-2147483648 ≤ a ∧ a ≤ 2147483647)) := by
  apply spec_WordValid_le; simp [spec_l6In_eq]

theorem impl_OpValid_eq (a : Int) : impl_OpValid a = some (decide (1 ≤ a ∧ a ≤ 12)) := by
  apply impl_OpValid_le
  by_cases h : 1 ≤ a <;> simp [h]

theorem impl_WordValid_eq (a : Int) : impl_WordValid a = some (decide (-2147483648 ≤ a ∧ a ≤ 2147483647)) := by
  apply impl_WordValid_le
  by_cases h : -2147483648 ≤ a <;> simp [h]

theorem impl_isReg_eq (a : Int) : impl_isReg a = some (decide (0 ≤ a ∧ a < 12)) := by
  apply impl_isReg_le
  by_cases h : 0 ≤ a <;> simp [h]

theorem spec_l21Reg_eq (a : Int) (u : Bool) : spec_l21Reg a u = some (decide (if u then 0 ≤ a ∧ a < 12 else a = 0)) := by
  apply spec_l21Reg_le
  simp only [spec_l6In_eq, bnd_some, cond_some]
  apply some_dec
  cases u <;> simp; omega

theorem spec_l21Regs_eq (q : Quad) (x y z : Bool) : spec_l21Regs q x y z = some (decide ((if x then 0 ≤ q.dst ∧ q.dst < 12 else q.dst = 0) ∧ (if y then 0 ≤ q.a ∧ q.a < 12 else q.a = 0) ∧ (if z then 0 ≤ q.b ∧ q.b < 12 else q.b = 0))) := by
  apply spec_l21Regs_le
  simp only [spec_l21Reg_eq, bnd_some, cond_some]
  apply some_dec
  simp only [cond_iff, decide_eq_true_eq]
  cases x <;> cases y <;> cases z <;> simp

/-- Is a quad valid in a code of so many? -/
def quadOk (q : Quad) (many : Int) : Prop :=
  (q.op = 1 ∧ (0 ≤ q.dst ∧ q.dst < 12) ∧ q.a = 0 ∧ q.b = 0 ∧ -2147483648 ≤ q.n ∧ q.n ≤ 2147483647) ∨ (q.op = 2 ∧ (0 ≤ q.dst ∧ q.dst < 12) ∧ (0 ≤ q.a ∧ q.a < 12) ∧ q.b = 0 ∧ q.n = 0) ∨
  (q.op = 3 ∧ (0 ≤ q.dst ∧ q.dst < 12) ∧ (0 ≤ q.a ∧ q.a < 12) ∧ (0 ≤ q.b ∧ q.b < 12) ∧ 1 ≤ q.n ∧ q.n ≤ 12) ∨ (q.op = 4 ∧ q.dst = 0 ∧ q.a = 0 ∧ q.b = 0 ∧ 0 ≤ q.n ∧ q.n < many) ∨
  (q.op = 5 ∧ q.dst = 0 ∧ (0 ≤ q.a ∧ q.a < 12) ∧ q.b = 0 ∧ 0 ≤ q.n ∧ q.n < many) ∨ (q.op = 6 ∧ q.dst = 0 ∧ (0 ≤ q.a ∧ q.a < 12) ∧ q.b = 0 ∧ 0 ≤ q.n ∧ q.n ≤ 2) ∨
  (q.op = 7 ∧ (0 ≤ q.dst ∧ q.dst < 12) ∧ q.a = 0 ∧ q.b = 0 ∧ 0 ≤ q.n ∧ q.n ≤ 2) ∨ (q.op = 9 ∧ q.dst = 0 ∧ (0 ≤ q.a ∧ q.a < 12) ∧ q.b = 0 ∧ q.n = 0) ∨ ((q.op = 8 ∨ q.op = 10) ∧ q.dst = 0 ∧ q.a = 0 ∧ q.b = 0 ∧ q.n = 0)

instance (q : Quad) (many : Int) : Decidable (quadOk q many) := by unfold quadOk; infer_instance

theorem spec_QuadValid_eq (q : Quad) (many : Int) : spec_QuadValid q many = some (decide (quadOk q many)) := by
  apply spec_QuadValid_le
  simp only [spec_l21Regs_eq, spec_WordValid_eq, spec_OpValid_eq, spec_l6In_eq, bnd_some, cond_some]
  apply some_dec
  obtain ⟨op, dst, a, b, n⟩ := q
  simp only [quadOk, cond_iff, decide_eq_true_eq, if_true, Bool.false_eq_true, if_false]
  by_cases h1 : op = 1
  · subst h1; simp; try omega
  by_cases h2 : op = 2
  · subst h2; simp; try omega
  by_cases h3 : op = 3
  · subst h3; simp; try omega
  by_cases h4 : op = 4
  · subst h4; simp; try omega
  by_cases h5 : op = 5
  · subst h5; simp; try omega
  by_cases h6 : op = 6
  · subst h6; simp; try omega
  by_cases h7 : op = 7
  · subst h7; simp; try omega
  by_cases h9 : op = 9
  · subst h9; simp; try omega
  by_cases h8 : op = 8
  · subst h8; simp; try omega
  by_cases h10 : op = 10
  · subst h10; simp; try omega
  simp [h1, h2, h3, h4, h5, h6, h7, h8, h9, h10]

theorem impl_QuadValid_eq (q : Quad) (many : Int) : impl_QuadValid q many = some (decide (quadOk q many)) := by
  apply impl_QuadValid_le
  simp only [impl_isReg_eq, impl_WordValid_eq, impl_OpValid_eq, bnd_some, cond_some]
  apply some_dec
  obtain ⟨op, dst, a, b, n⟩ := q
  simp only [quadOk, cond_iff, decide_eq_true_eq, if_true, Bool.false_eq_true, if_false, Bool.and_eq_true, Bool.not_eq_true', decide_eq_false_iff_not, and_true]
  by_cases h1 : op = 1
  · subst h1; simp; try omega
  by_cases h2 : op = 2
  · subst h2; simp; try omega
  by_cases h3 : op = 3
  · subst h3; simp; try omega
  by_cases h4 : op = 4
  · subst h4; simp; try omega
  by_cases h5 : op = 5
  · subst h5; simp; try omega
  by_cases h6 : op = 6
  · subst h6; simp; try omega
  by_cases h7 : op = 7
  · subst h7; simp; try omega
  by_cases h9 : op = 9
  · subst h9; simp; try omega
  by_cases h8 : op = 8
  · subst h8; simp; try omega
  by_cases h10 : op = 10
  · subst h10; simp; try omega
  simp [h1, h2, h3, h4, h5, h6, h7, h8, h9, h10]

theorem laws_toQuad_eq (q : Quad) : laws_toQuad q = some q := by
  apply laws_toQuad_le; rfl

theorem geti_some {α : Type} {l : List α} {i : Nat} (h : i < l.length) : geti l (i : Int) = some l[i] := by
  rw [geti_nat', List.getElem?_eq_getElem h]

theorem wrap_succ {i : Nat} (h : (i : Int) < 9223372036854775807) : wrap64 ((i : Int) + 1) = ((i + 1 : Nat) : Int) := by
  rw [wrap_id (by omega) (by omega)]; omega

theorem made_some {n : Nat} (h : (n : Int) ≤ 4294967296) : made (n : Int) = some n := by simp [made]; omega

/-- What a loop that fills a list has done. -/
theorem fill_step {α : Type} {a b : List α} {i : Nat} (hl : b.length = a.length) (hi : i < a.length) (h : b.take i = a.take i) : (b.set i a[i]).take (i + 1) = a.take (i + 1) := by
  rw [List.take_set]
  apply List.ext_getElem?
  intro j
  rw [List.getElem?_set]
  by_cases hj : i = j
  · subst hj
    simp [hl, hi]; omega
  · rw [if_neg hj]
    by_cases hlt : j < i
    · have := congrArg (fun l : List α => l[j]?) h
      simp only [List.getElem?_take] at this ⊢
      rw [if_pos hlt, if_pos hlt] at this
      rw [if_pos (by omega), if_pos (by omega)]; exact this
    · simp only [List.getElem?_take]
      rw [if_neg (by omega), if_neg (by omega)]

theorem toQuadS_l {a : List Quad} (hl : (a.length : Int) ≤ 4294967296) : ∀ (d i : Nat) (b : List Quad), i + d = a.length → b.length = a.length → b.take i = a.take i → laws_toQuadS_l1 a i b = some a
  | 0, i, b, hd, hb, ht => by
    apply laws_toQuadS_l1_le
    have hi : ¬ ((i : Int) < a.length) := by omega
    have : b = a := by rw [List.take_of_length_le (by omega), List.take_of_length_le (by omega)] at ht; exact ht
    simp [hi, this]
  | d + 1, i, b, hd, hb, ht => by
    apply laws_toQuadS_l1_le
    have hi : i < a.length := by omega
    have hi' : (i : Int) < a.length := by omega
    rw [geti_some hi, geti_some (l := b) (by omega), wrap_succ (by omega)]
    simp only [hi', decide_true, cond_true, bnd_some, laws_toQuad_eq, Int.toNat_natCast, List.getElem?_eq_getElem (show i < b.length by omega)]
    exact toQuadS_l hl d (i + 1) _ (by omega) (by simpa using hb) (fill_step hb hi ht)

theorem laws_toQuadS_eq {a : List Quad} (hl : (a.length : Int) ≤ 4294967296) : laws_toQuadS a = some a := by
  apply laws_toQuadS_le
  rw [made_some hl, bnd_some, show (0 : Int) = ((0 : Nat) : Int) by rfl, toQuadS_l hl a.length 0 _ (by omega) (by simp) (by simp)]
  rfl

theorem laws_eqQuad_refl (q : Quad) : laws_eqQuad q q = some true := by
  apply laws_eqQuad_le; simp

theorem eqQuadS_l {a : List Quad} (hl : (a.length : Int) ≤ 4294967296) : ∀ (d i : Nat), i + d = a.length → laws_eqQuadS_l1 a a i = some (.inl ())
  | 0, i, hd => by
    apply laws_eqQuadS_l1_le
    have hi : ¬ ((i : Int) < a.length) := by omega
    simp [hi]
  | d + 1, i, hd => by
    apply laws_eqQuadS_l1_le
    have hi : i < a.length := by omega
    have hi' : (i : Int) < a.length := by omega
    rw [geti_some hi, wrap_succ (by omega)]
    simp only [hi', decide_true, cond_true, bnd_some, laws_eqQuad_refl, Bool.not_true, cond_false]
    exact eqQuadS_l hl d (i + 1) (by omega)

theorem laws_eqQuadS_refl {a : List Quad} (hl : (a.length : Int) ≤ 4294967296) : laws_eqQuadS a a = some true := by
  apply laws_eqQuadS_le
  rw [show (0 : Int) = ((0 : Nat) : Int) by rfl, eqQuadS_l hl a.length 0 (by omega)]
  simp [selm]

/-- Is a code valid? -/
def codeOk (a : List Quad) : Prop := 1 ≤ a.length ∧ a.length ≤ 600 ∧ (∀ q ∈ a, quadOk q a.length) ∧ ∀ q, a.getLast? = some q → q.op = 10 ∨ q.op = 4

theorem all_from {α : Type} {a : List α} {P : α → Prop} {i : Nat} (hi : i < a.length) : (∀ q ∈ a.drop i, P q) ↔ P a[i] ∧ ∀ q ∈ a.drop (i + 1), P q := by
  rw [List.drop_eq_getElem_cons hi, List.forall_mem_cons]

open Classical in
theorem spec_CodeValid_l {a : List Quad} (hl : a.length ≤ 600) : ∀ (d i : Nat), i + d = a.length → spec_CodeValid_l1 a a.length i = some (if ∀ q ∈ a.drop i, quadOk q a.length then .inl (a, (a.length : Int)) else .inr (a, false, (a.length : Int)))
  | 0, i, hd => by
    apply spec_CodeValid_l1_le
    have hi : ¬ ((i : Int) < a.length) := by omega
    rw [List.drop_eq_nil_of_le (by omega)]
    simp [hi]
  | d + 1, i, hd => by
    apply spec_CodeValid_l1_le
    have hi : i < a.length := by omega
    have hi' : (i : Int) < a.length := by omega
    rw [geti_some hi, wrap_succ (by omega), spec_CodeValid_l hl d (i + 1) (by omega)]
    simp only [all_from hi]
    simp only [hi', decide_true, cond_true, bnd_some, spec_QuadValid_eq]
    by_cases hq : quadOk a[i] a.length <;> simp [hq]

open Classical in
theorem impl_CodeValid_l {a : List Quad} (hl : a.length ≤ 600) : ∀ (d i : Nat), i + d = a.length → impl_CodeValid_l1 a a a.length i = some (if ∀ q ∈ a.drop i, quadOk q a.length then .inl a else .inr (a, false))
  | 0, i, hd => by
    apply impl_CodeValid_l1_le
    have hi : ¬ ((i : Int) < a.length) := by omega
    rw [List.drop_eq_nil_of_le (by omega)]
    simp [hi]
  | d + 1, i, hd => by
    apply impl_CodeValid_l1_le
    have hi : i < a.length := by omega
    have hi' : (i : Int) < a.length := by omega
    rw [geti_some hi, wrap_succ (by omega), impl_CodeValid_l hl d (i + 1) (by omega)]
    simp only [all_from hi]
    simp only [hi', decide_true, cond_true, bnd_some, impl_QuadValid_eq]
    by_cases hq : quadOk a[i] a.length <;> simp [hq]

open Classical in
theorem spec_CodeValid_eq (a : List Quad) (hl : (a.length : Int) ≤ 4294967296) : spec_CodeValid a = some (decide (codeOk a)) := by
  apply spec_CodeValid_le
  simp only [spec_l6In_eq, bnd_some]
  unfold codeOk
  by_cases h1 : (1 : Int) ≤ a.length ∧ (a.length : Int) ≤ 600
  · rw [show (0 : Int) = ((0 : Nat) : Int) by rfl, spec_CodeValid_l (by omega) a.length 0 (by omega), List.drop_zero]
    have e : wrap64 ((a.length : Int) - 1) = ((a.length - 1 : Nat) : Int) := by rw [wrap_id (by omega) (by omega)]; omega
    have hi : a.length - 1 < a.length := by omega
    have hlast : a.getLast? = some a[a.length - 1] := by rw [List.getLast?_eq_getElem?, List.getElem?_eq_getElem hi]
    by_cases hq : ∀ q ∈ a, quadOk q a.length
    · simp only [h1, decide_true, Bool.not_true, cond_false, bnd_some, if_pos hq, selm, e, geti_some hi, and_self, hlast, Option.some.injEq, forall_eq']
      have h2 : 1 ≤ a.length ∧ a.length ≤ 600 := by omega
      have hq' : (∀ q ∈ a, quadOk q a.length) = True := eq_true hq
      by_cases h3 : a[a.length - 1].op = 10 <;> simp [h2, hq', h3]
    · have hq' : (∀ q ∈ a, quadOk q a.length) = False := eq_false hq
      simp only [h1, decide_true, Bool.not_true, cond_false, bnd_some, if_neg hq, selm, and_self, hq']
      simp
  · have : ¬ (1 ≤ a.length ∧ a.length ≤ 600) := by omega
    have h2 : (1 ≤ a.length ∧ a.length ≤ 600 ∧ (∀ q ∈ a, quadOk q a.length) ∧ ∀ q, a.getLast? = some q → q.op = 10 ∨ q.op = 4) = False := eq_false fun h => this ⟨h.1, h.2.1⟩
    simp only [h1, h2]
    simp

open Classical in
theorem impl_CodeValid_eq (a : List Quad) (hl : (a.length : Int) ≤ 4294967296) : impl_CodeValid a = some (decide (codeOk a)) := by
  apply impl_CodeValid_le
  unfold codeOk
  by_cases h1 : 1 ≤ a.length ∧ a.length ≤ 600
  · rw [show (0 : Int) = ((0 : Nat) : Int) by rfl, impl_CodeValid_l (by omega) a.length 0 (by omega), List.drop_zero]
    have e : wrap64 ((a.length : Int) - 1) = ((a.length - 1 : Nat) : Int) := by rw [wrap_id (by omega) (by omega)]; omega
    have hi : a.length - 1 < a.length := by omega
    have hlast : a.getLast? = some a[a.length - 1] := by rw [List.getLast?_eq_getElem?, List.getElem?_eq_getElem hi]
    have n1 : ¬ ((a.length : Int) < 1) := by omega
    have n2 : ¬ ((600 : Int) < a.length) := by omega
    by_cases hq : ∀ q ∈ a, quadOk q a.length
    · simp only [n1, n2, decide_false, cond_false, bnd_some, if_pos hq, selm, e, geti_some hi, hlast, Option.some.injEq, forall_eq']
      have hq' : (∀ q ∈ a, quadOk q a.length) = True := eq_true hq
      by_cases h3 : a[a.length - 1].op = 10 <;> simp [h1, hq', h3]
    · have hq' : (∀ q ∈ a, quadOk q a.length) = False := eq_false hq
      simp only [n1, n2, decide_false, cond_false, bnd_some, if_neg hq, selm, hq']
      simp
  · have h2 : (1 ≤ a.length ∧ a.length ≤ 600 ∧ (∀ q ∈ a, quadOk q a.length) ∧ ∀ q, a.getLast? = some q → q.op = 10 ∨ q.op = 4) = False := eq_false fun h => h1 ⟨h.1, h.2.1⟩
    simp only [h2]
    by_cases n1 : (a.length : Int) < 1
    · simp [n1]
    · have n2 : (600 : Int) < a.length := by omega
      simp [n1, n2]

theorem laws_FnExactCodeValid_eq (a : List Quad) (hl : (a.length : Int) ≤ 9223372036854775807) (_ : ∀ q ∈ a, wfQ q) : laws_FnExactCodeValid a = some true := by
  apply laws_FnExactCodeValid_le
  have hs : laws_szQuadS a 1048576 = some (if (a.length : Int) ≤ 1048576 then 1048576 - (a.length : Int) else -1) := by
    apply laws_szQuadS_le
    rw [wrap_id (by omega) (by omega)]
    by_cases h : (a.length : Int) ≤ 1048576
    · rw [if_pos h]
      have : ¬ (1048576 - (a.length : Int) < 0) := by omega
      simp [this]
    · rw [if_neg h]
      have : (1048576 - (a.length : Int) < 0) := by omega
      simp [this]
  rw [hs, bnd_some]
  by_cases h : (a.length : Int) ≤ 1048576
  · have n : ¬ (1048576 - (a.length : Int) < 0) := by omega
    have hl' : (a.length : Int) ≤ 4294967296 := by omega
    simp [if_pos h, n, laws_toQuadS_eq hl', spec_CodeValid_eq a hl', impl_CodeValid_eq a hl', laws_eqQuadS_refl hl']
  · simp [if_neg h]
end Go.TFnExactCodeValid
