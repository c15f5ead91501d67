/- The plain law: what the functions answer. -/
import Derived.Test.YtbofepgnakbohaaDFnExactQuadValidE0
import Derived.Test.YtbofepgnakbohaaLk
set_option linter.unusedVariables false
set_option linter.unusedSimpArgs false
namespace Go.TFnExactQuadValid
open Go Go.RowKit Go.Vs Go.Tv
theorem spec_l6In_eq (a b c : Int) : spec_l6In a b c = some (decide (b ≤ a ∧ a ≤ c)) := by
  apply spec_l6In_le
  by_cases h : b ≤ a <;> simp [h]

theorem spec_OpValid_eq (a : Int) : spec_OpValid a = some (decide (1 ≤ a ∧ a ≤ 12)) := by
  apply spec_OpValid_le; simp [spec_l6In_eq]

theorem spec_WordValid_eq (a : Int) : spec_WordValid a = some (decide (-2147483648 ≤ a ∧ a ≤ 2147483647)) := by
  apply spec_WordValid_le; simp [spec_l6In_eq]

theorem impl_OpValid_eq (a : Int) : impl_OpValid a = some (decide (1 ≤ a ∧ a ≤ 12)) := by
  apply impl_OpValid_le
  by_cases h : 1 ≤ a <;> simp [h]

theorem impl_WordValid_eq (a : Int) : impl_WordValid a = some (decide (-2147483648 ≤ a ∧ a ≤ 2147483647)) := by
  apply impl_WordValid_le
  by_cases h : -2147483648 ≤ a <;> simp [h]

theorem impl_isReg_eq (a : Int) : impl_isReg a = some (decide (0 ≤ a ∧ a < 12)) := by
  apply impl_isReg_le
  by_cases h : 0 ≤ a <;> simp [h]

theorem spec_l21Reg_eq (a : Int) (u : Bool) : spec_l21Reg a u = some (decide (if u then 0 ≤ a ∧ a < 12 else a = 0)) := by
  apply spec_l21Reg_le
  simp only [spec_l6In_eq, bnd_some, cond_some]
  apply some_dec
  cases u <;> simp; omega

theorem spec_l21Regs_eq (q : Quad) (x y z : Bool) : spec_l21Regs q x y z = some (decide ((if x then 0 ≤ q.dst ∧ q.dst < 12 else q.dst = 0) ∧ (if y then 0 ≤ q.a ∧ q.a < 12 else q.a = 0) ∧ (if z then 0 ≤ q.b ∧ q.b < 12 else q.b = 0))) := by
  apply spec_l21Regs_le
  simp only [spec_l21Reg_eq, bnd_some, cond_some]
  apply some_dec
  simp only [cond_iff, decide_eq_true_eq]
  cases x <;> cases y <;> cases z <;> simp

/-- Is a quad valid in a code of so many? -/
def quadOk (q : Quad) (many : Int) : Prop :=
  (q.op = 1 ∧ (0 ≤ q.dst ∧ q.dst < 12) ∧ q.a = 0 ∧ q.b = 0 ∧ -2147483648 ≤ q.n ∧ q.n ≤ 2147483647) ∨ (q.op = 2 ∧ (0 ≤ q.dst ∧ q.dst < 12) ∧ (0 ≤ q.a ∧ q.a < 12) ∧ q.b = 0 ∧ q.n = 0) ∨
  (q.op = 3 ∧ (0 ≤ q.dst ∧ q.dst < 12) ∧ (0 ≤ q.a ∧ q.a < 12) ∧ (0 ≤ q.b ∧ q.b < 12) ∧ 1 ≤ q.n ∧ q.n ≤ 12) ∨ (q.op = 4 ∧ q.dst = 0 ∧ q.a = 0 ∧ q.b = 0 ∧ 0 ≤ q.n ∧ q.n < many) ∨
  (q.op = 5 ∧ q.dst = 0 ∧ (0 ≤ q.a ∧ q.a < 12) ∧ q.b = 0 ∧ 0 ≤ q.n ∧ q.n < many) ∨ (q.op = 6 ∧ q.dst = 0 ∧ (0 ≤ q.a ∧ q.a < 12) ∧ q.b = 0 ∧ 0 ≤ q.n ∧ q.n ≤ 2) ∨
  (q.op = 7 ∧ (0 ≤ q.dst ∧ q.dst < 12) ∧ q.a = 0 ∧ q.b = 0 ∧ 0 ≤ q.n ∧ q.n ≤ 2) ∨ (q.op = 9 ∧ q.dst = 0 ∧ (0 ≤ q.a ∧ q.a < 12) ∧ q.b = 0 ∧ q.n = 0) ∨ ((q.op = 8 ∨ q.op = 10) ∧ q.dst = 0 ∧ q.a = 0 ∧ q.b = 0 ∧ q.n = 0)

instance (q : Quad) (many : Int) : Decidable (quadOk q many) := by unfold quadOk; infer_instance

theorem spec_QuadValid_eq (q : Quad) (many : Int) : spec_QuadValid q many = some (decide (quadOk q many)) := by
  apply spec_QuadValid_le
  simp only [spec_l21Regs_eq, spec_WordValid_eq, spec_OpValid_eq, spec_l6In_eq, bnd_some, cond_some]
  apply some_dec
  obtain ⟨op, dst, a, b, n⟩ := q
  simp only [quadOk, cond_iff, decide_eq_true_eq, if_true, Bool.false_eq_true, if_false]
  by_cases h1 : op = 1
  · subst h1; simp; try omega
  by_cases h2 : op = 2
  · subst h2; simp; try omega
  by_cases h3 : op = 3
  · subst h3; simp; try omega
  by_cases h4 : op = 4
  · subst h4; simp; try omega
  by_cases h5 : op = 5
  · subst h5; simp; try omega
  by_cases h6 : op = 6
  · subst h6; simp; try omega
  by_cases h7 : op = 7
  · subst h7; simp; try omega
  by_cases h9 : op = 9
  · subst h9; simp; try omega
  by_cases h8 : op = 8
  · subst h8; simp; try omega
  by_cases h10 : op = 10
  · subst h10; simp; try omega
  simp [h1, h2, h3, h4, h5, h6, h7, h8, h9, h10]

theorem impl_QuadValid_eq (q : Quad) (many : Int) : impl_QuadValid q many = some (decide (quadOk q many)) := by
  apply impl_QuadValid_le
  simp only [impl_isReg_eq, impl_WordValid_eq, impl_OpValid_eq, bnd_some, cond_some]
  apply some_dec
  obtain ⟨op, dst, a, b, n⟩ := q
  simp only [quadOk, cond_iff, decide_eq_true_eq, if_true, Bool.false_eq_true, if_false, Bool.and_eq_true, Bool.not_eq_true', decide_eq_false_iff_not, and_true]
  by_cases h1 : op = 1
  · subst h1; simp; try omega
  by_cases h2 : op = 2
  · subst h2; simp; try omega
  by_cases h3 : op = 3
  · subst h3; simp; try omega
  by_cases h4 : op = 4
  · subst h4; simp; try omega
  by_cases h5 : op = 5
  · subst h5; simp; try omega
  by_cases h6 : op = 6
  · subst h6; simp; try omega
  by_cases h7 : op = 7
  · subst h7; simp; try omega
  by_cases h9 : op = 9
  · subst h9; simp; try omega
  by_cases h8 : op = 8
  · subst h8; simp; try omega
  by_cases h10 : op = 10
  · subst h10; simp; try omega
  simp [h1, h2, h3, h4, h5, h6, h7, h8, h9, h10]

theorem laws_toQuad_eq (q : Quad) : laws_toQuad q = some q := by
  apply laws_toQuad_le; rfl

theorem laws_FnExactQuadValid_eq (q : Quad) (_ : wfQ q) (many : Int) (_ : wfI many) : laws_FnExactQuadValid q many = some true := by
  apply laws_FnExactQuadValid_le
  simp [laws_toQuad_eq, spec_QuadValid_eq, impl_QuadValid_eq]
end Go.TFnExactQuadValid
