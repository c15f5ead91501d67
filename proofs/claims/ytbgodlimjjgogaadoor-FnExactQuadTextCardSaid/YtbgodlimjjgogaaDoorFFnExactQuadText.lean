/- The plain law: what the functions answer. -/
import Derived.Test.YtbgodlimjjgogaaDoorDFnExactQuadTextE0
import Derived.Test.YtbgodlimjjgogaaDoorLk
import Derived.Lib.ItoaLen
set_option linter.unusedVariables false
set_option linter.unusedSimpArgs false
namespace Go.TFnExactQuadText
open Go Go.RowKit Go.Vs Go.Tv
theorem spec_l6In_eq (a b c : Int) : spec_l6In a b c = some (decide (b ≤ a ∧ a ≤ c)) := by
  apply spec_l6In_le
  by_cases h : b ≤ a <;> simp [h]

theorem spec_OpValid_eq (a : Int) : spec_OpValid a = some (decide (1 ≤ a ∧ a ≤ 12)) := by
  apply spec_OpValid_le; simp [spec_l6In_eq]

theorem spec_WordValid_eq (a : Int) : spec_WordValid a = some (decide (-2147483648 ≤ a ∧ a ≤ 2147483647)) := by
  apply spec_WordValid_le; simp [spec_l6In_eq]

theorem impl_OpValid_eq (a : Int) : impl_OpValid a = some (decide (1 ≤ a ∧ a ≤ 12)) := by
  apply impl_OpValid_le
  by_cases h : 1 ≤ a <;> simp [h]

theorem impl_WordValid_eq (a : Int) : impl_WordValid a = some (decide (-2147483648 ≤ a ∧ a ≤ 2147483647)) := by
  apply impl_WordValid_le
  by_cases h : -2147483648 ≤ a <;> simp [h]

theorem impl_isReg_eq (a : Int) : impl_isReg a = some (decide (0 ≤ a ∧ a < 12)) := by
  apply impl_isReg_le
  by_cases h : 0 ≤ a <;> simp [h]

theorem spec_l21Reg_eq (a : Int) (u : Bool) : spec_l21Reg a u = some (decide (if u then 0 ≤ a ∧ a < 12 else a = 0)) := by
  apply spec_l21Reg_le
  simp only [spec_l6In_eq, bnd_some, cond_some]
  apply some_dec
  cases u <;> simp; omega

theorem spec_l21Regs_eq (q : Quad) (x y z : Bool) : spec_l21Regs q x y z = some (decide ((if x then 0 ≤ q.dst ∧ q.dst < 12 else q.dst = 0) ∧ (if y then 0 ≤ q.a ∧ q.a < 12 else q.a = 0) ∧ (if z then 0 ≤ q.b ∧ q.b < 12 else q.b = 0))) := by
  apply spec_l21Regs_le
  simp only [spec_l21Reg_eq, bnd_some, cond_some]
  apply some_dec
  simp only [cond_iff, decide_eq_true_eq]
  cases x <;> cases y <;> cases z <;> simp

/-- Is a quad valid in a code of so many? -/
def quadOk (q : Quad) (many : Int) : Prop :=
  (q.op = 1 ∧ (0 ≤ q.dst ∧ q.dst < 12) ∧ q.a = 0 ∧ q.b = 0 ∧ -2147483648 ≤ q.n ∧ q.n ≤ 2147483647) ∨ (q.op = 2 ∧ (0 ≤ q.dst ∧ q.dst < 12) ∧ (0 ≤ q.a ∧ q.a < 12) ∧ q.b = 0 ∧ q.n = 0) ∨
  (q.op = 3 ∧ (0 ≤ q.dst ∧ q.dst < 12) ∧ (0 ≤ q.a ∧ q.a < 12) ∧ (0 ≤ q.b ∧ q.b < 12) ∧ 1 ≤ q.n ∧ q.n ≤ 12) ∨ (q.op = 4 ∧ q.dst = 0 ∧ q.a = 0 ∧ q.b = 0 ∧ 0 ≤ q.n ∧ q.n < many) ∨
  (q.op = 5 ∧ q.dst = 0 ∧ (0 ≤ q.a ∧ q.a < 12) ∧ q.b = 0 ∧ 0 ≤ q.n ∧ q.n < many) ∨ (q.op = 6 ∧ q.dst = 0 ∧ (0 ≤ q.a ∧ q.a < 12) ∧ q.b = 0 ∧ 0 ≤ q.n ∧ q.n ≤ 2) ∨
  (q.op = 7 ∧ (0 ≤ q.dst ∧ q.dst < 12) ∧ q.a = 0 ∧ q.b = 0 ∧ 0 ≤ q.n ∧ q.n ≤ 2) ∨ (q.op = 9 ∧ q.dst = 0 ∧ (0 ≤ q.a ∧ q.a < 12) ∧ q.b = 0 ∧ q.n = 0) ∨ ((q.op = 8 ∨ q.op = 10) ∧ q.dst = 0 ∧ q.a = 0 ∧ q.b = 0 ∧ q.n = 0)

instance (q : Quad) (many : Int) : Decidable (quadOk q many) := by unfold quadOk; infer_instance

theorem spec_QuadValid_eq (q : Quad) (many : Int) : spec_QuadValid q many = some (decide (quadOk q many)) := by
  apply spec_QuadValid_le
  simp only [spec_l21Regs_eq, spec_WordValid_eq, spec_OpValid_eq, spec_l6In_eq, bnd_some, cond_some]
  apply some_dec
  obtain ⟨op, dst, a, b, n⟩ := q
  simp only [quadOk, cond_iff, decide_eq_true_eq, if_true, Bool.false_eq_true, if_false]
  by_cases h1 : op = 1
  · subst h1; simp; try omega
  by_cases h2 : op = 2
  · subst h2; simp; try omega
  by_cases h3 : op = 3
  · subst h3; simp; try omega
  by_cases h4 : op = 4
  · subst h4; simp; try omega
  by_cases h5 : op = 5
  · subst h5; simp; try omega
  by_cases h6 : op = 6
  · subst h6; simp; try omega
  by_cases h7 : op = 7
  · subst h7; simp; try omega
  by_cases h9 : op = 9
  · subst h9; simp; try omega
  by_cases h8 : op = 8
  · subst h8; simp; try omega
  by_cases h10 : op = 10
  · subst h10; simp; try omega
  simp [h1, h2, h3, h4, h5, h6, h7, h8, h9, h10]

theorem impl_QuadValid_eq (q : Quad) (many : Int) : impl_QuadValid q many = some (decide (quadOk q many)) := by
  apply impl_QuadValid_le
  simp only [impl_isReg_eq, impl_WordValid_eq, impl_OpValid_eq, bnd_some, cond_some]
  apply some_dec
  obtain ⟨op, dst, a, b, n⟩ := q
  simp only [quadOk, cond_iff, decide_eq_true_eq, if_true, Bool.false_eq_true, if_false, Bool.and_eq_true, Bool.not_eq_true', decide_eq_false_iff_not, and_true]
  by_cases h1 : op = 1
  · subst h1; simp; try omega
  by_cases h2 : op = 2
  · subst h2; simp; try omega
  by_cases h3 : op = 3
  · subst h3; simp; try omega
  by_cases h4 : op = 4
  · subst h4; simp; try omega
  by_cases h5 : op = 5
  · subst h5; simp; try omega
  by_cases h6 : op = 6
  · subst h6; simp; try omega
  by_cases h7 : op = 7
  · subst h7; simp; try omega
  by_cases h9 : op = 9
  · subst h9; simp; try omega
  by_cases h8 : op = 8
  · subst h8; simp; try omega
  by_cases h10 : op = 10
  · subst h10; simp; try omega
  simp [h1, h2, h3, h4, h5, h6, h7, h8, h9, h10]

theorem laws_toQuad_eq (q : Quad) : laws_toQuad q = some q := by
  apply laws_toQuad_le; rfl

theorem catS_some {a b : List UInt8} (h : a.length + b.length ≤ 1099511627776) : catS a b = some (a ++ b) := by
  unfold catS LIM; rw [if_pos h]

theorem itoa_eq {n : Int} (h : wfI n) : strconv_Itoa n = some (Lib.itoa n) := by
  apply strconv_Itoa_le
  rw [if_pos h]

theorem decDigits_short : ∀ (k u : Nat), u < 10 ^ k → (Lib.decDigits u).length ≤ max k 1
  | 0, u, h => by
    unfold Lib.decDigits
    have : u < 10 := by omega
    rw [dif_pos this]; simp
  | k + 1, u, h => by
    unfold Lib.decDigits
    split
    · show 1 ≤ _; omega
    · rename_i h10
      have h2 : u / 10 < 10 ^ k := by rw [Nat.pow_succ] at h; omega
      have := decDigits_short k (u / 10) h2
      rw [List.length_append]
      have hk : 1 ≤ k := by
        cases k with
        | zero => simp at h; omega
        | succ k => omega
      simp only [List.length_cons, List.length_nil]; omega

theorem dec_byte {n : Nat} (h : n < 10) : Tv.bytes [wrap64 (48 + (n : Int)) % 256] = [UInt8.ofNat (48 + n)] := by
  rw [wrap_id (by omega) (by omega)]
  have : ((48 + (n : Int)) % 256) = ((48 + n : Nat) : Int) := by omega
  rw [this]; rfl

theorem l6Dec_nat : ∀ (k u : Nat), u < 10 ^ k → k ≤ 19 → u ≤ 9223372036854775807 → spec_l6Dec (u : Int) = some (Lib.decDigits u)
  | 0, u, h, _, _ => by
    apply spec_l6Dec_le
    have h0 : u < 10 := by omega
    have h1 : ¬ ((u : Int) < -9223372036854775807) := by omega
    have h2 : ¬ ((u : Int) < 0) := by omega
    have h3 : (u : Int) < 10 := by omega
    simp only [h1, h2, h3, decide_false, decide_true, cond_false, cond_true]
    rw [dec_byte h0]
    unfold Lib.decDigits
    rw [dif_pos h0]
  | k + 1, u, h, hk, hu => by
    apply spec_l6Dec_le
    have h1 : ¬ ((u : Int) < -9223372036854775807) := by omega
    have h2 : ¬ ((u : Int) < 0) := by omega
    simp only [h1, h2, decide_false, cond_false]
    by_cases h3 : u < 10
    · have h3' : (u : Int) < 10 := by omega
      simp only [h3', decide_true, cond_true]
      rw [dec_byte h3]
      unfold Lib.decDigits
      rw [dif_pos h3]
    · have h3' : ¬ ((u : Int) < 10) := by omega
      simp only [h3', decide_false, cond_false]
      have hd : Int.tdiv (u : Int) 10 = ((u / 10 : Nat) : Int) := by
        rw [Int.tdiv_eq_ediv_of_nonneg (by omega)]; rfl
      have hm : Int.tmod (u : Int) 10 = ((u % 10 : Nat) : Int) := by
        rw [Int.tmod_eq_emod_of_nonneg (by omega)]; rfl
      have hlt : u / 10 < 10 ^ k := by rw [Nat.pow_succ] at h; omega
      rw [hd, hm, wrap_id (n := ((u / 10 : Nat) : Int)) (by omega) (by omega), l6Dec_nat k (u / 10) hlt (by omega) (by omega), bnd_some, dec_byte (by omega)]
      have hl := decDigits_short k (u / 10) hlt
      rw [catS_some (by simp only [List.length_cons, List.length_nil]; omega), bnd_some]
      conv => rhs; unfold Lib.decDigits
      rw [dif_neg h3]

theorem spec_l6Dec_eq {n : Int} (h : wfI n) : spec_l6Dec n = some (Lib.itoa n) := by
  by_cases h0 : 0 ≤ n
  · obtain ⟨u, rfl⟩ := Int.eq_ofNat_of_zero_le h0
    rw [l6Dec_nat 19 u (by have := h.2; omega) (by omega) (by have := h.2; omega), Lib.itoa_nonneg]
  · apply spec_l6Dec_le
    by_cases hm : n < -9223372036854775807
    · have : n = -9223372036854775808 := by have := h.1; omega
      subst this
      simp only [show ((-9223372036854775808 : Int) < -9223372036854775807) = True by simp, decide_true, cond_true]
      have e : Lib.itoa (-9223372036854775808) = [45, 57, 50, 50, 51, 51, 55, 50, 48, 51, 54, 56, 53, 52, 55, 55, 53, 56, 48, 56] := by
        decide +kernel
      rw [e]
    · have h2 : n < 0 := by omega
      simp only [hm, h2, decide_false, decide_true, cond_false, cond_true]
      have e : wrap64 (0 - n) = ((n.natAbs : Nat) : Int) := by rw [wrap_id (by omega) (by omega)]; omega
      rw [e, l6Dec_nat 19 n.natAbs (by omega) (by omega) (by omega), bnd_some]
      have hl := decDigits_short 19 n.natAbs (by omega)
      rw [catS_some (by simp only [List.length_cons, List.length_nil]; omega), bnd_some]
      unfold Lib.itoa
      rw [if_pos h2]; rfl

theorem itoa_len {n : Int} (h : wfI n) : (Lib.itoa n).length ≤ 20 := by
  unfold Lib.itoa
  split
  · have := decDigits_short 19 n.natAbs (by have := h.1; omega)
    simp only [List.length_cons]; omega
  · have := decDigits_short 19 n.toNat (by have := h.2; omega)
    omega

def regT (x : Int) : List UInt8 := 114 :: Lib.itoa x

def opTs : List (List UInt8) := [[124], [94], [38], [61, 61], [60], [60, 60], [62, 62], [43], [45], [42], [47], [37]]

def opT (n : Int) : List UInt8 := if 1 ≤ n ∧ n ≤ 12 then opTs.getD (n - 1).toNat [] else []

theorem opTs_get {n : Int} (h0 : 1 ≤ n) (h1 : n ≤ 12) : opTs[(n - 1).toNat]? = some (opT n) := by
  unfold opT
  rw [if_pos ⟨h0, h1⟩, List.getD_eq_getElem?_getD]
  have hl : (n - 1).toNat < opTs.length := by show (n - 1).toNat < 12; omega
  rw [List.getElem?_eq_getElem hl]; rfl

theorem opT_len (n : Int) : (opT n).length ≤ 2 := by
  unfold opT
  split
  · have : ∀ i : Fin 12, (opTs.getD i.val []).length ≤ 2 := by decide
    exact this ⟨(n - 1).toNat, by omega⟩
  · simp

theorem spec_OpText_eq (n : Int) : spec_OpText n = some (opT n) := by
  apply spec_OpText_le
  rw [spec_OpValid_eq, bnd_some]
  by_cases h : 1 ≤ n ∧ n ≤ 12
  · simp only [h, and_self, decide_true, Bool.not_true, cond_false]
    rw [wrap_id (by omega) (by omega)]
    unfold geti
    rw [if_pos (by omega)]
    rw [show ([[124], [94], [38], [61, 61], [60], [60, 60], [62, 62], [43], [45], [42], [47], [37]] : List (List UInt8)) = opTs from rfl, opTs_get h.1 h.2]; rfl
  · simp only [h, decide_false, Bool.not_false, cond_true]
    unfold opT; rw [if_neg h]

theorem impl_OpText_eq (n : Int) : impl_OpText n = some (opT n) := by
  apply impl_OpText_le
  rw [impl_OpValid_eq, bnd_some]
  by_cases h : 1 ≤ n ∧ n ≤ 12
  · simp only [h, and_self, decide_true, Bool.not_true, cond_false]
    rw [wrap_id (by omega) (by omega)]
    unfold geti
    rw [if_pos (by omega)]
    rw [show ([[124], [94], [38], [61, 61], [60], [60, 60], [62, 62], [43], [45], [42], [47], [37]] : List (List UInt8)) = opTs from rfl, opTs_get h.1 h.2]; rfl
  · simp only [h, decide_false, Bool.not_false, cond_true]
    unfold opT; rw [if_neg h]

theorem impl_regText_eq {x : Int} (h : wfI x) : impl_regText x = some (regT x) := by
  apply impl_regText_le
  have := itoa_len h
  rw [itoa_eq h, bnd_some, catS_some (by simp only [List.length_cons, List.length_nil]; omega)]; rfl

theorem spec_l21R_eq {x : Int} (h : wfI x) : spec_l21R x = some (regT x) := by
  apply spec_l21R_le
  have := itoa_len h
  rw [spec_l6Dec_eq h, bnd_some, catS_some (by simp only [List.length_cons, List.length_nil]; omega)]; rfl

def quadT (q : Quad) : List UInt8 :=
  if q.op = 1 then regT q.dst ++ [32, 61, 32] ++ Lib.itoa q.n
  else if q.op = 2 then regT q.dst ++ [32, 61, 32] ++ regT q.a
  else if q.op = 3 then regT q.dst ++ [32, 61, 32] ++ regT q.a ++ [32] ++ opT q.n ++ [32] ++ regT q.b
  else if q.op = 4 then [106, 117, 109, 112, 32] ++ Lib.itoa q.n
  else if q.op = 5 then [122, 101, 114, 111, 32] ++ regT q.a ++ [32] ++ Lib.itoa q.n
  else if q.op = 6 then [115, 101, 110, 100, 32] ++ Lib.itoa q.n ++ [32] ++ regT q.a
  else if q.op = 7 then regT q.dst ++ [32, 61, 32, 114, 101, 99, 118, 32] ++ Lib.itoa q.n
  else if q.op = 8 then [121, 105, 101, 108, 100]
  else if q.op = 9 then [112, 114, 105, 110, 116, 32] ++ regT q.a
  else [104, 97, 108, 116]

def qText (q : Quad) : List UInt8 := if quadOk q 600 then quadT q else []

theorem quadOk_wf {q : Quad} (h : quadOk q 600) : wfI q.dst ∧ wfI q.a ∧ wfI q.b ∧ wfI q.n := by
  unfold quadOk at h; unfold wfI; omega

theorem regT_len {x : Int} (h : wfI x) : (regT x).length ≤ 21 := by
  have := itoa_len h
  unfold regT
  simp only [List.length_cons]; omega

theorem spec_QuadText_eq (q : Quad) : spec_QuadText q = some (qText q) := by
  apply spec_QuadText_le
  rw [spec_QuadValid_eq, bnd_some]
  unfold qText
  by_cases h : quadOk q 600
  · obtain ⟨h1, h2, h3, h4⟩ := quadOk_wf h
    have l1 := regT_len h1
    have l2 := regT_len h2
    have l3 := regT_len h3
    have l4 := itoa_len h4
    have l5 := opT_len q.n
    simp only [h, decide_true, Bool.not_true, cond_false, if_true, spec_l21R_eq h1, spec_l21R_eq h2, spec_l21R_eq h3, spec_l6Dec_eq h4, spec_OpText_eq, bnd_some]
    unfold quadT
    by_cases c1 : q.op = 1
    · simp only [c1, decide_true, decide_false, cond_true, cond_false, if_true, if_false, reduceIte, Int.reduceEq]
      try (repeat rw [catS_some (by simp only [List.length_append, List.length_cons, List.length_nil]; omega), bnd_some])
    by_cases c2 : q.op = 2
    · simp only [c1, c2, decide_true, decide_false, cond_true, cond_false, if_true, if_false, reduceIte, Int.reduceEq]
      try (repeat rw [catS_some (by simp only [List.length_append, List.length_cons, List.length_nil]; omega), bnd_some])
    by_cases c3 : q.op = 3
    · simp only [c1, c2, c3, decide_true, decide_false, cond_true, cond_false, if_true, if_false, reduceIte, Int.reduceEq]
      try (repeat rw [catS_some (by simp only [List.length_append, List.length_cons, List.length_nil]; omega), bnd_some])
    by_cases c4 : q.op = 4
    · simp only [c1, c2, c3, c4, decide_true, decide_false, cond_true, cond_false, if_true, if_false, reduceIte, Int.reduceEq]
      try (repeat rw [catS_some (by simp only [List.length_append, List.length_cons, List.length_nil]; omega), bnd_some])
    by_cases c5 : q.op = 5
    · simp only [c1, c2, c3, c4, c5, decide_true, decide_false, cond_true, cond_false, if_true, if_false, reduceIte, Int.reduceEq]
      try (repeat rw [catS_some (by simp only [List.length_append, List.length_cons, List.length_nil]; omega), bnd_some])
    by_cases c6 : q.op = 6
    · simp only [c1, c2, c3, c4, c5, c6, decide_true, decide_false, cond_true, cond_false, if_true, if_false, reduceIte, Int.reduceEq]
      try (repeat rw [catS_some (by simp only [List.length_append, List.length_cons, List.length_nil]; omega), bnd_some])
    by_cases c7 : q.op = 7
    · simp only [c1, c2, c3, c4, c5, c6, c7, decide_true, decide_false, cond_true, cond_false, if_true, if_false, reduceIte, Int.reduceEq]
      try (repeat rw [catS_some (by simp only [List.length_append, List.length_cons, List.length_nil]; omega), bnd_some])
    by_cases c8 : q.op = 8
    · simp only [c1, c2, c3, c4, c5, c6, c7, c8, decide_true, decide_false, cond_true, cond_false, if_true, if_false, reduceIte, Int.reduceEq]
      try (repeat rw [catS_some (by simp only [List.length_append, List.length_cons, List.length_nil]; omega), bnd_some])
    by_cases c9 : q.op = 9
    · simp only [c1, c2, c3, c4, c5, c6, c7, c8, c9, decide_true, decide_false, cond_true, cond_false, if_true, if_false, reduceIte, Int.reduceEq]
      try (repeat rw [catS_some (by simp only [List.length_append, List.length_cons, List.length_nil]; omega), bnd_some])
    simp [c1, c2, c3, c4, c5, c6, c7, c8, c9]
  · simp [h]

theorem impl_QuadText_eq (q : Quad) : impl_QuadText q = some (qText q) := by
  apply impl_QuadText_le
  rw [impl_QuadValid_eq, bnd_some]
  unfold qText
  by_cases h : quadOk q 600
  · obtain ⟨h1, h2, h3, h4⟩ := quadOk_wf h
    have l1 := regT_len h1
    have l2 := regT_len h2
    have l3 := regT_len h3
    have l4 := itoa_len h4
    have l5 := opT_len q.n
    simp only [h, decide_true, Bool.not_true, cond_false, if_true, impl_regText_eq h1, impl_regText_eq h2, impl_regText_eq h3, itoa_eq h4, impl_OpText_eq, bnd_some]
    unfold quadT
    by_cases c1 : q.op = 1
    · simp only [c1, decide_true, decide_false, cond_true, cond_false, if_true, if_false, reduceIte, Int.reduceEq]
      try (repeat rw [catS_some (by simp only [List.length_append, List.length_cons, List.length_nil]; omega), bnd_some])
    by_cases c2 : q.op = 2
    · simp only [c1, c2, decide_true, decide_false, cond_true, cond_false, if_true, if_false, reduceIte, Int.reduceEq]
      try (repeat rw [catS_some (by simp only [List.length_append, List.length_cons, List.length_nil]; omega), bnd_some])
    by_cases c3 : q.op = 3
    · simp only [c1, c2, c3, decide_true, decide_false, cond_true, cond_false, if_true, if_false, reduceIte, Int.reduceEq]
      try (repeat rw [catS_some (by simp only [List.length_append, List.length_cons, List.length_nil]; omega), bnd_some])
    by_cases c4 : q.op = 4
    · simp only [c1, c2, c3, c4, decide_true, decide_false, cond_true, cond_false, if_true, if_false, reduceIte, Int.reduceEq]
      try (repeat rw [catS_some (by simp only [List.length_append, List.length_cons, List.length_nil]; omega), bnd_some])
    by_cases c5 : q.op = 5
    · simp only [c1, c2, c3, c4, c5, decide_true, decide_false, cond_true, cond_false, if_true, if_false, reduceIte, Int.reduceEq]
      try (repeat rw [catS_some (by simp only [List.length_append, List.length_cons, List.length_nil]; omega), bnd_some])
    by_cases c6 : q.op = 6
    · simp only [c1, c2, c3, c4, c5, c6, decide_true, decide_false, cond_true, cond_false, if_true, if_false, reduceIte, Int.reduceEq]
      try (repeat rw [catS_some (by simp only [List.length_append, List.length_cons, List.length_nil]; omega), bnd_some])
    by_cases c7 : q.op = 7
    · simp only [c1, c2, c3, c4, c5, c6, c7, decide_true, decide_false, cond_true, cond_false, if_true, if_false, reduceIte, Int.reduceEq]
      try (repeat rw [catS_some (by simp only [List.length_append, List.length_cons, List.length_nil]; omega), bnd_some])
    by_cases c8 : q.op = 8
    · simp only [c1, c2, c3, c4, c5, c6, c7, c8, decide_true, decide_false, cond_true, cond_false, if_true, if_false, reduceIte, Int.reduceEq]
      try (repeat rw [catS_some (by simp only [List.length_append, List.length_cons, List.length_nil]; omega), bnd_some])
    by_cases c9 : q.op = 9
    · simp only [c1, c2, c3, c4, c5, c6, c7, c8, c9, decide_true, decide_false, cond_true, cond_false, if_true, if_false, reduceIte, Int.reduceEq]
      try (repeat rw [catS_some (by simp only [List.length_append, List.length_cons, List.length_nil]; omega), bnd_some])
    simp [c1, c2, c3, c4, c5, c6, c7, c8, c9]
  · simp [h]

theorem laws_FnExactQuadText_eq (q : Quad) (_ : wfQ q) : laws_FnExactQuadText q = some true := by
  apply laws_FnExactQuadText_le
  rw [laws_toQuad_eq, bnd_some, spec_QuadText_eq, bnd_some, bnd_some, impl_QuadText_eq, bnd_some]
  simp
end Go.TFnExactQuadText
