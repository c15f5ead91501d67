/- The plain law: what the functions answer. -/
import Derived.Test.YtbgodlimjjgogaaDoorDFnQuadTextOtherE0
import Derived.Test.YtbgodlimjjgogaaDoorLk
import Derived.Lib.ItoaLen
set_option linter.unusedVariables false
set_option linter.unusedSimpArgs false
namespace Go.TFnQuadTextOther
open Go Go.RowKit Go.Vs Go.Tv
theorem spec_l6In_eq (a b c : Int) : spec_l6In a b c = some (decide (b ≤ a ∧ a ≤ c)) := by
  apply spec_l6In_le
  by_cases h : b ≤ a <;> simp [h]

theorem spec_OpValid_eq (a : Int) : spec_OpValid a = some (decide (1 ≤ a ∧ a ≤ 12)) := by
  apply spec_OpValid_le; simp [spec_l6In_eq]

theorem spec_WordValid_eq (a : Int) : spec_WordValid a = some (decide (-2147483648 ≤ a ∧ a ≤ 2147483647)) := by
  apply spec_WordValid_le; simp [spec_l6In_eq]

theorem impl_OpValid_eq (a : Int) : impl_OpValid a = some (decide (1 ≤ a ∧ a ≤ 12)) := by
  apply impl_OpValid_le
  by_cases h : 1 ≤ a <;> simp [h]

theorem impl_WordValid_eq (a : Int) : impl_WordValid a = some (decide (-2147483648 ≤ a ∧ a ≤ 2147483647)) := by
  apply impl_WordValid_le
  by_cases h : -2147483648 ≤ a <;> simp [h]

theorem impl_isReg_eq (a : Int) : impl_isReg a = some (decide (0 ≤ a ∧ a < 12)) := by
  apply impl_isReg_le
  by_cases h : 0 ≤ a <;> simp [h]

theorem spec_l21Reg_eq (a : Int) (u : Bool) : spec_l21Reg a u = some (decide (if u then 0 ≤ a ∧ a < 12 else a = 0)) := by
  apply spec_l21Reg_le
  simp only [spec_l6In_eq, bnd_some, cond_some]
  apply some_dec
  cases u <;> simp; omega

theorem spec_l21Regs_eq (q : Quad) (x y z : Bool) : spec_l21Regs q x y z = some (decide ((if x then 0 ≤ q.dst ∧ q.dst < 12 else q.dst = 0) ∧ (if y then 0 ≤ q.a ∧ q.a < 12 else q.a = 0) ∧ (if z then 0 ≤ q.b ∧ q.b < 12 else q.b = 0))) := by
  apply spec_l21Regs_le
  simp only [spec_l21Reg_eq, bnd_some, cond_some]
  apply some_dec
  simp only [cond_iff, decide_eq_true_eq]
  cases x <;> cases y <;> cases z <;> simp

/-- Is a quad valid in a code of so many? -/
def quadOk (q : Quad) (many : Int) : Prop :=
  (q.op = 1 ∧ (0 ≤ q.dst ∧ q.dst < 12) ∧ q.a = 0 ∧ q.b = 0 ∧ -2147483648 ≤ q.n ∧ q.n ≤ 2147483647) ∨ (q.op = 2 ∧ (0 ≤ q.dst ∧ q.dst < 12) ∧ (0 ≤ q.a ∧ q.a < 12) ∧ q.b = 0 ∧ q.n = 0) ∨
  (q.op = 3 ∧ (0 ≤ q.dst ∧ q.dst < 12) ∧ (0 ≤ q.a ∧ q.a < 12) ∧ (0 ≤ q.b ∧ q.b < 12) ∧ 1 ≤ q.n ∧ q.n ≤ 12) ∨ (q.op = 4 ∧ q.dst = 0 ∧ q.a = 0 ∧ q.b = 0 ∧ 0 ≤ q.n ∧ q.n < many) ∨
  (q.op = 5 ∧ q.dst = 0 ∧ (0 ≤ q.a ∧ q.a < 12) ∧ q.b = 0 ∧ 0 ≤ q.n ∧ q.n < many) ∨ (q.op = 6 ∧ q.dst = 0 ∧ (0 ≤ q.a ∧ q.a < 12) ∧ q.b = 0 ∧ 0 ≤ q.n ∧ q.n ≤ 2) ∨
  (q.op = 7 ∧ (0 ≤ q.dst ∧ q.dst < 12) ∧ q.a = 0 ∧ q.b = 0 ∧ 0 ≤ q.n ∧ q.n ≤ 2) ∨ (q.op = 9 ∧ q.dst = 0 ∧ (0 ≤ q.a ∧ q.a < 12) ∧ q.b = 0 ∧ q.n = 0) ∨ ((q.op = 8 ∨ q.op = 10) ∧ q.dst = 0 ∧ q.a = 0 ∧ q.b = 0 ∧ q.n = 0)

instance (q : Quad) (many : Int) : Decidable (quadOk q many) := by unfold quadOk; infer_instance

theorem spec_QuadValid_eq (q : Quad) (many : Int) : spec_QuadValid q many = some (decide (quadOk q many)) := by
  apply spec_QuadValid_le
  simp only [spec_l21Regs_eq, spec_WordValid_eq, spec_OpValid_eq, spec_l6In_eq, bnd_some, cond_some]
  apply some_dec
  obtain ⟨op, dst, a, b, n⟩ := q
  simp only [quadOk, cond_iff, decide_eq_true_eq, if_true, Bool.false_eq_true, if_false]
  by_cases h1 : op = 1
  · subst h1; simp; try omega
  by_cases h2 : op = 2
  · subst h2; simp; try omega
  by_cases h3 : op = 3
  · subst h3; simp; try omega
  by_cases h4 : op = 4
  · subst h4; simp; try omega
  by_cases h5 : op = 5
  · subst h5; simp; try omega
  by_cases h6 : op = 6
  · subst h6; simp; try omega
  by_cases h7 : op = 7
  · subst h7; simp; try omega
  by_cases h9 : op = 9
  · subst h9; simp; try omega
  by_cases h8 : op = 8
  · subst h8; simp; try omega
  by_cases h10 : op = 10
  · subst h10; simp; try omega
  simp [h1, h2, h3, h4, h5, h6, h7, h8, h9, h10]

theorem impl_QuadValid_eq (q : Quad) (many : Int) : impl_QuadValid q many = some (decide (quadOk q many)) := by
  apply impl_QuadValid_le
  simp only [impl_isReg_eq, impl_WordValid_eq, impl_OpValid_eq, bnd_some, cond_some]
  apply some_dec
  obtain ⟨op, dst, a, b, n⟩ := q
  simp only [quadOk, cond_iff, decide_eq_true_eq, if_true, Bool.false_eq_true, if_false, Bool.and_eq_true, Bool.not_eq_true', decide_eq_false_iff_not, and_true]
  by_cases h1 : op = 1
  · subst h1; simp; try omega
  by_cases h2 : op = 2
  · subst h2; simp; try omega
  by_cases h3 : op = 3
  · subst h3; simp; try omega
  by_cases h4 : op = 4
  · subst h4; simp; try omega
  by_cases h5 : op = 5
  · subst h5; simp; try omega
  by_cases h6 : op = 6
  · subst h6; simp; try omega
  by_cases h7 : op = 7
  · subst h7; simp; try omega
  by_cases h9 : op = 9
  · subst h9; simp; try omega
  by_cases h8 : op = 8
  · subst h8; simp; try omega
  by_cases h10 : op = 10
  · subst h10; simp; try omega
  simp [h1, h2, h3, h4, h5, h6, h7, h8, h9, h10]

/-- A reader of bytes: how far it may have come. -/
def Rd (b : List Int) (p m : Int) : Prop := (∀ x ∈ b, 0 ≤ x ∧ x ≤ 255) ∧ (b.length : Int) ≤ 2000 ∧ 0 ≤ p ∧ p ≤ m

theorem Rd.mono {b : List Int} {p m n : Int} (h : Rd b p m) (hm : m ≤ n) : Rd b p n := ⟨h.1, h.2.1, h.2.2.1, by have := h.2.2.2; omega⟩

theorem open_ok {a : List Int} (h : wfBs a) : Ok (spec_l6Open a) fun r => Rd r.1 r.2 0 := by
  apply Ok.le (spec_l6Open_le a)
  refine Ok.bif (fun hb => ?_) (fun hb => ?_)
  · simp only [decide_eq_true_eq] at hb
    have : cutL a 0 2000 = some (a.take 2000) := by
      unfold cutL
      rw [if_pos (by omega)]
      simp
    rw [this]
    refine Ok.of ⟨fun x hx => h x (List.mem_of_mem_take hx), ?_, by omega, by omega⟩
    simp only [List.length_take]; omega
  · simp only [decide_eq_false_iff_not] at hb
    exact Ok.of ⟨h, (by show (a.length : Int) ≤ 2000; omega), by omega, by omega⟩

theorem u8_get {b : List Int} (h : ∀ x ∈ b, 0 ≤ x ∧ x ≤ 255) {n : Int} (h0 : 0 ≤ n) (h1 : n < b.length) : Ok (geti b n) fun x => 0 ≤ x ∧ x ≤ 255 :=
  (Ok.geti h0 h1).mono fun x hx => h x hx.1

theorem pick_ok {b : List Int} {p m n : Int} (h : Rd b p m) (hm : m ≤ 1000000000) (hn : wfI n) :
    Ok (spec_l6Rd_pick n b p) fun r => Rd r.2.1 r.2.2 (m + 1) ∧ 0 ≤ r.1 ∧ (1 ≤ n → r.1 < n) ∧ (n < 1 → r.1 = 0) := by
  obtain ⟨h1, h2, h3, h4⟩ := h
  obtain ⟨n1, n2⟩ := hn
  apply Ok.le (spec_l6Rd_pick_le n b p)
  have e1 : wrap64 (p + 1) = p + 1 := wrap_id (by omega) (by omega)
  have e2 : wrap64 (p + 1 - 1) = p := by rw [show p + 1 - 1 = p by omega]; exact wrap_id (by omega) (by omega)
  rw [e1, e2]
  have hR : Rd b (p + 1) (m + 1) := ⟨h1, h2, by omega, by omega⟩
  refine Ok.bif (fun hb => ?_) (fun hb => ?_)
  · simp only [decide_eq_true_eq] at hb
    exact Ok.of ⟨hR, by omega, by omega, by omega⟩
  simp only [decide_eq_false_iff_not] at hb
  refine Ok.bif (fun hc => ?_) (fun hc => ?_)
  · exact Ok.of ⟨hR, by omega, by omega, by omega⟩
  simp only [decide_eq_false_iff_not] at hc
  refine Ok.bif (fun hd => ?_) (fun hd => ?_)
  · simp only [decide_eq_true_eq] at hd
    refine Ok.bnd (u8_get h1 h3 hd) fun x hx => ?_
    rw [wrap_id (by omega) (by omega), remI_pos (by omega)]
    have := tmod_range (y := n) hx.1 (by omega)
    exact Ok.of ⟨hR, this.1, fun _ => this.2, by omega⟩
  · simp only [decide_eq_false_iff_not] at hd
    have hl : 0 < (b.length : Int) := by omega
    rw [remI_pos (by omega), bnd_some]
    have t1 := tmod_range (x := p) h3 hl
    refine Ok.bnd (u8_get h1 t1.1 t1.2) fun x hx => ?_
    have e3 : wrap64 (p * 7) = p * 7 := wrap_id (by omega) (by omega)
    have e4 : wrap64 (p * 7 + 3) = p * 7 + 3 := wrap_id (by omega) (by omega)
    rw [e3, e4, remI_pos (by omega), bnd_some]
    have t2 := tmod_range (x := p * 7 + 3) (by omega) hl
    refine Ok.bnd (u8_get h1 t2.1 t2.2) fun y hy => ?_
    rw [quoI_pos (by omega), bnd_some]
    have q0 : 0 ≤ p.tdiv b.length ∧ p.tdiv b.length ≤ p := by
      rw [Int.tdiv_eq_ediv_of_nonneg h3]
      exact ⟨Int.ediv_nonneg h3 (by omega), Int.ediv_le_self _ h3⟩
    generalize hq : p.tdiv b.length = q at q0
    have hx2 : wrap64 x = x := wrap_id (by omega) (by omega)
    have hy2 : wrap64 y = y := wrap_id (by omega) (by omega)
    have hq2 : wrap64 q = q := wrap_id (by omega) (by omega)
    rw [hx2, hy2, hq2]
    have f1 : wrap64 (x * 131) = x * 131 := wrap_id (by omega) (by omega)
    have f2 : wrap64 (y * 1117) = y * 1117 := wrap_id (by omega) (by omega)
    have f3 : wrap64 (p * 29) = p * 29 := wrap_id (by omega) (by omega)
    have f4 : wrap64 (q * 53) = q * 53 := wrap_id (by omega) (by omega)
    rw [f1, f2, f3, f4]
    have f5 : wrap64 (x * 131 + y * 1117) = x * 131 + y * 1117 := wrap_id (by omega) (by omega)
    rw [f5]
    have f6 : wrap64 (x * 131 + y * 1117 + p * 29) = x * 131 + y * 1117 + p * 29 := wrap_id (by omega) (by omega)
    rw [f6]
    have f7 : wrap64 (x * 131 + y * 1117 + p * 29 + q * 53) = x * 131 + y * 1117 + p * 29 + q * 53 := wrap_id (by omega) (by omega)
    rw [f7]
    generalize hz : x * 131 + y * 1117 + p * 29 + q * 53 = z
    have hz0 : 0 ≤ z ∧ z < 1000000000000 := by omega
    have hd2 : 0 ≤ z.tdiv 64 ∧ z.tdiv 64 ≤ z := by
      rw [Int.tdiv_eq_ediv_of_nonneg hz0.1]
      omega
    rw [wrap_id (n := z.tdiv 64) (by omega) (by omega), remI_pos (by omega), bnd_some]
    have hxor := xor_nonneg (x := z) (y := z.tdiv 64) hz0.1 (by omega) hd2.1 (by omega)
    have t3 := tmod_range (y := n) hxor.1 (by omega)
    exact Ok.of ⟨hR, t3.1, fun _ => t3.2, by omega⟩

theorem spec_Wrap_eq (n : Int) (h : wfI n) : Ok (spec_Wrap n) fun r => -2147483648 ≤ r ∧ r ≤ 2147483647 := by
  apply Ok.le (spec_Wrap_le n)
  have hm : -4294967296 < n.tmod 4294967296 ∧ n.tmod 4294967296 < 4294967296 := by
    by_cases h0 : 0 ≤ n
    · have := tmod_range h0 (y := 4294967296) (by omega); omega
    · have e : n.tmod 4294967296 = -((-n).tmod 4294967296) := by rw [Int.neg_tmod]; omega
      have := tmod_range (x := -n) (y := 4294967296) (by omega) (by omega); omega
  generalize n.tmod 4294967296 = m at hm
  refine Ok.bif (fun hb => ?_) (fun hb => ?_)
  · simp only [decide_eq_true_eq] at hb
    rw [wrap_id (by omega) (by omega)]; exact Ok.of (by omega)
  simp only [decide_eq_false_iff_not] at hb
  refine Ok.bif (fun hc => ?_) (fun hc => ?_)
  · simp only [decide_eq_true_eq] at hc
    rw [wrap_id (by omega) (by omega)]; exact Ok.of (by omega)
  · simp only [decide_eq_false_iff_not] at hc
    exact Ok.of (by omega)

/-- A number that was picked names a place in a list. -/
theorem pick_geti {α : Type} {l : List α} {x n : Int} (h : 0 ≤ x ∧ (1 ≤ n → x < n) ∧ (n < 1 → x = 0)) (hn : 1 ≤ n) (hl : (l.length : Int) = n) : Ok (geti l x) fun y => y ∈ l :=
  (Ok.geti h.1 (by have := h.2.1 hn; omega)).mono fun y hy => hy.1

theorem wrap_wf (n : Int) : wfI (wrap64 n) := by unfold wfI wrap64; omega

theorem l91Word_ok {b : List Int} {p m : Int} (h : Rd b p m) (hm : m ≤ 999999990) : Ok (spec_l91Word b p) fun r => Rd r.2.1 r.2.2 (m + 5) ∧ (-2147483648 ≤ r.1 ∧ r.1 ≤ 2147483647) := by
  apply Ok.le (spec_l91Word_le b p)
  refine Ok.bnd (pick_ok h (by omega) (by decide)) fun r1 h1 => ?_
  refine Ok.bif (fun _ => ?_) (fun _ => ?_)
  · refine Ok.bnd (pick_ok h1.1 (by omega) (by decide)) fun r2 h2 => ?_
    refine Ok.bnd (pick_geti h2.2 (by omega) rfl) fun e he => ?_
    refine Ok.of ⟨h2.1.mono (by omega), ?_⟩
    simp only [List.mem_cons, List.not_mem_nil, or_false] at he
    dsimp only
    omega
  refine Ok.bif (fun _ => ?_) (fun _ => ?_)
  · refine Ok.bnd (pick_ok h1.1 (by omega) (by decide)) fun r2 h2 => ?_
    refine Ok.bnd (pick_ok h2.1 (by omega) (by decide)) fun r3 h3 => ?_
    refine Ok.bnd (pick_ok h3.1 (by omega) (by decide)) fun r4 h4 => ?_
    refine Ok.bnd (pick_ok h4.1 (by omega) (by decide)) fun r5 h5 => ?_
    refine Ok.bnd (spec_Wrap_eq _ (wrap_wf _)) fun r6 h6 => ?_
    exact Ok.of ⟨h5.1.mono (by omega), h6⟩
  refine Ok.bif (fun _ => ?_) (fun _ => ?_)
  · refine Ok.bnd (pick_ok h1.1 (by omega) (by decide)) fun r2 h2 => ?_
    have := h2.2.2.1 (by omega)
    rw [wrap_id (by omega) (by omega)]
    exact Ok.of ⟨h2.1.mono (by omega), by dsimp only; omega⟩
  · refine Ok.bnd (pick_ok h1.1 (by omega) (by decide)) fun r2 h2 => ?_
    have := h2.2.2.1 (by omega)
    exact Ok.of ⟨h2.1.mono (by omega), by dsimp only; omega⟩

theorem l91Op_ok {b : List Int} {p m : Int} (h : Rd b p m) (hm : m ≤ 999999990) : Ok (spec_l91Op b p) fun r => Rd r.2.1 r.2.2 (m + 1) ∧ (1 ≤ r.1 ∧ r.1 ≤ 12) := by
  apply Ok.le (spec_l91Op_le b p)
  refine Ok.bnd (pick_ok h (by omega) (by decide)) fun r1 h1 => ?_
  have := h1.2.2.1 (by omega)
  rw [wrap_id (by omega) (by omega)]
  exact Ok.of ⟨h1.1, by dsimp only; omega⟩

theorem l93Reg_ok {b : List Int} {p m : Int} (h : Rd b p m) (hm : m ≤ 999999990) : Ok (spec_l93Reg b p) fun r => Rd r.2.1 r.2.2 (m + 1) ∧ (0 ≤ r.1 ∧ r.1 ≤ 5) := by
  apply Ok.le (spec_l93Reg_le b p)
  refine Ok.bnd (pick_ok h (by omega) (by decide)) fun r1 h1 => ?_
  have := h1.2.2.1 (by omega)
  exact Ok.of ⟨h1.1, by dsimp only; omega⟩

theorem l93Quad_ok {b : List Int} {p m n : Int} (h : Rd b p m) (hm : m ≤ 999999900) (hn : wfI n) : Ok (spec_l93Quad n b p) fun r => Rd r.2.1 r.2.2 (m + 8) := by
  apply Ok.le (spec_l93Quad_le n b p)
  refine Ok.bnd (pick_ok h (by omega) (by decide)) fun r1 h1 => ?_
  have two : Ok (Vs.bnd (spec_l93Reg r1.2.1 r1.2.2) fun r2 => Vs.bnd (spec_l91Word r2.2.1 r2.2.2) fun r3 => Vs.bnd (spec_l6Rd_pick 4 r3.2.1 r3.2.2) fun r4 => Vs.bnd (geti ([0, 1, 2, r3.1] : List Int) r4.1) fun e5 => some ((⟨1, r2.1, 0, 0, e5⟩ : Quad), r4.2.1, r4.2.2)) fun r => Rd r.2.1 r.2.2 (m + 8) := by
    refine Ok.bnd (l93Reg_ok h1.1 (by omega)) fun r2 h2 => ?_
    refine Ok.bnd (l91Word_ok h2.1 (by omega)) fun r3 h3 => ?_
    refine Ok.bnd (pick_ok h3.1 (by omega) (by decide)) fun r4 h4 => ?_
    refine Ok.bnd (pick_geti h4.2 (by omega) rfl) fun e he => ?_
    exact Ok.of (h4.1.mono (by omega))
  have copy : Ok (Vs.bnd (spec_l93Reg r1.2.1 r1.2.2) fun r10 => Vs.bnd (spec_l93Reg r10.2.1 r10.2.2) fun r11 => some ((⟨2, r10.1, r11.1, 0, 0⟩ : Quad), r11.2.1, r11.2.2)) fun r => Rd r.2.1 r.2.2 (m + 8) := by
    refine Ok.bnd (l93Reg_ok h1.1 (by omega)) fun r2 h2 => ?_
    refine Ok.bnd (l93Reg_ok h2.1 (by omega)) fun r3 h3 => ?_
    exact Ok.of (h3.1.mono (by omega))
  have bin : Ok (Vs.bnd (spec_l93Reg r1.2.1 r1.2.2) fun r14 => Vs.bnd (spec_l93Reg r14.2.1 r14.2.2) fun r15 => Vs.bnd (spec_l93Reg r15.2.1 r15.2.2) fun r16 => Vs.bnd (spec_l91Op r16.2.1 r16.2.2) fun r17 => some ((⟨3, r14.1, r15.1, r16.1, r17.1⟩ : Quad), r17.2.1, r17.2.2)) fun r => Rd r.2.1 r.2.2 (m + 8) := by
    refine Ok.bnd (l93Reg_ok h1.1 (by omega)) fun r2 h2 => ?_
    refine Ok.bnd (l93Reg_ok h2.1 (by omega)) fun r3 h3 => ?_
    refine Ok.bnd (l93Reg_ok h3.1 (by omega)) fun r4 h4 => ?_
    refine Ok.bnd (l91Op_ok h4.1 (by omega)) fun r5 h5 => ?_
    exact Ok.of (h5.1.mono (by omega))
  refine Ok.bif (fun _ => two) (fun _ => ?_)
  refine Ok.bif (fun _ => two) (fun _ => ?_)
  refine Ok.bif (fun _ => copy) (fun _ => ?_)
  refine Ok.bif (fun _ => copy) (fun _ => ?_)
  refine Ok.bif (fun _ => bin) (fun _ => ?_)
  refine Ok.bif (fun _ => bin) (fun _ => ?_)
  refine Ok.bif (fun _ => bin) (fun _ => ?_)
  refine Ok.bif (fun _ => ?_) (fun _ => ?_)
  · refine Ok.bnd (pick_ok h1.1 (by omega) hn) fun r2 h2 => ?_
    exact Ok.of (h2.1.mono (by omega))
  refine Ok.bif (fun _ => ?_) (fun _ => ?_)
  · refine Ok.bnd (l93Reg_ok h1.1 (by omega)) fun r2 h2 => ?_
    refine Ok.bnd (pick_ok h2.1 (by omega) hn) fun r3 h3 => ?_
    exact Ok.of (h3.1.mono (by omega))
  refine Ok.bif (fun _ => ?_) (fun _ => ?_)
  · refine Ok.bnd (l93Reg_ok h1.1 (by omega)) fun r2 h2 => ?_
    refine Ok.bnd (pick_ok h2.1 (by omega) (by decide)) fun r3 h3 => ?_
    exact Ok.of (h3.1.mono (by omega))
  refine Ok.bif (fun _ => ?_) (fun _ => ?_)
  · refine Ok.bnd (l93Reg_ok h1.1 (by omega)) fun r2 h2 => ?_
    refine Ok.bnd (pick_ok h2.1 (by omega) (by decide)) fun r3 h3 => ?_
    exact Ok.of (h3.1.mono (by omega))
  refine Ok.bnd (pick_ok h1.1 (by omega) (by decide)) fun r2 h2 => ?_
  refine Ok.bif (fun _ => ?_) (fun _ => ?_)
  · exact Ok.of (h2.1.mono (by omega))
  refine Ok.bnd (l93Reg_ok h2.1 (by omega)) fun r3 h3 => ?_
  exact Ok.of (h3.1.mono (by omega))

theorem l93Wrong_ok {b : List Int} {p m : Int} (h : Rd b p m) (hm : m ≤ 999999000) : Ok (spec_l93Wrong b p) fun r => Rd r.2.1 r.2.2 (m + 20) := by
  apply Ok.le (spec_l93Wrong_le b p)
  refine Ok.bnd (l93Quad_ok h (by omega) (by decide)) fun r1 h1 => ?_
  refine Ok.bnd (pick_ok h1 (by omega) (by decide)) fun r2 h2 => ?_
  refine Ok.bif (fun _ => ?_) (fun _ => ?_)
  all_goals
    refine Ok.bnd (pick_ok h2.1 (by omega) (by decide)) fun r3 h3 => ?_
    refine Ok.bif (fun _ => Ok.of (h3.1.mono (by omega))) (fun _ => ?_)
    refine Ok.bif (fun _ => Ok.of (h3.1.mono (by omega))) (fun _ => ?_)
    refine Ok.bif (fun _ => ?_) (fun _ => ?_)
    · refine Ok.bnd (pick_ok h3.1 (by omega) (by decide)) fun r4 h4 => ?_
      refine Ok.bnd (pick_geti h4.2 (by omega) rfl) fun e he => ?_
      exact Ok.of (h4.1.mono (by omega))
    exact Ok.bif (fun _ => Ok.of (h3.1.mono (by omega))) (fun _ => Ok.of (h3.1.mono (by omega)))

theorem catS_some {a b : List UInt8} (h : a.length + b.length ≤ 1099511627776) : catS a b = some (a ++ b) := by
  unfold catS LIM; rw [if_pos h]

theorem itoa_eq {n : Int} (h : wfI n) : strconv_Itoa n = some (Lib.itoa n) := by
  apply strconv_Itoa_le
  rw [if_pos h]

theorem decDigits_short : ∀ (k u : Nat), u < 10 ^ k → (Lib.decDigits u).length ≤ max k 1
  | 0, u, h => by
    unfold Lib.decDigits
    have : u < 10 := by omega
    rw [dif_pos this]; simp
  | k + 1, u, h => by
    unfold Lib.decDigits
    split
    · show 1 ≤ _; omega
    · rename_i h10
      have h2 : u / 10 < 10 ^ k := by rw [Nat.pow_succ] at h; omega
      have := decDigits_short k (u / 10) h2
      rw [List.length_append]
      have hk : 1 ≤ k := by
        cases k with
        | zero => simp at h; omega
        | succ k => omega
      simp only [List.length_cons, List.length_nil]; omega

theorem dec_byte {n : Nat} (h : n < 10) : Tv.bytes [wrap64 (48 + (n : Int)) % 256] = [UInt8.ofNat (48 + n)] := by
  rw [wrap_id (by omega) (by omega)]
  have : ((48 + (n : Int)) % 256) = ((48 + n : Nat) : Int) := by omega
  rw [this]; rfl

theorem l6Dec_nat : ∀ (k u : Nat), u < 10 ^ k → k ≤ 19 → u ≤ 9223372036854775807 → spec_l6Dec (u : Int) = some (Lib.decDigits u)
  | 0, u, h, _, _ => by
    apply spec_l6Dec_le
    have h0 : u < 10 := by omega
    have h1 : ¬ ((u : Int) < -9223372036854775807) := by omega
    have h2 : ¬ ((u : Int) < 0) := by omega
    have h3 : (u : Int) < 10 := by omega
    simp only [h1, h2, h3, decide_false, decide_true, cond_false, cond_true]
    rw [dec_byte h0]
    unfold Lib.decDigits
    rw [dif_pos h0]
  | k + 1, u, h, hk, hu => by
    apply spec_l6Dec_le
    have h1 : ¬ ((u : Int) < -9223372036854775807) := by omega
    have h2 : ¬ ((u : Int) < 0) := by omega
    simp only [h1, h2, decide_false, cond_false]
    by_cases h3 : u < 10
    · have h3' : (u : Int) < 10 := by omega
      simp only [h3', decide_true, cond_true]
      rw [dec_byte h3]
      unfold Lib.decDigits
      rw [dif_pos h3]
    · have h3' : ¬ ((u : Int) < 10) := by omega
      simp only [h3', decide_false, cond_false]
      have hd : Int.tdiv (u : Int) 10 = ((u / 10 : Nat) : Int) := by
        rw [Int.tdiv_eq_ediv_of_nonneg (by omega)]; rfl
      have hm : Int.tmod (u : Int) 10 = ((u % 10 : Nat) : Int) := by
        rw [Int.tmod_eq_emod_of_nonneg (by omega)]; rfl
      have hlt : u / 10 < 10 ^ k := by rw [Nat.pow_succ] at h; omega
      rw [hd, hm, wrap_id (n := ((u / 10 : Nat) : Int)) (by omega) (by omega), l6Dec_nat k (u / 10) hlt (by omega) (by omega), bnd_some, dec_byte (by omega)]
      have hl := decDigits_short k (u / 10) hlt
      rw [catS_some (by simp only [List.length_cons, List.length_nil]; omega), bnd_some]
      conv => rhs; unfold Lib.decDigits
      rw [dif_neg h3]

theorem spec_l6Dec_eq {n : Int} (h : wfI n) : spec_l6Dec n = some (Lib.itoa n) := by
  by_cases h0 : 0 ≤ n
  · obtain ⟨u, rfl⟩ := Int.eq_ofNat_of_zero_le h0
    rw [l6Dec_nat 19 u (by have := h.2; omega) (by omega) (by have := h.2; omega), Lib.itoa_nonneg]
  · apply spec_l6Dec_le
    by_cases hm : n < -9223372036854775807
    · have : n = -9223372036854775808 := by have := h.1; omega
      subst this
      simp only [show ((-9223372036854775808 : Int) < -9223372036854775807) = True by simp, decide_true, cond_true]
      have e : Lib.itoa (-9223372036854775808) = [45, 57, 50, 50, 51, 51, 55, 50, 48, 51, 54, 56, 53, 52, 55, 55, 53, 56, 48, 56] := by
        decide +kernel
      rw [e]
    · have h2 : n < 0 := by omega
      simp only [hm, h2, decide_false, decide_true, cond_false, cond_true]
      have e : wrap64 (0 - n) = ((n.natAbs : Nat) : Int) := by rw [wrap_id (by omega) (by omega)]; omega
      rw [e, l6Dec_nat 19 n.natAbs (by omega) (by omega) (by omega), bnd_some]
      have hl := decDigits_short 19 n.natAbs (by omega)
      rw [catS_some (by simp only [List.length_cons, List.length_nil]; omega), bnd_some]
      unfold Lib.itoa
      rw [if_pos h2]; rfl

theorem itoa_len {n : Int} (h : wfI n) : (Lib.itoa n).length ≤ 20 := by
  unfold Lib.itoa
  split
  · have := decDigits_short 19 n.natAbs (by have := h.1; omega)
    simp only [List.length_cons]; omega
  · have := decDigits_short 19 n.toNat (by have := h.2; omega)
    omega

def regT (x : Int) : List UInt8 := 114 :: Lib.itoa x

def opTs : List (List UInt8) := [[124], [94], [38], [61, 61], [60], [60, 60], [62, 62], [43], [45], [42], [47], [37]]

def opT (n : Int) : List UInt8 := if 1 ≤ n ∧ n ≤ 12 then opTs.getD (n - 1).toNat [] else []

theorem opTs_get {n : Int} (h0 : 1 ≤ n) (h1 : n ≤ 12) : opTs[(n - 1).toNat]? = some (opT n) := by
  unfold opT
  rw [if_pos ⟨h0, h1⟩, List.getD_eq_getElem?_getD]
  have hl : (n - 1).toNat < opTs.length := by show (n - 1).toNat < 12; omega
  rw [List.getElem?_eq_getElem hl]; rfl

theorem opT_len (n : Int) : (opT n).length ≤ 2 := by
  unfold opT
  split
  · have : ∀ i : Fin 12, (opTs.getD i.val []).length ≤ 2 := by decide
    exact this ⟨(n - 1).toNat, by omega⟩
  · simp

theorem spec_OpText_eq (n : Int) : spec_OpText n = some (opT n) := by
  apply spec_OpText_le
  rw [spec_OpValid_eq, bnd_some]
  by_cases h : 1 ≤ n ∧ n ≤ 12
  · simp only [h, and_self, decide_true, Bool.not_true, cond_false]
    rw [wrap_id (by omega) (by omega)]
    unfold geti
    rw [if_pos (by omega)]
    rw [show ([[124], [94], [38], [61, 61], [60], [60, 60], [62, 62], [43], [45], [42], [47], [37]] : List (List UInt8)) = opTs from rfl, opTs_get h.1 h.2]; rfl
  · simp only [h, decide_false, Bool.not_false, cond_true]
    unfold opT; rw [if_neg h]

theorem impl_OpText_eq (n : Int) : impl_OpText n = some (opT n) := by
  apply impl_OpText_le
  rw [impl_OpValid_eq, bnd_some]
  by_cases h : 1 ≤ n ∧ n ≤ 12
  · simp only [h, and_self, decide_true, Bool.not_true, cond_false]
    rw [wrap_id (by omega) (by omega)]
    unfold geti
    rw [if_pos (by omega)]
    rw [show ([[124], [94], [38], [61, 61], [60], [60, 60], [62, 62], [43], [45], [42], [47], [37]] : List (List UInt8)) = opTs from rfl, opTs_get h.1 h.2]; rfl
  · simp only [h, decide_false, Bool.not_false, cond_true]
    unfold opT; rw [if_neg h]

theorem impl_regText_eq {x : Int} (h : wfI x) : impl_regText x = some (regT x) := by
  apply impl_regText_le
  have := itoa_len h
  rw [itoa_eq h, bnd_some, catS_some (by simp only [List.length_cons, List.length_nil]; omega)]; rfl

theorem spec_l21R_eq {x : Int} (h : wfI x) : spec_l21R x = some (regT x) := by
  apply spec_l21R_le
  have := itoa_len h
  rw [spec_l6Dec_eq h, bnd_some, catS_some (by simp only [List.length_cons, List.length_nil]; omega)]; rfl

def quadT (q : Quad) : List UInt8 :=
  if q.op = 1 then regT q.dst ++ [32, 61, 32] ++ Lib.itoa q.n
  else if q.op = 2 then regT q.dst ++ [32, 61, 32] ++ regT q.a
  else if q.op = 3 then regT q.dst ++ [32, 61, 32] ++ regT q.a ++ [32] ++ opT q.n ++ [32] ++ regT q.b
  else if q.op = 4 then [106, 117, 109, 112, 32] ++ Lib.itoa q.n
  else if q.op = 5 then [122, 101, 114, 111, 32] ++ regT q.a ++ [32] ++ Lib.itoa q.n
  else if q.op = 6 then [115, 101, 110, 100, 32] ++ Lib.itoa q.n ++ [32] ++ regT q.a
  else if q.op = 7 then regT q.dst ++ [32, 61, 32, 114, 101, 99, 118, 32] ++ Lib.itoa q.n
  else if q.op = 8 then [121, 105, 101, 108, 100]
  else if q.op = 9 then [112, 114, 105, 110, 116, 32] ++ regT q.a
  else [104, 97, 108, 116]

def qText (q : Quad) : List UInt8 := if quadOk q 600 then quadT q else []

theorem quadOk_wf {q : Quad} (h : quadOk q 600) : wfI q.dst ∧ wfI q.a ∧ wfI q.b ∧ wfI q.n := by
  unfold quadOk at h; unfold wfI; omega

theorem regT_len {x : Int} (h : wfI x) : (regT x).length ≤ 21 := by
  have := itoa_len h
  unfold regT
  simp only [List.length_cons]; omega

theorem spec_QuadText_eq (q : Quad) : spec_QuadText q = some (qText q) := by
  apply spec_QuadText_le
  rw [spec_QuadValid_eq, bnd_some]
  unfold qText
  by_cases h : quadOk q 600
  · obtain ⟨h1, h2, h3, h4⟩ := quadOk_wf h
    have l1 := regT_len h1
    have l2 := regT_len h2
    have l3 := regT_len h3
    have l4 := itoa_len h4
    have l5 := opT_len q.n
    simp only [h, decide_true, Bool.not_true, cond_false, if_true, spec_l21R_eq h1, spec_l21R_eq h2, spec_l21R_eq h3, spec_l6Dec_eq h4, spec_OpText_eq, bnd_some]
    unfold quadT
    by_cases c1 : q.op = 1
    · simp only [c1, decide_true, decide_false, cond_true, cond_false, if_true, if_false, reduceIte, Int.reduceEq]
      try (repeat rw [catS_some (by simp only [List.length_append, List.length_cons, List.length_nil]; omega), bnd_some])
    by_cases c2 : q.op = 2
    · simp only [c1, c2, decide_true, decide_false, cond_true, cond_false, if_true, if_false, reduceIte, Int.reduceEq]
      try (repeat rw [catS_some (by simp only [List.length_append, List.length_cons, List.length_nil]; omega), bnd_some])
    by_cases c3 : q.op = 3
    · simp only [c1, c2, c3, decide_true, decide_false, cond_true, cond_false, if_true, if_false, reduceIte, Int.reduceEq]
      try (repeat rw [catS_some (by simp only [List.length_append, List.length_cons, List.length_nil]; omega), bnd_some])
    by_cases c4 : q.op = 4
    · simp only [c1, c2, c3, c4, decide_true, decide_false, cond_true, cond_false, if_true, if_false, reduceIte, Int.reduceEq]
      try (repeat rw [catS_some (by simp only [List.length_append, List.length_cons, List.length_nil]; omega), bnd_some])
    by_cases c5 : q.op = 5
    · simp only [c1, c2, c3, c4, c5, decide_true, decide_false, cond_true, cond_false, if_true, if_false, reduceIte, Int.reduceEq]
      try (repeat rw [catS_some (by simp only [List.length_append, List.length_cons, List.length_nil]; omega), bnd_some])
    by_cases c6 : q.op = 6
    · simp only [c1, c2, c3, c4, c5, c6, decide_true, decide_false, cond_true, cond_false, if_true, if_false, reduceIte, Int.reduceEq]
      try (repeat rw [catS_some (by simp only [List.length_append, List.length_cons, List.length_nil]; omega), bnd_some])
    by_cases c7 : q.op = 7
    · simp only [c1, c2, c3, c4, c5, c6, c7, decide_true, decide_false, cond_true, cond_false, if_true, if_false, reduceIte, Int.reduceEq]
      try (repeat rw [catS_some (by simp only [List.length_append, List.length_cons, List.length_nil]; omega), bnd_some])
    by_cases c8 : q.op = 8
    · simp only [c1, c2, c3, c4, c5, c6, c7, c8, decide_true, decide_false, cond_true, cond_false, if_true, if_false, reduceIte, Int.reduceEq]
      try (repeat rw [catS_some (by simp only [List.length_append, List.length_cons, List.length_nil]; omega), bnd_some])
    by_cases c9 : q.op = 9
    · simp only [c1, c2, c3, c4, c5, c6, c7, c8, c9, decide_true, decide_false, cond_true, cond_false, if_true, if_false, reduceIte, Int.reduceEq]
      try (repeat rw [catS_some (by simp only [List.length_append, List.length_cons, List.length_nil]; omega), bnd_some])
    simp [c1, c2, c3, c4, c5, c6, c7, c8, c9]
  · simp [h]

theorem impl_QuadText_eq (q : Quad) : impl_QuadText q = some (qText q) := by
  apply impl_QuadText_le
  rw [impl_QuadValid_eq, bnd_some]
  unfold qText
  by_cases h : quadOk q 600
  · obtain ⟨h1, h2, h3, h4⟩ := quadOk_wf h
    have l1 := regT_len h1
    have l2 := regT_len h2
    have l3 := regT_len h3
    have l4 := itoa_len h4
    have l5 := opT_len q.n
    simp only [h, decide_true, Bool.not_true, cond_false, if_true, impl_regText_eq h1, impl_regText_eq h2, impl_regText_eq h3, itoa_eq h4, impl_OpText_eq, bnd_some]
    unfold quadT
    by_cases c1 : q.op = 1
    · simp only [c1, decide_true, decide_false, cond_true, cond_false, if_true, if_false, reduceIte, Int.reduceEq]
      try (repeat rw [catS_some (by simp only [List.length_append, List.length_cons, List.length_nil]; omega), bnd_some])
    by_cases c2 : q.op = 2
    · simp only [c1, c2, decide_true, decide_false, cond_true, cond_false, if_true, if_false, reduceIte, Int.reduceEq]
      try (repeat rw [catS_some (by simp only [List.length_append, List.length_cons, List.length_nil]; omega), bnd_some])
    by_cases c3 : q.op = 3
    · simp only [c1, c2, c3, decide_true, decide_false, cond_true, cond_false, if_true, if_false, reduceIte, Int.reduceEq]
      try (repeat rw [catS_some (by simp only [List.length_append, List.length_cons, List.length_nil]; omega), bnd_some])
    by_cases c4 : q.op = 4
    · simp only [c1, c2, c3, c4, decide_true, decide_false, cond_true, cond_false, if_true, if_false, reduceIte, Int.reduceEq]
      try (repeat rw [catS_some (by simp only [List.length_append, List.length_cons, List.length_nil]; omega), bnd_some])
    by_cases c5 : q.op = 5
    · simp only [c1, c2, c3, c4, c5, decide_true, decide_false, cond_true, cond_false, if_true, if_false, reduceIte, Int.reduceEq]
      try (repeat rw [catS_some (by simp only [List.length_append, List.length_cons, List.length_nil]; omega), bnd_some])
    by_cases c6 : q.op = 6
    · simp only [c1, c2, c3, c4, c5, c6, decide_true, decide_false, cond_true, cond_false, if_true, if_false, reduceIte, Int.reduceEq]
      try (repeat rw [catS_some (by simp only [List.length_append, List.length_cons, List.length_nil]; omega), bnd_some])
    by_cases c7 : q.op = 7
    · simp only [c1, c2, c3, c4, c5, c6, c7, decide_true, decide_false, cond_true, cond_false, if_true, if_false, reduceIte, Int.reduceEq]
      try (repeat rw [catS_some (by simp only [List.length_append, List.length_cons, List.length_nil]; omega), bnd_some])
    by_cases c8 : q.op = 8
    · simp only [c1, c2, c3, c4, c5, c6, c7, c8, decide_true, decide_false, cond_true, cond_false, if_true, if_false, reduceIte, Int.reduceEq]
      try (repeat rw [catS_some (by simp only [List.length_append, List.length_cons, List.length_nil]; omega), bnd_some])
    by_cases c9 : q.op = 9
    · simp only [c1, c2, c3, c4, c5, c6, c7, c8, c9, decide_true, decide_false, cond_true, cond_false, if_true, if_false, reduceIte, Int.reduceEq]
      try (repeat rw [catS_some (by simp only [List.length_append, List.length_cons, List.length_nil]; omega), bnd_some])
    simp [c1, c2, c3, c4, c5, c6, c7, c8, c9]
  · simp [h]

theorem DrawQuadText_ok {a : List Int} (h : wfBs a) : Ok (spec_DrawQuadText a) fun _ => True := by
  apply Ok.le (spec_DrawQuadText_le a)
  refine Ok.bnd (open_ok h) fun r1 h1 => ?_
  refine Ok.bnd (l93Wrong_ok h1 (by omega)) fun r2 _ => Ok.of trivial

theorem regT_inj {x y : Int} (hx : 0 ≤ x ∧ x < 12) (hy : 0 ≤ y ∧ y < 12) (h : regT x = regT y) : x = y := by
  have key : ∀ i j : Fin 12, Lib.itoa (i.val : Int) = Lib.itoa (j.val : Int) → i = j := by decide +kernel
  unfold regT at h
  injection h with _ h
  have := key ⟨x.toNat, by omega⟩ ⟨y.toNat, by omega⟩ (by
    have e1 : ((x.toNat : Nat) : Int) = x := by omega
    have e2 : ((y.toNat : Nat) : Int) = y := by omega
    show Lib.itoa ((x.toNat : Nat) : Int) = Lib.itoa ((y.toNat : Nat) : Int)
    rw [e1, e2]; exact h)
  have := congrArg Fin.val this
  simp only [] at this
  omega

theorem quadT_ne_nil (q : Quad) : quadT q ≠ [] := by
  unfold quadT regT
  repeat' split
  all_goals simp

theorem otherDst {q : Quad} (hq : quadOk q 600) {d : Int} (hd : 0 ≤ d ∧ d < 12) (hne : d ≠ q.dst) : qText ⟨q.op, d, q.a, q.b, q.n⟩ ≠ quadT q := by
  obtain ⟨op, dst, a, b, n⟩ := q
  simp only at hne
  unfold qText
  split
  · rename_i h2
    have h1 : 0 ≤ dst ∧ dst < 12 := by unfold quadOk at hq; simp only [] at hq; omega
    have hop : op = 1 ∨ op = 2 ∨ op = 3 ∨ op = 7 := by
      unfold quadOk at hq h2; simp only [] at hq h2; omega
    intro e
    apply hne
    apply regT_inj hd h1
    rcases hop with rfl | rfl | rfl | rfl <;> simpa [quadT] using e
  · exact (quadT_ne_nil _).symm

theorem otherA {q : Quad} (hq : quadOk q 600) {d : Int} (hd : 0 ≤ d ∧ d < 12) (hne : d ≠ q.a) : qText ⟨q.op, q.dst, d, q.b, q.n⟩ ≠ quadT q := by
  obtain ⟨op, dst, a, b, n⟩ := q
  simp only at hne
  unfold qText
  split
  · rename_i h2
    have h1 : 0 ≤ a ∧ a < 12 := by unfold quadOk at hq; simp only [] at hq; omega
    have hop : op = 2 ∨ op = 3 ∨ op = 5 ∨ op = 6 ∨ op = 9 := by
      unfold quadOk at hq h2; simp only [] at hq h2; omega
    intro e
    apply hne
    apply regT_inj hd h1
    rcases hop with rfl | rfl | rfl | rfl | rfl <;> simpa [quadT] using e
  · exact (quadT_ne_nil _).symm

theorem nextReg {x : Int} (hx : 0 ≤ x ∧ x < 12) {k : Int} (hk : 0 ≤ k ∧ k < 1048577) : 0 ≤ Int.tmod (wrap64 ((wrap64 (x + 1)) + (Int.tmod k 11))) 12 ∧ Int.tmod (wrap64 ((wrap64 (x + 1)) + (Int.tmod k 11))) 12 < 12 ∧ Int.tmod (wrap64 ((wrap64 (x + 1)) + (Int.tmod k 11))) 12 ≠ x := by
  rw [Int.tmod_eq_emod_of_nonneg hk.1, wrap_id (n := x + 1) (by omega) (by omega), wrap_id (by omega) (by omega), Int.tmod_eq_emod_of_nonneg (by omega)]
  omega

theorem laws_FnQuadTextOther_eq (a : List Int) (h : wfBs a) (c : List Int) (h' : wfBs c) : laws_FnQuadTextOther a c = some true := by
  apply laws_FnQuadTextOther_le
  apply Ok.some
  refine Ok.bif (fun _ => Ok.of rfl) (fun _ => ?_)
  refine Ok.bif (fun _ => Ok.of rfl) (fun hc => ?_)
  refine Ok.bnd (DrawQuadText_ok h) fun q _ => ?_
  rw [impl_QuadText_eq, bnd_some, spec_QuadText_eq, bnd_some]
  simp only [beq_self_eq_true, Bool.not_true, cond_false]
  refine Ok.bif (fun _ => Ok.of rfl) (fun hne => ?_)
  have hq : quadOk q 600 := by
    by_cases h : quadOk q 600
    · exact h
    · unfold qText at hne
      rw [if_neg h] at hne
      cases hne
  have hk : 0 ≤ (c.length : Int) ∧ (c.length : Int) < 1048577 := by
    simp only [decide_eq_false_iff_not] at hc; omega
  have e : qText q = quadT q := by unfold qText; rw [if_pos hq]
  have hd : 0 ≤ q.dst ∧ q.dst < 12 := by unfold quadOk at hq; omega
  have ha : 0 ≤ q.a ∧ q.a < 12 := by unfold quadOk at hq; omega
  obtain ⟨d1, d2, d3⟩ := nextReg hd hk
  obtain ⟨a1, a2, a3⟩ := nextReg ha hk
  rw [impl_QuadText_eq, bnd_some, impl_QuadText_eq, bnd_some, e]
  have n1 := otherDst hq ⟨d1, d2⟩ d3
  have n2 := otherA hq ⟨a1, a2⟩ a3
  have e1 := beq_false_of_ne n1
  have e2 := beq_false_of_ne n2
  rw [e1, e2]
  exact Ok.of rfl
end Go.TFnQuadTextOther
