/- The plain law: what the functions answer. -/
import Derived.Test.YtbofepgnakbohaaDFnQuadE0
import Derived.Test.YtbofepgnakbohaaLk
set_option linter.unusedVariables false
set_option linter.unusedSimpArgs false
namespace Go.TFnQuad
open Go Go.RowKit Go.Vs Go.Tv
theorem spec_l6In_eq (a b c : Int) : spec_l6In a b c = some (decide (b ≤ a ∧ a ≤ c)) := by
  apply spec_l6In_le
  by_cases h : b ≤ a <;> simp [h]

theorem spec_OpValid_eq (a : Int) : spec_OpValid a = some (decide (1 ≤ a ∧ a ≤ 12)) := by
  apply spec_OpValid_le; simp [spec_l6In_eq]

theorem spec_WordValid_eq (a : Int) : spec_WordValid a = some (decide (-2147483648 ≤ a ∧ a ≤ 2147483647)) := by
  apply spec_WordValid_le; simp [spec_l6In_eq]

theorem impl_OpValid_eq (a : Int) : impl_OpValid a = some (decide (1 ≤ a ∧ a ≤ 12)) := by
  apply impl_OpValid_le
  by_cases h : 1 ≤ a <;> simp [h]

theorem impl_WordValid_eq (a : Int) : impl_WordValid a = some (decide (-2147483648 ≤ a ∧ a ≤ 2147483647)) := by
  apply impl_WordValid_le
  by_cases h : -2147483648 ≤ a <;> simp [h]

theorem impl_isReg_eq (a : Int) : impl_isReg a = some (decide (0 ≤ a ∧ a < 12)) := by
  apply impl_isReg_le
  by_cases h : 0 ≤ a <;> simp [h]

theorem spec_l21Reg_eq (a : Int) (u : Bool) : spec_l21Reg a u = some (decide (if u then 0 ≤ a ∧ a < 12 else a = 0)) := by
  apply spec_l21Reg_le
  simp only [spec_l6In_eq, bnd_some, cond_some]
  apply some_dec
  cases u <;> simp; omega

theorem spec_l21Regs_eq (q : Quad) (x y z : Bool) : spec_l21Regs q x y z = some (decide ((if x then 0 ≤ q.dst ∧ q.dst < 12 else q.dst = 0) ∧ (if y then 0 ≤ q.a ∧ q.a < 12 else q.a = 0) ∧ (if z then 0 ≤ q.b ∧ q.b < 12 else q.b = 0))) := by
  apply spec_l21Regs_le
  simp only [spec_l21Reg_eq, bnd_some, cond_some]
  apply some_dec
  simp only [cond_iff, decide_eq_true_eq]
  cases x <;> cases y <;> cases z <;> simp

/-- Is a quad valid in a code of so many? -/
def quadOk (q : Quad) (many : Int) : Prop :=
  (q.op = 1 ∧ (0 ≤ q.dst ∧ q.dst < 12) ∧ q.a = 0 ∧ q.b = 0 ∧ -2147483648 ≤ q.n ∧ q.n ≤ 2147483647) ∨ (q.op = 2 ∧ (0 ≤ q.dst ∧ q.dst < 12) ∧ (0 ≤ q.a ∧ q.a < 12) ∧ q.b = 0 ∧ q.n = 0) ∨
  (q.op = 3 ∧ (0 ≤ q.dst ∧ q.dst < 12) ∧ (0 ≤ q.a ∧ q.a < 12) ∧ (0 ≤ q.b ∧ q.b < 12) ∧ 1 ≤ q.n ∧ q.n ≤ 12) ∨ (q.op = 4 ∧ q.dst = 0 ∧ q.a = 0 ∧ q.b = 0 ∧ 0 ≤ q.n ∧ q.n < many) ∨
  (q.op = 5 ∧ q.dst = 0 ∧ (0 ≤ q.a ∧ q.a < 12) ∧ q.b = 0 ∧ 0 ≤ q.n ∧ q.n < many) ∨ (q.op = 6 ∧ q.dst = 0 ∧ (0 ≤ q.a ∧ q.a < 12) ∧ q.b = 0 ∧ 0 ≤ q.n ∧ q.n ≤ 2) ∨
  (q.op = 7 ∧ (0 ≤ q.dst ∧ q.dst < 12) ∧ q.a = 0 ∧ q.b = 0 ∧ 0 ≤ q.n ∧ q.n ≤ 2) ∨ (q.op = 9 ∧ q.dst = 0 ∧ (0 ≤ q.a ∧ q.a < 12) ∧ q.b = 0 ∧ q.n = 0) ∨ ((q.op = 8 ∨ q.op = 10) ∧ q.dst = 0 ∧ q.a = 0 ∧ q.b = 0 ∧ q.n = 0)

instance (q : Quad) (many : Int) : Decidable (quadOk q many) := by unfold quadOk; infer_instance

theorem spec_QuadValid_eq (q : Quad) (many : Int) : spec_QuadValid q many = some (decide (quadOk q many)) := by
  apply spec_QuadValid_le
  simp only [spec_l21Regs_eq, spec_WordValid_eq, spec_OpValid_eq, spec_l6In_eq, bnd_some, cond_some]
  apply some_dec
  obtain ⟨op, dst, a, b, n⟩ := q
  simp only [quadOk, cond_iff, decide_eq_true_eq, if_true, Bool.false_eq_true, if_false]
  by_cases h1 : op = 1
  · subst h1; simp; try omega
  by_cases h2 : op = 2
  · subst h2; simp; try omega
  by_cases h3 : op = 3
  · subst h3; simp; try omega
  by_cases h4 : op = 4
  · subst h4; simp; try omega
  by_cases h5 : op = 5
  · subst h5; simp; try omega
  by_cases h6 : op = 6
  · subst h6; simp; try omega
  by_cases h7 : op = 7
  · subst h7; simp; try omega
  by_cases h9 : op = 9
  · subst h9; simp; try omega
  by_cases h8 : op = 8
  · subst h8; simp; try omega
  by_cases h10 : op = 10
  · subst h10; simp; try omega
  simp [h1, h2, h3, h4, h5, h6, h7, h8, h9, h10]

theorem impl_QuadValid_eq (q : Quad) (many : Int) : impl_QuadValid q many = some (decide (quadOk q many)) := by
  apply impl_QuadValid_le
  simp only [impl_isReg_eq, impl_WordValid_eq, impl_OpValid_eq, bnd_some, cond_some]
  apply some_dec
  obtain ⟨op, dst, a, b, n⟩ := q
  simp only [quadOk, cond_iff, decide_eq_true_eq, if_true, Bool.false_eq_true, if_false, Bool.and_eq_true, Bool.not_eq_true', decide_eq_false_iff_not, and_true]
  by_cases h1 : op = 1
  · subst h1; simp; try omega
  by_cases h2 : op = 2
  · subst h2; simp; try omega
  by_cases h3 : op = 3
  · subst h3; simp; try omega
  by_cases h4 : op = 4
  · subst h4; simp; try omega
  by_cases h5 : op = 5
  · subst h5; simp; try omega
  by_cases h6 : op = 6
  · subst h6; simp; try omega
  by_cases h7 : op = 7
  · subst h7; simp; try omega
  by_cases h9 : op = 9
  · subst h9; simp; try omega
  by_cases h8 : op = 8
  · subst h8; simp; try omega
  by_cases h10 : op = 10
  · subst h10; simp; try omega
  simp [h1, h2, h3, h4, h5, h6, h7, h8, h9, h10]

/-- A reader of bytes: how far it may have come. -/
def Rd (b : List Int) (p m : Int) : Prop := (∀ x ∈ b, 0 ≤ x ∧ x ≤ 255) ∧ (b.length : Int) ≤ 2000 ∧ 0 ≤ p ∧ p ≤ m

theorem Rd.mono {b : List Int} {p m n : Int} (h : Rd b p m) (hm : m ≤ n) : Rd b p n := ⟨h.1, h.2.1, h.2.2.1, by have := h.2.2.2; omega⟩

theorem open_ok {a : List Int} (h : wfBs a) : Ok (spec_l6Open a) fun r => Rd r.1 r.2 0 := by
  apply Ok.le (spec_l6Open_le a)
  refine Ok.bif (fun hb => ?_) (fun hb => ?_)
  · simp only [decide_eq_true_eq] at hb
    have : cutL a 0 2000 = some (a.take 2000) := by
      unfold cutL
      rw [if_pos (by omega)]
      simp
    rw [this]
    refine Ok.of ⟨fun x hx => h x (List.mem_of_mem_take hx), ?_, by omega, by omega⟩
    simp only [List.length_take]; omega
  · simp only [decide_eq_false_iff_not] at hb
    exact Ok.of ⟨h, (by show (a.length : Int) ≤ 2000; omega), by omega, by omega⟩

theorem u8_get {b : List Int} (h : ∀ x ∈ b, 0 ≤ x ∧ x ≤ 255) {n : Int} (h0 : 0 ≤ n) (h1 : n < b.length) : Ok (geti b n) fun x => 0 ≤ x ∧ x ≤ 255 :=
  (Ok.geti h0 h1).mono fun x hx => h x hx.1

theorem pick_ok {b : List Int} {p m n : Int} (h : Rd b p m) (hm : m ≤ 1000000000) (hn : wfI n) :
    Ok (spec_l6Rd_pick n b p) fun r => Rd r.2.1 r.2.2 (m + 1) ∧ 0 ≤ r.1 ∧ (1 ≤ n → r.1 < n) ∧ (n < 1 → r.1 = 0) := by
  obtain ⟨h1, h2, h3, h4⟩ := h
  obtain ⟨n1, n2⟩ := hn
  apply Ok.le (spec_l6Rd_pick_le n b p)
  have e1 : wrap64 (p + 1) = p + 1 := wrap_id (by omega) (by omega)
  have e2 : wrap64 (p + 1 - 1) = p := by rw [show p + 1 - 1 = p by omega]; exact wrap_id (by omega) (by omega)
  rw [e1, e2]
  have hR : Rd b (p + 1) (m + 1) := ⟨h1, h2, by omega, by omega⟩
  refine Ok.bif (fun hb => ?_) (fun hb => ?_)
  · simp only [decide_eq_true_eq] at hb
    exact Ok.of ⟨hR, by omega, by omega, by omega⟩
  simp only [decide_eq_false_iff_not] at hb
  refine Ok.bif (fun hc => ?_) (fun hc => ?_)
  · exact Ok.of ⟨hR, by omega, by omega, by omega⟩
  simp only [decide_eq_false_iff_not] at hc
  refine Ok.bif (fun hd => ?_) (fun hd => ?_)
  · simp only [decide_eq_true_eq] at hd
    refine Ok.bnd (u8_get h1 h3 hd) fun x hx => ?_
    rw [wrap_id (by omega) (by omega), remI_pos (by omega)]
    have := tmod_range (y := n) hx.1 (by omega)
    exact Ok.of ⟨hR, this.1, fun _ => this.2, by omega⟩
  · simp only [decide_eq_false_iff_not] at hd
    have hl : 0 < (b.length : Int) := by omega
    rw [remI_pos (by omega), bnd_some]
    have t1 := tmod_range (x := p) h3 hl
    refine Ok.bnd (u8_get h1 t1.1 t1.2) fun x hx => ?_
    have e3 : wrap64 (p * 7) = p * 7 := wrap_id (by omega) (by omega)
    have e4 : wrap64 (p * 7 + 3) = p * 7 + 3 := wrap_id (by omega) (by omega)
    rw [e3, e4, remI_pos (by omega), bnd_some]
    have t2 := tmod_range (x := p * 7 + 3) (by omega) hl
    refine Ok.bnd (u8_get h1 t2.1 t2.2) fun y hy => ?_
    rw [quoI_pos (by omega), bnd_some]
    have q0 : 0 ≤ p.tdiv b.length ∧ p.tdiv b.length ≤ p := by
      rw [Int.tdiv_eq_ediv_of_nonneg h3]
      exact ⟨Int.ediv_nonneg h3 (by omega), Int.ediv_le_self _ h3⟩
    generalize hq : p.tdiv b.length = q at q0
    have hx2 : wrap64 x = x := wrap_id (by omega) (by omega)
    have hy2 : wrap64 y = y := wrap_id (by omega) (by omega)
    have hq2 : wrap64 q = q := wrap_id (by omega) (by omega)
    rw [hx2, hy2, hq2]
    have f1 : wrap64 (x * 131) = x * 131 := wrap_id (by omega) (by omega)
    have f2 : wrap64 (y * 1117) = y * 1117 := wrap_id (by omega) (by omega)
    have f3 : wrap64 (p * 29) = p * 29 := wrap_id (by omega) (by omega)
    have f4 : wrap64 (q * 53) = q * 53 := wrap_id (by omega) (by omega)
    rw [f1, f2, f3, f4]
    have f5 : wrap64 (x * 131 + y * 1117) = x * 131 + y * 1117 := wrap_id (by omega) (by omega)
    rw [f5]
    have f6 : wrap64 (x * 131 + y * 1117 + p * 29) = x * 131 + y * 1117 + p * 29 := wrap_id (by omega) (by omega)
    rw [f6]
    have f7 : wrap64 (x * 131 + y * 1117 + p * 29 + q * 53) = x * 131 + y * 1117 + p * 29 + q * 53 := wrap_id (by omega) (by omega)
    rw [f7]
    generalize hz : x * 131 + y * 1117 + p * 29 + q * 53 = z
    have hz0 : 0 ≤ z ∧ z < 1000000000000 := by omega
    have hd2 : 0 ≤ z.tdiv 64 ∧ z.tdiv 64 ≤ z := by
      rw [Int.tdiv_eq_ediv_of_nonneg hz0.1]
      omega
    rw [wrap_id (n := z.tdiv 64) (by omega) (by omega), remI_pos (by omega), bnd_some]
    have hxor := xor_nonneg (x := z) (y := z.tdiv 64) hz0.1 (by omega) hd2.1 (by omega)
    have t3 := tmod_range (y := n) hxor.1 (by omega)
    exact Ok.of ⟨hR, t3.1, fun _ => t3.2, by omega⟩

theorem spec_Wrap_eq (n : Int) (h : wfI n) : Ok (spec_Wrap n) fun r => -2147483648 ≤ r ∧ r ≤ 2147483647 := by
  apply Ok.le (spec_Wrap_le n)
  have hm : -4294967296 < n.tmod 4294967296 ∧ n.tmod 4294967296 < 4294967296 := by
    by_cases h0 : 0 ≤ n
    · have := tmod_range h0 (y := 4294967296) (by omega); omega
    · have e : n.tmod 4294967296 = -((-n).tmod 4294967296) := by rw [Int.neg_tmod]; omega
      have := tmod_range (x := -n) (y := 4294967296) (by omega) (by omega); omega
  generalize n.tmod 4294967296 = m at hm
  refine Ok.bif (fun hb => ?_) (fun hb => ?_)
  · simp only [decide_eq_true_eq] at hb
    rw [wrap_id (by omega) (by omega)]; exact Ok.of (by omega)
  simp only [decide_eq_false_iff_not] at hb
  refine Ok.bif (fun hc => ?_) (fun hc => ?_)
  · simp only [decide_eq_true_eq] at hc
    rw [wrap_id (by omega) (by omega)]; exact Ok.of (by omega)
  · simp only [decide_eq_false_iff_not] at hc
    exact Ok.of (by omega)

/-- A number that was picked names a place in a list. -/
theorem pick_geti {α : Type} {l : List α} {x n : Int} (h : 0 ≤ x ∧ (1 ≤ n → x < n) ∧ (n < 1 → x = 0)) (hn : 1 ≤ n) (hl : (l.length : Int) = n) : Ok (geti l x) fun y => y ∈ l :=
  (Ok.geti h.1 (by have := h.2.1 hn; omega)).mono fun y hy => hy.1

theorem wrap_wf (n : Int) : wfI (wrap64 n) := by unfold wfI wrap64; omega

theorem l91Word_ok {b : List Int} {p m : Int} (h : Rd b p m) (hm : m ≤ 999999990) : Ok (spec_l91Word b p) fun r => Rd r.2.1 r.2.2 (m + 5) ∧ (-2147483648 ≤ r.1 ∧ r.1 ≤ 2147483647) := by
  apply Ok.le (spec_l91Word_le b p)
  refine Ok.bnd (pick_ok h (by omega) (by decide)) fun r1 h1 => ?_
  refine Ok.bif (fun _ => ?_) (fun _ => ?_)
  · refine Ok.bnd (pick_ok h1.1 (by omega) (by decide)) fun r2 h2 => ?_
    refine Ok.bnd (pick_geti h2.2 (by omega) rfl) fun e he => ?_
    refine Ok.of ⟨h2.1.mono (by omega), ?_⟩
    simp only [List.mem_cons, List.not_mem_nil, or_false] at he
    dsimp only
    omega
  refine Ok.bif (fun _ => ?_) (fun _ => ?_)
  · refine Ok.bnd (pick_ok h1.1 (by omega) (by decide)) fun r2 h2 => ?_
    refine Ok.bnd (pick_ok h2.1 (by omega) (by decide)) fun r3 h3 => ?_
    refine Ok.bnd (pick_ok h3.1 (by omega) (by decide)) fun r4 h4 => ?_
    refine Ok.bnd (pick_ok h4.1 (by omega) (by decide)) fun r5 h5 => ?_
    refine Ok.bnd (spec_Wrap_eq _ (wrap_wf _)) fun r6 h6 => ?_
    exact Ok.of ⟨h5.1.mono (by omega), h6⟩
  refine Ok.bif (fun _ => ?_) (fun _ => ?_)
  · refine Ok.bnd (pick_ok h1.1 (by omega) (by decide)) fun r2 h2 => ?_
    have := h2.2.2.1 (by omega)
    rw [wrap_id (by omega) (by omega)]
    exact Ok.of ⟨h2.1.mono (by omega), by dsimp only; omega⟩
  · refine Ok.bnd (pick_ok h1.1 (by omega) (by decide)) fun r2 h2 => ?_
    have := h2.2.2.1 (by omega)
    exact Ok.of ⟨h2.1.mono (by omega), by dsimp only; omega⟩

theorem l91Op_ok {b : List Int} {p m : Int} (h : Rd b p m) (hm : m ≤ 999999990) : Ok (spec_l91Op b p) fun r => Rd r.2.1 r.2.2 (m + 1) ∧ (1 ≤ r.1 ∧ r.1 ≤ 12) := by
  apply Ok.le (spec_l91Op_le b p)
  refine Ok.bnd (pick_ok h (by omega) (by decide)) fun r1 h1 => ?_
  have := h1.2.2.1 (by omega)
  rw [wrap_id (by omega) (by omega)]
  exact Ok.of ⟨h1.1, by dsimp only; omega⟩

theorem l93Reg_ok {b : List Int} {p m : Int} (h : Rd b p m) (hm : m ≤ 999999990) : Ok (spec_l93Reg b p) fun r => Rd r.2.1 r.2.2 (m + 1) ∧ (0 ≤ r.1 ∧ r.1 ≤ 5) := by
  apply Ok.le (spec_l93Reg_le b p)
  refine Ok.bnd (pick_ok h (by omega) (by decide)) fun r1 h1 => ?_
  have := h1.2.2.1 (by omega)
  exact Ok.of ⟨h1.1, by dsimp only; omega⟩

theorem l93Quad_ok {b : List Int} {p m n : Int} (h : Rd b p m) (hm : m ≤ 999999900) (hn : wfI n) : Ok (spec_l93Quad n b p) fun r => Rd r.2.1 r.2.2 (m + 8) := by
  apply Ok.le (spec_l93Quad_le n b p)
  refine Ok.bnd (pick_ok h (by omega) (by decide)) fun r1 h1 => ?_
  have two : Ok (Vs.bnd (spec_l93Reg r1.2.1 r1.2.2) fun r2 => Vs.bnd (spec_l91Word r2.2.1 r2.2.2) fun r3 => Vs.bnd (spec_l6Rd_pick 4 r3.2.1 r3.2.2) fun r4 => Vs.bnd (geti ([0, 1, 2, r3.1] : List Int) r4.1) fun e5 => some ((⟨1, r2.1, 0, 0, e5⟩ : Quad), r4.2.1, r4.2.2)) fun r => Rd r.2.1 r.2.2 (m + 8) := by
    refine Ok.bnd (l93Reg_ok h1.1 (by omega)) fun r2 h2 => ?_
    refine Ok.bnd (l91Word_ok h2.1 (by omega)) fun r3 h3 => ?_
    refine Ok.bnd (pick_ok h3.1 (by omega) (by decide)) fun r4 h4 => ?_
    refine Ok.bnd (pick_geti h4.2 (by omega) rfl) fun e he => ?_
    exact Ok.of (h4.1.mono (by omega))
  have copy : Ok (Vs.bnd (spec_l93Reg r1.2.1 r1.2.2) fun r10 => Vs.bnd (spec_l93Reg r10.2.1 r10.2.2) fun r11 => some ((⟨2, r10.1, r11.1, 0, 0⟩ : Quad), r11.2.1, r11.2.2)) fun r => Rd r.2.1 r.2.2 (m + 8) := by
    refine Ok.bnd (l93Reg_ok h1.1 (by omega)) fun r2 h2 => ?_
    refine Ok.bnd (l93Reg_ok h2.1 (by omega)) fun r3 h3 => ?_
    exact Ok.of (h3.1.mono (by omega))
  have bin : Ok (Vs.bnd (spec_l93Reg r1.2.1 r1.2.2) fun r14 => Vs.bnd (spec_l93Reg r14.2.1 r14.2.2) fun r15 => Vs.bnd (spec_l93Reg r15.2.1 r15.2.2) fun r16 => Vs.bnd (spec_l91Op r16.2.1 r16.2.2) fun r17 => some ((⟨3, r14.1, r15.1, r16.1, r17.1⟩ : Quad), r17.2.1, r17.2.2)) fun r => Rd r.2.1 r.2.2 (m + 8) := by
    refine Ok.bnd (l93Reg_ok h1.1 (by omega)) fun r2 h2 => ?_
    refine Ok.bnd (l93Reg_ok h2.1 (by omega)) fun r3 h3 => ?_
    refine Ok.bnd (l93Reg_ok h3.1 (by omega)) fun r4 h4 => ?_
    refine Ok.bnd (l91Op_ok h4.1 (by omega)) fun r5 h5 => ?_
    exact Ok.of (h5.1.mono (by omega))
  refine Ok.bif (fun _ => two) (fun _ => ?_)
  refine Ok.bif (fun _ => two) (fun _ => ?_)
  refine Ok.bif (fun _ => copy) (fun _ => ?_)
  refine Ok.bif (fun _ => copy) (fun _ => ?_)
  refine Ok.bif (fun _ => bin) (fun _ => ?_)
  refine Ok.bif (fun _ => bin) (fun _ => ?_)
  refine Ok.bif (fun _ => bin) (fun _ => ?_)
  refine Ok.bif (fun _ => ?_) (fun _ => ?_)
  · refine Ok.bnd (pick_ok h1.1 (by omega) hn) fun r2 h2 => ?_
    exact Ok.of (h2.1.mono (by omega))
  refine Ok.bif (fun _ => ?_) (fun _ => ?_)
  · refine Ok.bnd (l93Reg_ok h1.1 (by omega)) fun r2 h2 => ?_
    refine Ok.bnd (pick_ok h2.1 (by omega) hn) fun r3 h3 => ?_
    exact Ok.of (h3.1.mono (by omega))
  refine Ok.bif (fun _ => ?_) (fun _ => ?_)
  · refine Ok.bnd (l93Reg_ok h1.1 (by omega)) fun r2 h2 => ?_
    refine Ok.bnd (pick_ok h2.1 (by omega) (by decide)) fun r3 h3 => ?_
    exact Ok.of (h3.1.mono (by omega))
  refine Ok.bif (fun _ => ?_) (fun _ => ?_)
  · refine Ok.bnd (l93Reg_ok h1.1 (by omega)) fun r2 h2 => ?_
    refine Ok.bnd (pick_ok h2.1 (by omega) (by decide)) fun r3 h3 => ?_
    exact Ok.of (h3.1.mono (by omega))
  refine Ok.bnd (pick_ok h1.1 (by omega) (by decide)) fun r2 h2 => ?_
  refine Ok.bif (fun _ => ?_) (fun _ => ?_)
  · exact Ok.of (h2.1.mono (by omega))
  refine Ok.bnd (l93Reg_ok h2.1 (by omega)) fun r3 h3 => ?_
  exact Ok.of (h3.1.mono (by omega))

theorem l93Wrong_ok {b : List Int} {p m : Int} (h : Rd b p m) (hm : m ≤ 999999000) : Ok (spec_l93Wrong b p) fun r => Rd r.2.1 r.2.2 (m + 20) := by
  apply Ok.le (spec_l93Wrong_le b p)
  refine Ok.bnd (l93Quad_ok h (by omega) (by decide)) fun r1 h1 => ?_
  refine Ok.bnd (pick_ok h1 (by omega) (by decide)) fun r2 h2 => ?_
  refine Ok.bif (fun _ => ?_) (fun _ => ?_)
  all_goals
    refine Ok.bnd (pick_ok h2.1 (by omega) (by decide)) fun r3 h3 => ?_
    refine Ok.bif (fun _ => Ok.of (h3.1.mono (by omega))) (fun _ => ?_)
    refine Ok.bif (fun _ => Ok.of (h3.1.mono (by omega))) (fun _ => ?_)
    refine Ok.bif (fun _ => ?_) (fun _ => ?_)
    · refine Ok.bnd (pick_ok h3.1 (by omega) (by decide)) fun r4 h4 => ?_
      refine Ok.bnd (pick_geti h4.2 (by omega) rfl) fun e he => ?_
      exact Ok.of (h4.1.mono (by omega))
    exact Ok.bif (fun _ => Ok.of (h3.1.mono (by omega))) (fun _ => Ok.of (h3.1.mono (by omega)))

theorem DrawQuadValid_ok {a : List Int} (h : wfBs a) : Ok (spec_DrawQuadValid a) fun r => 5 ≤ r.2 ∧ r.2 ≤ 24 := by
  apply Ok.le (spec_DrawQuadValid_le a)
  refine Ok.bnd (open_ok h) fun r1 h1 => ?_
  refine Ok.bnd (l93Wrong_ok h1 (by omega)) fun r2 h2 => ?_
  refine Ok.bnd (pick_ok h2 (by omega) (by decide)) fun r3 h3 => ?_
  have := h3.2.2.1 (by omega)
  rw [wrap_id (by omega) (by omega)]
  exact Ok.of (by dsimp only; omega)

theorem quadOk_facts {q : Quad} {many : Int} (h : quadOk q many) : q.dst < 12 ∧ q.a < 12 ∧ (q.op = 3 ∨ q.b = 0) ∧ ((q.op = 4 ∨ q.op = 8 ∨ q.op = 10) → q.dst = 0) ∧ ((q.op = 4 ∨ q.op = 5) → q.n < many) := by
  unfold quadOk at h
  rcases h with h | h | h | h | h | h | h | h | h <;> omega

theorem quadOk_mono {q : Quad} {m n : Int} (h : quadOk q m) (hm : m ≤ n) : quadOk q n := by
  unfold quadOk at h ⊢
  rcases h with h | h | h | h | h | h | h | h | h
  · exact .inl h
  · exact .inr (.inl h)
  · exact .inr (.inr (.inl h))
  · exact .inr (.inr (.inr (.inl ⟨h.1, h.2.1, h.2.2.1, h.2.2.2.1, h.2.2.2.2.1, by omega⟩)))
  · exact .inr (.inr (.inr (.inr (.inl ⟨h.1, h.2.1, h.2.2.1, h.2.2.2.1, h.2.2.2.2.1, by omega⟩))))
  · exact .inr (.inr (.inr (.inr (.inr (.inl h)))))
  · exact .inr (.inr (.inr (.inr (.inr (.inr (.inl h))))))
  · exact .inr (.inr (.inr (.inr (.inr (.inr (.inr (.inl h)))))))
  · exact .inr (.inr (.inr (.inr (.inr (.inr (.inr (.inr h)))))))

theorem laws_FnQuad_eq (a : List Int) (h : wfBs a) (c : List Int) (h' : wfBs c) : laws_FnQuad a c = some true := by
  apply laws_FnQuad_le
  apply Ok.some
  refine Ok.bif (fun _ => Ok.of rfl) (fun _ => ?_)
  refine Ok.bif (fun _ => Ok.of rfl) (fun hc => ?_)
  simp only [decide_eq_false_iff_not] at hc
  refine Ok.bnd (DrawQuadValid_ok h) fun r hr => ?_
  obtain ⟨q, many⟩ := r
  dsimp only at hr ⊢
  simp only [spec_QuadValid_eq, impl_QuadValid_eq, bnd_some]
  have hm := tmod_range (x := (c.length : Int)) (y := 100) (by omega) (by omega)
  generalize (c.length : Int).tmod 100 = k at hm
  have e1 : wrap64 (many + 1) = many + 1 := wrap_id (by omega) (by omega)
  have e2 : wrap64 (many + 1 + k) = many + 1 + k := wrap_id (by omega) (by omega)
  rw [e1, e2]
  by_cases hq : quadOk q many
  · have hq2 : quadOk q (many + 1 + k) := quadOk_mono hq (by omega)
    by_cases h4 : q.op = 4
    · have hq3 : ¬ quadOk q q.n := fun hx => by have := quadOk_facts hx; omega
      simp [hq, hq2, h4, hq3]; exact Ok.of rfl
    · by_cases h5 : q.op = 5
      · have hq3 : ¬ quadOk q q.n := fun hx => by have := quadOk_facts hx; omega
        simp [hq, hq2, h5, hq3]; exact Ok.of rfl
      · simp [hq, hq2, h4, h5]; exact Ok.of rfl
  · simp [hq]; exact Ok.of rfl
end Go.TFnQuad
