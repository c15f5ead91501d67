/- The plain law: what the functions answer. -/
import Derived.Test.YtpkgdoapdijmeaaDFnOutcomeE0
import Derived.Test.YtpkgdoapdijmeaaDFnOutcomeE1
import Derived.Test.YtpkgdoapdijmeaaDFnOutcomeE2
import Derived.Test.YtpkgdoapdijmeaaLkA
set_option linter.unusedVariables false
set_option linter.unusedSimpArgs false
namespace Go.TFnOutcome
open Go Go.RowKit Go.Vs Go.Tv
theorem spec_l6In_eq (a b c : Int) : spec_l6In a b c = some (decide (b ≤ a ∧ a ≤ c)) := by
  apply spec_l6In_le
  by_cases h : b ≤ a <;> simp [h]

theorem spec_OpValid_eq (a : Int) : spec_OpValid a = some (decide (1 ≤ a ∧ a ≤ 12)) := by
  apply spec_OpValid_le; simp [spec_l6In_eq]

theorem spec_WordValid_eq (a : Int) : spec_WordValid a = some (decide (-2147483648 ≤ a ∧ a ≤ 2147483647)) := by
  apply spec_WordValid_le; simp [spec_l6In_eq]

theorem impl_OpValid_eq (a : Int) : impl_OpValid a = some (decide (1 ≤ a ∧ a ≤ 12)) := by
  apply impl_OpValid_le
  by_cases h : 1 ≤ a <;> simp [h]

theorem impl_WordValid_eq (a : Int) : impl_WordValid a = some (decide (-2147483648 ≤ a ∧ a ≤ 2147483647)) := by
  apply impl_WordValid_le
  by_cases h : -2147483648 ≤ a <;> simp [h]

/-- A reader of bytes: how far it may have come. -/
def Rd (b : List Int) (p m : Int) : Prop := (∀ x ∈ b, 0 ≤ x ∧ x ≤ 255) ∧ (b.length : Int) ≤ 2000 ∧ 0 ≤ p ∧ p ≤ m

theorem Rd.mono {b : List Int} {p m n : Int} (h : Rd b p m) (hm : m ≤ n) : Rd b p n := ⟨h.1, h.2.1, h.2.2.1, by have := h.2.2.2; omega⟩

theorem open_ok {a : List Int} (h : wfBs a) : Ok (spec_l6Open a) fun r => Rd r.1 r.2 0 := by
  apply Ok.le (spec_l6Open_le a)
  refine Ok.bif (fun hb => ?_) (fun hb => ?_)
  · simp only [decide_eq_true_eq] at hb
    have : cutL a 0 2000 = some (a.take 2000) := by
      unfold cutL
      rw [if_pos (by omega)]
      simp
    rw [this]
    refine Ok.of ⟨fun x hx => h x (List.mem_of_mem_take hx), ?_, by omega, by omega⟩
    simp only [List.length_take]; omega
  · simp only [decide_eq_false_iff_not] at hb
    exact Ok.of ⟨h, (by show (a.length : Int) ≤ 2000; omega), by omega, by omega⟩

theorem u8_get {b : List Int} (h : ∀ x ∈ b, 0 ≤ x ∧ x ≤ 255) {n : Int} (h0 : 0 ≤ n) (h1 : n < b.length) : Ok (geti b n) fun x => 0 ≤ x ∧ x ≤ 255 :=
  (Ok.geti h0 h1).mono fun x hx => h x hx.1

theorem pick_ok {b : List Int} {p m n : Int} (h : Rd b p m) (hm : m ≤ 1000000000) (hn : wfI n) :
    Ok (spec_l6Rd_pick n b p) fun r => Rd r.2.1 r.2.2 (m + 1) ∧ 0 ≤ r.1 ∧ (1 ≤ n → r.1 < n) ∧ (n < 1 → r.1 = 0) := by
  obtain ⟨h1, h2, h3, h4⟩ := h
  obtain ⟨n1, n2⟩ := hn
  apply Ok.le (spec_l6Rd_pick_le n b p)
  have e1 : wrap64 (p + 1) = p + 1 := wrap_id (by omega) (by omega)
  have e2 : wrap64 (p + 1 - 1) = p := by rw [show p + 1 - 1 = p by omega]; exact wrap_id (by omega) (by omega)
  rw [e1, e2]
  have hR : Rd b (p + 1) (m + 1) := ⟨h1, h2, by omega, by omega⟩
  refine Ok.bif (fun hb => ?_) (fun hb => ?_)
  · simp only [decide_eq_true_eq] at hb
    exact Ok.of ⟨hR, by omega, by omega, by omega⟩
  simp only [decide_eq_false_iff_not] at hb
  refine Ok.bif (fun hc => ?_) (fun hc => ?_)
  · exact Ok.of ⟨hR, by omega, by omega, by omega⟩
  simp only [decide_eq_false_iff_not] at hc
  refine Ok.bif (fun hd => ?_) (fun hd => ?_)
  · simp only [decide_eq_true_eq] at hd
    refine Ok.bnd (u8_get h1 h3 hd) fun x hx => ?_
    rw [wrap_id (by omega) (by omega), remI_pos (by omega)]
    have := tmod_range (y := n) hx.1 (by omega)
    exact Ok.of ⟨hR, this.1, fun _ => this.2, by omega⟩
  · simp only [decide_eq_false_iff_not] at hd
    have hl : 0 < (b.length : Int) := by omega
    rw [remI_pos (by omega), bnd_some]
    have t1 := tmod_range (x := p) h3 hl
    refine Ok.bnd (u8_get h1 t1.1 t1.2) fun x hx => ?_
    have e3 : wrap64 (p * 7) = p * 7 := wrap_id (by omega) (by omega)
    have e4 : wrap64 (p * 7 + 3) = p * 7 + 3 := wrap_id (by omega) (by omega)
    rw [e3, e4, remI_pos (by omega), bnd_some]
    have t2 := tmod_range (x := p * 7 + 3) (by omega) hl
    refine Ok.bnd (u8_get h1 t2.1 t2.2) fun y hy => ?_
    rw [quoI_pos (by omega), bnd_some]
    have q0 : 0 ≤ p.tdiv b.length ∧ p.tdiv b.length ≤ p := by
      rw [Int.tdiv_eq_ediv_of_nonneg h3]
      exact ⟨Int.ediv_nonneg h3 (by omega), Int.ediv_le_self _ h3⟩
    generalize hq : p.tdiv b.length = q at q0
    have hx2 : wrap64 x = x := wrap_id (by omega) (by omega)
    have hy2 : wrap64 y = y := wrap_id (by omega) (by omega)
    have hq2 : wrap64 q = q := wrap_id (by omega) (by omega)
    rw [hx2, hy2, hq2]
    have f1 : wrap64 (x * 131) = x * 131 := wrap_id (by omega) (by omega)
    have f2 : wrap64 (y * 1117) = y * 1117 := wrap_id (by omega) (by omega)
    have f3 : wrap64 (p * 29) = p * 29 := wrap_id (by omega) (by omega)
    have f4 : wrap64 (q * 53) = q * 53 := wrap_id (by omega) (by omega)
    rw [f1, f2, f3, f4]
    have f5 : wrap64 (x * 131 + y * 1117) = x * 131 + y * 1117 := wrap_id (by omega) (by omega)
    rw [f5]
    have f6 : wrap64 (x * 131 + y * 1117 + p * 29) = x * 131 + y * 1117 + p * 29 := wrap_id (by omega) (by omega)
    rw [f6]
    have f7 : wrap64 (x * 131 + y * 1117 + p * 29 + q * 53) = x * 131 + y * 1117 + p * 29 + q * 53 := wrap_id (by omega) (by omega)
    rw [f7]
    generalize hz : x * 131 + y * 1117 + p * 29 + q * 53 = z
    have hz0 : 0 ≤ z ∧ z < 1000000000000 := by omega
    have hd2 : 0 ≤ z.tdiv 64 ∧ z.tdiv 64 ≤ z := by
      rw [Int.tdiv_eq_ediv_of_nonneg hz0.1]
      omega
    rw [wrap_id (n := z.tdiv 64) (by omega) (by omega), remI_pos (by omega), bnd_some]
    have hxor := xor_nonneg (x := z) (y := z.tdiv 64) hz0.1 (by omega) hd2.1 (by omega)
    have t3 := tmod_range (y := n) hxor.1 (by omega)
    exact Ok.of ⟨hR, t3.1, fun _ => t3.2, by omega⟩

/-- A turn's end. -/
def nextT (many turn idle code : Int) : Int × Int × Bool :=
  if 1 ≤ many ∧ many ≤ 3 ∧ 0 ≤ turn ∧ turn < many ∧ 0 ≤ idle ∧ idle < many then
    (if code = 1 then (turn, 0, true) else if code = 2 then ((turn + 1) % many, 0, true) else if code = 3 ∨ code = 4 then ((turn + 1) % many, idle + 1, true) else (0, 0, false))
  else (0, 0, false)

theorem rem_turn {many turn : Int} (h1 : 1 ≤ many) (h2 : many ≤ 3) (h3 : 0 ≤ turn) (h4 : turn < many) : remI (wrap64 (turn + 1)) many = some ((turn + 1) % many) := by
  rw [wrap_id (by omega) (by omega), remI_pos (by omega), Int.tmod_eq_emod_of_nonneg (by omega)]

theorem spec_NextTurn_eq (many turn idle code : Int) : spec_NextTurn many turn idle code = some (nextT many turn idle code) := by
  apply spec_NextTurn_le
  unfold nextT
  simp only [spec_l6In_eq, bnd_some]
  by_cases h1 : 1 ≤ many ∧ many ≤ 3
  · have e : wrap64 (many - 1) = many - 1 := wrap_id (by omega) (by omega)
    simp only [e]
    by_cases h2 : 0 ≤ turn ∧ turn ≤ many - 1
    · by_cases h3 : 0 ≤ idle ∧ idle ≤ many - 1
      · rw [if_pos (by omega), rem_turn h1.1 h1.2 h2.1 (by omega)]
        have e2 : wrap64 (idle + 1) = idle + 1 := wrap_id (by omega) (by omega)
        simp only [h1, h2, h3, e2, and_self, decide_true, Bool.not_true, cond_false, bnd_some, Bool.cond_decide]
        split
        · rfl
        split
        · rfl
        by_cases h5 : code = 3
        · simp [h5]
        · by_cases h6 : code = 4 <;> simp [h5, h6]
      · rw [if_neg (by omega)]; simp [h1, h2, h3]
    · rw [if_neg (by omega)]; simp [h1, h2]
  · rw [if_neg (by omega)]; simp [h1]

theorem spec_Wrap_eq (n : Int) (h : wfI n) : Ok (spec_Wrap n) fun r => -2147483648 ≤ r ∧ r ≤ 2147483647 := by
  apply Ok.le (spec_Wrap_le n)
  have hm : -4294967296 < n.tmod 4294967296 ∧ n.tmod 4294967296 < 4294967296 := by
    by_cases h0 : 0 ≤ n
    · have := tmod_range h0 (y := 4294967296) (by omega); omega
    · have e : n.tmod 4294967296 = -((-n).tmod 4294967296) := by rw [Int.neg_tmod]; omega
      have := tmod_range (x := -n) (y := 4294967296) (by omega) (by omega); omega
  generalize n.tmod 4294967296 = m at hm
  refine Ok.bif (fun hb => ?_) (fun hb => ?_)
  · simp only [decide_eq_true_eq] at hb
    rw [wrap_id (by omega) (by omega)]; exact Ok.of (by omega)
  simp only [decide_eq_false_iff_not] at hb
  refine Ok.bif (fun hc => ?_) (fun hc => ?_)
  · simp only [decide_eq_true_eq] at hc
    rw [wrap_id (by omega) (by omega)]; exact Ok.of (by omega)
  · simp only [decide_eq_false_iff_not] at hc
    exact Ok.of (by omega)

/-- A number that was picked names a place in a list. -/
theorem pick_geti {α : Type} {l : List α} {x n : Int} (h : 0 ≤ x ∧ (1 ≤ n → x < n) ∧ (n < 1 → x = 0)) (hn : 1 ≤ n) (hl : (l.length : Int) = n) : Ok (geti l x) fun y => y ∈ l :=
  (Ok.geti h.1 (by have := h.2.1 hn; omega)).mono fun y hy => hy.1

theorem wrap_wf (n : Int) : wfI (wrap64 n) := by unfold wfI wrap64; omega

theorem l91Op_ok {b : List Int} {p m : Int} (h : Rd b p m) (hm : m ≤ 999999990) : Ok (spec_l91Op b p) fun r => Rd r.2.1 r.2.2 (m + 1) ∧ (1 ≤ r.1 ∧ r.1 ≤ 12) := by
  apply Ok.le (spec_l91Op_le b p)
  refine Ok.bnd (pick_ok h (by omega) (by decide)) fun r1 h1 => ?_
  have := h1.2.2.1 (by omega)
  rw [wrap_id (by omega) (by omega)]
  exact Ok.of ⟨h1.1, by dsimp only; omega⟩

theorem geti_some {α : Type} {l : List α} {i : Nat} (h : i < l.length) : geti l (i : Int) = some l[i] := by
  rw [geti_nat', List.getElem?_eq_getElem h]

theorem wrap_succ {i : Nat} (h : (i : Int) < 9223372036854775807) : wrap64 ((i : Int) + 1) = ((i + 1 : Nat) : Int) := by
  rw [wrap_id (by omega) (by omega)]; omega

theorem exp_eta (e : Exp) : (⟨e.op, e.n, e.args⟩ : Exp) = e := by cases e; rfl

theorem stm_eta (s : Stm) : (⟨s.kind, s.var, s.box, ⟨s.e.op, s.e.n, s.e.args⟩, s.body, s.els⟩ : Stm) = s := by
  obtain ⟨k, v, b, e, bd, el⟩ := s
  cases e; rfl

mutual
theorem Exp.ind {P : Exp → Prop} (h : ∀ e : Exp, (∀ a ∈ e.args, P a) → P e) : ∀ e : Exp, P e
  | ⟨o, n, as⟩ => h ⟨o, n, as⟩ (Exp.inds h as)
theorem Exp.inds {P : Exp → Prop} (h : ∀ e : Exp, (∀ a ∈ e.args, P a) → P e) : ∀ l : List Exp, ∀ a ∈ l, P a
  | [], a, ha => by cases ha
  | e :: r, a, ha => by
    rcases List.mem_cons.1 ha with e1 | h1
    · rw [e1]; exact Exp.ind h e
    · exact Exp.inds h r a h1
end

mutual
theorem Stm.ind {P : Stm → Prop} (h : ∀ s : Stm, (∀ a ∈ s.body, P a) → (∀ a ∈ s.els, P a) → P s) : ∀ s : Stm, P s
  | ⟨k, v, b, e, bd, el⟩ => h ⟨k, v, b, e, bd, el⟩ (Stm.inds h bd) (Stm.inds h el)
theorem Stm.inds {P : Stm → Prop} (h : ∀ s : Stm, (∀ a ∈ s.body, P a) → (∀ a ∈ s.els, P a) → P s) : ∀ l : List Stm, ∀ a ∈ l, P a
  | [], a, ha => by cases ha
  | e :: r, a, ha => by
    rcases List.mem_cons.1 ha with e1 | h1
    · rw [e1]; exact Stm.ind h e
    · exact Stm.inds h r a h1
end

/-- Is an expression valid with at most some depth? -/
def expOk : Nat → Exp → Bool
  | 0, _ => false
  | d + 1, e =>
    if e.op = 0 then decide (0 ≤ e.n ∧ e.n ≤ 99999) && e.args.isEmpty
    else if e.op = 13 then decide (0 ≤ e.n ∧ e.n < 4) && e.args.isEmpty
    else decide (1 ≤ e.op ∧ e.op ≤ 12) && decide (e.n = 0) && match e.args with | [a, b] => expOk d a && expOk d b | _ => false

theorem len0 {α : Type} (l : List α) : ((l.length : Int) = 0) ↔ l = [] := by
  constructor
  · intro h; exact List.eq_nil_of_length_eq_zero (by omega)
  · intro h; subst h; rfl

theorem two_args {l : List Exp} : ((l.length : Int) = 2) ↔ ∃ a b, l = [a, b] := by
  constructor
  · intro h
    match l, h with
    | [a, b], _ => exact ⟨a, b, rfl⟩
    | [], h => simp at h
    | [_], h => simp at h
    | _ :: _ :: _ :: _, h => simp at h; omega
  · rintro ⟨a, b, rfl⟩; rfl

theorem geti0 {α : Type} (a : α) (l : List α) : geti (a :: l) 0 = some a := by simp [geti]

theorem geti1 {α : Type} (a b : α) (l : List α) : geti (a :: b :: l) 1 = some b := by simp [geti]

theorem pred_d (d : Nat) (h : d ≤ 5) : wrap64 (((d + 1 : Nat) : Int) - 1) = (d : Int) := by rw [wrap_id (by omega) (by omega)]; omega

theorem impl_exprValid_eq : ∀ (d : Nat) (e : Exp), d ≤ 5 → impl_exprValid e (d : Int) = some (expOk d e)
  | d, e, hd => by
    apply impl_exprValid_le
    simp only [impl_OpValid_eq, bnd_some, exp_eta]
    by_cases h0 : e.op = 0
    · cases d with
      | zero => by_cases h1 : 0 ≤ e.n <;> by_cases h2 : e.n ≤ 99999 <;> by_cases h3 : e.args = [] <;> simp [h0, h1, h2, h3, expOk, len0]
      | succ d => by_cases h1 : 0 ≤ e.n <;> by_cases h2 : e.n ≤ 99999 <;> by_cases h3 : e.args = [] <;> simp [h0, h1, h2, h3, expOk, len0] <;> omega
    · by_cases h13 : e.op = 13
      · cases d with
        | zero => by_cases h1 : 0 ≤ e.n <;> by_cases h2 : e.n < 4 <;> by_cases h3 : e.args = [] <;> simp [h13, h1, h2, h3, expOk, len0]
        | succ d => by_cases h1 : 0 ≤ e.n <;> by_cases h2 : e.n < 4 <;> by_cases h3 : e.args = [] <;> simp [h13, h1, h2, h3, expOk, len0] <;> omega
      · by_cases h1 : 1 ≤ e.op ∧ e.op ≤ 12
        · by_cases h2 : e.n = 0
          · by_cases h3 : (e.args.length : Int) = 2
            · obtain ⟨a, b, hab⟩ := two_args.1 h3
              cases d with
              | zero => simp [h0, h13, h1, h2, h3, expOk]
              | succ d =>
                cases d with
                | zero => simp [h0, h13, h1, h2, h3, expOk, hab]
                | succ d =>
                  have hd1 : (1 : Int) < (d : Int) + 1 + 1 := by omega
                  rw [pred_d (d + 1) (by omega), hab, geti0, geti1]
                  simp only [bnd_some, impl_exprValid_eq (d + 1) _ (by omega)]
                  have e1 : expOk (d + 1 + 1) e = (expOk (d + 1) a && expOk (d + 1) b) := by
                    rw [expOk]; simp [h0, h13, h1, h2, hab]
                  rw [e1]
                  cases expOk (d + 1) a <;> simp [h0, h13, h1, h2, hd1]
            · have hm : (match e.args with | [a, b] => (fun d => expOk d a && expOk d b) | _ => fun _ => false) = fun _ => false := by
                split
                · rename_i a b hab; exact absurd (two_args.2 ⟨a, b, hab⟩) h3
                · rfl
              have e1 : expOk d e = false := by
                cases d with
                | zero => rfl
                | succ d =>
                  rw [expOk]; simp only [h0, h13, if_false]
                  split
                  · rename_i a b hab; exact absurd (two_args.2 ⟨a, b, hab⟩) h3
                  · simp
              rw [e1]; simp [h0, h13, h1, h2, h3]
          · have e1 : expOk d e = false := by cases d <;> simp [expOk, h0, h13, h2]
            rw [e1]; simp [h0, h13, h1, h2]
        · have e1 : expOk d e = false := by cases d <;> simp [expOk, h0, h13, h1]
          rw [e1]; simp [h0, h13, h1]

theorem impl_ExprValid_eq (e : Exp) : impl_ExprValid e = some (expOk 5 e) := by
  apply impl_ExprValid_le
  rw [exp_eta, show (5 : Int) = ((5 : Nat) : Int) by rfl, impl_exprValid_eq 5 e (by omega)]
  rfl

theorem spec_l4Ok_eq : ∀ (d : Nat) (e : Exp), d ≤ 5 → spec_l4Ok e (d : Int) = some (expOk d e)
  | 0, e, hd => by
    apply spec_l4Ok_le
    simp [expOk]
  | d + 1, e, hd => by
    apply spec_l4Ok_le
    have hd0 : ¬ (((d + 1 : Nat) : Int) < 1) := by omega
    simp only [spec_l6In_eq, spec_OpValid_eq, bnd_some, exp_eta, hd0, decide_false, cond_false, expOk]
    by_cases h0 : e.op = 0
    · by_cases h1 : 0 ≤ e.n ∧ e.n ≤ 99999 <;> by_cases h3 : e.args = [] <;> simp [h0, h1, h3, len0]
    · by_cases h13 : e.op = 13
      · have e3 : (e.n < 4) = (e.n ≤ 3) := propext (by omega)
        by_cases h1 : 0 ≤ e.n ∧ e.n ≤ 3 <;> by_cases h3 : e.args = [] <;> simp [h13, h1, h3, len0, e3]
      · by_cases h1 : 1 ≤ e.op ∧ e.op ≤ 12
        · by_cases h2 : e.n = 0
          · by_cases h3 : (e.args.length : Int) = 2
            · obtain ⟨a, b, hab⟩ := two_args.1 h3
              rw [pred_d d (by omega), hab, geti0, geti1]
              simp only [bnd_some, spec_l4Ok_eq d _ (by omega)]
              cases expOk d a <;> simp [h0, h13, h1, h2]
            · have e1 : (match e.args with | [a, b] => expOk d a && expOk d b | _ => false) = false := by
                split
                · rename_i a b hab; exact absurd (two_args.2 ⟨a, b, hab⟩) h3
                · rfl
              rw [e1]; simp [h0, h13, h1, h2, h3]
          · simp [h0, h13, h1, h2]
        · simp [h0, h13, h1]

theorem spec_ExprValid_eq (e : Exp) : spec_ExprValid e = some (expOk 5 e) := by
  apply spec_ExprValid_le
  rw [exp_eta, show (5 : Int) = ((5 : Nat) : Int) by rfl, spec_l4Ok_eq 5 e (by omega)]
  rfl

/-- A valid expression is a number, a variable, or an operation on two valid ones. -/
theorem expOk_cases {d : Nat} {e : Exp} (h : expOk (d + 1) e = true) : (e.op = 0 ∧ e.args = [] ∧ 0 ≤ e.n ∧ e.n ≤ 99999) ∨ (e.op = 13 ∧ e.args = [] ∧ 0 ≤ e.n ∧ e.n < 4) ∨
    (1 ≤ e.op ∧ e.op ≤ 12 ∧ e.n = 0 ∧ ∃ a b, e.args = [a, b] ∧ expOk d a = true ∧ expOk d b = true) := by
  unfold expOk at h
  split at h
  · rename_i h0; simp at h; exact .inl ⟨h0, h.2, h.1⟩
  · split at h
    · rename_i h0; simp at h; exact .inr (.inl ⟨h0, h.2, h.1⟩)
    · simp only [Bool.and_eq_true, decide_eq_true_eq] at h
      obtain ⟨⟨h1, h2⟩, h3⟩ := h
      split at h3
      · rename_i a b hab
        simp only [Bool.and_eq_true] at h3
        exact .inr (.inr ⟨h1.1, h1.2, h2, a, b, hab, h3.1, h3.2⟩)
      · cases h3

theorem w1 : wrap64 1 = 1 := by unfold wrap64; omega

theorem appL_some {α : Type} {x y : List α} (h : x.length + y.length ≤ 4294967296) : appL x y = some (x ++ y) := by unfold appL; rw [if_pos h]

/-- A drawn expression's slice of arguments has no room. -/
def noRoom (m : Md) : Prop := m = .own false ∨ m = .full

theorem noRoom_dem {m : Md} (h : noRoom m) : noRoom m.dem := by rcases h with rfl | rfl; exact .inl rfl; exact .inr rfl

theorem l4Leaf_eq (o n : Int) : spec_l4Leaf o n = some (o, n, .own false, []) := by apply spec_l4Leaf_le; rfl

theorem l4Both_eq (o : Int) (a b : Exp) : spec_l4Both o a b = some (o, 0, .full, [a, b]) := by apply spec_l4Both_le; simp [exp_eta]

theorem l91Leaf_ok {b : List Int} {p m : Int} (h : Rd b p m) (hm : m ≤ 999999990) : Ok (spec_l91Leaf b p) fun r => Rd r.2.2.2.1 r.2.2.2.2 (m + 2) ∧ noRoom r.2.2.1.1 ∧ r.2.2.1.2.length ≤ 2 := by
  apply Ok.le (spec_l91Leaf_le b p)
  refine Ok.bnd (pick_ok h (by omega) (by decide)) fun r1 h1 => ?_
  refine Ok.bif (fun _ => ?_) (fun _ => ?_)
  · refine Ok.bnd (pick_ok h1.1 (by omega) (by decide)) fun r2 h2 => ?_
    rw [l4Leaf_eq, bnd_some]
    exact Ok.of ⟨h2.1.mono (by omega), .inl rfl, by simp⟩
  refine Ok.bif (fun _ => ?_) (fun _ => ?_)
  · refine Ok.bnd (pick_ok h1.1 (by omega) (by decide)) fun r2 h2 => ?_
    refine Ok.bnd (pick_geti h2.2 (by omega) rfl) fun e he => ?_
    rw [l4Leaf_eq, bnd_some]
    exact Ok.of ⟨h2.1.mono (by omega), .inl rfl, by simp⟩
  · refine Ok.bnd (pick_ok h1.1 (by omega) (by decide)) fun r2 h2 => ?_
    rw [l4Leaf_eq, bnd_some]
    exact Ok.of ⟨h2.1.mono (by omega), .inl rfl, by simp⟩

/-- How many bytes an expression takes at most. -/
def cost : Nat → Int
  | 0 => 2
  | d + 1 => 2 + 2 * cost d

theorem cost_pos : ∀ d, 2 ≤ cost d
  | 0 => by simp [cost]
  | d + 1 => by have := cost_pos d; simp only [cost]; omega

theorem l91Expr_ok : ∀ (d : Nat) {b : List Int} {p m : Int} (n : Int), n = (d : Int) + 1 → d ≤ 10 → Rd b p m → m + cost d ≤ 999999990 →
    Ok (spec_l91Expr n b p) fun r => Rd r.2.2.2.1 r.2.2.2.2 (m + cost d) ∧ noRoom r.2.2.1.1 ∧ r.2.2.1.2.length ≤ 2
  | d, b, p, m, n, hn, hd, h, hm => by
    apply Ok.le (spec_l91Expr_le n b p)
    have hc := cost_pos d
    have leaf : ∀ {b : List Int} {p m' : Int}, Rd b p m' → m' + 2 ≤ m + cost d → Ok (Vs.bnd (spec_l91Leaf b p) fun r1 => some (r1.1, r1.2.1, (Md.dem (Md.dem (Md.dem r1.2.2.1.1)), r1.2.2.1.2), r1.2.2.2.1, r1.2.2.2.2)) fun r => Rd r.2.2.2.1 r.2.2.2.2 (m + cost d) ∧ noRoom r.2.2.1.1 ∧ r.2.2.1.2.length ≤ 2 := by
      intro b p m' h' hm'
      refine Ok.bnd (l91Leaf_ok h' (by omega)) fun r1 h1 => ?_
      exact Ok.of ⟨h1.1.mono hm', noRoom_dem (noRoom_dem (noRoom_dem h1.2.1)), h1.2.2⟩
    refine Ok.bif (fun hb => ?_) (fun hb => ?_)
    · exact leaf h (by omega)
    · simp only [decide_eq_false_iff_not] at hb
      obtain ⟨d, rfl⟩ : ∃ d', d = d' + 1 := ⟨d - 1, by omega⟩
      have hc' := cost_pos d
      simp only [cost] at hm ⊢
      refine Ok.bnd (pick_ok h (by omega) (by decide)) fun r1 h1 => ?_
      refine Ok.bif (fun _ => ?_) (fun _ => ?_)
      · exact (leaf h1.1 (by simp only [cost]; omega)).mono fun r hr => hr
      · refine Ok.bnd (l91Op_ok h1.1 (by omega)) fun r2 h2 => ?_
        rw [wrap_id (n := n - 1) (by omega) (by omega)]
        refine Ok.bnd (l91Expr_ok d (n - 1) (by omega) (by omega) h2.1 (by omega)) fun r3 h3 => ?_
        refine Ok.bnd (l91Expr_ok d (n - 1) (by omega) (by omega) h3.1 (by omega)) fun r4 h4 => ?_
        rw [l4Both_eq, bnd_some]
        exact Ok.of ⟨h4.1.mono (by omega), .inr rfl, by simp⟩

theorem shrI_ok {x y : Int} (h : 0 ≤ y) : Ok (shrI .i64 x y) fun _ => True := by
  unfold shrI
  rw [if_neg (by omega)]
  exact Ok.of trivial

mutual
def emX : Exp → Nat
  | ⟨_, _, as⟩ => emXs as
def emXs : List Exp → Nat
  | [] => 0
  | e :: r => 1 + emX e + emXs r
end

mutual
def mS : Stm → Nat
  | ⟨_, _, _, e, bd, el⟩ => emX e + mSs bd + mSs el
def mSs : List Stm → Nat
  | [] => 0
  | s :: r => 1 + mS s + mSs r
end

theorem emX_eq (e : Exp) : emX e = emXs e.args := by cases e; simp [emX]

theorem mS_eq (s : Stm) : mS s = emX s.e + mSs s.body + mSs s.els := by cases s; simp [mS]

theorem mSs_len : ∀ l : List Stm, l.length ≤ mSs l
  | [] => Nat.le_refl _
  | e :: r => by have := mSs_len r; simp only [mSs, List.length_cons]; omega

theorem mS_mem : ∀ {l : List Stm} {e : Stm}, e ∈ l → mS e < mSs l
  | [], e, h => by cases h
  | a :: r, e, h => by
    simp only [mSs]
    rcases List.mem_cons.1 h with rfl | h
    · omega
    · have := mS_mem h; omega

mutual
def cS : Stm → Nat
  | ⟨_, _, _, _, bd, el⟩ => 1 + cSs bd + cSs el
def cSs : List Stm → Nat
  | [] => 0
  | s :: r => cS s + cSs r
end

theorem cS_eq (s : Stm) : cS s = 1 + cSs s.body + cSs s.els := by cases s; simp [cS]

theorem cSs_drop {l : List Stm} {i : Nat} (hi : i < l.length) : cSs (l.drop i) = cS l[i] + cSs (l.drop (i + 1)) := by
  rw [List.drop_eq_getElem_cons hi]; simp only [cSs]

theorem cSs_len : ∀ l : List Stm, l.length ≤ cSs l
  | [] => Nat.le_refl _
  | e :: r => by have := cSs_len r; have := cS_eq e; simp only [cSs, List.length_cons]; omega

mutual
theorem cS_le : ∀ s : Stm, cS s ≤ 1 + mS s
  | ⟨_, _, _, e, bd, el⟩ => by have := cSs_le bd; have := cSs_le el; simp only [cS, mS]; omega
theorem cSs_le : ∀ l : List Stm, cSs l ≤ mSs l
  | [] => Nat.le_refl _
  | s :: r => by have := cS_le s; have := cSs_le r; simp only [cSs, mSs]; omega
end

theorem cS_mem : ∀ {l : List Stm} {e : Stm}, e ∈ l → cS e ≤ cSs l
  | [], e, h => by cases h
  | a :: r, e, h => by
    simp only [cSs]
    rcases List.mem_cons.1 h with rfl | h
    · omega
    · have := cS_mem h; omega

theorem count_ls {l : List Stm} (hp : ∀ s ∈ l, spec_l11Count s.body = some (cSs s.body : Int) ∧ spec_l11Count s.els = some (cSs s.els : Int)) (hb : cSs l ≤ 4294967296) :
    ∀ (d i : Nat) (k : Int), i + d = l.length → 0 ≤ k → k + cSs (l.drop i) ≤ 4294967296 → spec_l11Count_l1 l k i = some (k + cSs (l.drop i))
  | 0, i, k, hd, h0, h1 => by
    apply spec_l11Count_l1_le
    have hi : ¬ ((i : Int) < l.length) := by omega
    rw [List.drop_eq_nil_of_le (by omega)]
    simp [hi, cSs]
  | d + 1, i, k, hd, h0, h1 => by
    apply spec_l11Count_l1_le
    have hi : i < l.length := by omega
    have hi' : (i : Int) < l.length := by omega
    obtain ⟨p1, p2⟩ := hp _ (List.getElem_mem hi)
    have hlen := cSs_len l
    have hc := cSs_drop hi
    have hs := cS_eq l[i]
    rw [geti_some hi, wrap_succ (by omega)]
    simp only [hi', decide_true, cond_true, bnd_some, p1, p2]
    rw [wrap_id (n := k + 1) (by omega) (by omega), wrap_id (n := k + 1 + (cSs l[i].body : Int)) (by omega) (by omega), wrap_id (by omega) (by omega),
      count_ls hp hb d (i + 1) _ (by omega) (by omega) (by omega)]
    congr 1; omega

theorem spec_l11Count_eq_ {l : List Stm} (hp : ∀ s ∈ l, spec_l11Count s.body = some (cSs s.body : Int) ∧ spec_l11Count s.els = some (cSs s.els : Int)) (hb : cSs l ≤ 4294967296) : spec_l11Count l = some (cSs l : Int) := by
  apply spec_l11Count_le
  have := count_ls hp hb l.length 0 0 (by omega) (by omega) (by simp; omega)
  rw [show ((0 : Nat) : Int) = 0 by rfl] at this
  rw [this]; simp

theorem count_parts : ∀ s : Stm, cS s ≤ 4294967296 → spec_l11Count s.body = some (cSs s.body : Int) ∧ spec_l11Count s.els = some (cSs s.els : Int) := by
  apply Stm.ind
  intro s ih1 ih2 hb
  rw [cS_eq] at hb
  exact ⟨spec_l11Count_eq_ (fun a ha => ih1 a ha (by have := cS_mem ha; omega)) (by omega), spec_l11Count_eq_ (fun a ha => ih2 a ha (by have := cS_mem ha; omega)) (by omega)⟩

theorem spec_l11Count_eq {l : List Stm} (hb : cSs l ≤ 4294967296) : spec_l11Count l = some (cSs l : Int) :=
  spec_l11Count_eq_ (fun s hs => count_parts s (by have := cS_mem hs; omega)) hb

/-- What a statement's own parts must be. -/
def hdr (s : Stm) : Prop :=
  (s.kind = 1 ∧ (0 ≤ s.var ∧ s.var < 4) ∧ s.box = 0 ∧ expOk 5 s.e = true ∧ (s.body.length : Int) = 0 ∧ (s.els.length : Int) = 0) ∨
  (s.kind = 2 ∧ s.var = 0 ∧ s.box = 0 ∧ expOk 5 s.e = true) ∨
  (s.kind = 3 ∧ s.var = 0 ∧ s.box = 0 ∧ expOk 5 s.e = true ∧ (s.els.length : Int) = 0) ∨
  (s.kind = 4 ∧ s.var = 0 ∧ (0 ≤ s.box ∧ s.box < 3) ∧ expOk 5 s.e = true ∧ (s.body.length : Int) = 0 ∧ (s.els.length : Int) = 0) ∨
  (s.kind = 5 ∧ (0 ≤ s.var ∧ s.var < 4) ∧ (0 ≤ s.box ∧ s.box < 3) ∧ (s.e.op = 0 ∧ s.e.n = 0 ∧ (s.e.args.length : Int) = 0) ∧ (s.body.length : Int) = 0 ∧ (s.els.length : Int) = 0) ∨
  (s.kind = 6 ∧ s.var = 0 ∧ s.box = 0 ∧ (s.e.op = 0 ∧ s.e.n = 0 ∧ (s.e.args.length : Int) = 0) ∧ (s.body.length : Int) = 0 ∧ (s.els.length : Int) = 0) ∨
  (s.kind = 7 ∧ s.var = 0 ∧ s.box = 0 ∧ expOk 5 s.e = true ∧ (s.body.length : Int) = 0 ∧ (s.els.length : Int) = 0)

instance (s : Stm) : Decidable (hdr s) := by unfold hdr; infer_instance

def sOk : Nat → Stm → Bool
  | 0, s => decide (hdr s) && !decide (s.kind = 2 ∨ s.kind = 3)
  | d + 1, s => decide (hdr s) && (if s.kind = 2 ∨ s.kind = 3 then s.body.all (sOk d) && s.els.all (sOk d) else true)

theorem impl_stmtValid_1_eq (x n : Int) (b : Bool) (hn : 1 ≤ n) : impl_stmtValid_1 x n b = some (decide (if b then 0 ≤ x ∧ x < n else x = 0)) := by
  apply impl_stmtValid_1_le
  cases b
  · by_cases h : x = 0 <;> simp [h]
  · by_cases h : x = 0
    · simp [h]; omega
    · by_cases h2 : 0 < x
      · simp [h, h2]; omega
      · simp [h, h2]; omega

theorem spec_l11Var_eq (s : Stm) (b : Bool) : spec_l11Var s b = some (decide (if b then 0 ≤ s.var ∧ s.var < 4 else s.var = 0)) := by
  apply spec_l11Var_le
  simp only [spec_l6In_eq, bnd_some, cond_some]
  apply some_dec
  cases b <;> simp; omega

theorem spec_l11Box_eq (s : Stm) (b : Bool) : spec_l11Box s b = some (decide (if b then 0 ≤ s.box ∧ s.box < 3 else s.box = 0)) := by
  apply spec_l11Box_le
  simp only [spec_l6In_eq, bnd_some, cond_some]
  apply some_dec
  cases b <;> simp; omega

theorem spec_l11Plain_eq (e : Exp) : spec_l11Plain e = some (decide (e.op = 0 ∧ e.n = 0 ∧ (e.args.length : Int) = 0)) := by
  apply spec_l11Plain_le
  simp only [cond_some]
  apply some_dec
  simp only [cond_iff, decide_eq_true_eq, Bool.false_eq_true]
  by_cases h : e.op = 0 <;> by_cases h2 : e.n = 0 <;> simp [h, h2]

theorem spec_l11Simple_eq (s : Stm) (n2 : s.kind ≠ 2) (n3 : s.kind ≠ 3) : spec_l11Simple s = some (decide (hdr s)) := by
  apply spec_l11Simple_le
  simp only [stm_eta, exp_eta, spec_l11Var_eq, spec_l11Box_eq, spec_l11Plain_eq, spec_ExprValid_eq, bnd_some, cond_some]
  apply some_dec
  obtain ⟨k, v, b, e, bd, el⟩ := s
  have a1 : (0 : Int) ≤ bd.length := by omega
  have a2 : (0 : Int) ≤ el.length := by omega
  have a3 : (0 : Int) ≤ e.args.length := by omega
  simp only [hdr, cond_iff, decide_eq_true_eq, if_true, Bool.false_eq_true, if_false, Bool.not_eq_true', decide_eq_false_iff_not]
  generalize (bd.length : Int) = n1 at a1
  generalize (el.length : Int) = n2' at a2
  generalize (e.args.length : Int) = n3' at a3
  simp only [] at n2 n3
  cases hv : expOk 5 e
  all_goals
    by_cases h1 : k = 1
    · subst h1; simp; try omega
    by_cases h4 : k = 4
    · subst h4; simp; try omega
    by_cases h5 : k = 5
    · subst h5; simp; try omega
    by_cases h7 : k = 7
    · subst h7; simp; try omega
    by_cases h6 : k = 6
    · subst h6; simp; try omega
    simp [h1, n2, n3, h4, h5, h6, h7]

theorem hdr2 {s : Stm} (h : s.kind = 2) : hdr s ↔ s.var = 0 ∧ s.box = 0 ∧ expOk 5 s.e = true := by simp [hdr, h]

theorem hdr3 {s : Stm} (h : s.kind = 3) : hdr s ↔ s.var = 0 ∧ s.box = 0 ∧ expOk 5 s.e = true ∧ (s.els.length : Int) = 0 := by simp [hdr, h]

theorem if_alike {α : Type} {P Q : Prop} [Decidable P] [Decidable Q] {a b c : α} (h : P ↔ Q) (ha : a = b) : (if P then a else c) = if Q then b else c := by
  subst ha
  by_cases hp : P
  · rw [if_pos hp, if_pos (h.1 hp)]
  · rw [if_neg hp, if_neg fun x => hp (h.2 x)]

theorem blocks_l {l : List Stm} {n : Int} {f : Stm → Bool} (hl : (l.length : Int) ≤ 4294967296) (hp : ∀ s ∈ l, spec_l11Ok s n = some (f s)) :
    ∀ (d i : Nat), i + d = l.length → spec_l11Blocks_l1 l n i = some (if (l.drop i).all f then .inl () else .inr false)
  | 0, i, hd => by
    apply spec_l11Blocks_l1_le
    have hi : ¬ ((i : Int) < l.length) := by omega
    rw [List.drop_eq_nil_of_le (by omega)]
    simp [hi]
  | d + 1, i, hd => by
    apply spec_l11Blocks_l1_le
    have hi : i < l.length := by omega
    have hi' : (i : Int) < l.length := by omega
    rw [geti_some hi, wrap_succ (by omega), blocks_l hl hp d (i + 1) (by omega)]
    have e1 : (l.drop i).all f = (f l[i] && (l.drop (i + 1)).all f) := by rw [List.drop_eq_getElem_cons hi, List.all_cons]
    rw [e1]
    simp only [hi', decide_true, cond_true, bnd_some, stm_eta, hp _ (List.getElem_mem hi)]
    cases f l[i] <;> simp

theorem spec_l11Blocks_eq_ {l : List Stm} {n : Int} {f : Stm → Bool} (hl : (l.length : Int) ≤ 4294967296) (hp : ∀ s ∈ l, spec_l11Ok s n = some (f s)) : spec_l11Blocks l n = some (l.all f) := by
  apply spec_l11Blocks_le
  rw [show (0 : Int) = ((0 : Nat) : Int) by rfl, blocks_l hl hp l.length 0 (by omega), List.drop_zero]
  cases l.all f <;> simp [selm]

theorem spec_l11Ok_eq : ∀ (d : Nat) (s : Stm), d ≤ 3 → mS s ≤ 4294967296 → spec_l11Ok s (d : Int) = some (sOk d s)
  | 0, s, hd, hm => by
    apply spec_l11Ok_le
    by_cases h2 : s.kind = 2
    · simp [h2, sOk]
    · by_cases h3 : s.kind = 3
      · simp [h3, sOk]
      · simp [h2, h3, sOk, stm_eta, spec_l11Simple_eq s h2 h3]
  | d + 1, s, hd, hm => by
    apply spec_l11Ok_le
    have hm' := mS_eq s
    have l1 := mSs_len s.body
    have l2 := mSs_len s.els
    have hd0 : ¬ (((d + 1 : Nat) : Int) < 1) := by omega
    have b1 : spec_l11Blocks s.body (d : Int) = some (s.body.all (sOk d)) := spec_l11Blocks_eq_ (by omega) fun a ha => spec_l11Ok_eq d a (by omega) (by have := mS_mem ha; omega)
    have b2 : spec_l11Blocks s.els (d : Int) = some (s.els.all (sOk d)) := spec_l11Blocks_eq_ (by omega) fun a ha => spec_l11Ok_eq d a (by omega) (by have := mS_mem ha; omega)
    rw [show wrap64 (((d + 1 : Nat) : Int) - 1) = (d : Int) by rw [wrap_id (by omega) (by omega)]; omega]
    simp only [stm_eta, exp_eta, spec_l11Var_eq, spec_l11Box_eq, spec_ExprValid_eq, b1, b2, bnd_some, hd0, decide_false, cond_false]
    by_cases h2 : s.kind = 2
    · have h3 : s.kind ≠ 3 := by omega
      have hh : decide (hdr s) = (decide (s.var = 0) && decide (s.box = 0) && expOk 5 s.e) := by
        rw [Bool.eq_iff_iff]; simp [hdr2 h2, and_assoc]
      simp only [sOk, hh, h2, true_or, if_true]
      by_cases v : s.var = 0 <;> by_cases b : s.box = 0 <;> cases expOk 5 s.e <;> cases s.body.all (sOk d) <;> simp [v, b]
    · by_cases h3 : s.kind = 3
      · by_cases he : (s.els.length : Int) = 0
        · have hh : decide (hdr s) = (decide (s.var = 0) && decide (s.box = 0) && expOk 5 s.e) := by
            rw [Bool.eq_iff_iff]; simp [hdr3 h3, and_assoc, he]
          simp only [sOk, hh, h3, or_true, if_true]
          by_cases v : s.var = 0 <;> by_cases b : s.box = 0 <;> cases expOk 5 s.e <;> cases s.body.all (sOk d) <;> simp [v, b, he]
        · have hh : decide (hdr s) = false := by
            simp [hdr3 h3]; intro _ _ _ h; exact absurd (by rw [h]; rfl) he
          have hpos : 0 < (s.els.length : Int) := by omega
          simp only [sOk, hh, h3, or_true, if_true, hpos]
          simp
      · have hh := spec_l11Simple_eq s h2 h3
        simp only [sOk, h2, h3, or_false, if_false]
        simp [h2, h3]
        show bnd (spec_l11Simple s) _ = _
        rw [hh]; rfl

theorem spec_l11Blocks_eq {d : Nat} {l : List Stm} (hd : d ≤ 3) (hm : mSs l ≤ 4294967296) : spec_l11Blocks l (d : Int) = some (l.all (sOk d)) :=
  spec_l11Blocks_eq_ (by have := mSs_len l; omega) fun s hs => spec_l11Ok_eq d s hd (by have := mS_mem hs; omega)

def stOk (l : List Stm) : Bool := decide (l.all (sOk 3) = true ∧ (cSs l : Int) ≤ 16)

theorem spec_StmtsValid_eq (l : List Stm) (hm : mSs l ≤ 4294967296) : spec_StmtsValid l = some (stOk l) := by
  apply spec_StmtsValid_le
  have hc := cSs_le l
  rw [show (3 : Int) = ((3 : Nat) : Int) by rfl, spec_l11Blocks_eq (by omega) hm, bnd_some, spec_l11Count_eq (by omega)]
  unfold stOk
  cases l.all (sOk 3) <;> simp

theorem cut_one {α : Type} {l : List α} {i : Nat} (hi : i < l.length) : cutL l (i : Int) ((i + 1 : Nat) : Int) = some [l[i]] := by
  unfold cutL
  rw [if_pos (by omega)]
  simp only [Int.toNat_natCast, Option.some.injEq]
  rw [List.drop_take, List.drop_eq_getElem_cons hi, show i + 1 - i = 1 by omega]
  simp only [List.take_succ_cons, List.take_zero]

def words (l : List Int) : Bool := l.all fun n => decide (-2147483648 ≤ n ∧ n ≤ 2147483647)

theorem areWords_l {l : List Int} (hl : (l.length : Int) ≤ 4294967296) : ∀ (d i : Nat), i + d = l.length → impl_areWords_l1 l l.length i = some (if words (l.drop i) then .inl () else .inr false)
  | 0, i, hd => by
    apply impl_areWords_l1_le
    have hi : ¬ ((i : Int) < l.length) := by omega
    rw [List.drop_eq_nil_of_le (by omega)]
    simp [hi, words]
  | d + 1, i, hd => by
    apply impl_areWords_l1_le
    have hi : i < l.length := by omega
    have hi' : (i : Int) < l.length := by omega
    have e1 : words (l.drop i) = (decide (-2147483648 ≤ l[i] ∧ l[i] ≤ 2147483647) && words (l.drop (i + 1))) := by unfold words; rw [List.drop_eq_getElem_cons hi, List.all_cons]
    rw [geti_some hi, wrap_succ (by omega), areWords_l hl d (i + 1) (by omega), e1]
    simp only [hi', decide_true, cond_true, bnd_some, impl_WordValid_eq]
    cases decide (-2147483648 ≤ l[i] ∧ l[i] ≤ 2147483647) <;> simp

theorem impl_areWords_eq {l : List Int} (hl : (l.length : Int) ≤ 4294967296) : impl_areWords l = some (words l) := by
  apply impl_areWords_le
  rw [show (0 : Int) = ((0 : Nat) : Int) by rfl, areWords_l hl l.length 0 (by omega), List.drop_zero]
  cases words l <;> simp [selm]

theorem l4Words_l {l : List Int} (hl : (l.length : Int) ≤ 4294967296) : ∀ (d i : Nat), i + d = l.length → spec_l4Words_l1 l i = some (if words (l.drop i) then .inl () else .inr false)
  | 0, i, hd => by
    apply spec_l4Words_l1_le
    have hi : ¬ ((i : Int) < l.length) := by omega
    rw [List.drop_eq_nil_of_le (by omega)]
    simp [hi, words]
  | d + 1, i, hd => by
    apply spec_l4Words_l1_le
    have hi : i < l.length := by omega
    have hi' : (i : Int) < l.length := by omega
    have e1 : words (l.drop i) = (decide (-2147483648 ≤ l[i] ∧ l[i] ≤ 2147483647) && words (l.drop (i + 1))) := by unfold words; rw [List.drop_eq_getElem_cons hi, List.all_cons]
    rw [geti_some hi, wrap_succ (by omega), l4Words_l hl d (i + 1) (by omega), e1]
    simp only [hi', decide_true, cond_true, bnd_some, spec_WordValid_eq]
    cases decide (-2147483648 ≤ l[i] ∧ l[i] ≤ 2147483647) <;> simp

theorem spec_l4Words_eq {l : List Int} (hl : (l.length : Int) ≤ 4294967296) (n : Int) : spec_l4Words l n = some (decide ((l.length : Int) = n) && words l) := by
  apply spec_l4Words_le
  rw [show (0 : Int) = ((0 : Nat) : Int) by rfl, l4Words_l hl l.length 0 (by omega), List.drop_zero]
  by_cases h : (l.length : Int) = n <;> cases words l <;> simp [selm, h]

def rests (l : List Stm) : Bool := l.all fun s => stOk [s]

theorem rests_drop {l : List Stm} {i : Nat} (hi : i < l.length) : rests (l.drop i) = (stOk [l[i]] && rests (l.drop (i + 1))) := by
  unfold rests; rw [List.drop_eq_getElem_cons hi, List.all_cons]

theorem mSs_one (s : Stm) : mSs [s] = 1 + mS s := by simp [mSs]

theorem spec_rests {v : List Int} {l : List Stm} (hm : mSs l ≤ 4294967296) : ∀ (d i : Nat), i + d = l.length → spec_TaskValid_l1 i v l = some (if rests (l.drop i) then .inl (v, l) else .inr (false, v, l))
  | 0, i, hd => by
    apply spec_TaskValid_l1_le
    have hi : ¬ ((i : Int) < l.length) := by omega
    rw [List.drop_eq_nil_of_le (by omega)]
    simp [hi, rests]
  | d + 1, i, hd => by
    apply spec_TaskValid_l1_le
    have hi : i < l.length := by omega
    have hi' : (i : Int) < l.length := by omega
    have hlen := mSs_len l
    have hmem := mS_mem (List.getElem_mem hi)
    rw [wrap_succ (by omega), cut_one hi, rests_drop hi, spec_rests hm d (i + 1) (by omega)]
    simp only [hi', decide_true, cond_true, bnd_some, spec_StmtsValid_eq [l[i]] (by rw [mSs_one]; omega)]
    cases stOk [l[i]] <;> simp

def taskOk (t : Tk) : Bool := decide ((t.vars.length : Int) = 4) && words t.vars && rests t.rest

theorem spec_TaskValid_eq (t : Tk) (hv : (t.vars.length : Int) ≤ 4294967296) (hm : mSs t.rest ≤ 4294967296) : spec_TaskValid t = some (taskOk t) := by
  apply spec_TaskValid_le
  rw [show (0 : Int) = ((0 : Nat) : Int) by rfl, spec_rests hm t.rest.length 0 (by omega), List.drop_zero]
  unfold taskOk
  cases rests t.rest
  · simp [selm]
  · simp [selm, spec_l4Words_eq hv]

def hdN (many : Int) (s : Stm) : Prop := hdr s ∧ (s.kind = 4 ∨ s.kind = 5 → s.box < many)

instance (many : Int) (s : Stm) : Decidable (hdN many s) := by unfold hdN; infer_instance

def gOk (many : Int) : Nat → Stm → Bool
  | 0, s => decide (hdN many s) && !decide (s.kind = 2 ∨ s.kind = 3)
  | d + 1, s => decide (hdN many s) && (if s.kind = 2 ∨ s.kind = 3 then s.body.all (gOk many d) && s.els.all (gOk many d) else true)

theorem impl_stmtValid_1_zero (x n : Int) (hn : 0 ≤ n) : impl_stmtValid_1 x n true = some (decide (x = 0 ∨ (0 ≤ x ∧ x < n))) := by
  apply impl_stmtValid_1_le
  by_cases h : x = 0
  · simp [h]
  · by_cases h2 : 0 < x
    · simp [h, h2]; omega
    · simp [h, h2]; omega

theorem impl_stmtValid_1_false (x n : Int) : impl_stmtValid_1 x n false = some (decide (x = 0)) := by
  apply impl_stmtValid_1_le
  by_cases h : x = 0 <;> simp [h]

theorem impl_stmtValid_n {many : Int} (hmn : 0 ≤ many ∧ many ≤ 3) (s : Stm) : impl_stmtValid s many = some (decide (hdN many s)) := by
  apply impl_stmtValid_le
  simp only [impl_stmtValid_1_zero _ many hmn.1, impl_stmtValid_1_eq _ 4 true (by omega), impl_stmtValid_1_false, impl_ExprValid_eq, exp_eta, bnd_some, cond_some]
  apply some_dec
  obtain ⟨k, v, b, e, bd, el⟩ := s
  have a1 : (0 : Int) ≤ bd.length := by omega
  have a2 : (0 : Int) ≤ el.length := by omega
  have a3 : (0 : Int) ≤ e.args.length := by omega
  simp only [hdN, hdr, cond_iff, decide_eq_true_eq, if_true, Bool.false_eq_true, if_false, Bool.not_eq_true', decide_eq_false_iff_not]
  generalize (bd.length : Int) = n1 at a1
  generalize (el.length : Int) = n2 at a2
  generalize (e.args.length : Int) = n3 at a3
  cases hv : expOk 5 e
  all_goals
    by_cases h1 : k = 1
    · subst h1; simp; try omega
    by_cases h2 : k = 2
    · subst h2; simp; try omega
    by_cases h3 : k = 3
    · subst h3; simp; try omega
    by_cases h4 : k = 4
    · subst h4; simp; try omega
    by_cases h5 : k = 5
    · subst h5; simp; try omega
    by_cases h7 : k = 7
    · subst h7; simp; try omega
    by_cases h6 : k = 6
    · subst h6; simp; try omega
    simp [h1, h2, h3, h4, h5, h6, h7]

theorem block_n {many : Int} (hmn : 0 ≤ many ∧ many ≤ 3) {l : List Stm} {d0 : Nat} (hl : (l.length : Int) ≤ 4294967296) (hd0 : d0 ≤ 3)
    (hp : ∀ d, d0 = d + 1 → ∀ (bl : List Stm) (n : Int), (∃ s ∈ l, bl = s.body ∨ bl = s.els) → 0 ≤ n → n ≤ 16 → ∃ c, impl_blockValid bl many (3 - (d : Int)) n = some (decide (bl.all (gOk many d) = true ∧ n + cSs bl ≤ 16), c) ∧ (bl.all (gOk many d) = true → n + cSs bl ≤ 16 → c = n + cSs bl)) :
    ∀ (d i : Nat) (n : Int), i + d = l.length → 0 ≤ n → n ≤ 16 → ∃ c, impl_blockValid_l1 l many (3 - (d0 : Int)) l.length i n = some (if (l.drop i).all (gOk many d0) = true ∧ n + (cSs (l.drop i) - (l.length - i : Int)) ≤ 16 then .inl (n + (cSs (l.drop i) - (l.length - i : Int))) else .inr (false, c))
  | 0, i, n, hd, h0, h1 => by
    refine ⟨0, ?_⟩
    apply impl_blockValid_l1_le
    have hi : ¬ ((i : Int) < l.length) := by omega
    rw [List.drop_eq_nil_of_le (by omega), if_pos ⟨by simp, by simp [cSs]; omega⟩]
    simp [hi, cSs]; omega
  | d + 1, i, n, hd, h0, h1 => by
    have hi : i < l.length := by omega
    have hi' : (i : Int) < l.length := by omega
    have e1 : (l.drop i).all (gOk many d0) = (gOk many d0 l[i] && (l.drop (i + 1)).all (gOk many d0)) := by rw [List.drop_eq_getElem_cons hi, List.all_cons]
    have e2 := cSs_drop hi
    have e3 := cS_eq l[i]
    have e4 := cSs_len (l.drop (i + 1))
    rw [List.length_drop] at e4
    have hn3 : ¬ ((3 : Int) < 3 - (d0 : Int)) := by omega
    by_cases hh : hdN many l[i]
    · by_cases hk : l[i].kind = 2 ∨ l[i].kind = 3
      · cases d0 with
        | zero =>
          have s0 : gOk many 0 l[i] = false := by simp [gOk, hk]
          refine ⟨n, ?_⟩
          apply impl_blockValid_l1_le
          rw [geti_some hi, e1, s0]
          simp only [hi', decide_true, cond_true, bnd_some, stm_eta, impl_stmtValid_n hmn, hh, Bool.not_true, cond_false]
          rcases hk with hk | hk <;> simp [hk]
        | succ d1 =>
          have hn4 : ¬ ((3 : Int) ≤ 3 - ((d1 + 1 : Nat) : Int)) := by omega
          have hw : wrap64 (3 - ((d1 + 1 : Nat) : Int) + 1) = 3 - (d1 : Int) := by rw [wrap_id (by omega) (by omega)]; omega
          have s1 : gOk many (d1 + 1) l[i] = (l[i].body.all (gOk many d1) && l[i].els.all (gOk many d1)) := by simp [gOk, hh, hk]
          obtain ⟨c1, k1, k2⟩ := hp d1 rfl l[i].body n ⟨l[i], List.getElem_mem hi, .inl rfl⟩ h0 h1
          by_cases g1 : l[i].body.all (gOk many d1) = true ∧ n + cSs l[i].body ≤ 16
          · have hc1 := k2 g1.1 g1.2
            obtain ⟨c2, m1, m2⟩ := hp d1 rfl l[i].els (n + cSs l[i].body) ⟨l[i], List.getElem_mem hi, .inr rfl⟩ (by omega) g1.2
            by_cases g2 : l[i].els.all (gOk many d1) = true ∧ n + cSs l[i].body + cSs l[i].els ≤ 16
            · have hc2 := m2 g2.1 g2.2
              obtain ⟨c, hc⟩ := block_n hmn hl hd0 hp d (i + 1) (n + cSs l[i].body + cSs l[i].els) (by omega) (by omega) g2.2
              refine ⟨c, ?_⟩
              apply impl_blockValid_l1_le
              rw [geti_some hi, e1, s1, g1.1, g2.1, wrap_succ (by omega), hw]
              subst hc1 hc2
              have dk1 : decide (l[i].body.all (gOk many d1) = true ∧ n + (cSs l[i].body : Int) ≤ 16) = true := decide_eq_true g1
              have dk2 : decide (l[i].els.all (gOk many d1) = true ∧ n + (cSs l[i].body : Int) + (cSs l[i].els : Int) ≤ 16) = true := decide_eq_true g2
              rw [dk1] at k1
              rw [dk2] at m1
              have hcond : ((true && true && (l.drop (i + 1)).all (gOk many (d1 + 1))) = true ∧ n + ((cSs (l.drop i) : Int) - ((l.length : Int) - (i : Int))) ≤ 16) ↔ ((l.drop (i + 1)).all (gOk many (d1 + 1)) = true ∧ n + (cSs l[i].body : Int) + (cSs l[i].els : Int) + ((cSs (l.drop (i + 1)) : Int) - ((l.length : Int) - ((i + 1 : Nat) : Int))) ≤ 16) := by
                simp only [Bool.true_and, Bool.and_true]
                constructor
                · rintro ⟨x, y⟩; exact ⟨x, by omega⟩
                · rintro ⟨x, y⟩; exact ⟨x, by omega⟩
              have hval : n + ((cSs (l.drop i) : Int) - ((l.length : Int) - (i : Int))) = n + (cSs l[i].body : Int) + (cSs l[i].els : Int) + ((cSs (l.drop (i + 1)) : Int) - ((l.length : Int) - ((i + 1 : Nat) : Int))) := by omega
              rw [if_alike hcond (congrArg (Sum.inl (β := Bool × Int)) hval), ← hc]
              simp only [hi', decide_true, cond_true, bnd_some, stm_eta, impl_stmtValid_n hmn, hh, Bool.not_true, cond_false, hn3, hn4, decide_false, k1, m1]
              rcases hk with hk | hk <;> simp [hk]
            · refine ⟨c2, ?_⟩
              apply impl_blockValid_l1_le
              rw [geti_some hi, e1, s1, g1.1, hw]
              subst hc1
              have dk1 : decide (l[i].body.all (gOk many d1) = true ∧ n + (cSs l[i].body : Int) ≤ 16) = true := decide_eq_true g1
              have dk2 : decide (l[i].els.all (gOk many d1) = true ∧ n + (cSs l[i].body : Int) + (cSs l[i].els : Int) ≤ 16) = false := decide_eq_false g2
              rw [dk1] at k1
              rw [dk2] at m1
              rw [if_neg (by
                rintro ⟨x, y⟩
                simp only [Bool.true_and, Bool.and_eq_true] at x
                exact g2 ⟨x.1, by omega⟩)]
              simp only [hi', decide_true, cond_true, bnd_some, stm_eta, impl_stmtValid_n hmn, hh, Bool.not_true, cond_false, hn3, hn4, decide_false, k1, m1]
              rcases hk with hk | hk <;> simp [hk]
          · refine ⟨c1, ?_⟩
            apply impl_blockValid_l1_le
            rw [geti_some hi, e1, s1, hw]
            have dk1 : decide (l[i].body.all (gOk many d1) = true ∧ n + (cSs l[i].body : Int) ≤ 16) = false := decide_eq_false g1
            rw [dk1] at k1
            rw [if_neg (by
              rintro ⟨x, y⟩
              simp only [Bool.and_eq_true] at x
              exact g1 ⟨x.1.1, by omega⟩)]
            simp only [hi', decide_true, cond_true, bnd_some, stm_eta, impl_stmtValid_n hmn, hh, Bool.not_true, cond_false, hn3, hn4, decide_false, k1]
            rcases hk with hk | hk <;> simp [hk]
      · have n2 : l[i].kind ≠ 2 := fun h => hk (.inl h)
        have n3 : l[i].kind ≠ 3 := fun h => hk (.inr h)
        have s1 : gOk many d0 l[i] = true := by cases d0 <;> simp [gOk, hh, n2, n3]
        have hbe : l[i].body = [] ∧ l[i].els = [] := by
          have hh' := hh
          have hh' := hh'.1
          simp only [hdr, n2, n3, false_and, false_or] at hh'
          have : (l[i].body.length : Int) = 0 ∧ (l[i].els.length : Int) = 0 := by
            rcases hh' with h | h | h | h | h
            · exact ⟨h.2.2.2.2.1, h.2.2.2.2.2⟩
            · exact ⟨h.2.2.2.2.1, h.2.2.2.2.2⟩
            · exact ⟨h.2.2.2.2.1, h.2.2.2.2.2⟩
            · exact ⟨h.2.2.2.2.1, h.2.2.2.2.2⟩
            · exact ⟨h.2.2.2.2.1, h.2.2.2.2.2⟩
          exact ⟨List.eq_nil_of_length_eq_zero (by omega), List.eq_nil_of_length_eq_zero (by omega)⟩
        rw [hbe.1, hbe.2] at e3
        simp only [cSs] at e3
        obtain ⟨c, hc⟩ := block_n hmn hl hd0 hp d (i + 1) n (by omega) h0 h1
        refine ⟨c, ?_⟩
        apply impl_blockValid_l1_le
        rw [geti_some hi, e1, s1, wrap_succ (by omega)]
        have hcond : ((true && (l.drop (i + 1)).all (gOk many d0)) = true ∧ n + ((cSs (l.drop i) : Int) - ((l.length : Int) - (i : Int))) ≤ 16) ↔ ((l.drop (i + 1)).all (gOk many d0) = true ∧ n + ((cSs (l.drop (i + 1)) : Int) - ((l.length : Int) - ((i + 1 : Nat) : Int))) ≤ 16) := by
          simp only [Bool.true_and]
          constructor
          · rintro ⟨x, y⟩; exact ⟨x, by omega⟩
          · rintro ⟨x, y⟩; exact ⟨x, by omega⟩
        have hval : n + ((cSs (l.drop i) : Int) - ((l.length : Int) - (i : Int))) = n + ((cSs (l.drop (i + 1)) : Int) - ((l.length : Int) - ((i + 1 : Nat) : Int))) := by omega
        rw [if_alike hcond (congrArg (Sum.inl (β := Bool × Int)) hval), ← hc]
        simp only [hi', decide_true, cond_true, bnd_some, stm_eta, impl_stmtValid_n hmn, hh, Bool.not_true, cond_false, hn3, decide_false]
        simp [n2, n3]
    · have s1 : gOk many d0 l[i] = false := by cases d0 <;> simp [gOk, hh]
      refine ⟨n, ?_⟩
      apply impl_blockValid_l1_le
      rw [geti_some hi, e1, s1]
      simp only [hi', decide_true, cond_true, bnd_some, stm_eta, impl_stmtValid_n hmn, hh, decide_false, Bool.not_false]
      simp

theorem impl_blockValid_n {many : Int} (hmn : 0 ≤ many ∧ many ≤ 3) : ∀ (d : Nat) (l : List Stm) (n : Int), d ≤ 3 → mSs l ≤ 4294967296 → 0 ≤ n → n ≤ 16 →
    ∃ c, impl_blockValid l many (3 - (d : Int)) n = some (decide (l.all (gOk many d) = true ∧ n + cSs l ≤ 16), c) ∧ (l.all (gOk many d) = true → n + cSs l ≤ 16 → c = n + cSs l)
  | d, l, n, hd, hm, h0, h1 => by
    have hlen := mSs_len l
    have hcl := cSs_len l
    by_cases hc : (16 : Int) < n + l.length
    · refine ⟨n + l.length, ?_, fun _ h => by omega⟩
      apply impl_blockValid_le
      rw [wrap_id (by omega) (by omega)]
      have : ¬ (l.all (gOk many d) = true ∧ n + (cSs l : Int) ≤ 16) := fun h => by omega
      rw [decide_eq_false this]
      simp [hc]
    · obtain ⟨c, h⟩ := block_n hmn (l := l) (d0 := d) (by omega) hd (fun d1 e1 bl m hb g0 g1 => by
        obtain ⟨s, hs, hbl⟩ := hb
        have := mS_mem hs
        have := mS_eq s
        have hmb : mSs bl ≤ 4294967296 := by rcases hbl with rfl | rfl <;> omega
        exact impl_blockValid_n hmn d1 bl m (by omega) hmb g0 g1) l.length 0 (n + l.length) (by omega) (by omega) (by omega)
      rw [List.drop_zero] at h
      by_cases g : l.all (gOk many d) = true ∧ n + (cSs l : Int) ≤ 16
      · refine ⟨n + cSs l, ?_, fun _ _ => rfl⟩
        apply impl_blockValid_le
        rw [wrap_id (by omega) (by omega), show (0 : Int) = ((0 : Nat) : Int) by rfl, h, if_pos ⟨g.1, by omega⟩, decide_eq_true g]
        simp only [hc, decide_false, cond_false, bnd_some, selm]
        congr 2; omega
      · refine ⟨c, ?_, fun a b => absurd ⟨a, b⟩ g⟩
        apply impl_blockValid_le
        rw [wrap_id (by omega) (by omega), show (0 : Int) = ((0 : Nat) : Int) by rfl, h, if_neg (fun x => g ⟨x.1, by omega⟩), decide_eq_false g]
        simp only [hc, decide_false, cond_false, bnd_some, selm]
  termination_by d => d

mutual
def bS (many : Int) : Stm → Bool
  | ⟨k, _, b, _, bd, el⟩ => !(decide (k = 4 ∨ k = 5) && decide (many ≤ b)) && bSs many bd && bSs many el
def bSs (many : Int) : List Stm → Bool
  | [] => true
  | s :: r => bS many s && bSs many r
end

theorem bS_eq (many : Int) (s : Stm) : bS many s = (!(decide (s.kind = 4 ∨ s.kind = 5) && decide (many ≤ s.box)) && bSs many s.body && bSs many s.els) := by cases s; simp [bS]

theorem bSs_eq (many : Int) : ∀ l : List Stm, bSs many l = l.all (bS many)
  | [] => rfl
  | s :: r => by simp [bSs, bSs_eq many r]

theorem hdr_leaf {s : Stm} (h : hdr s) (n2 : s.kind ≠ 2) (n3 : s.kind ≠ 3) : s.body = [] ∧ s.els = [] := by
  simp only [hdr, n2, n3, false_and, false_or] at h
  have : (s.body.length : Int) = 0 ∧ (s.els.length : Int) = 0 := by
    rcases h with h | h | h | h | h
    · exact ⟨h.2.2.2.2.1, h.2.2.2.2.2⟩
    · exact ⟨h.2.2.2.2.1, h.2.2.2.2.2⟩
    · exact ⟨h.2.2.2.2.1, h.2.2.2.2.2⟩
    · exact ⟨h.2.2.2.2.1, h.2.2.2.2.2⟩
    · exact ⟨h.2.2.2.2.1, h.2.2.2.2.2⟩
  exact ⟨List.eq_nil_of_length_eq_zero (by omega), List.eq_nil_of_length_eq_zero (by omega)⟩

theorem hdN_dec (many : Int) (s : Stm) : decide (hdN many s) = (decide (hdr s) && !(decide (s.kind = 4 ∨ s.kind = 5) && decide (many ≤ s.box))) := by
  rw [Bool.eq_iff_iff]
  simp only [hdN, decide_eq_true_eq, Bool.and_eq_true, Bool.not_eq_true', Bool.and_eq_false_iff, decide_eq_false_iff_not]
  by_cases h : s.kind = 4 ∨ s.kind = 5
  · simp [h]
  · simp [h]

theorem all_and {α : Type} {f g h : α → Bool} (hp : ∀ a, f a = (g a && h a)) : ∀ l : List α, l.all f = (l.all g && l.all h)
  | [] => rfl
  | a :: r => by
    simp only [List.all_cons, hp a, all_and hp r]
    cases g a <;> cases h a <;> simp

theorem gOk_eq (many : Int) : ∀ (d : Nat) (s : Stm), gOk many d s = (sOk d s && bS many s)
  | 0, s => by
    simp only [gOk, sOk, hdN_dec, bS_eq]
    by_cases hh : hdr s
    · by_cases hk : s.kind = 2 ∨ s.kind = 3
      · simp [hk]
      · have hl := hdr_leaf hh (fun h => hk (.inl h)) (fun h => hk (.inr h))
        rw [hl.1, hl.2]
        simp [hh, hk, bSs]
    · simp [hh]
  | d + 1, s => by
    simp only [gOk, sOk, hdN_dec, bS_eq]
    by_cases hh : hdr s
    · by_cases hk : s.kind = 2 ∨ s.kind = 3
      · have hk4 : ¬ (s.kind = 4 ∨ s.kind = 5) := by omega
        rw [all_and (gOk_eq many d) s.body, all_and (gOk_eq many d) s.els, bSs_eq, bSs_eq]
        simp only [hk, if_true, hk4, decide_false, Bool.false_and, Bool.not_false, hh, decide_true, Bool.true_and, Bool.and_true]
        cases s.body.all (sOk d) <;> cases s.body.all (bS many) <;> cases s.els.all (sOk d) <;> simp
      · have hl := hdr_leaf hh (fun h => hk (.inl h)) (fun h => hk (.inr h))
        rw [hl.1, hl.2]
        simp [hh, hk, bSs]
    · simp [hh]

theorem l12_l {l : List Stm} {many : Int} (hl : (l.length : Int) ≤ 4294967296) (hp : ∀ s ∈ l, spec_l12Boxes s.body many = some (bSs many s.body) ∧ spec_l12Boxes s.els many = some (bSs many s.els)) :
    ∀ (d i : Nat), i + d = l.length → spec_l12Boxes_l1 l many i = some (if bSs many (l.drop i) then .inl () else .inr false)
  | 0, i, hd => by
    apply spec_l12Boxes_l1_le
    have hi : ¬ ((i : Int) < l.length) := by omega
    rw [List.drop_eq_nil_of_le (by omega)]
    simp [hi, bSs]
  | d + 1, i, hd => by
    apply spec_l12Boxes_l1_le
    have hi : i < l.length := by omega
    have hi' : (i : Int) < l.length := by omega
    obtain ⟨p1, p2⟩ := hp _ (List.getElem_mem hi)
    have e1 : bSs many (l.drop i) = (bS many l[i] && bSs many (l.drop (i + 1))) := by rw [List.drop_eq_getElem_cons hi]; simp only [bSs]
    rw [geti_some hi, wrap_succ (by omega), l12_l hl hp d (i + 1) (by omega), e1, bS_eq]
    simp only [hi', decide_true, cond_true, bnd_some, p1, p2]
    by_cases h4 : l[i].kind = 4
    · by_cases hb : many ≤ l[i].box <;> cases bSs many l[i].body <;> cases bSs many l[i].els <;> simp [h4, hb]
    · by_cases h5 : l[i].kind = 5
      · by_cases hb : many ≤ l[i].box <;> cases bSs many l[i].body <;> cases bSs many l[i].els <;> simp [h5, hb]
      · cases bSs many l[i].body <;> cases bSs many l[i].els <;> simp [h4, h5]

theorem spec_l12Boxes_eq_ {l : List Stm} {many : Int} (hl : (l.length : Int) ≤ 4294967296) (hp : ∀ s ∈ l, spec_l12Boxes s.body many = some (bSs many s.body) ∧ spec_l12Boxes s.els many = some (bSs many s.els)) : spec_l12Boxes l many = some (bSs many l) := by
  apply spec_l12Boxes_le
  rw [show (0 : Int) = ((0 : Nat) : Int) by rfl, l12_l hl hp l.length 0 (by omega), List.drop_zero]
  cases bSs many l <;> simp [selm]

theorem l12_parts (many : Int) : ∀ s : Stm, mS s ≤ 4294967296 → spec_l12Boxes s.body many = some (bSs many s.body) ∧ spec_l12Boxes s.els many = some (bSs many s.els) := by
  apply Stm.ind
  intro s ih1 ih2 hb
  rw [mS_eq] at hb
  have l1 := mSs_len s.body
  have l2 := mSs_len s.els
  exact ⟨spec_l12Boxes_eq_ (by omega) (fun a ha => ih1 a ha (by have := mS_mem ha; omega)), spec_l12Boxes_eq_ (by omega) (fun a ha => ih2 a ha (by have := mS_mem ha; omega))⟩

theorem spec_l12Boxes_eq {l : List Stm} {many : Int} (hb : mSs l ≤ 4294967296) : spec_l12Boxes l many = some (bSs many l) :=
  spec_l12Boxes_eq_ (by have := mSs_len l; omega) (fun s hs => l12_parts many s (by have := mS_mem hs; omega))

def gtOk (many : Int) (l : List Stm) : Bool := decide (l.all (gOk many 3) = true ∧ (cSs l : Int) ≤ 16)

theorem gtOk_eq (many : Int) (l : List Stm) : gtOk many l = (stOk l && bSs many l) := by
  unfold gtOk stOk
  rw [all_and (gOk_eq many 3) l, bSs_eq]
  cases l.all (sOk 3) <;> cases l.all (bS many) <;> simp

theorem impl_stmtsValid_n {many : Int} (hmn : 0 ≤ many ∧ many ≤ 3) (l : List Stm) (hm : mSs l ≤ 4294967296) : impl_stmtsValid l many = some (stOk l && bSs many l) := by
  apply impl_stmtsValid_le
  obtain ⟨c, h, _⟩ := impl_blockValid_n hmn 3 l 0 (by omega) hm (by omega) (by omega)
  rw [show (3 : Int) - ((3 : Nat) : Int) = 0 by omega] at h
  rw [h, bnd_some, ← gtOk_eq]
  simp [gtOk]

def restsN (many : Int) (l : List Stm) : Bool := l.all fun s => stOk [s] && bSs many [s]

theorem restsN_drop {many : Int} {l : List Stm} {i : Nat} (hi : i < l.length) : restsN many (l.drop i) = ((stOk [l[i]] && bSs many [l[i]]) && restsN many (l.drop (i + 1))) := by
  unfold restsN; rw [List.drop_eq_getElem_cons hi, List.all_cons]

theorem impl_rests_n {many : Int} (hmn : 0 ≤ many ∧ many ≤ 3) {v : List Int} {l : List Stm} (hm : mSs l ≤ 4294967296) : ∀ (d i : Nat), i + d = l.length → impl_taskValid_l1 many l.length i v l = some (if restsN many (l.drop i) then .inl () else .inr false)
  | 0, i, hd => by
    apply impl_taskValid_l1_le
    have hi : ¬ ((i : Int) < l.length) := by omega
    rw [List.drop_eq_nil_of_le (by omega)]
    simp [hi, restsN]
  | d + 1, i, hd => by
    apply impl_taskValid_l1_le
    have hi : i < l.length := by omega
    have hi' : (i : Int) < l.length := by omega
    have hlen := mSs_len l
    have hmem := mS_mem (List.getElem_mem hi)
    rw [wrap_succ (by omega), cut_one hi, restsN_drop hi, impl_rests_n hmn hm d (i + 1) (by omega)]
    simp only [hi', decide_true, cond_true, bnd_some, impl_stmtsValid_n hmn [l[i]] (by rw [mSs_one]; omega)]
    cases stOk [l[i]] <;> cases bSs many [l[i]] <;> simp

theorem restsN_eq (many : Int) (l : List Stm) : restsN many l = (rests l && bSs many l) := by
  unfold restsN rests
  rw [bSs_eq]
  refine all_and (fun s => ?_) l
  simp [bSs]

theorem impl_taskValid_n {many : Int} (hmn : 0 ≤ many ∧ many ≤ 3) (t : Tk) (hv : (t.vars.length : Int) ≤ 4294967296) (hm : mSs t.rest ≤ 4294967296) : impl_taskValid t many = some (taskOk t && bSs many t.rest) := by
  apply impl_taskValid_le
  rw [impl_areWords_eq hv, show (0 : Int) = ((0 : Nat) : Int) by rfl, impl_rests_n hmn hm t.rest.length 0 (by omega), List.drop_zero, restsN_eq]
  unfold taskOk
  by_cases h4 : (t.vars.length : Int) = 4 <;> cases words t.vars <;> cases rests t.rest <;> cases bSs many t.rest <;> simp [selm, h4]

def mT (t : Tk) : Nat := t.vars.length + mSs t.rest

def mB (b : Bx) : Nat := b.items.length

def mTs : List Tk → Nat
  | [] => 0
  | e :: r => 1 + mT e + mTs r

theorem mTs_len : ∀ l : List Tk, l.length ≤ mTs l
  | [] => Nat.le_refl _
  | e :: r => by have := mTs_len r; simp only [mTs, List.length_cons]; omega

theorem mTs_mem : ∀ {l : List Tk} {e : Tk}, e ∈ l → mT e < mTs l
  | [], e, h => by cases h
  | a :: r, e, h => by
    simp only [mTs]
    rcases List.mem_cons.1 h with rfl | h
    · omega
    · have := mTs_mem h; omega

def mBs : List Bx → Nat
  | [] => 0
  | e :: r => 1 + mB e + mBs r

theorem mBs_len : ∀ l : List Bx, l.length ≤ mBs l
  | [] => Nat.le_refl _
  | e :: r => by have := mBs_len r; simp only [mBs, List.length_cons]; omega

theorem mBs_mem : ∀ {l : List Bx} {e : Bx}, e ∈ l → mB e < mBs l
  | [], e, h => by cases h
  | a :: r, e, h => by
    simp only [mBs]
    rcases List.mem_cons.1 h with rfl | h
    · omega
    · have := mBs_mem h; omega

def mW (v : Wld) : Nat := mTs v.tasks + mBs v.boxes + v.out.length

theorem bx_eta (b : Bx) : (⟨b.room, b.items⟩ : Bx) = b := by cases b; rfl

theorem mW_parts {v : Wld} (h : mW v ≤ 4294967296) : (v.tasks.length : Int) ≤ 4294967296 ∧ (∀ t ∈ v.tasks, mT t ≤ 4294967296) ∧ (v.boxes.length : Int) ≤ 4294967296 ∧ (∀ b ∈ v.boxes, mB b ≤ 4294967296) ∧ (v.out.length : Int) ≤ 4294967296 := by
  unfold mW at h
  have h1 := mTs_len v.tasks
  have h2 := mBs_len v.boxes
  refine ⟨by omega, fun t ht => ?_, by omega, fun b hb => ?_, by omega⟩
  · have := mTs_mem ht; omega
  · have := mBs_mem hb; omega

def boxOk (b : Bx) : Bool := decide (1 ≤ b.room ∧ b.room ≤ 4) && decide ((b.items.length : Int) ≤ b.room) && words b.items

theorem impl_BoxValid_eq {b : Bx} (h : mB b ≤ 4294967296) : impl_BoxValid b = some (boxOk b) := by
  apply impl_BoxValid_le
  unfold mB at h
  rw [impl_areWords_eq (by omega)]
  unfold boxOk
  by_cases h1 : 1 ≤ b.room <;> by_cases h2 : b.room ≤ 4 <;> by_cases h3 : (b.items.length : Int) ≤ b.room <;> cases words b.items <;> simp [h1, h2, h3]

theorem spec_BoxValid_eq {b : Bx} (h : mB b ≤ 4294967296) : spec_BoxValid b = some (boxOk b) := by
  apply spec_BoxValid_le
  unfold mB at h
  rw [spec_l4Words_eq (by omega), spec_l6In_eq]
  unfold boxOk
  by_cases h1 : 1 ≤ b.room ∧ b.room ≤ 4 <;> by_cases h3 : (b.items.length : Int) ≤ b.room <;> cases words b.items <;> simp [h1, h3]

theorem impl_boxes_l {l : List Bx} (hl : (l.length : Int) ≤ 4294967296) (hp : ∀ b ∈ l, mB b ≤ 4294967296) : ∀ (d i : Nat), i + d = l.length → impl_boxesValid_l1 l l l.length i = some (if (l.drop i).all boxOk then .inl l else .inr (l, false))
  | 0, i, hd => by
    apply impl_boxesValid_l1_le
    have hi : ¬ ((i : Int) < l.length) := by omega
    rw [List.drop_eq_nil_of_le (by omega)]
    simp [hi]
  | d + 1, i, hd => by
    apply impl_boxesValid_l1_le
    have hi : i < l.length := by omega
    have hi' : (i : Int) < l.length := by omega
    have e1 : (l.drop i).all boxOk = (boxOk l[i] && (l.drop (i + 1)).all boxOk) := by rw [List.drop_eq_getElem_cons hi, List.all_cons]
    rw [geti_some hi, wrap_succ (by omega), impl_boxes_l hl hp d (i + 1) (by omega), e1]
    simp only [hi', decide_true, cond_true, bnd_some, impl_BoxValid_eq (hp _ (List.getElem_mem hi))]
    cases boxOk l[i] <;> simp

theorem spec_boxes_l {l : List Bx} (hl : (l.length : Int) ≤ 4294967296) (hp : ∀ b ∈ l, mB b ≤ 4294967296) : ∀ (d i : Nat), i + d = l.length → spec_l15Boxes_l1 l i = some (if (l.drop i).all boxOk then .inl l else .inr (l, false))
  | 0, i, hd => by
    apply spec_l15Boxes_l1_le
    have hi : ¬ ((i : Int) < l.length) := by omega
    rw [List.drop_eq_nil_of_le (by omega)]
    simp [hi]
  | d + 1, i, hd => by
    apply spec_l15Boxes_l1_le
    have hi : i < l.length := by omega
    have hi' : (i : Int) < l.length := by omega
    have e1 : (l.drop i).all boxOk = (boxOk l[i] && (l.drop (i + 1)).all boxOk) := by rw [List.drop_eq_getElem_cons hi, List.all_cons]
    rw [geti_some hi, wrap_succ (by omega), spec_boxes_l hl hp d (i + 1) (by omega), e1]
    simp only [hi', decide_true, cond_true, bnd_some, spec_BoxValid_eq (hp _ (List.getElem_mem hi))]
    cases boxOk l[i] <;> simp

theorem impl_boxesValid_eq {l : List Bx} (hl : (l.length : Int) ≤ 4294967296) (hp : ∀ b ∈ l, mB b ≤ 4294967296) : impl_boxesValid l = some (l.all boxOk && decide ((l.length : Int) ≤ 3)) := by
  apply impl_boxesValid_le
  rw [show (0 : Int) = ((0 : Nat) : Int) by rfl, impl_boxes_l hl hp l.length 0 (by omega), List.drop_zero]
  cases l.all boxOk <;> simp [selm]

theorem spec_l15Boxes_eq {l : List Bx} (hl : (l.length : Int) ≤ 4294967296) (hp : ∀ b ∈ l, mB b ≤ 4294967296) : spec_l15Boxes l = some (l.all boxOk && decide ((l.length : Int) ≤ 3)) := by
  apply spec_l15Boxes_le
  rw [show (0 : Int) = ((0 : Nat) : Int) by rfl, spec_boxes_l hl hp l.length 0 (by omega), List.drop_zero]
  cases l.all boxOk <;> simp [selm]

def tkOk (many : Int) (t : Tk) : Bool := taskOk t && bSs many t.rest

theorem impl_tasks_l {l t0 : List Tk} {bx : List Bx} {n k : Int} {o : List Int} (hb : (bx.length : Int) ≤ 3) (hl : (l.length : Int) ≤ 4294967296) (hp : ∀ t ∈ l, mT t ≤ 4294967296) : ∀ (d i : Nat), i + d = l.length → impl_WorldValid_l1 l l.length i t0 bx n k o = some (if (l.drop i).all (tkOk bx.length) then .inl () else .inr false)
  | 0, i, hd => by
    apply impl_WorldValid_l1_le
    have hi : ¬ ((i : Int) < l.length) := by omega
    rw [List.drop_eq_nil_of_le (by omega)]
    simp [hi]
  | d + 1, i, hd => by
    apply impl_WorldValid_l1_le
    have hi : i < l.length := by omega
    have hi' : (i : Int) < l.length := by omega
    have hm := hp _ (List.getElem_mem hi)
    unfold mT at hm
    have e1 : (l.drop i).all (tkOk bx.length) = (tkOk bx.length l[i] && (l.drop (i + 1)).all (tkOk bx.length)) := by rw [List.drop_eq_getElem_cons hi, List.all_cons]
    rw [geti_some hi, wrap_succ (by omega), impl_tasks_l hb hl hp d (i + 1) (by omega), e1]
    simp only [hi', decide_true, cond_true, bnd_some, impl_taskValid_n ⟨Int.natCast_nonneg _, hb⟩ l[i] (by omega) (by omega)]
    unfold tkOk
    cases taskOk l[i] <;> cases bSs (bx.length : Int) l[i].rest <;> simp

theorem spec_tasks_l {l : List Tk} {bx : List Bx} {n k : Int} {o : List Int} (hl : (l.length : Int) ≤ 4294967296) (hp : ∀ t ∈ l, mT t ≤ 4294967296) : ∀ (d i : Nat), i + d = l.length → spec_WorldValid_l1 l.length i l bx n k o = some (if (l.drop i).all (tkOk bx.length) then .inl (l, bx, n, k, o) else .inr (false, l, bx, n, k, o))
  | 0, i, hd => by
    apply spec_WorldValid_l1_le
    have hi : ¬ ((i : Int) < l.length) := by omega
    rw [List.drop_eq_nil_of_le (by omega)]
    simp [hi]
  | d + 1, i, hd => by
    apply spec_WorldValid_l1_le
    have hi : i < l.length := by omega
    have hi' : (i : Int) < l.length := by omega
    have hm := hp _ (List.getElem_mem hi)
    unfold mT at hm
    have e1 : (l.drop i).all (tkOk bx.length) = (tkOk bx.length l[i] && (l.drop (i + 1)).all (tkOk bx.length)) := by rw [List.drop_eq_getElem_cons hi, List.all_cons]
    rw [geti_some hi, wrap_succ (by omega), spec_tasks_l hl hp d (i + 1) (by omega), e1]
    simp only [hi', decide_true, cond_true, bnd_some, spec_TaskValid_eq l[i] (by omega) (by omega), spec_l12Boxes_eq (show mSs l[i].rest ≤ 4294967296 by omega)]
    unfold tkOk
    cases taskOk l[i] <;> cases bSs (bx.length : Int) l[i].rest <;> simp

def worldOk (v : Wld) : Bool := decide (1 ≤ (v.tasks.length : Int) ∧ (v.tasks.length : Int) ≤ 3) && (v.boxes.all boxOk && decide ((v.boxes.length : Int) ≤ 3)) && decide (0 ≤ v.turn ∧ v.turn < (v.tasks.length : Int)) && decide (0 ≤ v.idle ∧ v.idle ≤ (v.tasks.length : Int)) && v.tasks.all (tkOk v.boxes.length) && words v.out

theorem impl_WorldValid_eq {v : Wld} (h : mW v ≤ 4294967296) : impl_WorldValid v = some (worldOk v) := by
  obtain ⟨h1, h2, h3, h4, h5⟩ := mW_parts h
  apply impl_WorldValid_le
  have ht : impl_turnsValid (v.tasks.length : Int) v.turn v.idle v.out = some (decide (1 ≤ (v.tasks.length : Int) ∧ (v.tasks.length : Int) ≤ 3) && decide (0 ≤ v.turn ∧ v.turn < (v.tasks.length : Int)) && decide (0 ≤ v.idle ∧ v.idle ≤ (v.tasks.length : Int)) && words v.out) := by
    apply impl_turnsValid_le
    rw [impl_areWords_eq h5]
    generalize (v.tasks.length : Int) = n
    by_cases c1 : 1 ≤ n <;> by_cases c2 : n ≤ 3 <;> by_cases c3 : 0 ≤ v.turn <;> by_cases c4 : v.turn < n <;> by_cases c5 : 0 ≤ v.idle <;> by_cases c6 : v.idle ≤ n <;> simp [c1, c2, c3, c4, c5, c6]
  rw [ht, impl_boxesValid_eq h3 h4, bnd_some]
  unfold worldOk
  by_cases hb : (v.boxes.length : Int) ≤ 3
  · rw [show (0 : Int) = ((0 : Nat) : Int) by rfl, impl_tasks_l hb h1 h2 v.tasks.length 0 (by omega), List.drop_zero]
    rw [show ((0 : Nat) : Int) = 0 by rfl]
    generalize decide (1 ≤ (v.tasks.length : Int) ∧ (v.tasks.length : Int) ≤ 3) = x1
    generalize decide (0 ≤ v.turn ∧ v.turn < (v.tasks.length : Int)) = x2
    generalize decide (0 ≤ v.idle ∧ v.idle ≤ (v.tasks.length : Int)) = x3
    cases x1 <;> cases x2 <;> cases x3 <;> cases words v.out <;> cases v.boxes.all boxOk <;> cases v.tasks.all (tkOk v.boxes.length) <;> simp [selm, hb]
  · generalize decide (1 ≤ (v.tasks.length : Int) ∧ (v.tasks.length : Int) ≤ 3) = x1
    generalize decide (0 ≤ v.turn ∧ v.turn < (v.tasks.length : Int)) = x2
    generalize decide (0 ≤ v.idle ∧ v.idle ≤ (v.tasks.length : Int)) = x3
    cases x1 <;> cases x2 <;> cases x3 <;> cases words v.out <;> simp [hb]

theorem spec_WorldValid_eq {v : Wld} (h : mW v ≤ 4294967296) : spec_WorldValid v = some (worldOk v) := by
  obtain ⟨h1, h2, h3, h4, h5⟩ := mW_parts h
  apply spec_WorldValid_le
  rw [wrap_id (n := (v.tasks.length : Int) - 1) (by omega) (by omega)]
  simp only [spec_l6In_eq, spec_l15Boxes_eq h3 h4, bnd_some]
  unfold worldOk
  rw [show (0 : Int) = ((0 : Nat) : Int) by rfl, spec_tasks_l h1 h2 v.tasks.length 0 (by omega), List.drop_zero]
  rw [show ((0 : Nat) : Int) = 0 by rfl]
  have et : (0 ≤ v.turn ∧ v.turn ≤ (v.tasks.length : Int) - 1) = (0 ≤ v.turn ∧ v.turn < (v.tasks.length : Int)) := propext (by omega)
  simp only [et]
  generalize decide (1 ≤ (v.tasks.length : Int) ∧ (v.tasks.length : Int) ≤ 3) = x1
  generalize decide (0 ≤ v.turn ∧ v.turn < (v.tasks.length : Int)) = x2
  generalize decide (0 ≤ v.idle ∧ v.idle ≤ (v.tasks.length : Int)) = x3
  generalize (v.boxes.all boxOk && decide ((v.boxes.length : Int) ≤ 3)) = x4
  cases x1 <;> cases x2 <;> cases x3 <;> cases x4 <;> cases v.tasks.all (tkOk v.boxes.length) <;> simp [selm, spec_l4Words_eq h5]

theorem clone_eq {l : List Int} (h : l.length ≤ 4294967296) : slices_Clone___int_int_ l = some l := by
  apply slices_Clone___int_int__le
  rw [if_pos h]

theorem cut_tail {α : Type} (x : α) (r : List α) : cutL (x :: r) 1 ((x :: r).length : Int) = some r := by
  unfold cutL
  rw [if_pos (by simp; omega)]
  simp

theorem sameInts_l {a : List Int} (hl : (a.length : Int) ≤ 4294967296) : ∀ (d i : Nat), i + d = a.length → laws_sameInts_l1 a a i = some (.inl ())
  | 0, i, hd => by
    apply laws_sameInts_l1_le
    have hi : ¬ ((i : Int) < a.length) := by omega
    simp [hi]
  | d + 1, i, hd => by
    apply laws_sameInts_l1_le
    have hi : i < a.length := by omega
    have hi' : (i : Int) < a.length := by omega
    rw [geti_some hi, wrap_succ (by omega)]
    simp only [hi', decide_true, cond_true, bnd_some, Bool.not_true, cond_false]
    exact sameInts_l hl d (i + 1) (by omega)

theorem laws_sameInts_refl {a : List Int} (hl : (a.length : Int) ≤ 4294967296) : laws_sameInts a a = some true := by
  apply laws_sameInts_le
  rw [show (0 : Int) = ((0 : Nat) : Int) by rfl, sameInts_l hl a.length 0 (by omega)]
  simp [selm]

def takeB (b : Bx) : Bx × Int × Bool := match b.items with | [] => (⟨0, []⟩, 0, false) | x :: r => if boxOk b then (⟨b.room, r⟩, x, true) else (⟨0, []⟩, 0, false)

theorem spec_BoxTake_eq {b : Bx} (h : mB b ≤ 4294967296) : spec_BoxTake b = some (takeB b) := by
  apply spec_BoxTake_le
  rw [spec_BoxValid_eq h, bnd_some]
  unfold mB at h
  obtain ⟨room, items⟩ := b
  cases items with
  | nil => cases boxOk ⟨room, []⟩ <;> simp [takeB]
  | cons x r =>
    simp only [List.length_cons] at h
    simp only [cut_tail, bnd_some, appL_some (show ([] : List Int).length + r.length ≤ 4294967296 by simp; omega), geti0, takeB]
    have : ¬ (((x :: r).length : Int) = 0) := by simp; omega
    simp only [this]
    cases boxOk ⟨room, x :: r⟩ <;> simp

def wordB (v : Int) : Bool := decide (-2147483648 ≤ v ∧ v ≤ 2147483647)

def putB (b : Bx) (v : Int) : Bx × Bool := if boxOk b && wordB v && decide ((b.items.length : Int) < b.room) then (⟨b.room, b.items ++ [v]⟩, true) else (⟨0, []⟩, false)

theorem boxOk_facts {b : Bx} (h : boxOk b = true) : 1 ≤ b.room ∧ b.room ≤ 4 ∧ (b.items.length : Int) ≤ b.room ∧ words b.items = true := by
  unfold boxOk at h
  simp only [Bool.and_eq_true, decide_eq_true_eq] at h
  exact ⟨h.1.1.1, h.1.1.2, h.1.2, h.2⟩

theorem spec_BoxPut_eq {b : Bx} (h : mB b ≤ 4294960000) (v : Int) : spec_BoxPut b v = some (putB b v) := by
  apply spec_BoxPut_le
  rw [spec_BoxValid_eq (by omega), spec_WordValid_eq]
  unfold mB at h
  simp only [appL_some (show ([] : List Int).length + b.items.length ≤ 4294967296 by simp; omega), bnd_some, List.nil_append, appL_some (show b.items.length + [v].length ≤ 4294967296 by simp; omega)]
  unfold putB
  cases hb : boxOk b
  · simp
  · have := boxOk_facts hb
    have e1 : decide (-2147483648 ≤ v ∧ v ≤ 2147483647) = wordB v := rfl
    rw [e1]
    by_cases hl : b.room ≤ (b.items.length : Int)
    · have : ¬ ((b.items.length : Int) < b.room) := by omega
      cases wordB v <;> simp [hl, this]
    · have : (b.items.length : Int) < b.room := by omega
      cases wordB v <;> simp [hl, this]

def opTs : List (List UInt8) := [[124], [94], [38], [61, 61], [60], [60, 60], [62, 62], [43], [45], [42], [47], [37]]

abbrev Tok := List UInt8

def bl (c : UInt8) : Bool := decide (c.toNat = 32 ∨ c.toNat = 10)

def opAt : List Tok → Nat → Tok → Nat
  | [], _, _ => 0
  | x :: r, n, t => if x = t then n else opAt r (n + 1) t

def opN (t : Tok) : Nat := opAt opTs 1 t

/-- A byte that ends each token before it. -/
def fin (c : UInt8) : Prop := bl c = true ∨ c = 40 ∨ c = 41

def bin (o : Tok) (a b : Exp) : Exp := ⟨(opN o : Int), 0, [a, b]⟩

def xs : Nat → Nat
  | 0 => 0
  | d + 1 => 2 + 2 * xs d

theorem emXs_two (a b : Exp) : emXs [a, b] = 2 + emX a + emX b := by simp [emXs]; omega

theorem l91Leaf_sz {b : List Int} {p m : Int} (h : Rd b p m) (hm : m ≤ 999999990) : Ok (spec_l91Leaf b p) fun r => emXs r.2.2.1.2 = 0 := by
  apply Ok.le (spec_l91Leaf_le b p)
  refine Ok.bnd (pick_ok h (by omega) (by decide)) fun r1 h1 => ?_
  refine Ok.bif (fun _ => ?_) (fun _ => ?_)
  · refine Ok.bnd (pick_ok h1.1 (by omega) (by decide)) fun r2 h2 => ?_
    rw [l4Leaf_eq, bnd_some]
    exact Ok.of rfl
  refine Ok.bif (fun _ => ?_) (fun _ => ?_)
  · refine Ok.bnd (pick_ok h1.1 (by omega) (by decide)) fun r2 h2 => ?_
    refine Ok.bnd (pick_geti h2.2 (by omega) rfl) fun e he => ?_
    rw [l4Leaf_eq, bnd_some]
    exact Ok.of rfl
  · refine Ok.bnd (pick_ok h1.1 (by omega) (by decide)) fun r2 h2 => ?_
    rw [l4Leaf_eq, bnd_some]
    exact Ok.of rfl

theorem l91Expr_sz : ∀ (d : Nat) {b : List Int} {p m : Int} (n : Int), n = (d : Int) + 1 → d ≤ 10 → Rd b p m → m + cost d ≤ 999999990 →
    Ok (spec_l91Expr n b p) fun r => emXs r.2.2.1.2 ≤ xs d
  | d, b, p, m, n, hn, hd, h, hm => by
    apply Ok.le (spec_l91Expr_le n b p)
    have hc := cost_pos d
    refine Ok.bif (fun hb => ?_) (fun hb => ?_)
    · refine Ok.bnd (l91Leaf_sz h (by omega)) fun r1 h1 => ?_
      exact Ok.of (by dsimp only; omega)
    · simp only [decide_eq_false_iff_not] at hb
      obtain ⟨d, rfl⟩ : ∃ d', d = d' + 1 := ⟨d - 1, by omega⟩
      have hc' := cost_pos d
      simp only [cost] at hm ⊢
      refine Ok.bnd (pick_ok h (by omega) (by decide)) fun r1 h1 => ?_
      refine Ok.bif (fun _ => ?_) (fun _ => ?_)
      · refine Ok.bnd (l91Leaf_sz h1.1 (by omega)) fun r2 h2 => ?_
        exact Ok.of (by dsimp only; omega)
      · refine Ok.bnd (l91Op_ok h1.1 (by omega)) fun r2 h2 => ?_
        rw [wrap_id (n := n - 1) (by omega) (by omega)]
        refine Ok.bnd ((l91Expr_ok d (n - 1) (by omega) (by omega) h2.1 (by omega)).and (l91Expr_sz d (n - 1) (by omega) (by omega) h2.1 (by omega))) fun r3 h3 => ?_
        refine Ok.bnd ((l91Expr_ok d (n - 1) (by omega) (by omega) h3.1.1 (by omega)).and (l91Expr_sz d (n - 1) (by omega) (by omega) h3.1.1 (by omega))) fun r4 h4 => ?_
        rw [l4Both_eq, bnd_some]
        refine Ok.of ?_
        have e3 := h3.2
        have e4 := h4.2
        simp only [emXs_two, emX_eq, xs]
        omega

/-- What an expression of at most four levels takes. -/
theorem expr_ok {b : List Int} {p m : Int} (n : Int) (h1 : 1 ≤ n) (h2 : n ≤ 4) (h : Rd b p m) (hm : m ≤ 999999000) : Ok (spec_l91Expr n b p) fun r => Rd r.2.2.2.1 r.2.2.2.2 (m + 30) ∧ emXs r.2.2.1.2 ≤ 14 := by
  have hc : ∀ d : Nat, d ≤ 3 → cost d ≤ 30 ∧ xs d ≤ 14 := by
    intro d hd
    match d, hd with
    | 0, _ => decide
    | 1, _ => decide
    | 2, _ => decide
    | 3, _ => decide
  obtain ⟨c1, c2⟩ := hc (n - 1).toNat (by omega)
  exact ((l91Expr_ok (n - 1).toNat n (by omega) (by omega) h (by omega)).and (l91Expr_sz (n - 1).toNat n (by omega) (by omega) h (by omega))).mono fun r hr => ⟨hr.1.1.mono (by omega), by have := hr.2; omega⟩

theorem mSs_append : ∀ a b : List Stm, mSs (a ++ b) = mSs a + mSs b
  | [], b => by simp [mSs]
  | s :: a, b => by simp only [List.cons_append, mSs, mSs_append a b]; omega

theorem mS_mk (k v x o n : Int) (as : List Exp) (bd el : List Stm) : mS ⟨k, v, x, ⟨o, n, as⟩, bd, el⟩ = emXs as + mSs bd + mSs el := by simp [mS_eq, emX_eq]

def cs : Nat → Int
  | 0 => 40
  | k + 1 => 60 + 4 * cs k

def ms : Nat → Nat
  | 0 => 15
  | k + 1 => 30 + 4 * ms k

theorem cs_pos : ∀ k, 40 ≤ cs k
  | 0 => by simp [cs]
  | k + 1 => by have := cs_pos k; simp only [cs]; omega

theorem ms_pos : ∀ k, 15 ≤ ms k
  | 0 => by simp [ms]
  | k + 1 => by have := ms_pos k; simp only [ms]; omega

theorem l92Set_ok {b : List Int} {p m : Int} (h : Rd b p m) (hm : m ≤ 999998000) : Ok (spec_l92Set b p) fun r => Rd r.2.1 r.2.2 (m + 32) ∧ mS r.1 ≤ 14 := by
  apply Ok.le (spec_l92Set_le b p)
  refine Ok.bnd (pick_ok h (by omega) (by decide)) fun r1 h1 => ?_
  refine Ok.bnd (pick_ok h1.1 (by omega) (by decide)) fun r2 h2 => ?_
  have hk := h2.2.2.1 (by omega)
  rw [wrap_id (n := 1 + r2.1) (by omega) (by omega)]
  refine Ok.bnd (expr_ok _ (by omega) (by omega) h2.1 (by omega)) fun r3 h3 => ?_
  refine Ok.of ⟨h3.1.mono (by omega), ?_⟩
  rw [mS_mk]; have := h3.2; simp only [mSs]; omega

theorem l92Talk_ok {b : List Int} {p m : Int} (n : Int) (hn : n ≤ 1000) (h : Rd b p m) (hm : m ≤ 999998000) : Ok (spec_l92Talk n b p) fun r => Rd r.2.1 r.2.2 (m + 35) ∧ mS r.1 ≤ 14 := by
  apply Ok.le (spec_l92Talk_le n b p)
  refine Ok.bif (fun _ => ?_) (fun hb => ?_)
  · refine Ok.bnd (l92Set_ok h hm) fun r1 h1 => ?_
    refine Ok.of ⟨h1.1.mono (by omega), ?_⟩
    have := h1.2
    rw [mS_mk]; rw [mS_eq, emX_eq] at this; exact this
  simp only [decide_eq_false_iff_not] at hb
  refine Ok.bnd (pick_ok h (by omega) (by unfold wfI; omega)) fun r2 h2 => ?_
  refine Ok.bnd (pick_ok h2.1 (by omega) (by decide)) fun r3 h3 => ?_
  refine Ok.bif (fun _ => ?_) (fun _ => ?_)
  · refine Ok.bnd (pick_ok h3.1 (by omega) (by decide)) fun r4 h4 => ?_
    have hk := h4.2.2.1 (by omega)
    rw [wrap_id (n := 1 + r4.1) (by omega) (by omega)]
    refine Ok.bnd (expr_ok _ (by omega) (by omega) h4.1 (by omega)) fun r5 h5 => ?_
    refine Ok.of ⟨h5.1.mono (by omega), ?_⟩
    rw [mS_mk]; have := h5.2; simp only [mSs]; omega
  · refine Ok.bnd (pick_ok h3.1 (by omega) (by decide)) fun r6 h6 => ?_
    refine Ok.of ⟨h6.1.mono (by omega), ?_⟩
    rw [mS_mk]; simp [mSs, emXs]

/-- Blocks of so many statements with so many levels. -/
def BlockOk (k : Nat) : Prop := ∀ {b : List Int} {p m : Int} (a n : Int) (lo : Bool), a ≤ 1000 → n ≤ 2 → Rd b p m → m + 2 * cs k ≤ 999990000 → Ok (spec_l92Block a k n lo b p) fun r => Rd r.2.1 r.2.2 (m + 2 * cs k) ∧ mSs r.1 ≤ 2 * ms k

def StmtOk (k : Nat) : Prop := ∀ {b : List Int} {p m : Int} (a : Int) (lo : Bool), a ≤ 1000 → Rd b p m → m + cs k ≤ 999990000 → Ok (spec_l92Stmt a k lo b p) fun r => Rd r.2.1 r.2.2 (m + cs k) ∧ mSs r.1 ≤ ms k

theorem block_of {k : Nat} (hs : StmtOk k) {a n : Int} {lo : Bool} (ha : a ≤ 1000) : ∀ (d : Nat) (i : Int) (f : Bool) (l : List Stm) {b : List Int} {p m : Int}, (n ≤ i + d) → 0 ≤ i → i ≤ 100 - d → mSs l + d * ms k ≤ 1000000000 → d ≤ 100 → Rd b p m → m + d * cs k ≤ 999990000 →
    Ok (spec_l92Block_l1 a k n lo f l i b p) fun r => Rd r.2.1 r.2.2 (m + d * cs k) ∧ mSs r.1.2 ≤ mSs l + d * ms k
  | 0, i, f, l, b, p, m, hd, h0, hi1, hl, hdd, h, hm => by
    apply Ok.le (spec_l92Block_l1_le _ _ _ _ _ _ _ _ _)
    have : ¬ (i < n) := by omega
    simp only [this, decide_false, cond_false]
    exact Ok.of ⟨h.mono (by omega), by simp⟩
  | d + 1, i, f, l, b, p, m, hd, h0, hi1, hl, hdd, h, hm => by
    apply Ok.le (spec_l92Block_l1_le _ _ _ _ _ _ _ _ _)
    have hc := cs_pos k
    have e1 : ((d + 1 : Nat) : Int) * cs k = d * cs k + cs k := by rw [Int.natCast_add, Int.add_mul]; omega
    have e2 : (d + 1) * ms k = d * ms k + ms k := by rw [Nat.add_mul]; omega
    have e3 : 0 ≤ (d : Int) * cs k := Int.mul_nonneg (by omega) (by omega)
    rw [e1] at hm ⊢
    rw [e2] at hl ⊢
    refine Ok.bif (fun hb => ?_) (fun hb => ?_)
    · simp only [decide_eq_true_eq] at hb
      refine Ok.bnd (hs a lo ha h (by omega)) fun r1 h1 => ?_
      have hl1 := mSs_len l
      have hl2 := mSs_len r1.1
      have h12 := h1.2
      rw [appL_some (by omega), bnd_some, wrap_id (n := i + 1) (by omega) (by omega)]
      have ea := mSs_append l r1.1
      exact (block_of hs ha d (i + 1) true _ (by omega) (by omega) (by omega) (by omega) (by omega) h1.1 (by omega)).mono fun r hr => ⟨hr.1.mono (by omega), by have := hr.2; omega⟩
    · exact Ok.of ⟨h.mono (by omega), by show mSs l ≤ _; omega⟩

theorem drawn_block {k : Nat} (hs : StmtOk k) (d : Nat) (hd : d ≤ 10) (hms : ms k ≤ 10000000) {b : List Int} {p m : Int} (a n : Int) (lo : Bool) (ha : a ≤ 1000) (hn : n ≤ d) (h : Rd b p m) (hm : m + d * cs k ≤ 999990000) : Ok (spec_l92Block a k n lo b p) fun r => Rd r.2.1 r.2.2 (m + d * cs k) ∧ mSs r.1 ≤ d * ms k := by
  apply Ok.le (spec_l92Block_le _ _ _ _ _ _)
  have hk : d * ms k ≤ 10 * 10000000 := Nat.mul_le_mul hd hms
  refine Ok.bnd (block_of hs ha d 0 true [] (by omega) (by omega) (by omega) (by simp [mSs]; omega) (by omega) h hm) fun r hr => ?_
  exact Ok.of ⟨hr.1, by have := hr.2; simp only [mSs] at this; dsimp only; omega⟩

theorem l92If_ok {k : Nat} (hb : BlockOk k) {b : List Int} {p m : Int} (a : Int) (lo : Bool) (ha : a ≤ 1000) (hk : k ≤ 10) (h : Rd b p m) (hm : m + cs (k + 1) ≤ 999990010) : Ok (spec_l92If a ((k + 1 : Nat) : Int) lo b p) fun r => Rd r.2.1 r.2.2 (m + (cs (k + 1) - 10)) ∧ mS r.1 + 1 ≤ ms (k + 1) := by
  apply Ok.le (spec_l92If_le _ _ _ _ _)
  have hc := cs_pos k
  simp only [cs, ms] at hm ⊢
  refine Ok.bnd (pick_ok h (by omega) (by decide)) fun r1 h1 => ?_
  have hk1 := h1.2.2.1 (by omega)
  rw [wrap_id (n := 1 + r1.1) (by omega) (by omega), wrap_id (n := ((k + 1 : Nat) : Int) - 1) (by omega) (by omega), show ((k + 1 : Nat) : Int) - 1 = (k : Int) by omega]
  refine Ok.bnd (expr_ok _ (by omega) (by omega) h1.1 (by omega)) fun r2 h2 => ?_
  refine Ok.bnd (pick_ok h2.1 (by omega) (by decide)) fun r3 h3 => ?_
  have hk3 := h3.2.2.1 (by omega)
  refine Ok.bnd (hb a _ lo ha (by omega) h3.1 (by omega)) fun r4 h4 => ?_
  refine Ok.bnd (pick_ok h4.1 (by omega) (by decide)) fun r5 h5 => ?_
  have hk5 := h5.2.2.1 (by omega)
  refine Ok.bnd (hb a _ lo ha (by omega) h5.1 (by omega)) fun r6 h6 => ?_
  refine Ok.of ⟨h6.1.mono (by omega), ?_⟩
  have q2 := h2.2
  have q4 := h4.2
  have q6 := h6.2
  rw [mS_mk]; omega

theorem l92Loop_ok {k : Nat} (hb : BlockOk k) {b : List Int} {p m : Int} (a : Int) (ha : a ≤ 1000) (hk : k ≤ 10) (hms : ms k ≤ 10000000) (h : Rd b p m) (hm : m + cs (k + 1) ≤ 999990010) : Ok (spec_l92Loop a ((k + 1 : Nat) : Int) b p) fun r => Rd r.2.1 r.2.2 (m + (cs (k + 1) - 10)) ∧ mSs r.1 ≤ ms (k + 1) := by
  apply Ok.le (spec_l92Loop_le _ _ _ _)
  have hc := cs_pos k
  have hp := ms_pos k
  simp only [cs, ms] at hm ⊢
  refine Ok.bnd (pick_ok h (by omega) (by decide)) fun r1 h1 => ?_
  have hk1 := h1.2.2.1 (by omega)
  rw [wrap_id (n := ((k + 1 : Nat) : Int) - 1) (by omega) (by omega), show ((k + 1 : Nat) : Int) - 1 = (k : Int) by omega]
  refine Ok.bnd (hb a _ false ha (by omega) h1.1 (by omega)) fun r2 h2 => ?_
  rw [l4Leaf_eq, bnd_some, l4Leaf_eq, bnd_some, l4Both_eq, bnd_some, bnd_some]
  refine Ok.bnd (pick_ok h2.1 (by omega) (by decide)) fun r7 h7 => ?_
  have hk7 := h7.2.2.1 (by omega)
  have hl2 := mSs_len r2.1
  have q2 := h2.2
  rw [wrap_id (n := 1 + r7.1) (by omega) (by omega), l4Leaf_eq, bnd_some, l4Both_eq, bnd_some, appL_some (by simp; omega), bnd_some, l4Leaf_eq, bnd_some]
  refine Ok.of ⟨h7.1.mono (by omega), ?_⟩
  simp only [mSs, mS_mk, mSs_append, emXs_two, emX_eq, emXs]
  omega

theorem stmt_ok (k : Nat) (hk : k ≤ 4) (hms : ms k ≤ 10000000) (hb : ∀ k', k = k' + 1 → BlockOk k') : StmtOk k := by
  intro b p m a lo ha h hm
  apply Ok.le (spec_l92Stmt_le _ _ _ _ _)
  have hc := cs_pos k
  have hp := ms_pos k
  have pr : ∀ {b : List Int} {p m' : Int}, Rd b p m' → m' ≤ m + 1 → Ok (Vs.bnd (spec_l6Rd_pick 3 b p) fun r5 => Vs.bnd (spec_l91Expr (wrap64 (1 + r5.1)) r5.2.1 r5.2.2) fun r6 => some (([⟨7, 0, 0, ⟨r6.1, r6.2.1, r6.2.2.1.2⟩, [], []⟩] : List Stm), r6.2.2.2.1, r6.2.2.2.2)) fun r => Rd r.2.1 r.2.2 (m + cs k) ∧ mSs r.1 ≤ ms k := by
    intro b p m' h' hm'
    refine Ok.bnd (pick_ok h' (by omega) (by decide)) fun r5 h5 => ?_
    have hk5 := h5.2.2.1 (by omega)
    rw [wrap_id (n := 1 + r5.1) (by omega) (by omega)]
    refine Ok.bnd (expr_ok _ (by omega) (by omega) h5.1 (by omega)) fun r6 h6 => ?_
    refine Ok.of ⟨h6.1.mono (by omega), ?_⟩
    have := h6.2
    simp only [mSs, mS_mk]; omega
  have one : ∀ {s : Stm}, mS s ≤ 14 → mSs [(⟨s.kind, s.var, s.box, ⟨s.e.op, s.e.n, s.e.args⟩, s.body, s.els⟩ : Stm)] ≤ ms k := by
    intro s hs
    rw [mS_eq, emX_eq] at hs
    simp only [mSs, mS_mk]; omega
  refine Ok.bnd (pick_ok h (by omega) (by decide)) fun r1 h1 => ?_
  refine Ok.bif (fun _ => ?_) (fun _ => ?_)
  · exact Ok.bnd (l92Set_ok h1.1 (by omega)) fun r2 h2 => Ok.of ⟨h2.1.mono (by omega), one h2.2⟩
  refine Ok.bif (fun _ => ?_) (fun _ => ?_)
  · exact Ok.bnd (l92Set_ok h1.1 (by omega)) fun r2 h2 => Ok.of ⟨h2.1.mono (by omega), one h2.2⟩
  refine Ok.bif (fun _ => ?_) (fun _ => ?_)
  · refine Ok.bif (fun h0 => ?_) (fun _ => pr h1.1 (by omega))
    simp only [decide_eq_true_eq] at h0
    obtain ⟨k', rfl⟩ : ∃ k', k = k' + 1 := ⟨k - 1, by omega⟩
    refine Ok.bnd (l92If_ok (hb k' rfl) a lo ha (by omega) h1.1 (by omega)) fun r4 h4 => ?_
    refine Ok.of ⟨h4.1.mono (by omega), ?_⟩
    have := h4.2
    rw [mS_eq, emX_eq] at this
    simp only [mSs, mS_mk]; omega
  refine Ok.bif (fun _ => ?_) (fun _ => ?_)
  · refine Ok.bif (fun h0 => ?_) (fun _ => pr h1.1 (by omega))
    refine Ok.bif (fun _ => ?_) (fun _ => pr h1.1 (by omega))
    simp only [decide_eq_true_eq] at h0
    obtain ⟨k', rfl⟩ : ∃ k', k = k' + 1 := ⟨k - 1, by omega⟩
    refine Ok.bnd (l92Loop_ok (hb k' rfl) a ha (by omega) (by simp only [ms] at hms; omega) h1.1 (by omega)) fun r4 h4 => ?_
    exact Ok.of ⟨h4.1.mono (by omega), h4.2⟩
  refine Ok.bif (fun _ => ?_) (fun _ => ?_)
  · exact Ok.bnd (l92Talk_ok a ha h1.1 (by omega)) fun r2 h2 => Ok.of ⟨h2.1.mono (by omega), one h2.2⟩
  refine Ok.bif (fun _ => ?_) (fun _ => ?_)
  · exact Ok.bnd (l92Talk_ok a ha h1.1 (by omega)) fun r2 h2 => Ok.of ⟨h2.1.mono (by omega), one h2.2⟩
  refine Ok.bif (fun _ => ?_) (fun _ => ?_)
  · exact Ok.bnd (l92Talk_ok a ha h1.1 (by omega)) fun r2 h2 => Ok.of ⟨h2.1.mono (by omega), one h2.2⟩
  refine Ok.bif (fun _ => ?_) (fun _ => pr h1.1 (by omega))
  exact Ok.of ⟨h1.1.mono (by omega), by simp only [mSs, mS_mk, emXs]; omega⟩

theorem ms_small : ∀ k, k ≤ 3 → ms k ≤ 10000000 ∧ cs k ≤ 100000 := by
  intro k hk
  match k, hk with
  | 0, _ => decide
  | 1, _ => decide
  | 2, _ => decide
  | 3, _ => decide

theorem stmts_ok : ∀ k, k ≤ 3 → StmtOk k
  | 0, _ => stmt_ok 0 (by omega) (ms_small 0 (by omega)).1 (fun k' h => by omega)
  | k + 1, hk => stmt_ok (k + 1) (by omega) (ms_small (k + 1) hk).1 (fun k' h => by
    obtain rfl : k = k' := by omega
    intro b p m a n lo ha hn h hm
    exact drawn_block (stmts_ok k (by omega)) 2 (by omega) (ms_small k (by omega)).1 a n lo ha hn h hm)

theorem blocks_ok {k : Nat} (hk : k ≤ 3) : BlockOk k := fun a n lo ha hn h hm => drawn_block (stmts_ok k hk) 2 (by omega) (ms_small k hk).1 a n lo ha hn h hm

theorem l92Endless_ok {b : List Int} {p m : Int} (h : Rd b p m) (hm : m ≤ 999800000) : Ok (spec_l92Endless b p) fun r => Rd r.2.1 r.2.2 (m + 1000) ∧ mS r.1 ≤ 1000 := by
  apply Ok.le (spec_l92Endless_le _ _)
  rw [l4Leaf_eq, bnd_some]
  refine Ok.bnd (pick_ok h (by omega) (by decide)) fun r2 h2 => ?_
  have hk := h2.2.2.1 (by omega)
  have hc : cs 1 = 220 := by decide
  have hms : ms 1 = 90 := by decide
  have := blocks_ok (k := 1) (by omega) 0 r2.1 false (by omega) (by omega) h2.1 (by omega)
  refine Ok.bnd this fun r3 h3 => ?_
  refine Ok.of ⟨h3.1.mono (by omega), ?_⟩
  have := h3.2
  rw [mS_mk]; simp only [mSs, emXs]; omega

theorem mSs_take (l : List Stm) (i : Nat) : mSs (l.take i) ≤ mSs l := by
  have := mSs_append (l.take i) (l.drop i)
  rw [List.take_append_drop] at this; omega

mutual
def binX : Exp → Bool
  | ⟨_, n, as⟩ => decide (as.length = 0 ∨ (as.length = 2 ∧ n = 0)) && binXs as
def binXs : List Exp → Bool
  | [] => true
  | e :: r => binX e && binXs r
end

mutual
def binS : Stm → Bool
  | ⟨_, _, _, e, bd, el⟩ => binX e && binSs bd && binSs el
def binSs : List Stm → Bool
  | [] => true
  | s :: r => binS s && binSs r
end

theorem binX_eq (e : Exp) : binX e = (decide (e.args.length = 0 ∨ (e.args.length = 2 ∧ e.n = 0)) && binXs e.args) := by cases e; simp [binX]

theorem binS_eq (s : Stm) : binS s = (binX s.e && binSs s.body && binSs s.els) := by cases s; simp [binS]

theorem binXs_all : ∀ l : List Exp, binXs l = l.all binX
  | [] => rfl
  | e :: r => by simp [binXs, binXs_all r]

theorem binSs_all : ∀ l : List Stm, binSs l = l.all binS
  | [] => rfl
  | e :: r => by simp [binSs, binSs_all r]

theorem binX_leaf {e : Exp} (h : e.args = []) : binX e = true := by rw [binX_eq, h]; rfl

theorem binX_ok : ∀ (d : Nat) (e : Exp), expOk d e = true → binX e = true
  | 0, e, h => by simp [expOk] at h
  | d + 1, e, h => by
    unfold expOk at h
    split at h
    · simp only [Bool.and_eq_true] at h
      exact binX_leaf (by simpa using h.2)
    split at h
    · simp only [Bool.and_eq_true] at h
      exact binX_leaf (by simpa using h.2)
    · simp only [Bool.and_eq_true] at h
      obtain ⟨⟨_, hn⟩, h⟩ := h
      have hn := of_decide_eq_true hn
      split at h
      · rename_i a b hab
        simp only [Bool.and_eq_true] at h
        rw [binX_eq, hab]
        simp [binXs, binX_ok d a h.1, binX_ok d b h.2, hn]
      · cases h

theorem binX_hdr {s : Stm} (h : hdr s) : binX s.e = true := by
  have e0 : ∀ {e : Exp}, (e.args.length : Int) = 0 → binX e = true := fun h => binX_leaf (List.eq_nil_of_length_eq_zero (by omega))
  rcases h with ⟨_, _, _, h, _⟩ | ⟨_, _, _, h⟩ | ⟨_, _, _, h, _⟩ | ⟨_, _, _, h, _⟩ | ⟨_, _, _, ⟨_, _, h⟩, _⟩ | ⟨_, _, _, ⟨_, _, h⟩, _⟩ | ⟨_, _, _, h, _⟩
  all_goals first | exact binX_ok _ _ h | exact e0 h

theorem binS_ok : ∀ (d : Nat) (s : Stm), sOk d s = true → binS s = true := by
  have leaf : ∀ {s : Stm}, hdr s → s.kind ≠ 2 → s.kind ≠ 3 → binS s = true := by
    intro s h h2 h3
    obtain ⟨e1, e2⟩ := hdr_leaf h h2 h3
    rw [binS_eq, e1, e2, binX_hdr h]; rfl
  intro d
  induction d with
  | zero =>
    intro s h
    simp only [sOk, Bool.and_eq_true, decide_eq_true_eq, Bool.not_eq_true', decide_eq_false_iff_not] at h
    exact leaf h.1 (fun hh => h.2 (.inl hh)) (fun hh => h.2 (.inr hh))
  | succ d ih =>
    intro s h
    simp only [sOk, Bool.and_eq_true, decide_eq_true_eq] at h
    obtain ⟨h1, h2⟩ := h
    by_cases hk : s.kind = 2 ∨ s.kind = 3
    · rw [if_pos hk, Bool.and_eq_true, List.all_eq_true, List.all_eq_true] at h2
      rw [binS_eq, binX_hdr h1, binSs_all, binSs_all, List.all_eq_true.2 fun s hs => ih s (h2.1 s hs), List.all_eq_true.2 fun s hs => ih s (h2.2 s hs)]; rfl
    · exact leaf h1 (fun hh => hk (.inl hh)) (fun hh => hk (.inr hh))

theorem binSs_ok {l : List Stm} (h : stOk l = true) : binSs l = true := by
  unfold stOk at h
  simp only [decide_eq_true_eq] at h
  rw [binSs_all, List.all_eq_true]
  exact fun s hs => binS_ok 3 s (List.all_eq_true.1 h.1 s hs)

theorem spec_l4Copy_eq : ∀ e : Exp, binX e = true → spec_l4Copy e = some e := by
  apply Exp.ind
  intro e ih hb
  apply spec_l4Copy_le
  rw [binX_eq, binXs_all] at hb
  simp only [Bool.and_eq_true, decide_eq_true_eq, List.all_eq_true] at hb
  obtain ⟨h1, h2⟩ := hb
  obtain ⟨o, n, as⟩ := e
  match as, h1, ih, h2 with
  | [], _, _, _ => simp [l4Leaf_eq]
  | [a, b], _, ih, h2 =>
    have ha := ih a (by simp) (h2 a (by simp))
    have hb := ih b (by simp) (h2 b (by simp))
    have g0 : geti [a, b] 0 = some a := rfl
    have g1 : geti [a, b] 1 = some b := rfl
    have hn : n = 0 := by
      rename_i h1
      rcases h1 with h1 | h1
      · simp at h1
      · exact h1.2
    subst hn
    simp only [g0, g1, bnd_some, exp_eta, ha, hb, l4Both_eq]
    simp

theorem stm_eta2 (s : Stm) : (⟨s.kind, s.var, s.box, s.e, s.body, s.els⟩ : Stm) = s := by cases s; rfl

theorem l11Copy_l {l : List Stm} (hl : (l.length : Int) ≤ 4294967296) (hp : ∀ s ∈ l, spec_l11Copy s.body = some s.body ∧ spec_l11Copy s.els = some s.els ∧ spec_l4Copy s.e = some s.e) : ∀ (d i : Nat) (f : Bool), i + d = l.length →
    Ok (spec_l11Copy_l1 l f (l.take i) i) fun r => r.2 = l
  | 0, i, f, hd => by
    apply Ok.le (spec_l11Copy_l1_le _ _ _ _)
    have hi : ¬ ((i : Int) < l.length) := by omega
    simp only [hi, decide_false, cond_false]
    exact Ok.of (List.take_of_length_le (by omega))
  | d + 1, i, f, hd => by
    apply Ok.le (spec_l11Copy_l1_le _ _ _ _)
    have hi : i < l.length := by omega
    have hi' : (i : Int) < l.length := by omega
    obtain ⟨h1, h2, h3⟩ := hp _ (List.getElem_mem hi)
    simp only [hi', decide_true, cond_true, geti_some hi, bnd_some, exp_eta, h1, h2, h3, stm_eta2, wrap_succ (show (i : Int) < 9223372036854775807 by omega), appL_some (show (l.take i).length + [l[i]].length ≤ 4294967296 by simp; omega)]
    have e : l.take i ++ [l[i]] = l.take (i + 1) := by rw [List.take_add_one, List.getElem?_eq_getElem hi]; rfl
    rw [e]
    exact l11Copy_l hl hp d (i + 1) true (by omega)

theorem spec_l11Copy_of {l : List Stm} (hl : (l.length : Int) ≤ 4294967296) (hp : ∀ s ∈ l, spec_l11Copy s.body = some s.body ∧ spec_l11Copy s.els = some s.els ∧ spec_l4Copy s.e = some s.e) : spec_l11Copy l = some l := by
  apply spec_l11Copy_le
  obtain ⟨r, h1, h2⟩ := l11Copy_l hl hp l.length 0 true (by omega)
  have h1' : spec_l11Copy_l1 l true ([] : List Stm) 0 = some r := h1
  rw [h1', bnd_some, h2]

theorem spec_l11Copy_parts : ∀ s : Stm, mS s ≤ 4294967296 → binS s = true → spec_l11Copy s.body = some s.body ∧ spec_l11Copy s.els = some s.els ∧ spec_l4Copy s.e = some s.e := by
  apply Stm.ind
  intro s ih1 ih2 hm hb
  rw [mS_eq] at hm
  rw [binS_eq, binSs_all, binSs_all] at hb
  simp only [Bool.and_eq_true, List.all_eq_true] at hb
  have l1 := mSs_len s.body
  have l2 := mSs_len s.els
  exact ⟨spec_l11Copy_of (by omega) (fun a ha => ih1 a ha (by have := mS_mem ha; omega) (hb.1.2 a ha)), spec_l11Copy_of (by omega) (fun a ha => ih2 a ha (by have := mS_mem ha; omega) (hb.2 a ha)), spec_l4Copy_eq _ hb.1.1⟩

theorem spec_l11Copy_eq {l : List Stm} (hm : mSs l ≤ 4294967296) (hb : binSs l = true) : spec_l11Copy l = some l := by
  rw [binSs_all, List.all_eq_true] at hb
  exact spec_l11Copy_of (by have := mSs_len l; omega) fun s hs => spec_l11Copy_parts s (by have := mS_mem hs; omega) (hb s hs)

def taskN (l : List Stm) : Tk × Bool := if stOk l = true then (⟨[0, 0, 0, 0], l⟩, true) else (⟨[], []⟩, false)

theorem spec_TaskNew_eq {l : List Stm} (hm : mSs l ≤ 4294967296) : spec_TaskNew l = some (taskN l) := by
  apply spec_TaskNew_le
  rw [spec_StmtsValid_eq l hm, bnd_some]
  unfold taskN
  cases hs : stOk l
  · rfl
  · rw [spec_l11Copy_eq hm (binSs_ok hs), bnd_some]; rfl

theorem mSs_tail (l : List Stm) (i : Nat) : mSs (l.drop i) ≤ mSs l := by
  have := mSs_append (l.take i) (l.drop i)
  rw [List.take_append_drop] at this; omega

def roomsOk (l : List Int) : Bool := l.all fun n => decide (1 ≤ n ∧ n ≤ 4)

theorem roomsOk_drop {l : List Int} {i : Nat} (hi : i < l.length) : roomsOk (l.drop i) = (decide (1 ≤ l[i] ∧ l[i] ≤ 4) && roomsOk (l.drop (i + 1))) := by
  unfold roomsOk; rw [List.drop_eq_getElem_cons hi, List.all_cons]

theorem spec_rooms_l {l : List Int} (hl : (l.length : Int) ≤ 4294967296) : ∀ (d i : Nat), i + d = l.length → spec_l12Rooms_l1 l i = some (if roomsOk (l.drop i) then .inl l else .inr (l, false))
  | 0, i, hd => by
    apply spec_l12Rooms_l1_le
    have hi : ¬ ((i : Int) < l.length) := by omega
    rw [List.drop_eq_nil_of_le (by omega)]
    simp [hi, roomsOk]
  | d + 1, i, hd => by
    apply spec_l12Rooms_l1_le
    have hi : i < l.length := by omega
    have hi' : (i : Int) < l.length := by omega
    rw [roomsOk_drop hi]
    simp only [hi', decide_true, cond_true, geti_some hi, bnd_some, spec_l6In_eq, wrap_succ (show (i : Int) < 9223372036854775807 by omega), spec_rooms_l hl d (i + 1) (by omega)]
    by_cases h1 : 1 ≤ l[i] ∧ l[i] ≤ 4 <;> simp [h1]

theorem spec_l12Rooms_eq {l : List Int} (hl : (l.length : Int) ≤ 4294967296) : spec_l12Rooms l = some (roomsOk l && decide ((l.length : Int) ≤ 3)) := by
  apply spec_l12Rooms_le
  have h : spec_l12Rooms_l1 l 0 = _ := spec_rooms_l hl l.length 0 (by omega)
  rw [h, bnd_some, List.drop_zero]
  cases roomsOk l <;> simp [selm]

def lsOk (n : Int) (l : List (List Stm)) : Bool := l.all fun x => stOk x && bSs n x

theorem lsOk_drop {n : Int} {l : List (List Stm)} {i : Nat} (hi : i < l.length) : lsOk n (l.drop i) = ((stOk l[i] && bSs n l[i]) && lsOk n (l.drop (i + 1))) := by
  unfold lsOk; rw [List.drop_eq_getElem_cons hi, List.all_cons]

theorem spec_lists_l {r : List Int} {l : List (List Stm)} (hl : (l.length : Int) ≤ 4294967296) (hm : ∀ x ∈ l, mSs x ≤ 4294967296) : ∀ (d i : Nat), i + d = l.length → spec_ProgramValid_l1 i r l = some (if lsOk r.length (l.drop i) then .inl () else .inr false)
  | 0, i, hd => by
    apply spec_ProgramValid_l1_le
    have hi : ¬ ((i : Int) < l.length) := by omega
    rw [List.drop_eq_nil_of_le (by omega)]
    simp [hi, lsOk]
  | d + 1, i, hd => by
    apply spec_ProgramValid_l1_le
    have hi : i < l.length := by omega
    have hi' : (i : Int) < l.length := by omega
    rw [lsOk_drop hi]
    simp only [hi', decide_true, cond_true, geti_some hi, bnd_some, spec_StmtsValid_eq _ (hm _ (List.getElem_mem hi)), spec_l12Boxes_eq (hm _ (List.getElem_mem hi)), wrap_succ (show (i : Int) < 9223372036854775807 by omega), spec_lists_l hl hm d (i + 1) (by omega)]
    cases stOk l[i] <;> cases bSs (r.length : Int) l[i] <;> simp

def progOk (p : Prg) : Bool := (roomsOk p.rooms && decide ((p.rooms.length : Int) ≤ 3)) && decide (1 ≤ (p.tasks.length : Int) ∧ (p.tasks.length : Int) ≤ 3) && lsOk p.rooms.length p.tasks

theorem spec_ProgramValid_eq {p : Prg} (hr : (p.rooms.length : Int) ≤ 4294967296) (hl : (p.tasks.length : Int) ≤ 4294967296) (hm : ∀ x ∈ p.tasks, mSs x ≤ 4294967296) : spec_ProgramValid p = some (progOk p) := by
  apply spec_ProgramValid_le
  have h : spec_ProgramValid_l1 0 p.rooms p.tasks = _ := spec_lists_l hl hm p.tasks.length 0 (by omega)
  rw [spec_l12Rooms_eq hr, bnd_some, spec_l6In_eq, bnd_some, h, bnd_some, List.drop_zero]
  unfold progOk
  cases roomsOk p.rooms && decide ((p.rooms.length : Int) ≤ 3)
  · simp
  by_cases h1 : 1 ≤ (p.tasks.length : Int) ∧ (p.tasks.length : Int) ≤ 3
  · simp only [h1, and_self, decide_true, Bool.not_true, cond_false, Bool.true_and]
    cases lsOk (p.rooms.length : Int) p.tasks <;> simp [selm]
  · simp only [h1, decide_false, Bool.not_false, cond_true, Bool.not_true, cond_false, Bool.and_false, Bool.false_and]

theorem spec_l16Empty_l {l : List Int} (hl : (l.length : Int) ≤ 4294967296) : ∀ (d i : Nat) (f : Bool), i + d = l.length → Ok (spec_l16Empty_l1 l f ((l.take i).map fun n => (⟨n, []⟩ : Bx)) i) fun r => r.2 = l.map fun n => (⟨n, []⟩ : Bx)
  | 0, i, f, hd => by
    apply Ok.le (spec_l16Empty_l1_le _ _ _ _)
    have hi : ¬ ((i : Int) < l.length) := by omega
    simp only [hi, decide_false, cond_false]
    exact Ok.of (by rw [List.take_of_length_le (by omega)])
  | d + 1, i, f, hd => by
    apply Ok.le (spec_l16Empty_l1_le _ _ _ _)
    have hi : i < l.length := by omega
    have hi' : (i : Int) < l.length := by omega
    simp only [hi', decide_true, cond_true, geti_some hi, bnd_some, wrap_succ (show (i : Int) < 9223372036854775807 by omega), appL_some (show ((l.take i).map fun n => (⟨n, []⟩ : Bx)).length + [(⟨l[i], []⟩ : Bx)].length ≤ 4294967296 by simp; omega)]
    have e : ((l.take i).map fun n => (⟨n, []⟩ : Bx)) ++ [(⟨l[i], []⟩ : Bx)] = (l.take (i + 1)).map fun n => (⟨n, []⟩ : Bx) := by rw [List.take_add_one, List.getElem?_eq_getElem hi, List.map_append]; rfl
    rw [e]
    exact spec_l16Empty_l hl d (i + 1) true (by omega)

theorem spec_l16Empty_eq {l : List Int} (hl : (l.length : Int) ≤ 4294967296) : spec_l16Empty l = some (l.map fun n => (⟨n, []⟩ : Bx)) := by
  apply spec_l16Empty_le
  obtain ⟨r, h1, h2⟩ := spec_l16Empty_l hl l.length 0 true (by omega)
  have h1' : spec_l16Empty_l1 l true ([] : List Bx) 0 = some r := h1
  rw [h1', bnd_some, h2]

def newT (l : List Stm) : Tk := (taskN l).1

theorem spec_WorldNew_l {r : List Int} {l : List (List Stm)} (hl : (l.length : Int) ≤ 4294967296) (hm : ∀ x ∈ l, mSs x ≤ 4294967296) {b0 b1 b4 : Bool} {t0 : List Tk} {x1 : List Bx} {n2 n3 : Int} {o4 : List Int} {bx : List Bx} {n5 n6 : Int} {c4 : Bool} {o : List Int} : ∀ (d i : Nat) (f : Bool), i + d = l.length →
    Ok (spec_WorldNew_l1 i r l b0 t0 b1 x1 n2 n3 b4 o4 f ((l.take i).map newT) bx n5 n6 c4 o) fun r => r.2.2.2.2.2.1.2 = l.map newT ∧ r.2.2.2.2.2.2.1 = bx ∧ r.2.2.2.2.2.2.2.1 = n5 ∧ r.2.2.2.2.2.2.2.2.1 = n6 ∧ r.2.2.2.2.2.2.2.2.2.2 = o
  | 0, i, f, hd => by
    apply Ok.le (spec_WorldNew_l1_le _ _ _ _ _ _ _ _ _ _ _ _ _ _ _ _ _ _)
    have hi : ¬ ((i : Int) < l.length) := by omega
    simp only [hi, decide_false, cond_false]
    exact Ok.of ⟨by rw [List.take_of_length_le (by omega)], rfl, rfl, rfl, rfl⟩
  | d + 1, i, f, hd => by
    apply Ok.le (spec_WorldNew_l1_le _ _ _ _ _ _ _ _ _ _ _ _ _ _ _ _ _ _)
    have hi : i < l.length := by omega
    have hi' : (i : Int) < l.length := by omega
    simp only [hi', decide_true, cond_true, geti_some hi, bnd_some, spec_TaskNew_eq (hm _ (List.getElem_mem hi)), wrap_succ (show (i : Int) < 9223372036854775807 by omega), appL_some (show ((l.take i).map newT).length + [(taskN l[i]).1].length ≤ 4294967296 by simp; omega)]
    have e : ((l.take i).map newT) ++ [(taskN l[i]).1] = (l.take (i + 1)).map newT := by rw [List.take_add_one, List.getElem?_eq_getElem hi, List.map_append]; rfl
    rw [e]
    exact spec_WorldNew_l hl hm d (i + 1) true (by omega)

def worldN (p : Prg) : Wld × Bool := if progOk p = true then (⟨p.tasks.map newT, p.rooms.map fun n => (⟨n, []⟩ : Bx), 0, 0, []⟩, true) else (⟨[], [], 0, 0, []⟩, false)

theorem spec_WorldNew_eq {p : Prg} (hr : (p.rooms.length : Int) ≤ 4294967296) (hl : (p.tasks.length : Int) ≤ 4294967296) (hm : ∀ x ∈ p.tasks, mSs x ≤ 4294967296) : spec_WorldNew p = some (worldN p) := by
  apply spec_WorldNew_le
  rw [spec_ProgramValid_eq hr hl hm, bnd_some, spec_l16Empty_eq hr, bnd_some]
  unfold worldN
  obtain ⟨r, e, h1, h2, h3, h4, h5⟩ := spec_WorldNew_l (r := p.rooms) hl hm (b0 := false) (b1 := false) (b4 := false) (t0 := []) (x1 := []) (n2 := 0) (n3 := 0) (o4 := []) (bx := p.rooms.map fun n => (⟨n, []⟩ : Bx)) (n5 := 0) (n6 := 0) (c4 := false) (o := []) p.tasks.length 0 false (by omega)
  have e' : spec_WorldNew_l1 0 p.rooms p.tasks false [] false [] 0 0 false [] false ([] : List Tk) (p.rooms.map fun n => (⟨n, []⟩ : Bx)) 0 0 false ([] : List Int) = some r := e
  rw [e', bnd_some, h1, h2, h3, h4, h5]
  cases progOk p <;> rfl

def smallP (p : Prg) : Prop := p.rooms.length ≤ 20 ∧ p.tasks.length ≤ 10 ∧ ∀ x ∈ p.tasks, mSs x ≤ 20000

theorem mem_add {ls : List (List Stm)} {l : List Stm} {n : Nat} (h : ∀ x ∈ ls, mSs x ≤ n) (hl : mSs l ≤ n) : ∀ x ∈ ls ++ [l], mSs x ≤ n := by
  intro x hx
  rcases List.mem_append.1 hx with hx | hx
  · exact h x hx
  · rw [List.mem_singleton.1 hx]; exact hl

theorem mem_set {ls : List (List Stm)} {l : List Stm} {n i : Nat} (h : ∀ x ∈ ls, mSs x ≤ n) (hl : mSs l ≤ n) : ∀ x ∈ ls.set i l, mSs x ≤ n := by
  intro x hx
  rcases List.mem_or_eq_of_mem_set hx with hx | rfl
  · exact h x hx
  · exact hl

theorem and31' (y : Int) : 0 ≤ bits .and .i64 y 31 := by
  have h : ((BitVec.ofInt 64 y) &&& (BitVec.ofInt 64 31)).toNat < 32 := by
    rw [BitVec.toNat_and]
    apply Nat.and_lt_two_pow (n := 5)
    decide
  have e : bits .and .i64 y 31 = IntKind.i64.wrap ((((BitVec.ofInt 64 y) &&& (BitVec.ofInt 64 31)).toNat : Nat) : Int) := rfl
  rw [e]
  generalize ((BitVec.ofInt 64 y) &&& (BitVec.ofInt 64 31)).toNat = n at h
  have e2 : IntKind.i64.wrap (n : Int) = n := by
    simp [IntKind.wrap, IntKind.signed, IntKind.bits]; omega
  rw [e2]; omega

theorem shlI_wf {x y : Int} (h : 0 ≤ y) : Ok (shlI .i64 x y) fun n => wfI n := by
  unfold shlI
  rw [if_neg (by omega), wrT_eq]
  exact Ok.of (wrap_wf _)

theorem spec_Wrap_any {n : Int} (h : wfI n) : Ok (spec_Wrap n) fun _ => True := (spec_Wrap_eq n h).mono fun _ _ => trivial

theorem spec_Apply_ok (o x y : Int) : Ok (spec_Apply o x y) fun _ => True := by
  apply Ok.le (spec_Apply_le o x y)
  have hf : ∀ b, Ok (spec_l2Flag b) fun _ => True := fun b => by
    apply Ok.le (spec_l2Flag_le b)
    exact Ok.bif (fun _ => Ok.of trivial) (fun _ => Ok.of trivial)
  have hs : ∀ b, Ok (spec_l2Shift x y b) fun _ => True := fun b => by
    apply Ok.le (spec_l2Shift_le x y b)
    refine Ok.bif (fun _ => ?_) (fun _ => ?_)
    · exact Ok.bnd (shrI_ok (and31' y)) fun _ _ => Ok.of trivial
    · exact Ok.bnd (shlI_wf (and31' y)) fun _ h => Ok.bnd (spec_Wrap_any h) fun _ _ => Ok.of trivial
  have hd : Ok (spec_l2Divide x y) fun _ => True := by
    apply Ok.le (spec_l2Divide_le x y)
    refine Ok.bif (fun _ => Ok.of trivial) (fun h => ?_)
    rw [decide_eq_false_iff_not] at h
    rw [quoI_pos h, bnd_some]
    exact Ok.bnd (spec_Wrap_any (wrap_wf _)) fun _ _ => Ok.of trivial
  have hr : Ok (spec_l2Remain x y) fun _ => True := by
    apply Ok.le (spec_l2Remain_le x y)
    refine Ok.bif (fun _ => Ok.of trivial) (fun h => ?_)
    rw [decide_eq_false_iff_not] at h
    rw [remI_pos h, bnd_some]
    exact Ok.of trivial
  simp only [spec_OpValid_eq, spec_WordValid_eq, bnd_some]
  repeat' first
    | exact Ok.of trivial
    | refine Ok.bif (fun _ => ?_) (fun _ => ?_)
    | refine Ok.bnd (hf _) fun _ _ => ?_
    | refine Ok.bnd (hs _) fun _ _ => ?_
    | refine Ok.bnd hd fun _ _ => ?_
    | refine Ok.bnd hr fun _ _ => ?_
    | refine Ok.bnd (spec_Wrap_any (wrap_wf _)) fun _ _ => ?_

theorem spec_l4Eval_ok : ∀ (d : Nat) (e : Exp) (v : List Int), expOk d e = true → v.length = 4 → Ok (spec_l4Eval e v) fun _ => True
  | 0, e, v, h, hv => by simp [expOk] at h
  | d + 1, e, v, h, hv => by
    apply Ok.le (spec_l4Eval_le e v)
    rcases expOk_cases h with ⟨h0, _⟩ | ⟨h0, _, h1, h2⟩ | ⟨h0, h0', _, a, b, hab, h1, h2⟩
    · simp only [h0, decide_true, cond_true]; exact Ok.of trivial
    · have : ¬ (e.op = 0) := by omega
      simp only [h0, decide_true, cond_true]
      have h13 : ¬ ((13 : Int) = 0) := by omega
      simp only [h13, decide_false, cond_false]
      exact Ok.bnd (Ok.geti h1 (by omega)) fun _ _ => Ok.of trivial
    · have n0 : ¬ (e.op = 0) := by omega
      have n1 : ¬ (e.op = 13) := by omega
      simp only [n0, n1, decide_false, cond_false]
      rw [hab, geti0, geti1]
      simp only [bnd_some, exp_eta]
      refine Ok.bnd (spec_l4Eval_ok d a v h1 hv) fun _ _ => ?_
      refine Ok.bnd (spec_l4Eval_ok d b v h2 hv) fun _ _ => ?_
      exact Ok.bnd (spec_Apply_ok _ _ _) fun _ _ => Ok.of trivial

/-- How big a task is: each statement, all of them, the variables. -/
def tkB (K M : Nat) (t : Tk) : Prop := (∀ s ∈ t.rest, mS s ≤ K) ∧ mSs t.rest ≤ M ∧ t.vars.length ≤ 100

theorem tkB.mono {K M N : Nat} {t : Tk} (h : tkB K M t) (hn : M ≤ N) : tkB K N t := ⟨h.1, Nat.le_trans h.2.1 hn, h.2.2⟩

def bxB (l : List Bx) : Prop := l.length ≤ 100 ∧ ∀ b ∈ l, b.items.length ≤ 100

theorem tkB_zero (K M : Nat) : tkB K M ⟨[], []⟩ := ⟨fun s hs => by simp at hs, by simp [mSs], by simp⟩

theorem binSs_rests {l : List Stm} (h : rests l = true) : binSs l = true := by
  unfold rests at h
  rw [List.all_eq_true] at h
  rw [binSs_all, List.all_eq_true]
  intro s hs
  have := binSs_ok (h s hs)
  rw [binSs_all] at this
  simpa using this

theorem rests_hdr {l : List Stm} (h : rests l = true) {s : Stm} (hs : s ∈ l) : sOk 3 s = true := by
  unfold rests at h
  rw [List.all_eq_true] at h
  have := h s hs
  unfold stOk at this
  simp only [decide_eq_true_eq] at this
  simpa using this.1

theorem sOk_hdr {s : Stm} (h : sOk 3 s = true) : hdr s := by
  simp only [sOk, Bool.and_eq_true, decide_eq_true_eq] at h
  exact h.1

theorem boxesCopy_l {l : List Bx} (hl : (l.length : Int) ≤ 4294960000) (hm : ∀ b ∈ l, b.items.length ≤ 4294960000) : ∀ (d i : Nat) (f : Bool), i + d = l.length → Ok (spec_l15BoxesCopy_l1 l f (l.take i) i) fun r => r.2 = l
  | 0, i, f, hd => by
    apply Ok.le (spec_l15BoxesCopy_l1_le _ _ _ _)
    have hi : ¬ ((i : Int) < l.length) := by omega
    simp only [hi, decide_false, cond_false]
    exact Ok.of (List.take_of_length_le (by omega))
  | d + 1, i, f, hd => by
    apply Ok.le (spec_l15BoxesCopy_l1_le _ _ _ _)
    have hi : i < l.length := by omega
    have hi' : (i : Int) < l.length := by omega
    have hb := hm _ (List.getElem_mem hi)
    simp only [hi', decide_true, cond_true, geti_some hi, bnd_some, appL_some (show ([] : List Int).length + l[i].items.length ≤ 4294967296 by simp; omega), List.nil_append, bx_eta, appL_some (show (l.take i).length + [l[i]].length ≤ 4294967296 by simp; omega), wrap_succ (show (i : Int) < 9223372036854775807 by omega)]
    have e : l.take i ++ [l[i]] = l.take (i + 1) := by rw [List.take_add_one, List.getElem?_eq_getElem hi]; rfl
    rw [e]
    exact boxesCopy_l hl hm d (i + 1) true (by omega)

theorem spec_l15BoxesCopy_eq {l : List Bx} (h : bxB l) : spec_l15BoxesCopy l = some l := by
  apply spec_l15BoxesCopy_le
  have h1 := h.1
  obtain ⟨r, e, h1⟩ := boxesCopy_l (l := l) (by omega) (fun b hb => by have := h.2 b hb; omega) l.length 0 true (by omega)
  have e' : spec_l15BoxesCopy_l1 l true ([] : List Bx) 0 = some r := e
  rw [e', bnd_some, h1]

theorem boxesCopyp_l {A : List Ent} {l : List Bx} (hl : (l.length : Int) ≤ 4294960000) (hm : ∀ b ∈ l, b.items.length ≤ 4294960000) : ∀ (d i : Nat) (h : Hd) (B : List Ent), i + d = l.length → Got .bx A (l.take i) h B → Ok (spec_l15BoxesCopy_p_l1 l h i B) fun r => Got .bx A l r.1 r.2
  | 0, i, h, B, hd, hg => by
    apply Ok.le (spec_l15BoxesCopy_p_l1_le _ _ _ _)
    have hi : ¬ ((i : Int) < l.length) := by omega
    simp only [hi, decide_false, cond_false]
    rw [List.take_of_length_le (by omega)] at hg
    exact Ok.of hg
  | d + 1, i, h, B, hd, hg => by
    apply Ok.le (spec_l15BoxesCopy_p_l1_le _ _ _ _)
    have hi : i < l.length := by omega
    have hi' : (i : Int) < l.length := by omega
    have hb := hm _ (List.getElem_mem hi)
    have hn := hg.cnt
    simp only [hi', decide_true, cond_true, geti_some hi, bnd_some, appL_some (show ([] : List Int).length + l[i].items.length ≤ 4294967296 by simp; omega), List.nil_append, bx_eta, wrap_succ (show (i : Int) < 9223372036854775807 by omega)]
    refine Ok.bnd (Got.app (c := .bx) hg (ys := [l[i]]) (by simp at hn ⊢; omega)) fun B' hB' => ?_
    have e : l.take i ++ [l[i]] = l.take (i + 1) := by rw [List.take_add_one, List.getElem?_eq_getElem hi]; rfl
    have h2 := hB'.1
    rw [e] at h2
    exact boxesCopyp_l hl hm d (i + 1) _ _ (by omega) h2

theorem spec_l15BoxesCopy_p_ok {l : List Bx} (h : bxB l) (A : List Ent) : Ok (spec_l15BoxesCopy_p l A) fun r => Got .bx A l r.1 r.2 := by
  apply Ok.le (spec_l15BoxesCopy_p_le _ _)
  have h1 := h.1
  refine Ok.bnd (boxesCopyp_l (l := l) (A := A) (by omega) (fun b hb => by have := h.2 b hb; omega) l.length 0 _ _ (by omega) (Got.push (c := .bx) (l := ([] : List Bx)) (Ext.refl _ A))) fun r hr => Ok.of hr

theorem binSs_tail {l : List Stm} (h : binSs l = true) (k : Nat) : binSs (l.drop k) = true := by
  rw [binSs_all, List.all_eq_true] at h ⊢
  exact fun s hs => h s (List.mem_of_mem_drop hs)

theorem cut1 {α : Type} {l : List α} (h : 1 ≤ l.length) : cutL l 1 (l.length : Int) = some (l.drop 1) := by
  unfold cutL
  rw [if_pos (by omega)]
  simp

theorem taskOk_facts {t : Tk} (h : taskOk t = true) : t.vars.length = 4 ∧ binSs t.rest = true ∧ ∀ s ∈ t.rest, hdr s := by
  unfold taskOk at h
  simp only [Bool.and_eq_true, decide_eq_true_eq] at h
  exact ⟨by omega, binSs_rests h.2, fun s hs => sOk_hdr (rests_hdr h.2 hs)⟩

theorem tk_drop {K M : Nat} {t : Tk} (h : tkB K M t) (v : List Int) (hv : v.length ≤ 100) : tkB K M ⟨v, t.rest.drop 1⟩ :=
  ⟨fun s hs => h.1 s (List.mem_of_mem_drop hs), Nat.le_trans (mSs_tail _ _) h.2.1, hv⟩

theorem spec_l15Copy_eq {K M : Nat} {t : Tk} (h : tkB K M t) (hM : M ≤ 4294960000) (hb : binSs t.rest = true) : spec_l15Copy t = some t := by
  apply spec_l15Copy_le
  have h1 := h.2.1
  have h2 := h.2.2
  rw [appL_some (by simp; omega), bnd_some, spec_l11Copy_eq (by omega) hb, bnd_some]
  cases t; rfl

theorem spec_l15Set_eq {K M : Nat} {t : Tk} (h : tkB K M t) (hM : M ≤ 4294960000) (hb : binSs t.rest = true) (hr : 1 ≤ t.rest.length) {v x : Int} (h0 : 0 ≤ v) (hv : v < t.vars.length) : spec_l15Set t v x = some ⟨t.vars.set v.toNat x, t.rest.drop 1⟩ := by
  apply spec_l15Set_le
  have h1 := h.2.1
  have h2 := h.2.2
  have h3 := mSs_tail t.rest 1
  obtain ⟨B, hB, hN⟩ := ok_app (es := arPush ([] : List Ent) .int ([] : List Int)) (c := .int) (h := some (List.length ([] : List Ent))) (l := ([] : List Int)) (n := 0) (pp := fun _ => True) (ys := t.vars) arGet_push (by omega) (fun _ _ => trivial)
  have hg : arGet B .int (some (List.length (arPush ([] : List Ent) .int ([] : List Int)))) = some t.vars := hN.get
  have hi : v.toNat < t.vars.length := by omega
  rw [hB, bnd_some, cut1 hr, bnd_some, spec_l11Copy_eq (by omega) (binSs_tail hb 1), bnd_some, idxN_eq h0 (by omega), bnd_some, arRow_eq hg (List.getElem?_eq_getElem hi), bnd_some, arView_int, arSet_get hg, bnd_some]

/-- What is known of a step. -/
structure Stepped (K M : Nat) (t : Tk) (bx : List Bx) (t' : Tk) (bx' : List Bx) (out : List Int) (code : Int) : Prop where
  task : tkB K (M + K) t'
  bin : binSs t'.rest = true
  boxes : bxB bx'
  told : out.length ≤ 1
  done : code = 1 → taskOk t = true ∧ ∃ x r, t.rest = x :: r ∧ (x.kind = 5 → 0 ≤ x.box ∧ ∃ b y ys, bx[x.box.toNat]? = some b ∧ b.items = y :: ys) ∧ (x.kind = 7 → out.length = 1)

theorem put_small {b : Bx} {v : Int} (h : b.items.length ≤ 100) : (putB b v).1.items.length ≤ 100 := by
  unfold putB
  split
  · rename_i hc
    simp only [Bool.and_eq_true, decide_eq_true_eq] at hc
    have := boxOk_facts hc.1.1
    simp only [List.length_append, List.length_cons, List.length_nil]; omega
  · simp

theorem take_small {b : Bx} (h : b.items.length ≤ 100) : (takeB b).1.items.length ≤ 100 := by
  unfold takeB
  split
  · simp
  · rename_i x r hr
    rw [hr] at h
    split
    · simp only [List.length_cons] at h ⊢; omega
    · simp

theorem take_yes {b : Bx} (h : (takeB b).2.2 = true) : ∃ y ys, b.items = y :: ys := by
  unfold takeB at h
  split at h
  · cases h
  · rename_i x r hr; exact ⟨x, r, hr⟩

theorem bxB_set {l : List Bx} (h : bxB l) {b : Bx} (hb : b.items.length ≤ 100) (i : Nat) : bxB (l.set i b) := by
  refine ⟨by rw [List.length_set]; exact h.1, fun c hc => ?_⟩
  rcases List.mem_or_eq_of_mem_set hc with hc | rfl
  · exact h.2 c hc
  · exact hb

theorem spec_l15Talk_ok {K M : Nat} {t : Tk} {bx : List Bx} {x : Stm} {r : List Stm} (h : tkB K M t) (hM : M + K ≤ 4294960000) (hok : taskOk t = true) (hr : t.rest = x :: r) (hbx : bxB bx) (hk : x.kind = 4 ∨ x.kind = 5) (h0 : 0 ≤ x.box) (h1 : x.box < bx.length) (hx : x.kind = 4 → expOk 5 x.e = true) (hv : x.kind = 5 → 0 ≤ x.var ∧ x.var < 4) :
    Ok (spec_l15Talk t bx) fun q => Stepped K M t bx q.1 q.2.1 [] q.2.2 := by
  apply Ok.le (spec_l15Talk_le t bx)
  obtain ⟨f1, f2, f3⟩ := taskOk_facts hok
  have hlen : 1 ≤ t.rest.length := by rw [hr]; simp
  have hg0 : geti t.rest 0 = some x := by rw [hr]; rfl
  have hbi : x.box.toNat < bx.length := by omega
  have hgb : geti bx x.box = some bx[x.box.toNat] := by
    unfold geti; rw [if_pos h0, List.getElem?_eq_getElem hbi]
  have hbs := hbx.2 _ (List.getElem_mem hbi)
  rw [hg0, bnd_some]
  refine Ok.bnd (spec_l15BoxesCopy_p_ok hbx []) fun r2 h2 => ?_
  have hn := h2.cnt
  have hrow : arRow r2.2 .bx r2.1.id x.box.toNat = some bx[x.box.toNat] := h2.row (List.getElem?_eq_getElem hbi)
  have hidx : idxN r2.1.n x.box = some x.box.toNat := idxN_eq h0 (by omega)
  refine Ok.bif (fun hk4 => ?_) (fun hk4 => ?_)
  · simp only [decide_eq_true_eq] at hk4
    rw [hgb, bnd_some, exp_eta]
    refine Ok.bnd (spec_l4Eval_ok 5 x.e t.vars (hx hk4) f1) fun r4 _ => ?_
    rw [spec_BoxPut_eq (by unfold mB; omega), bnd_some]
    refine Ok.bif (fun hc => ?_) (fun hc => ?_)
    · rw [spec_l15Copy_eq h (by omega) f2, bnd_some, arView_bx, h2.get, bnd_some]
      exact Ok.of ⟨h.mono (by omega), f2, hbx, by simp, fun hh => by simp at hh⟩
    · rw [hidx, bnd_some, hrow, bnd_some]
      have h3 := mSs_tail t.rest 1
      have h4 := h.2.1
      rw [appL_some (by simp; omega), bnd_some, cut1 hlen, bnd_some, spec_l11Copy_eq (by omega) (binSs_tail f2 1), bnd_some, arView_bx, (Got.set (c := .bx) h2).get, bnd_some]
      refine Ok.of ⟨(tk_drop h _ (by simp; omega)).mono (by omega), binSs_tail f2 1, bxB_set hbx (put_small hbs) _, by simp, fun _ => ⟨hok, x, r, hr, fun h5 => absurd h5 (by omega), fun h7 => absurd h7 (by omega)⟩⟩
  · simp only [decide_eq_false_iff_not] at hk4
    have hk5 : x.kind = 5 := by omega
    rw [hgb, bnd_some, spec_BoxTake_eq (by unfold mB; omega), bnd_some]
    refine Ok.bif (fun hc => ?_) (fun hc => ?_)
    · rw [spec_l15Copy_eq h (by omega) f2, bnd_some, arView_bx, h2.get, bnd_some]
      exact Ok.of ⟨h.mono (by omega), f2, hbx, by simp, fun hh => by simp at hh⟩
    · have hyes : (takeB bx[x.box.toNat]).2.2 = true := by simpa using hc
      obtain ⟨y, ys, hy⟩ := take_yes hyes
      obtain ⟨v0, v1⟩ := hv hk5
      rw [hidx, bnd_some, hrow, bnd_some, spec_l15Set_eq h (by omega) f2 hlen v0 (by omega), bnd_some, arView_bx, (Got.set (c := .bx) h2).get, bnd_some]
      refine Ok.of ⟨(tk_drop h _ (by rw [List.length_set]; omega)).mono (by omega), binSs_tail f2 1, bxB_set hbx (take_small hbs) _, by simp, fun _ => ⟨hok, x, r, hr, fun _ => ⟨h0, _, y, ys, List.getElem?_eq_getElem hbi, hy⟩, fun h7 => absurd h7 (by omega)⟩⟩

theorem mS_body {x : Stm} {K : Nat} (h : mS x ≤ K) : (∀ s ∈ x.body, mS s ≤ K) ∧ (∀ s ∈ x.els, mS s ≤ K) ∧ mSs x.body ≤ K ∧ mSs x.els ≤ K := by
  rw [mS_eq] at h
  exact ⟨fun s hs => by have := mS_mem hs; omega, fun s hs => by have := mS_mem hs; omega, by omega, by omega⟩

theorem binS_body {x : Stm} (h : binS x = true) : binSs x.body = true ∧ binSs x.els = true := by
  rw [binS_eq] at h
  simp only [Bool.and_eq_true] at h
  exact ⟨h.1.2, h.2⟩

theorem spec_l15Ahead_eq {a b : List Stm} (ha : mSs a + mSs b ≤ 4294960000) (h1 : binSs a = true) (h2 : binSs b = true) : spec_l15Ahead a b = some (a ++ b) := by
  apply spec_l15Ahead_le
  have l1 := mSs_len a
  have l2 := mSs_len b
  rw [spec_l11Copy_eq (by omega) h1, bnd_some, spec_l11Copy_eq (by omega) h2, bnd_some, appL_some (by omega), bnd_some]

theorem spec_l15Block_ok {K M : Nat} {t : Tk} {x : Stm} {r : List Stm} (h : tkB K M t) (hM : M + K ≤ 4294960000) (hok : taskOk t = true) (hr : t.rest = x :: r) (hx : expOk 5 x.e = true) : Ok (spec_l15Block t) fun q => tkB K (M + K) q ∧ binSs q.rest = true := by
  apply Ok.le (spec_l15Block_le t)
  obtain ⟨f1, f2, f3⟩ := taskOk_facts hok
  have hlen : 1 ≤ t.rest.length := by rw [hr]; simp
  have hg0 : geti t.rest 0 = some x := by rw [hr]; rfl
  have hxm : x ∈ t.rest := by rw [hr]; simp
  obtain ⟨b1, b2, b3, b4⟩ := mS_body (h.1 x hxm)
  have hbx : binS x = true := by
    rw [binSs_all, List.all_eq_true] at f2; exact f2 x hxm
  obtain ⟨c1, c2⟩ := binS_body hbx
  have h3 := mSs_tail t.rest 1
  have h4 := h.2.1
  have hv := h.2.2
  have hd := binSs_tail f2 1
  have fin : ∀ {a b : List Stm}, (∀ s ∈ a, mS s ≤ K) → (∀ s ∈ b, mS s ≤ K) → mSs a ≤ K → mSs b ≤ M → tkB K (M + K) ⟨t.vars, a ++ b⟩ := by
    intro a b q1 q2 q3 q4
    refine ⟨fun s hs => ?_, ?_, hv⟩
    · rcases List.mem_append.1 hs with hs | hs
      · exact q1 s hs
      · exact q2 s hs
    · show mSs (a ++ b) ≤ _
      rw [mSs_append]; omega
  have app : ∀ {a b : List Stm}, binSs a = true → binSs b = true → binSs (a ++ b) = true := fun q1 q2 => by rw [binSs_all, List.all_append, ← binSs_all, ← binSs_all, q1, q2]; rfl
  have hdm : ∀ s ∈ t.rest.drop 1, mS s ≤ K := fun s hs => h.1 s (List.mem_of_mem_drop hs)
  have rest : tkB K (M + K) ⟨t.vars, t.rest.drop 1⟩ := (tk_drop h t.vars hv).mono (by omega)
  rw [hg0, bnd_some, appL_some (by simp; omega), bnd_some, exp_eta, List.nil_append]
  refine Ok.bnd (spec_l4Eval_ok 5 x.e t.vars hx f1) fun r3 _ => ?_
  simp only [cut1 hlen, bnd_some, spec_l15Ahead_eq (show mSs x.body + mSs (t.rest.drop 1) ≤ 4294960000 by omega) c1 hd, spec_l15Ahead_eq (show mSs x.els + mSs (t.rest.drop 1) ≤ 4294960000 by omega) c2 hd, spec_l15Ahead_eq (show mSs x.body + mSs t.rest ≤ 4294960000 by omega) c1 f2, spec_l11Copy_eq (show mSs (t.rest.drop 1) ≤ 4294967296 by omega) hd]
  repeat' first
    | exact Ok.of ⟨rest, hd⟩
    | exact Ok.of ⟨fin b1 hdm b3 (by omega), app c1 hd⟩
    | exact Ok.of ⟨fin b2 hdm b4 (by omega), app c2 hd⟩
    | exact Ok.of ⟨fin b1 h.1 b3 h4, app c1 f2⟩
    | refine Ok.bif (fun _ => ?_) (fun _ => ?_)

theorem spec_l15Ready_eq (t : Tk) (bx : List Bx) : Ok (spec_l15Ready t bx) fun b => b = true → ∀ x r, t.rest = x :: r → x.kind = 4 ∨ x.kind = 5 → x.box < bx.length := by
  apply Ok.le (spec_l15Ready_le t bx)
  obtain ⟨v, l⟩ := t
  cases l with
  | nil => simp only [List.length_nil, Int.natCast_zero, decide_true, cond_true]; exact Ok.of (fun _ x r h => by cases h)
  | cons s l =>
    have hn : ¬ (((s :: l).length : Int) = 0) := by simp only [List.length_cons]; omega
    have hg : geti (s :: l) 0 = some s := rfl
    simp only [hn, decide_false, cond_false, hg, bnd_some]
    refine Ok.bif (fun h4 => ?_) (fun h4 => ?_)
    · refine Ok.bif (fun h5 => ?_) (fun h5 => ?_)
      · refine Ok.of (fun _ x r h hk => ?_)
        injection h with h1 h2
        subst h1
        simp at h4 h5
        rcases hk with hk | hk
        · exact absurd hk h4
        · exact absurd hk h5
      · refine Ok.of (fun hb x r h hk => ?_)
        injection h with h1 h2
        subst h1
        exact of_decide_eq_true hb
    · refine Ok.of (fun hb x r h hk => ?_)
      injection h with h1 h2
      subst h1
      exact of_decide_eq_true hb

theorem bxB_mem {l : List Bx} (h : bxB l) : (l.length : Int) ≤ 4294967296 ∧ ∀ b ∈ l, mB b ≤ 4294967296 := ⟨by have := h.1; omega, fun b hb => by have := h.2 b hb; unfold mB; omega⟩

theorem bxB_nil : bxB [] := ⟨by simp, fun b hb => by simp at hb⟩

theorem spec_TaskStep_ok {K M : Nat} {t : Tk} {bx : List Bx} (h : tkB K M t) (hM : M + K ≤ 4294960000) (hbx : bxB bx) : Ok (spec_TaskStep t bx) fun q => Stepped K M t bx q.1 q.2.1 q.2.2.1 q.2.2.2 := by
  apply Ok.le (spec_TaskStep_le t bx)
  have h2 := h.2.1
  have hv := h.2.2
  obtain ⟨m1, m2⟩ := bxB_mem hbx
  have none_ : Stepped K M t bx ⟨[], []⟩ [] [] 0 := ⟨tkB_zero _ _, rfl, bxB_nil, by simp, fun hh => by simp at hh⟩
  rw [spec_TaskValid_eq t (by omega) (by omega), bnd_some]
  refine Ok.bif (fun _ => Ok.of none_) (fun hok => ?_)
  simp only [Bool.not_eq_false'] at hok
  obtain ⟨f1, f2, f3⟩ := taskOk_facts hok
  rw [spec_l15Boxes_eq m1 m2, bnd_some]
  refine Ok.bif (fun _ => Ok.of none_) (fun _ => ?_)
  refine Ok.bnd (spec_l15Ready_eq t bx) fun r3 hr3 => ?_
  refine Ok.bif (fun _ => Ok.of none_) (fun hrd => ?_)
  simp only [Bool.not_eq_false'] at hrd
  have hrdy := hr3 hrd
  refine Ok.bif (fun hz => ?_) (fun hz => ?_)
  · rw [spec_l15Copy_eq h (by omega) f2, bnd_some, spec_l15BoxesCopy_eq hbx, bnd_some]
    exact Ok.of ⟨h.mono (by omega), f2, hbx, by simp, fun hh => by simp at hh⟩
  simp only [decide_eq_false_iff_not] at hz
  obtain ⟨x, r, hr⟩ : ∃ x r, t.rest = x :: r := by
    cases hl : t.rest with
    | nil => rw [hl] at hz; simp at hz
    | cons x r => exact ⟨x, r, rfl⟩
  have hx := f3 x (by rw [hr]; simp)
  have hg0 : geti t.rest 0 = some x := by rw [hr]; rfl
  have hlen : 1 ≤ t.rest.length := by rw [hr]; simp
  have h3 := mSs_tail t.rest 1
  rw [hg0, bnd_some]
  have e1 : x.kind = 1 ∨ x.kind = 2 ∨ x.kind = 3 ∨ x.kind = 4 ∨ x.kind = 7 → expOk 5 x.e = true := by
    rcases hx with ⟨k, _, _, h, _⟩ | ⟨k, _, _, h⟩ | ⟨k, _, _, h, _⟩ | ⟨k, _, _, h, _⟩ | ⟨k, _⟩ | ⟨k, _⟩ | ⟨k, _, _, h, _⟩ <;> intro hh <;> first | exact h | omega
  have e2 : x.kind = 4 ∨ x.kind = 5 → 0 ≤ x.box := by
    rcases hx with ⟨k, _⟩ | ⟨k, _⟩ | ⟨k, _⟩ | ⟨k, _, h, _⟩ | ⟨k, _, h, _⟩ | ⟨k, _⟩ | ⟨k, _⟩ <;> intro hh <;> omega
  have e3 : x.kind = 1 ∨ x.kind = 5 → 0 ≤ x.var ∧ x.var < 4 := by
    rcases hx with ⟨k, h, _⟩ | ⟨k, _⟩ | ⟨k, _⟩ | ⟨k, _⟩ | ⟨k, h, _⟩ | ⟨k, _⟩ | ⟨k, _⟩ <;> intro hh <;> omega
  have e4 : x.kind = 1 ∨ x.kind = 2 ∨ x.kind = 3 ∨ x.kind = 4 ∨ x.kind = 5 ∨ x.kind = 6 ∨ x.kind = 7 := by
    rcases hx with ⟨k, _⟩ | ⟨k, _⟩ | ⟨k, _⟩ | ⟨k, _⟩ | ⟨k, _⟩ | ⟨k, _⟩ | ⟨k, _⟩ <;> omega
  have talk : x.kind = 4 ∨ x.kind = 5 → Ok (Vs.bnd (spec_l15Talk t bx) fun r7 => some (r7.1, r7.2.1, ([] : List Int), r7.2.2)) fun q => Stepped K M t bx q.1 q.2.1 q.2.2.1 q.2.2.2 := fun hk =>
    Ok.bnd (spec_l15Talk_ok h hM hok hr hbx hk (e2 hk) (hrdy x r hr hk) (fun h4 => e1 (by omega)) (fun h5 => e3 (by omega))) fun q hq => Ok.of hq
  have block : x.kind = 2 ∨ x.kind = 3 → Ok (Vs.bnd (spec_l15Block t) fun r9 => Vs.bnd (spec_l15BoxesCopy bx) fun r10 => some (r9, r10, ([] : List Int), (1 : Int))) fun q => Stepped K M t bx q.1 q.2.1 q.2.2.1 q.2.2.2 := fun hk => by
    refine Ok.bnd (spec_l15Block_ok h hM hok hr (e1 (by omega))) fun q hq => ?_
    rw [spec_l15BoxesCopy_eq hbx, bnd_some]
    exact Ok.of ⟨hq.1, hq.2, hbx, by simp, fun _ => ⟨hok, x, r, hr, fun h5 => absurd h5 (by omega), fun h7 => absurd h7 (by omega)⟩⟩
  refine Ok.bif (fun hk => talk (.inl (of_decide_eq_true hk))) (fun k4 => ?_)
  refine Ok.bif (fun hk => talk (.inr (of_decide_eq_true hk))) (fun k5 => ?_)
  refine Ok.bif (fun hk => block (.inl (of_decide_eq_true hk))) (fun k2 => ?_)
  refine Ok.bif (fun hk => block (.inr (of_decide_eq_true hk))) (fun k3 => ?_)
  refine Ok.bif (fun hk => ?_) (fun k1 => ?_)
  · have hk := of_decide_eq_true hk
    rw [exp_eta]
    refine Ok.bnd (spec_l4Eval_ok 5 x.e t.vars (e1 (.inl hk)) f1) fun r13 _ => ?_
    obtain ⟨v0, v1⟩ := e3 (.inl hk)
    rw [spec_l15Set_eq h (by omega) f2 hlen v0 (by omega), bnd_some, spec_l15BoxesCopy_eq hbx, bnd_some]
    exact Ok.of ⟨(tk_drop h _ (by rw [List.length_set]; omega)).mono (by omega), binSs_tail f2 1, hbx, by simp, fun _ => ⟨hok, x, r, hr, fun h5 => absurd h5 (by omega), fun h7 => absurd h7 (by omega)⟩⟩
  rw [appL_some (by simp; omega), bnd_some, cut1 hlen, bnd_some, spec_l11Copy_eq (by omega) (binSs_tail f2 1), bnd_some, List.nil_append, spec_l15BoxesCopy_eq hbx]
  simp only [bnd_some]
  have hd : tkB K (M + K) ⟨t.vars, t.rest.drop 1⟩ := (tk_drop h t.vars hv).mono (by omega)
  refine Ok.bif (fun hk => Ok.of ⟨hd, binSs_tail f2 1, hbx, by simp, fun hh => by simp at hh⟩) (fun k6 => ?_)
  simp only [decide_eq_false_iff_not] at k4 k5 k2 k3 k1 k6
  rw [exp_eta]
  refine Ok.bnd (spec_l4Eval_ok 5 x.e t.vars (e1 (by omega)) f1) fun r21 _ => ?_
  exact Ok.of ⟨hd, binSs_tail f2 1, hbx, by simp, fun _ => ⟨hok, x, r, hr, fun h5 => absurd h5 (by omega), fun _ => rfl⟩⟩

/-- How big a world is. -/
structure wdB (K M N : Nat) (v : Wld) : Prop where
  many : v.tasks.length ≤ 10
  tasks : ∀ t ∈ v.tasks, tkB K M t
  bin : ∀ t ∈ v.tasks, binSs t.rest = true
  boxes : bxB v.boxes
  out : v.out.length ≤ N
  turn : v.tasks ≠ [] → 0 ≤ v.turn ∧ v.turn < (v.tasks.length : Int)

theorem wdB.mono {K M N M' N' : Nat} {v : Wld} (h : wdB K M N v) (hM : M ≤ M') (hN : N ≤ N') : wdB K M' N' v := ⟨h.many, fun t ht => (h.tasks t ht).mono hM, h.bin, h.boxes, Nat.le_trans h.out hN, h.turn⟩

theorem wd_copyT {K M N : Nat} {v : Wld} (h : wdB K M N v) (hM : M ≤ 4294960000) : ∀ t ∈ v.tasks, spec_l15Copy t = some t := fun t ht => spec_l15Copy_eq (h.tasks t ht) hM (h.bin t ht)

theorem wld_eta (v : Wld) : (⟨v.tasks, v.boxes, v.turn, v.idle, v.out⟩ : Wld) = v := by cases v; rfl

/-- Tasks and numbers that are put behind an arena: both stay, whatever comes later. -/
structure GotW (A : List Ent) (ht ho : Hd) (ts : List Tk) (os : List Int) (B : List Ent) : Prop where
  tasks : Got .tk A ts ht B
  out : Got .int A os ho B
  other : ∀ n, ht.id = some n → ho.id ≠ some n

theorem l16Copyt_l {A : List Ent} {l : List Tk} {bx : List Bx} {tu id_ : Int} {o : List Int} {f1 : Bool} {x0 x4 : Hd} {x1 : List Bx} {x2 x3 : Int} {bx' : List Bx} {tu' id' : Int} {ho : Hd} (hl : l.length ≤ 10) (hp : ∀ t ∈ l, spec_l15Copy t = some t) : ∀ (d i : Nat) (h : Hd) (B : List Ent), i + d = l.length → GotW A h ho (l.take i) o B →
    Ok (spec_l16Copy_t_l1 i l bx tu id_ o x0 f1 x1 x2 x3 x4 h bx' tu' id' ho B) fun r => r.2.2.2.2.2.2.1 = bx' ∧ r.2.2.2.2.2.2.2.1 = tu' ∧ r.2.2.2.2.2.2.2.2.1 = id' ∧ r.2.2.2.2.2.2.2.2.2.1 = ho ∧ GotW A r.2.2.2.2.2.1 ho l o r.2.2.2.2.2.2.2.2.2.2
  | 0, i, h, B, hd, hg => by
    apply Ok.le (spec_l16Copy_t_l1_le _ _ _ _ _ _ _ _ _ _ _ _ _ _ _ _ _ _)
    have hi : ¬ ((i : Int) < l.length) := by omega
    simp only [hi, decide_false, cond_false]
    rw [List.take_of_length_le (by omega)] at hg
    exact Ok.of ⟨rfl, rfl, rfl, rfl, hg⟩
  | d + 1, i, h, B, hd, hg => by
    apply Ok.le (spec_l16Copy_t_l1_le _ _ _ _ _ _ _ _ _ _ _ _ _ _ _ _ _ _)
    have hi : i < l.length := by omega
    have hi' : (i : Int) < l.length := by omega
    have hn := hg.tasks.cnt
    simp only [List.length_take] at hn
    simp only [hi', decide_true, cond_true, geti_some hi, bnd_some, hp _ (List.getElem_mem hi), wrap_succ (show (i : Int) < 9223372036854775807 by omega)]
    refine Ok.bnd (Got.appX (c := .tk) hg.tasks (ys := [l[i]]) (by simp; omega)) fun B3 hB3 => ?_
    obtain ⟨g, _, hX⟩ := hB3
    have e : l.take i ++ [l[i]] = l.take (i + 1) := by rw [List.take_add_one, List.getElem?_eq_getElem hi]; rfl
    rw [e] at g
    refine l16Copyt_l hl hp d (i + 1) _ B3 (by omega) ⟨g, hg.out.stay hX g.ext (fun n hn hh => hg.other n hh hn), fun n hn => ?_⟩
    injection hn with hn
    intro hh
    have := hg.out.lt n hh; omega

theorem spec_l16Copy_t_ok {K M N : Nat} {v : Wld} (h : wdB K M N v) (hM : M ≤ 4294960000) (hN : N ≤ 4294960000) (A : List Ent) : Ok (spec_l16Copy_t v A) fun r => r.2.1 = v.boxes ∧ r.2.2.1 = v.turn ∧ r.2.2.2.1 = v.idle ∧ GotW A r.1 r.2.2.2.2.1 v.tasks v.out r.2.2.2.2.2 := by
  apply Ok.le (spec_l16Copy_t_le v A)
  have ho := h.out
  rw [spec_l15BoxesCopy_eq h.boxes, bnd_some]
  have g1 : Got .int A [] ⟨none, 0⟩ A := Got.nil (c := .int) (Ext.refl _ A)
  refine Ok.bnd (Got.appX (c := .int) g1 (ys := v.out) (by show 0 + v.out.length ≤ _; omega)) fun B2 hB2 => ?_
  obtain ⟨g2, _, hX⟩ := hB2
  have gw : GotW A ⟨none, 0⟩ ⟨some A.length, 0 + v.out.length⟩ (v.tasks.take 0) v.out B2 := ⟨Got.nil (c := .tk) g2.ext, g2, fun n hn => by cases hn⟩
  refine Ok.bnd (l16Copyt_l (x0 := ⟨none, 0⟩) (x4 := ⟨none, 0⟩) (f1 := false) (x1 := []) (x2 := 0) (x3 := 0) (bx' := v.boxes) (tu' := v.turn) (id' := v.idle) (bx := v.boxes) (tu := v.turn) (id_ := v.idle) h.many (wd_copyT h hM) v.tasks.length 0 _ B2 (by omega) gw) fun r hr => ?_
  obtain ⟨e1, e2, e3, e4, hg⟩ := hr
  exact Ok.of ⟨e1, e2, e3, by dsimp only; rw [e4]; exact hg⟩

theorem nextT_in (many turn idle code : Int) (h : 1 ≤ many) : 0 ≤ (nextT many turn idle code).1 ∧ (nextT many turn idle code).1 < many := by
  unfold nextT
  have e0 : 0 ≤ (turn + 1) % many := Int.emod_nonneg _ (by omega)
  have e1 : (turn + 1) % many < many := Int.emod_lt_of_pos _ (by omega)
  repeat' split
  all_goals (simp only []; omega)

/-- What a step makes of a world's parts. -/
theorem wd_next {K M N : Nat} {v : Wld} (h : wdB K M N v) (hne : v.tasks ≠ []) {t : Tk} {t' : Tk} {bx' : List Bx} {out : List Int} {code : Int} (hs : Stepped K M t v.boxes t' bx' out code) (i : Nat) : wdB K (M + K) (N + 1) ⟨v.tasks.set i t', bx', (nextT (v.tasks.length : Int) v.turn v.idle code).1, (nextT (v.tasks.length : Int) v.turn v.idle code).2.1, v.out ++ out⟩ := by
  have hlen : 1 ≤ v.tasks.length := by
    cases hv : v.tasks with
    | nil => exact absurd hv hne
    | cons => simp
  refine ⟨by rw [List.length_set]; exact h.many, fun x hx => ?_, fun x hx => ?_, hs.boxes, ?_, fun _ => ?_⟩
  · rcases List.mem_or_eq_of_mem_set hx with hx | rfl
    · exact (h.tasks x hx).mono (by omega)
    · exact hs.task
  · rcases List.mem_or_eq_of_mem_set hx with hx | rfl
    · exact h.bin x hx
    · exact hs.bin
  · have h1 := h.out
    have h2 := hs.told
    simp only [List.length_append]; omega
  · rw [List.length_set]
    exact nextT_in _ _ _ _ (by omega)

theorem killL_one {B : List Ent} {o : Option Nat} : killL B (o.toList ++ []) = killO B o := by cases o <;> rfl

theorem killL_two {B : List Ent} {o : Option Nat} : killL B ((o.toList ++ []) ++ []) = killO B o := by cases o <;> rfl

theorem spec_l16Step_o_ok {K M N : Nat} {v : Wld} (h : wdB K M N v) (hne : v.tasks ≠ []) (hM : M + K ≤ 4294960000) (hN : N ≤ 4294960000) (A : List Ent) : Ok (spec_l16Step_o v A) fun q => ∃ os, wdB K (M + K) (N + 1) ⟨q.1.tasks, q.1.boxes, q.1.turn, q.1.idle, os⟩ ∧ q.1.tasks ≠ [] ∧ Got .int A os q.1.out q.2 := by
  apply Ok.le (spec_l16Step_o_le v A)
  obtain ⟨t0, t1⟩ := h.turn hne
  have hi : v.turn.toNat < v.tasks.length := by omega
  have ho := h.out
  refine Ok.bnd (spec_l16Copy_t_ok h (by omega) hN A) fun r1 h1 => ?_
  obtain ⟨_, _, _, hg⟩ := h1
  refine Ok.bnd (Ok.geti t0 t1) fun t ht => ?_
  refine Ok.bnd (spec_TaskStep_ok (h.tasks t ht.1) hM h.boxes) fun q hq => ?_
  have hn := hg.tasks.cnt
  have hno := hg.out.cnt
  have htold := hq.told
  rw [idxN_eq t0 (by omega), bnd_some, Got.row (c := .tk) hg.tasks (List.getElem?_eq_getElem hi), bnd_some]
  have gs : Got .tk A (v.tasks.set v.turn.toNat q.1) r1.1 (arSet r1.2.2.2.2.2 .tk r1.1.id v.turn.toNat q.1) := Got.set (c := .tk) hg.tasks
  have hX : Ext (fun n => r1.1.id = some n) r1.2.2.2.2.2 (arSet r1.2.2.2.2.2 .tk r1.1.id v.turn.toNat q.1) := arSet_ext fun n hn => hn
  have go : Got .int A v.out r1.2.2.2.2.1 (arSet r1.2.2.2.2.2 .tk r1.1.id v.turn.toNat q.1) := hg.out.stay hX gs.ext (fun n hn hh => hg.other n hh hn)
  refine Ok.bnd (Got.appX (c := .int) go (ys := q.2.2.1) (by omega)) fun B6 hB6 => ?_
  obtain ⟨g6, _, hX6⟩ := hB6
  have gt6 : Got .tk A (v.tasks.set v.turn.toNat q.1) r1.1 B6 := gs.stay hX6 g6.ext (fun n hn hh => hg.other n hn hh)
  rw [spec_NextTurn_eq, bnd_some, arView_tk, gt6.get, bnd_some, killL_one]
  have hkx : Ext (fun n => r1.1.id = some n) B6 (killO B6 r1.1.id) := killO_ext fun n hn => hn
  have hA : Ext0 A (killO B6 r1.1.id) := ext0_killO g6.ext hg.tasks.id
  have gfin : Got .int A (v.out ++ q.2.2.1) ⟨some (arSet r1.2.2.2.2.2 .tk r1.1.id v.turn.toNat q.1).length, r1.2.2.2.2.1.n + q.2.2.1.length⟩ (killO B6 r1.1.id) := g6.stay hkx hA (fun n hn hh => by
    injection hn with hn
    have := gs.lt n hh; omega)
  refine Ok.of ⟨v.out ++ q.2.2.1, wd_next h hne hq v.turn.toNat, ?_, gfin⟩
  intro hh
  have := congrArg List.length hh
  simp only [List.length_set, List.length_nil] at this
  omega

theorem l92Rooms_l {n : Int} (hn : n ≤ 3) : ∀ (d : Nat) (i : Int) (f : Bool) (l : List Int) {b : List Int} {p m : Int}, n ≤ i + d → 0 ≤ i → i ≤ 10 - d → d ≤ 3 → (l.length : Int) ≤ i → Rd b p m → m + d ≤ 999990000 →
    Ok (spec_l92Rooms_l1 f l n i b p) fun r => Rd r.2.1 r.2.2 (m + d) ∧ r.1.2.length ≤ 10
  | 0, i, f, l, b, p, m, hd, h0, hi1, hd3, hl, hr, hm => by
    apply Ok.le (spec_l92Rooms_l1_le _ _ _ _ _ _)
    have : ¬ (i < n) := by omega
    simp only [this, decide_false, cond_false]
    exact Ok.of ⟨hr.mono (by omega), by dsimp only; omega⟩
  | d + 1, i, f, l, b, p, m, hd, h0, hi1, hd3, hl, hr, hm => by
    apply Ok.le (spec_l92Rooms_l1_le _ _ _ _ _ _)
    refine Ok.bif (fun hb => ?_) (fun hb => ?_)
    · refine Ok.bnd (pick_ok hr (by omega) (by decide)) fun r1 h1 => ?_
      refine Ok.bnd (pick_geti h1.2 (by omega) rfl) fun e he => ?_
      rw [appL_some (by simp; omega), bnd_some, wrap_id (n := i + 1) (by omega) (by omega)]
      exact (l92Rooms_l hn d (i + 1) true (l ++ [e]) (by omega) (by omega) (by omega) (by omega) (by simp; omega) h1.1 (by omega)).mono fun r hr => ⟨hr.1.mono (by omega), hr.2⟩
    · exact Ok.of ⟨hr.mono (by omega), by dsimp only; omega⟩

theorem l92Rooms_ok {b : List Int} {p m : Int} (h : Rd b p m) (hm : m ≤ 999900000) : Ok (spec_l92Rooms b p) fun r => Rd r.2.1 r.2.2 (m + 4) ∧ r.1.length ≤ 10 := by
  apply Ok.le (spec_l92Rooms_le b p)
  refine Ok.bnd (pick_ok h (by omega) (by decide)) fun r1 h1 => ?_
  refine Ok.bnd (pick_geti h1.2 (by omega) rfl) fun e he => ?_
  have he3 : e ≤ 3 := by
    simp only [List.mem_cons, List.not_mem_nil, or_false] at he; omega
  refine Ok.bnd (l92Rooms_l he3 3 0 true [] (by omega) (by omega) (by omega) (by omega) (by simp) h1.1 (by omega)) fun r hr => ?_
  exact Ok.of ⟨hr.1.mono (by omega), hr.2⟩

theorem l92Stmts_l {b : List Int} {p : Int} : ∀ (d : Nat) (md : Md) (l : List Stm), l.length ≤ d → mSs l ≤ 1000000000 → Ok (spec_l92Stmts_l1 md l b p) fun r => r.2.1 = b ∧ r.2.2 = p ∧ mSs r.1.2 ≤ mSs l
  | d, md, l, hd, hl => by
    apply Ok.le (spec_l92Stmts_l1_le _ _ _ _)
    have hc := cSs_le l
    rw [spec_l11Count_eq (by omega), bnd_some]
    refine Ok.bif (fun hb => ?_) (fun hb => ?_)
    · simp only [decide_eq_true_eq] at hb
      have hm := mSs_len l
      have hpos : 0 < l.length := by
        cases l with
        | nil => simp [cSs] at hb
        | cons s r => simp
      have hcut : cutL l 0 (wrap64 ((l.length : Int) - 1)) = some (l.take (l.length - 1)) := by
        rw [wrap_id (by omega) (by omega)]
        unfold cutL
        rw [if_pos (by omega)]
        simp only [Int.toNat_zero, List.drop_zero]
        congr 2
        omega
      rw [hcut, bnd_some]
      have ht := mSs_take l (l.length - 1)
      match d, hd with
      | 0, hd => omega
      | d + 1, hd =>
        exact (l92Stmts_l d _ (l.take (l.length - 1)) (by simp; omega) (by omega)).mono fun r hr => ⟨hr.1, hr.2.1, by have := hr.2.2; omega⟩
    · exact Ok.of ⟨rfl, rfl, Nat.le_refl _⟩

theorem l92Stmts_ok {b : List Int} {p m : Int} (a : Int) (ha : a ≤ 1000) (h : Rd b p m) (hm : m ≤ 999900000) : Ok (spec_l92Stmts a b p) fun r => Rd r.2.1 r.2.2 (m + 23000) ∧ mSs r.1.2 ≤ 10000 := by
  apply Ok.le (spec_l92Stmts_le a b p)
  have hcs : cs 3 = 3820 := by decide
  have hms : ms 3 = 1590 := by decide
  refine Ok.bnd (pick_ok h (by omega) (by decide)) fun r1 h1 => ?_
  have hk := h1.2.2.1 (by omega)
  rw [wrap_id (n := 1 + r1.1) (by omega) (by omega)]
  have hb : Ok (spec_l92Block a 3 (1 + r1.1) true r1.2.1 r1.2.2) fun r => Rd r.2.1 r.2.2 (m + 1 + 6 * 3820) ∧ mSs r.1 ≤ 10000 :=
    (drawn_block (stmts_ok 3 (by omega)) 6 (by omega) (by rw [hms]; omega) a (1 + r1.1) true ha (by omega) h1.1 (by rw [hcs]; omega)).mono fun r hr => by
      obtain ⟨q1, q2⟩ := hr
      rw [hcs] at q1
      rw [hms] at q2
      exact ⟨q1.mono (by omega), by omega⟩
  refine Ok.bnd hb fun r2 h2 => ?_
  refine Ok.bnd (l92Stmts_l (b := r2.2.1) (p := r2.2.2) r2.1.length (.own true) r2.1 (Nat.le_refl _) (by omega)) fun r3 h3 => ?_
  obtain ⟨e1, e2, e3⟩ := h3
  refine Ok.of ⟨?_, by dsimp only; omega⟩
  dsimp only
  rw [e1, e2]; exact h2.1.mono (by omega)

theorem l92Program_l {n : Int} {f0 : Bool} {x0 rs : List Int} {x1 : Hd} {A : List Ent} (hrs : rs.length ≤ 10) : ∀ (d : Nat) (i : Int) (h : Hd) (ls : List (List Stm)) (B : List Ent) {b : List Int} {p m : Int}, n ≤ i + d → 0 ≤ i → i ≤ 10 - d → d ≤ 3 → (ls.length : Int) = i → (∀ x ∈ ls, mSs x ≤ 10000) → Got .stms A ls h B → Rd b p m → m + 23000 * d ≤ 999800000 →
    Ok (spec_l92Program_l1 n i b p f0 x0 x1 rs h B) fun r => Rd r.1 r.2.1 (m + 23000 * d) ∧ r.2.2.2.2.1 = rs ∧ ∃ ls', (ls'.length : Int) ≤ i + d ∧ n ≤ (ls'.length : Int) ∧ (∀ x ∈ ls', mSs x ≤ 10000) ∧ Got .stms A ls' r.2.2.2.2.2.1 r.2.2.2.2.2.2
  | 0, i, h, ls, B, b, p, m, hd, h0, hi1, hd3, hl, hm, hg, hrd, hb => by
    apply Ok.le (spec_l92Program_l1_le _ _ _ _ _ _ _ _ _ _)
    have : ¬ (i < n) := by omega
    simp only [this, decide_false, cond_false]
    exact Ok.of ⟨hrd.mono (by omega), rfl, ls, by omega, by omega, hm, hg⟩
  | d + 1, i, h, ls, B, b, p, m, hd, h0, hi1, hd3, hl, hm, hg, hrd, hb => by
    apply Ok.le (spec_l92Program_l1_le _ _ _ _ _ _ _ _ _ _)
    refine Ok.bif (fun hc => ?_) (fun hc => ?_)
    · refine Ok.bnd (l92Stmts_ok (rs.length : Int) (by omega) hrd (by omega)) fun r1 h1 => ?_
      have hc2 := hg.cnt
      refine Ok.bnd (Got.app (c := .stms) hg (ys := ([r1.1.2] : List (List Stm))) (by simp; omega)) fun B2 hB2 => ?_
      rw [wrap_id (n := i + 1) (by omega) (by omega)]
      exact (l92Program_l hrs d (i + 1) _ (ls ++ [r1.1.2]) B2 (by omega) (by omega) (by omega) (by omega) (by simp; omega) (mem_add hm h1.2) hB2.1 h1.1 (by omega)).mono fun r hr' => ⟨hr'.1.mono (by omega), hr'.2.1, (let ⟨ls', q1, q0, q2, q3⟩ := hr'.2.2; ⟨ls', by omega, q0, q2, q3⟩)⟩
    · simp only [decide_eq_false_iff_not] at hc
      exact Ok.of ⟨hrd.mono (by omega), rfl, ls, by omega, by omega, hm, hg⟩

theorem l92Program_ok {b : List Int} {p m : Int} (h : Rd b p m) (hm : m ≤ 999000000) : Ok (spec_l92Program b p) fun r => Rd r.2.1 r.2.2 (m + 80000) ∧ smallP r.1 := by
  apply Ok.le (spec_l92Program_le b p)
  refine Ok.bnd (l92Rooms_ok h (by omega)) fun r1 h1 => ?_
  refine Ok.bnd (pick_ok h1.1 (by omega) (by decide)) fun r2 h2 => ?_
  have hk := h2.2.2.1 (by omega)
  rw [wrap_id (n := 1 + r2.1) (by omega) (by omega)]
  have hg : Got .stms [] [] ⟨some (List.length ([] : List Ent)), 0⟩ (arPush ([] : List Ent) .stms ([] : List (List Stm))) := Got.push (c := .stms) (l := ([] : List (List Stm))) (Ext.refl _ [])
  refine Ok.bnd (l92Program_l (f0 := false) (x0 := []) (x1 := ⟨none, 0⟩) h1.2 3 0 _ [] _ (by omega) (by omega) (by omega) (by omega) (by simp) (by simp) hg h2.1 (by omega)) fun r3 h3 => ?_
  obtain ⟨h3r, e3, ls, hl, hl1, hms, h3g⟩ := h3
  have up : ∀ {l : List (List Stm)}, (∀ x ∈ l, mSs x ≤ 10000) → ∀ x ∈ l, mSs x ≤ 20000 := fun h x hx => by have := h x hx; omega
  have hr1 := h1.2
  refine Ok.bnd (pick_ok h3r (by omega) (by decide)) fun r4 h4 => ?_
  refine Ok.bif (fun _ => ?_) (fun _ => ?_)
  · refine Ok.bnd (l92Endless_ok h4.1 (by omega)) fun r5 h5 => ?_
    have hc := h3g.cnt
    have hx : ls[0]? = some (ls[0]'(by omega)) := List.getElem?_eq_getElem (by omega)
    rw [idxN_eq (by omega) (by omega), bnd_some, show (0 : Int).toNat = 0 from rfl, Got.row (c := .stms) h3g hx, bnd_some, arView_stms, (Got.set (c := .stms) (i := 0) h3g).get, bnd_some]
    have hsz := h5.2
    rw [mS_eq, emX_eq] at hsz
    refine Ok.of ⟨h5.1.mono (by omega), by dsimp only; rw [e3]; omega, by dsimp only; rw [List.length_set]; omega, up (mem_set hms (by simp only [mSs, mS_mk]; omega))⟩
  · rw [arView_stms, h3g.get, bnd_some]
    exact Ok.of ⟨h4.1.mono (by omega), by dsimp only; rw [e3]; omega, by dsimp only; omega, up hms⟩

theorem mTs_le {K M : Nat} : ∀ l : List Tk, (∀ t ∈ l, tkB K M t) → mTs l ≤ (M + 101) * l.length
  | [], _ => by simp [mTs]
  | t :: r, h => by
    have h1 := h t List.mem_cons_self
    have h2 := mTs_le r fun x hx => h x (List.mem_cons_of_mem _ hx)
    have a1 := h1.2.1
    have a2 := h1.2.2
    have e : (M + 101) * (t :: r).length = (M + 101) * r.length + (M + 101) := by rw [List.length_cons, Nat.mul_add]; omega
    rw [e]
    simp only [mTs, mT]; omega

theorem mBs_le : ∀ l : List Bx, (∀ b ∈ l, b.items.length ≤ 100) → mBs l ≤ 101 * l.length
  | [], _ => by simp [mBs]
  | t :: r, h => by
    have h1 := h t List.mem_cons_self
    have h2 := mBs_le r fun x hx => h x (List.mem_cons_of_mem _ hx)
    simp only [mBs, mB, List.length_cons]; omega

theorem wd_mW {K M N : Nat} {v : Wld} (h : wdB K M N v) (hM : M ≤ 400000000) (hN : N ≤ 1000000) : mW v ≤ 4294967296 := by
  have h1 := mTs_le v.tasks h.tasks
  have h2 := mBs_le v.boxes h.boxes.2
  have h3 := h.many
  have h4 := h.boxes.1
  have h5 := h.out
  have h6 : (M + 101) * v.tasks.length ≤ (M + 101) * 10 := Nat.mul_le_mul_left _ h3
  unfold mW
  omega

theorem newT_wd {x : List Stm} (h : mSs x ≤ 20000) : tkB 20000 20000 (newT x) ∧ binSs (newT x).rest = true := by
  unfold newT taskN
  split
  · rename_i hs
    exact ⟨⟨fun s hs' => (by have h2 := mS_mem (l := x) hs'; omega), h, by simp⟩, binSs_ok hs⟩
  · exact ⟨tkB_zero _ _, rfl⟩

theorem worldN_wd {p : Prg} (h : smallP p) : wdB 20000 20000 0 (worldN p).1 := by
  unfold worldN
  split
  · have h1 := h.1
    have h2 := h.2.1
    refine ⟨by simp; omega, fun t ht => ?_, fun t ht => ?_, ⟨by simp; omega, fun b hb => ?_⟩, by simp, fun hne => ?_⟩
    · obtain ⟨x, hx, rfl⟩ := List.mem_map.1 ht; exact (newT_wd (h.2.2 x hx)).1
    · obtain ⟨x, hx, rfl⟩ := List.mem_map.1 ht; exact (newT_wd (h.2.2 x hx)).2
    · obtain ⟨x, hx, rfl⟩ := List.mem_map.1 hb; simp
    · have : (p.tasks.map newT).length ≠ 0 := fun hh => hne (List.eq_nil_of_length_eq_zero hh)
      exact ⟨by simp, by dsimp only; omega⟩
  · exact ⟨by simp, fun t ht => by simp at ht, fun t ht => by simp at ht, bxB_nil, by simp, fun hne => absurd rfl hne⟩

theorem worldOk_ne {v : Wld} (h : worldOk v = true) : v.tasks ≠ [] := by
  intro hh
  unfold worldOk at h
  rw [hh] at h
  simp at h

theorem l16Copyo_l {l : List Tk} {bx : List Bx} {tu id_ : Int} {o : List Int} {f0 f1 : Bool} {x0 : List Tk} {x4 : Hd} {x1 : List Bx} {x2 x3 : Int} {bx' : List Bx} {tu' id' : Int} {ho : Hd} {B : List Ent} (hl : l.length ≤ 10) (hp : ∀ t ∈ l, spec_l15Copy t = some t) : ∀ (d i : Nat) (f : Bool), i + d = l.length →
    Ok (spec_l16Copy_o_l1 i l bx tu id_ o f0 x0 f1 x1 x2 x3 x4 f (l.take i) bx' tu' id' ho B) fun r => r.2.2.2.2.2.1.2 = l ∧ r.2.2.2.2.2.2.1 = bx' ∧ r.2.2.2.2.2.2.2.1 = tu' ∧ r.2.2.2.2.2.2.2.2.1 = id' ∧ r.2.2.2.2.2.2.2.2.2.1 = ho ∧ r.2.2.2.2.2.2.2.2.2.2 = B
  | 0, i, f, hd => by
    apply Ok.le (spec_l16Copy_o_l1_le _ _ _ _ _ _ _ _ _ _ _ _ _ _ _ _ _ _ _ _)
    have hi : ¬ ((i : Int) < l.length) := by omega
    simp only [hi, decide_false, cond_false]
    exact Ok.of ⟨List.take_of_length_le (by omega), rfl, rfl, rfl, rfl, rfl⟩
  | d + 1, i, f, hd => by
    apply Ok.le (spec_l16Copy_o_l1_le _ _ _ _ _ _ _ _ _ _ _ _ _ _ _ _ _ _ _ _)
    have hi : i < l.length := by omega
    have hi' : (i : Int) < l.length := by omega
    simp only [hi', decide_true, cond_true, geti_some hi, bnd_some, hp _ (List.getElem_mem hi), wrap_succ (show (i : Int) < 9223372036854775807 by omega), appL_some (show (l.take i).length + [l[i]].length ≤ 4294967296 by simp; omega)]
    have e : l.take i ++ [l[i]] = l.take (i + 1) := by rw [List.take_add_one, List.getElem?_eq_getElem hi]; rfl
    rw [e]
    exact l16Copyo_l hl hp d (i + 1) true (by omega)

theorem spec_l16Copy_o_ok {K M N : Nat} {v : Wld} (h : wdB K M N v) (hM : M ≤ 4294960000) (hN : N ≤ 4294960000) (A : List Ent) : Ok (spec_l16Copy_o v A) fun r => r.1.tasks = v.tasks ∧ r.1.boxes = v.boxes ∧ r.1.turn = v.turn ∧ r.1.idle = v.idle ∧ Got .int A v.out r.1.out r.2 := by
  apply Ok.le (spec_l16Copy_o_le v A)
  have ho := h.out
  rw [spec_l15BoxesCopy_eq h.boxes, bnd_some]
  have g1 : Got .int A [] ⟨some A.length, 0⟩ (arPush A .int ([] : List Int)) := Got.push (c := .int) (l := ([] : List Int)) (Ext.refl _ A)
  refine Ok.bnd (Got.app (c := .int) g1 (ys := v.out) (by show 0 + v.out.length ≤ _; omega)) fun B2 hB2 => ?_
  refine Ok.bnd (l16Copyo_l (x0 := []) (x4 := ⟨none, 0⟩) (f0 := false) (f1 := false) (x1 := []) (x2 := 0) (x3 := 0) (bx' := v.boxes) (tu' := v.turn) (id' := v.idle) (bx := v.boxes) (tu := v.turn) (id_ := v.idle) (o := v.out) (B := B2) h.many (wd_copyT h hM) v.tasks.length 0 false (by omega)) fun r hr => ?_
  obtain ⟨e1, e2, e3, e4, e5, e6⟩ := hr
  refine Ok.of ⟨e1, e2, e3, e4, ?_⟩
  dsimp only
  rw [e5, e6]; exact hB2.1

theorem run_l {A : List Ent} {n : Int} {K : Nat} {f0 f1 : Bool} {x0 : List Tk} {x1 : List Bx} {x2 x3 : Int} {x4 : Hd} : ∀ (d : Nat) (i : Int) (h : Hd) (os : List Int) (ts : List Tk) (bx : List Bx) (tu id_ : Int) (M N : Nat) (B : List Ent), n ≤ i + d → 0 ≤ i → i ≤ 1000 - d → d ≤ 1000 → wdB K M N ⟨ts, bx, tu, id_, os⟩ → ts ≠ [] → M + d * K + K ≤ 4294960000 → N + d ≤ 1000000 → Got .int A os h B →
    Ok (spec_WorldRun_o_l1 n i f0 x0 f1 x1 x2 x3 x4 ts bx tu id_ h B) fun r => ∃ os', wdB K (M + d * K) (N + d) ⟨r.2.2.2.2.2.1, r.2.2.2.2.2.2.1, r.2.2.2.2.2.2.2.1, r.2.2.2.2.2.2.2.2.1, os'⟩ ∧ Got .int A os' r.2.2.2.2.2.2.2.2.2.1 r.2.2.2.2.2.2.2.2.2.2 := by
  intro d
  induction d with
  | zero =>
    intro i h os ts bx tu id_ M N B hd h0 hi1 hdd hv hne hM hN hg
    apply Ok.le (spec_WorldRun_o_l1_le _ _ _ _ _ _ _ _ _ _ _ _ _ _ _)
    have : ¬ (i < n) := by omega
    simp only [this, decide_false, cond_false]
    exact Ok.of ⟨os, hv.mono (by omega) (by omega), hg⟩
  | succ d ih =>
    intro i h os ts bx tu id_ M N B hd h0 hi1 hdd hv hne hM hN hg
    apply Ok.le (spec_WorldRun_o_l1_le _ _ _ _ _ _ _ _ _ _ _ _ _ _ _)
    have e2 : (d + 1) * K = d * K + K := by rw [Nat.add_mul]; omega
    refine Ok.bif (fun _ => ?_) (fun _ => Ok.of ⟨os, hv.mono (by omega) (by omega), hg⟩)
    refine Ok.bif (fun _ => ?_) (fun _ => Ok.of ⟨os, hv.mono (by omega) (by omega), hg⟩)
    rw [arView_int, hg.get, bnd_some, killL_two]
    refine Ok.bnd (spec_l16Step_o_ok hv hne (by omega) (by omega) (killO B h.id)) fun q ⟨os', q1, q2, q3⟩ => ?_
    rw [wrap_id (n := i + 1) (by omega) (by omega)]
    exact (ih (i + 1) q.1.out os' q.1.tasks q.1.boxes q.1.turn q.1.idle (M + K) (N + 1) q.2 (by omega) (by omega) (by omega) (by omega) q1 q2 (by omega) (by omega) (q3.base (ext0_killO hg.ext hg.id))).mono fun r ⟨os2, w1, w2⟩ => ⟨os2, w1.mono (by omega) (by omega), w2⟩

theorem spec_WorldRun_o_ok {v : Wld} {n : Int} (hn : 0 ≤ n ∧ n ≤ 100) (h : wdB 20000 20000 0 v) (A : List Ent) : Ok (spec_WorldRun_o v n A) fun r => ∃ os, wdB 20000 2100000 100 ⟨r.1.tasks, r.1.boxes, r.1.turn, r.1.idle, os⟩ ∧ Got .int A os r.1.out r.2.2 := by
  apply Ok.le (spec_WorldRun_o_le v n A)
  have bad : ∃ os, wdB 20000 2100000 100 ⟨[], [], 0, 0, os⟩ ∧ Got .int A os ⟨none, 0⟩ A := ⟨[], ⟨by simp, fun t ht => by simp at ht, fun t ht => by simp at ht, bxB_nil, by simp, fun hne => absurd rfl hne⟩, Got.nil (Ext.refl _ A)⟩
  rw [spec_WorldValid_eq (wd_mW h (by omega) (by omega)), bnd_some]
  refine Ok.bif (fun _ => Ok.of bad) (fun hok => ?_)
  have hok : worldOk v = true := by simpa using hok
  rw [spec_l6In_eq, bnd_some]
  refine Ok.bif (fun _ => Ok.of bad) (fun _ => ?_)
  refine Ok.bnd (spec_l16Copy_o_ok h (by omega) (by omega) A) fun r ⟨e1, e2, e3, e4, hg⟩ => ?_
  rw [e1, e2, e3, e4]
  refine Ok.bnd (run_l (K := 20000) (f0 := false) (f1 := false) (x0 := []) (x1 := []) (x2 := 0) (x3 := 0) (x4 := ⟨none, 0⟩) 100 0 r.1.out v.out v.tasks v.boxes v.turn v.idle 20000 0 r.2 (by omega) (by omega) (by omega) (by omega) (by rw [wld_eta]; exact h) (worldOk_ne hok) (by omega) (by omega) hg) fun q ⟨os, w1, w2⟩ => ?_
  exact Ok.of ⟨os, w1.mono (by omega) (by omega), w2⟩

theorem l92World_ok {b : List Int} {p m : Int} (h : Rd b p m) (hm : m ≤ 990000000) : Ok (spec_l92World b p) fun r => mW r.1 ≤ 100000000 := by
  apply Ok.le (spec_l92World_le b p)
  refine Ok.bnd (l92Program_ok h (by omega)) fun r1 h1 => ?_
  have hp := h1.2
  have p1 := hp.1
  have p2 := hp.2.1
  rw [spec_WorldNew_eq (by omega) (by omega) (fun x hx => by have := hp.2.2 x hx; omega), bnd_some]
  refine Ok.bnd (pick_ok h1.1 (by omega) (by decide)) fun r3 h3 => ?_
  have h30 := h3.2.2.1 (by omega)
  refine Ok.bnd (spec_WorldRun_o_ok (n := r3.1) ⟨h3.2.1, by omega⟩ (worldN_wd hp) []) fun r4 ⟨os, hw, hg⟩ => ?_
  have hc := hg.cnt
  have ho := hw.out
  dsimp only at ho
  have hmany := hw.many
  dsimp only at hmany
  have sz : ∀ {tu id_ : Int} {bx : List Bx} {o : List Int}, bxB bx → o.length ≤ 200 → mW ⟨r4.1.tasks, bx, tu, id_, o⟩ ≤ 100000000 := by
    intro tu id_ bx o hb hol
    have h1 := mTs_le r4.1.tasks hw.tasks
    have h2 := mBs_le bx hb.2
    have h4 := hb.1
    have h6 : (2100000 + 101) * r4.1.tasks.length ≤ (2100000 + 101) * 10 := Nat.mul_le_mul_left _ hmany
    simp only [mW]
    omega
  have hbx : bxB r4.1.boxes := hw.boxes
  refine Ok.bnd (pick_ok h3.1 (by omega) (by decide)) fun r5 h5 => ?_
  refine Ok.bif (fun _ => ?_) (fun _ => ?_)
  · rw [arView_int, hg.get, bnd_some]; exact Ok.of (sz hbx (by omega))
  refine Ok.bif (fun _ => ?_) (fun _ => ?_)
  · refine Ok.bnd (pick_ok h5.1 (by omega) (by decide)) fun r7 h7 => ?_
    refine Ok.bnd (pick_geti h7.2 (by omega) rfl) fun e he => ?_
    rw [arView_int, hg.get, bnd_some]; exact Ok.of (sz hbx (by omega))
  refine Ok.bif (fun _ => ?_) (fun _ => ?_)
  · rw [arView_int, hg.get, bnd_some]; exact Ok.of (sz bxB_nil (by omega))
  refine Ok.bif (fun _ => ?_) (fun _ => ?_)
  · refine Ok.bnd (Got.app (c := .int) hg (ys := ([(-2147483649)] : List Int)) (by simp; omega)) fun B11 hB11 => ?_
    have hgg := hB11.1.get
    dsimp only at hgg
    rw [arView_int, hgg, bnd_some]; exact Ok.of (sz hbx (by simp; omega))
  · rw [arView_int, hg.get, bnd_some]; exact Ok.of (sz hbx (by omega))

def endOf (t : Tk) : Bool := decide ((t.rest.length : Int) = 0)

def itemsOf (l : List Bx) : List (List Int) := l.map fun b => b.items

theorem items_take {l : List Bx} {i : Nat} (hi : i < l.length) : itemsOf (l.take i) ++ [l[i].items] = itemsOf (l.take (i + 1)) := by
  unfold itemsOf
  rw [List.take_add_one, List.getElem?_eq_getElem hi, List.map_append]; rfl

theorem ends_take {l : List Tk} {i : Nat} (hi : i < l.length) : (l.take i).map endOf ++ [decide ((l[i].rest.length : Int) = 0)] = (l.take (i + 1)).map endOf := by
  rw [List.take_add_one, List.getElem?_eq_getElem hi, List.map_append]; rfl

theorem outcomeOf_l {l : List Bx} (hl : (l.length : Int) ≤ 4294960000) (hm : ∀ b ∈ l, mB b ≤ 4294967296) {f0 f1 g r : Bool} {x0 o : List Int} {x1 : List (List Int)} {h2 h3 : Hd} {B : List Ent} : ∀ (d i : Nat) (f : Bool), i + d = l.length →
    Ok (impl_outcomeOf_o_l1 l l.length i f0 x0 f1 x1 h2 g o f (itemsOf (l.take i)) h3 r B) fun q => q.2.2.2.2.1 = o ∧ q.2.2.2.2.2.1.2 = itemsOf l ∧ q.2.2.2.2.2.2.1 = h3 ∧ q.2.2.2.2.2.2.2.1 = r ∧ q.2.2.2.2.2.2.2.2 = B
  | 0, i, f, hd => by
    apply Ok.le (impl_outcomeOf_o_l1_le _ _ _ _ _ _ _ _ _ _ _ _ _ _ _)
    have hi : ¬ ((i : Int) < l.length) := by omega
    simp only [hi, decide_false, cond_false]
    exact Ok.of ⟨rfl, by rw [List.take_of_length_le (by omega)], rfl, rfl, rfl⟩
  | d + 1, i, f, hd => by
    apply Ok.le (impl_outcomeOf_o_l1_le _ _ _ _ _ _ _ _ _ _ _ _ _ _ _)
    have hi : i < l.length := by omega
    have hi' : (i : Int) < l.length := by omega
    have hb := hm _ (List.getElem_mem hi)
    unfold mB at hb
    simp only [hi', decide_true, cond_true, geti_some hi, bnd_some, clone_eq hb, wrap_succ (show (i : Int) < 9223372036854775807 by omega), appL_some (show (itemsOf (l.take i)).length + [l[i].items].length ≤ 4294967296 by simp [itemsOf]; omega), items_take hi]
    exact outcomeOf_l hl hm d (i + 1) true (by omega)

theorem items_l {l : List Bx} (hl : (l.length : Int) ≤ 4294960000) (hm : ∀ b ∈ l, mB b ≤ 4294967296) : ∀ (d i : Nat) (f : Bool), i + d = l.length → Ok (spec_l16Items_l1 l f (itemsOf (l.take i)) i) fun q => q.2 = itemsOf l
  | 0, i, f, hd => by
    apply Ok.le (spec_l16Items_l1_le _ _ _ _)
    have hi : ¬ ((i : Int) < l.length) := by omega
    simp only [hi, decide_false, cond_false]
    exact Ok.of (by rw [List.take_of_length_le (by omega)])
  | d + 1, i, f, hd => by
    apply Ok.le (spec_l16Items_l1_le _ _ _ _)
    have hi : i < l.length := by omega
    have hi' : (i : Int) < l.length := by omega
    have hb := hm _ (List.getElem_mem hi)
    unfold mB at hb
    simp only [hi', decide_true, cond_true, geti_some hi, bnd_some, appL_some (show ([] : List Int).length + l[i].items.length ≤ 4294967296 by simp; omega), List.nil_append, wrap_succ (show (i : Int) < 9223372036854775807 by omega), appL_some (show (itemsOf (l.take i)).length + [l[i].items].length ≤ 4294967296 by simp [itemsOf]; omega), items_take hi]
    exact items_l hl hm d (i + 1) true (by omega)

theorem ends_l {l : List Tk} (hl : (l.length : Int) ≤ 4294960000) {A : List Ent} {f0 f1 g r : Bool} {x0 o : List Int} {x1 w : List (List Int)} {h2 : Hd} : ∀ (d i : Nat) (h : Hd) (B : List Ent), i + d = l.length → Got .bool A ((l.take i).map endOf) h B →
    Ok (impl_WorldOutcome_l1 l l.length i f0 x0 f1 x1 h2 g o w h r B) fun q => q.2.2.2.2.1 = o ∧ q.2.2.2.2.2.1 = w ∧ q.2.2.2.2.2.2.2.1 = r ∧ Got .bool A (l.map endOf) q.2.2.2.2.2.2.1 q.2.2.2.2.2.2.2.2
  | 0, i, h, B, hd, hg => by
    apply Ok.le (impl_WorldOutcome_l1_le _ _ _ _ _ _ _ _ _ _ _ _ _ _)
    have hi : ¬ ((i : Int) < l.length) := by omega
    simp only [hi, decide_false, cond_false]
    rw [List.take_of_length_le (by omega)] at hg
    exact Ok.of ⟨rfl, rfl, rfl, hg⟩
  | d + 1, i, h, B, hd, hg => by
    apply Ok.le (impl_WorldOutcome_l1_le _ _ _ _ _ _ _ _ _ _ _ _ _ _)
    have hi : i < l.length := by omega
    have hi' : (i : Int) < l.length := by omega
    have hn := hg.cnt
    simp only [List.length_map, List.length_take] at hn
    simp only [hi', decide_true, cond_true, geti_some hi, bnd_some, wrap_succ (show (i : Int) < 9223372036854775807 by omega)]
    refine Ok.bnd (Got.app (c := .bool) hg (ys := [decide ((l[i].rest.length : Int) = 0)]) (by simp; omega)) fun B2 hB2 => ?_
    have g2 := hB2.1
    rw [ends_take hi] at g2
    exact ends_l hl d (i + 1) _ B2 (by omega) g2

theorem specEnds_l {l : List Tk} (hl : (l.length : Int) ≤ 4294960000) {bx : List Bx} {t k : Int} {o o2 x0 : List Int} {f0 f1 f2 g r : Bool} {x1 w : List (List Int)} {x2 : List Bool} : ∀ (d i : Nat) (f : Bool), i + d = l.length →
    Ok (spec_WorldOutcome_l1 i l bx t k o f0 x0 f1 x1 f2 x2 g o2 w f ((l.take i).map endOf) r) fun q => q.2.2.2.2.1 = o2 ∧ q.2.2.2.2.2.1 = w ∧ q.2.2.2.2.2.2.1.2 = l.map endOf ∧ q.2.2.2.2.2.2.2 = r
  | 0, i, f, hd => by
    apply Ok.le (spec_WorldOutcome_l1_le _ _ _ _ _ _ _ _ _ _ _ _ _ _ _ _ _ _)
    have hi : ¬ ((i : Int) < l.length) := by omega
    simp only [hi, decide_false, cond_false]
    exact Ok.of ⟨rfl, rfl, by rw [List.take_of_length_le (by omega)], rfl⟩
  | d + 1, i, f, hd => by
    apply Ok.le (spec_WorldOutcome_l1_le _ _ _ _ _ _ _ _ _ _ _ _ _ _ _ _ _ _)
    have hi : i < l.length := by omega
    have hi' : (i : Int) < l.length := by omega
    simp only [hi', decide_true, cond_true, geti_some hi, bnd_some, wrap_succ (show (i : Int) < 9223372036854775807 by omega), appL_some (show ((l.take i).map endOf).length + [decide ((l[i].rest.length : Int) = 0)].length ≤ 4294967296 by simp; omega), ends_take hi]
    exact specEnds_l hl d (i + 1) true (by omega)

def outV (v : Wld) : Otc := if worldOk v = true then ⟨v.out, itemsOf v.boxes, v.tasks.map endOf, decide (v.idle = (v.tasks.length : Int))⟩ else ⟨[], [], [], false⟩

theorem impl_WorldOutcome_eq {v : Wld} (h : mW v ≤ 4294960000) : impl_WorldOutcome v = some (outV v) := by
  apply impl_WorldOutcome_le
  obtain ⟨h1, h2, h3, h4, h5⟩ := mW_parts (v := v) (by omega)
  have hb : v.boxes.length ≤ 4294960000 := by have := mBs_len v.boxes; unfold mW at h; omega
  have ht : v.tasks.length ≤ 4294960000 := by have := mTs_len v.tasks; unfold mW at h; omega
  apply Ok.some
  refine Ok.bnd (Ok.eq (impl_WorldValid_eq (by omega))) fun r1 e1 => ?_
  subst e1
  refine Ok.bif (fun hn => ?_) (fun hy => ?_)
  · rw [arView_bool, arGet_none, bnd_some]
    refine Ok.of ?_
    have : worldOk v = false := by simpa using hn
    unfold outV; rw [this]; rfl
  · have hok : worldOk v = true := by simpa using hy
    have ho : Ok (impl_outcomeOf_o v.out v.boxes (decide (v.idle = (v.tasks.length : Int))) ([] : List Ent)) fun q => q.1 = v.out ∧ q.2.1 = itemsOf v.boxes ∧ q.2.2.1 = ⟨none, 0⟩ ∧ q.2.2.2.1 = decide (v.idle = (v.tasks.length : Int)) ∧ q.2.2.2.2 = [] := by
      apply Ok.le (impl_outcomeOf_o_le _ _ _ _)
      rw [clone_eq (by omega), bnd_some]
      refine Ok.bnd (outcomeOf_l (l := v.boxes) (by omega) h4 (f0 := false) (f1 := false) (g := false) (x0 := []) (x1 := []) (h2 := ⟨none, 0⟩) (h3 := ⟨none, 0⟩) (o := v.out) (r := decide (v.idle = (v.tasks.length : Int))) (B := []) v.boxes.length 0 false (by omega)) fun q hq => ?_
      exact Ok.of hq
    refine Ok.bnd ho fun r3 ⟨e1, e2, e3, e4, e5⟩ => ?_
    rw [e1, e2, e3, e4, e5]
    refine Ok.bnd (ends_l (l := v.tasks) (by omega) (A := []) (f0 := false) (f1 := false) (g := false) (x0 := []) (x1 := []) (h2 := ⟨none, 0⟩) (o := v.out) (w := itemsOf v.boxes) (r := decide (v.idle = (v.tasks.length : Int))) v.tasks.length 0 ⟨none, 0⟩ [] (by omega) (Got.nil (Ext.refl _ _))) fun r4 ⟨q1, q2, q3, q4⟩ => ?_
    rw [arView_bool, q4.get, bnd_some, q1, q2, q3]
    refine Ok.of ?_
    unfold outV; rw [if_pos hok]

theorem spec_WorldOutcome_eq {v : Wld} (h : mW v ≤ 4294960000) : spec_WorldOutcome v = some (outV v) := by
  apply spec_WorldOutcome_le
  obtain ⟨h1, h2, h3, h4, h5⟩ := mW_parts (v := v) (by omega)
  have hb : v.boxes.length ≤ 4294960000 := by have := mBs_len v.boxes; unfold mW at h; omega
  have ht : v.tasks.length ≤ 4294960000 := by have := mTs_len v.tasks; unfold mW at h; omega
  apply Ok.some
  refine Ok.bnd (Ok.eq (spec_WorldValid_eq (by omega))) fun r1 e1 => ?_
  subst e1
  refine Ok.bif (fun hn => ?_) (fun hy => ?_)
  · refine Ok.of ?_
    have : worldOk v = false := by simpa using hn
    unfold outV; rw [this]; rfl
  · have hok : worldOk v = true := by simpa using hy
    rw [appL_some (by simp; omega), bnd_some, List.nil_append]
    have hi : Ok (spec_l16Items v.boxes) fun q => q = itemsOf v.boxes := by
      apply Ok.le (spec_l16Items_le _)
      exact Ok.bnd (items_l (l := v.boxes) (by omega) h4 v.boxes.length 0 true (by omega)) fun q hq => Ok.of hq
    refine Ok.bnd hi fun r3 e3 => ?_
    subst e3
    refine Ok.bnd (specEnds_l (l := v.tasks) (by omega) (bx := v.boxes) (t := v.turn) (k := v.idle) (o := v.out) (o2 := v.out) (x0 := []) (f0 := false) (f1 := false) (f2 := false) (g := false) (x1 := []) (x2 := []) (w := itemsOf v.boxes) (r := decide (v.idle = (v.tasks.length : Int))) v.tasks.length 0 false (by omega)) fun r4 ⟨q1, q2, q3, q4⟩ => ?_
    rw [q1, q2, q3, q4]
    refine Ok.of ?_
    unfold outV; rw [if_pos hok]

theorem sameLists_l {l : List (List Int)} (hl : (l.length : Int) ≤ 4294960000) (hm : ∀ x ∈ l, (x.length : Int) ≤ 4294967296) : ∀ (d i : Nat), i + d = l.length → laws_sameLists_l1 l l i = some (.inl ())
  | 0, i, hd => by
    apply laws_sameLists_l1_le
    have hi : ¬ ((i : Int) < l.length) := by omega
    simp [hi]
  | d + 1, i, hd => by
    apply laws_sameLists_l1_le
    have hi : i < l.length := by omega
    have hi' : (i : Int) < l.length := by omega
    simp only [hi', decide_true, cond_true, geti_some hi, bnd_some, laws_sameInts_refl (hm _ (List.getElem_mem hi)), Bool.not_true, cond_false, wrap_succ (show (i : Int) < 9223372036854775807 by omega)]
    exact sameLists_l hl hm d (i + 1) (by omega)

theorem laws_sameLists_refl {l : List (List Int)} (hl : (l.length : Int) ≤ 4294960000) (hm : ∀ x ∈ l, (x.length : Int) ≤ 4294967296) : laws_sameLists l l = some true := by
  apply laws_sameLists_le
  have e : laws_sameLists_l1 l l 0 = some (.inl ()) := sameLists_l hl hm l.length 0 (by omega)
  simp [e, selm]

theorem sameFlags_l {l : List Bool} (hl : (l.length : Int) ≤ 4294960000) : ∀ (d i : Nat), i + d = l.length → laws_sameFlags_l1 l l i = some (.inl ())
  | 0, i, hd => by
    apply laws_sameFlags_l1_le
    have hi : ¬ ((i : Int) < l.length) := by omega
    simp [hi]
  | d + 1, i, hd => by
    apply laws_sameFlags_l1_le
    have hi : i < l.length := by omega
    have hi' : (i : Int) < l.length := by omega
    simp only [hi', decide_true, cond_true, geti_some hi, bnd_some, beq_self_eq_true, bne_self_eq_false, Bool.not_true, cond_false, wrap_succ (show (i : Int) < 9223372036854775807 by omega)]
    exact sameFlags_l hl d (i + 1) (by omega)

theorem laws_sameFlags_refl {l : List Bool} (hl : (l.length : Int) ≤ 4294960000) : laws_sameFlags l l = some true := by
  apply laws_sameFlags_le
  have e : laws_sameFlags_l1 l l 0 = some (.inl ()) := sameFlags_l hl l.length 0 (by omega)
  simp [e, selm]

theorem ends_all {ts : List Tk} {bx : List Bx} {t k : Int} {o o2 : List Int} {w : List (List Int)} {r : Bool} (hl : (ts.length : Int) ≤ 4294960000) : ∀ (d i : Nat), i + d = ts.length → laws_FnOutcome_l1 i ts bx t k o o2 w (ts.map endOf) r = some (.inl (ts, bx, t, k, o, o2, w, ts.map endOf, r))
  | 0, i, hd => by
    apply laws_FnOutcome_l1_le
    have hi : ¬ ((i : Int) < ts.length) := by omega
    simp [hi]
  | d + 1, i, hd => by
    apply laws_FnOutcome_l1_le
    have hi : i < ts.length := by omega
    have hi' : (i : Int) < ts.length := by omega
    have hj : i < (ts.map endOf).length := by simpa using hi
    simp only [hi', decide_true, cond_true, geti_some hi, geti_some hj, bnd_some, List.getElem_map, endOf, beq_self_eq_true, Bool.not_true, cond_false, wrap_succ (show (i : Int) < 9223372036854775807 by omega)]
    exact ends_all hl d (i + 1) (by omega)

theorem items_all {ts : List Tk} {bx : List Bx} {t k : Int} {o o2 : List Int} {e : List Bool} {r : Bool} (hl : (bx.length : Int) ≤ 4294960000) (hm : ∀ b ∈ bx, mB b ≤ 4294967296) : ∀ (d i : Nat), i + d = bx.length → laws_FnOutcome_l2 i ts bx t k o o2 (itemsOf bx) e r = some (.inl (ts, bx, t, k, o, o2, itemsOf bx, e, r))
  | 0, i, hd => by
    apply laws_FnOutcome_l2_le
    have hi : ¬ ((i : Int) < bx.length) := by omega
    simp [hi]
  | d + 1, i, hd => by
    apply laws_FnOutcome_l2_le
    have hi : i < bx.length := by omega
    have hi' : (i : Int) < bx.length := by omega
    have hj : i < (itemsOf bx).length := by unfold itemsOf; simpa using hi
    have hb := hm _ (List.getElem_mem hi)
    unfold mB at hb
    have e0 : (itemsOf bx)[i] = bx[i].items := by simp [itemsOf]
    simp only [hi', decide_true, cond_true, geti_some hi, geti_some hj, bnd_some, e0, laws_sameInts_refl (show ((bx[i].items.length : Nat) : Int) ≤ 4294967296 by omega), Bool.not_true, cond_false, wrap_succ (show (i : Int) < 9223372036854775807 by omega)]
    exact items_all hl hm d (i + 1) (by omega)

theorem laws_sameOutcome_refl {o : Otc} (h1 : (o.out.length : Int) ≤ 4294960000) (h2 : (o.items.length : Int) ≤ 4294960000) (h3 : ∀ x ∈ o.items, (x.length : Int) ≤ 4294967296) (h4 : (o.ended.length : Int) ≤ 4294960000) : laws_sameOutcome o o = some true := by
  apply laws_sameOutcome_le
  simp only [laws_sameInts_refl (show (o.out.length : Int) ≤ 4294967296 by omega), bnd_some, cond_true, laws_sameLists_refl h2 h3, laws_sameFlags_refl h4, beq_self_eq_true]

theorem DrawWorldOutcome_ok {a : List Int} (h : wfBs a) : Ok (spec_DrawWorldOutcome a) fun v => mW v ≤ 100000000 := by
  apply Ok.le (spec_DrawWorldOutcome_le a)
  refine Ok.bnd (open_ok h) fun r1 h1 => ?_
  exact Ok.bnd (l92World_ok h1 (by omega)) fun r2 h2 => Ok.of h2

theorem laws_FnOutcome_eq (a : List Int) (h : wfBs a) : laws_FnOutcome a = some true := by
  apply laws_FnOutcome_le
  apply Ok.some
  refine Ok.bif (fun _ => Ok.of rfl) (fun _ => ?_)
  refine Ok.bnd (DrawWorldOutcome_ok h) fun v hm => ?_
  refine Ok.bnd (Ok.eq (impl_WorldOutcome_eq (by omega))) fun r2 e2 => ?_
  subst e2
  refine Ok.bnd (Ok.eq (spec_WorldOutcome_eq (by omega))) fun r3 e3 => ?_
  subst e3
  obtain ⟨h1, h2, h3, h4, h5⟩ := mW_parts (v := v) (by omega)
  have hb : v.boxes.length ≤ 4294960000 := by have := mBs_len v.boxes; unfold mW at hm; omega
  have ht : v.tasks.length ≤ 4294960000 := by have := mTs_len v.tasks; unfold mW at hm; omega
  have ho : v.out.length ≤ 4294960000 := by unfold mW at hm; omega
  have hs : laws_sameOutcome (outV v) (outV v) = some true := by
    unfold outV
    split
    · refine laws_sameOutcome_refl (by simpa using (by omega : (v.out.length : Int) ≤ 4294960000)) (by simp [itemsOf]; omega) (fun x hx => ?_) (by simp; omega)
      simp only [itemsOf, List.mem_map] at hx
      obtain ⟨b, hb1, rfl⟩ := hx
      have := h4 b hb1
      unfold mB at this; omega
    · exact laws_sameOutcome_refl (by simp) (by simp) (by simp) (by simp)
  refine Ok.bnd (Ok.eq hs) fun r4 e4 => ?_
  subst e4
  refine Ok.bif (fun h => absurd h (by simp)) (fun _ => ?_)
  refine Ok.bif (fun _ => Ok.bnd (Ok.eq hs) fun r6 e6 => Ok.of e6) (fun hne => ?_)
  have hok : worldOk v = true := by
    cases hw : worldOk v with
    | true => rfl
    | false => unfold outV at hne; rw [hw] at hne; simp at hne
  have hv : outV v = ⟨v.out, itemsOf v.boxes, v.tasks.map endOf, decide (v.idle = (v.tasks.length : Int))⟩ := by unfold outV; rw [if_pos hok]
  rw [hv]
  refine Ok.bnd (Ok.eq (ends_all (by omega) v.tasks.length 0 (by omega))) fun r7 e7 => ?_
  subst e7
  simp only [selm]
  refine Ok.bnd (Ok.eq (items_all (by omega) h4 v.boxes.length 0 (by omega))) fun r8 e8 => ?_
  subst e8
  simp only [selm, laws_sameInts_refl (show (v.out.length : Int) ≤ 4294967296 by omega), bnd_some, cond_true]
  refine ⟨true, ?_, rfl⟩
  simp [itemsOf]
end Go.TFnOutcome
