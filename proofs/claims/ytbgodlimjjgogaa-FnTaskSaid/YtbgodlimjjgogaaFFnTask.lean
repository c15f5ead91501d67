/- The plain law: what the functions answer. -/
import Derived.Test.YtbgodlimjjgogaaDFnTaskE0
import Derived.Test.YtbgodlimjjgogaaLkA
set_option linter.unusedVariables false
set_option linter.unusedSimpArgs false
namespace Go.TFnTask
open Go Go.RowKit Go.Vs Go.Tv
theorem spec_l6In_eq (a b c : Int) : spec_l6In a b c = some (decide (b ≤ a ∧ a ≤ c)) := by
  apply spec_l6In_le
  by_cases h : b ≤ a <;> simp [h]

theorem spec_OpValid_eq (a : Int) : spec_OpValid a = some (decide (1 ≤ a ∧ a ≤ 12)) := by
  apply spec_OpValid_le; simp [spec_l6In_eq]

theorem spec_WordValid_eq (a : Int) : spec_WordValid a = some (decide (-2147483648 ≤ a ∧ a ≤ 2147483647)) := by
  apply spec_WordValid_le; simp [spec_l6In_eq]

theorem impl_OpValid_eq (a : Int) : impl_OpValid a = some (decide (1 ≤ a ∧ a ≤ 12)) := by
  apply impl_OpValid_le
  by_cases h : 1 ≤ a <;> simp [h]

theorem impl_WordValid_eq (a : Int) : impl_WordValid a = some (decide (-2147483648 ≤ a ∧ a ≤ 2147483647)) := by
  apply impl_WordValid_le
  by_cases h : -2147483648 ≤ a <;> simp [h]

/-- A reader of bytes: how far it may have come. -/
def Rd (b : List Int) (p m : Int) : Prop := (∀ x ∈ b, 0 ≤ x ∧ x ≤ 255) ∧ (b.length : Int) ≤ 2000 ∧ 0 ≤ p ∧ p ≤ m

theorem Rd.mono {b : List Int} {p m n : Int} (h : Rd b p m) (hm : m ≤ n) : Rd b p n := ⟨h.1, h.2.1, h.2.2.1, by have := h.2.2.2; omega⟩

theorem open_ok {a : List Int} (h : wfBs a) : Ok (spec_l6Open a) fun r => Rd r.1 r.2 0 := by
  apply Ok.le (spec_l6Open_le a)
  refine Ok.bif (fun hb => ?_) (fun hb => ?_)
  · simp only [decide_eq_true_eq] at hb
    have : cutL a 0 2000 = some (a.take 2000) := by
      unfold cutL
      rw [if_pos (by omega)]
      simp
    rw [this]
    refine Ok.of ⟨fun x hx => h x (List.mem_of_mem_take hx), ?_, by omega, by omega⟩
    simp only [List.length_take]; omega
  · simp only [decide_eq_false_iff_not] at hb
    exact Ok.of ⟨h, (by show (a.length : Int) ≤ 2000; omega), by omega, by omega⟩

theorem u8_get {b : List Int} (h : ∀ x ∈ b, 0 ≤ x ∧ x ≤ 255) {n : Int} (h0 : 0 ≤ n) (h1 : n < b.length) : Ok (geti b n) fun x => 0 ≤ x ∧ x ≤ 255 :=
  (Ok.geti h0 h1).mono fun x hx => h x hx.1

theorem pick_ok {b : List Int} {p m n : Int} (h : Rd b p m) (hm : m ≤ 1000000000) (hn : wfI n) :
    Ok (spec_l6Rd_pick n b p) fun r => Rd r.2.1 r.2.2 (m + 1) ∧ 0 ≤ r.1 ∧ (1 ≤ n → r.1 < n) ∧ (n < 1 → r.1 = 0) := by
  obtain ⟨h1, h2, h3, h4⟩ := h
  obtain ⟨n1, n2⟩ := hn
  apply Ok.le (spec_l6Rd_pick_le n b p)
  have e1 : wrap64 (p + 1) = p + 1 := wrap_id (by omega) (by omega)
  have e2 : wrap64 (p + 1 - 1) = p := by rw [show p + 1 - 1 = p by omega]; exact wrap_id (by omega) (by omega)
  rw [e1, e2]
  have hR : Rd b (p + 1) (m + 1) := ⟨h1, h2, by omega, by omega⟩
  refine Ok.bif (fun hb => ?_) (fun hb => ?_)
  · simp only [decide_eq_true_eq] at hb
    exact Ok.of ⟨hR, by omega, by omega, by omega⟩
  simp only [decide_eq_false_iff_not] at hb
  refine Ok.bif (fun hc => ?_) (fun hc => ?_)
  · exact Ok.of ⟨hR, by omega, by omega, by omega⟩
  simp only [decide_eq_false_iff_not] at hc
  refine Ok.bif (fun hd => ?_) (fun hd => ?_)
  · simp only [decide_eq_true_eq] at hd
    refine Ok.bnd (u8_get h1 h3 hd) fun x hx => ?_
    rw [wrap_id (by omega) (by omega), remI_pos (by omega)]
    have := tmod_range (y := n) hx.1 (by omega)
    exact Ok.of ⟨hR, this.1, fun _ => this.2, by omega⟩
  · simp only [decide_eq_false_iff_not] at hd
    have hl : 0 < (b.length : Int) := by omega
    rw [remI_pos (by omega), bnd_some]
    have t1 := tmod_range (x := p) h3 hl
    refine Ok.bnd (u8_get h1 t1.1 t1.2) fun x hx => ?_
    have e3 : wrap64 (p * 7) = p * 7 := wrap_id (by omega) (by omega)
    have e4 : wrap64 (p * 7 + 3) = p * 7 + 3 := wrap_id (by omega) (by omega)
    rw [e3, e4, remI_pos (by omega), bnd_some]
    have t2 := tmod_range (x := p * 7 + 3) (by omega) hl
    refine Ok.bnd (u8_get h1 t2.1 t2.2) fun y hy => ?_
    rw [quoI_pos (by omega), bnd_some]
    have q0 : 0 ≤ p.tdiv b.length ∧ p.tdiv b.length ≤ p := by
      rw [Int.tdiv_eq_ediv_of_nonneg h3]
      exact ⟨Int.ediv_nonneg h3 (by omega), Int.ediv_le_self _ h3⟩
    generalize hq : p.tdiv b.length = q at q0
    have hx2 : wrap64 x = x := wrap_id (by omega) (by omega)
    have hy2 : wrap64 y = y := wrap_id (by omega) (by omega)
    have hq2 : wrap64 q = q := wrap_id (by omega) (by omega)
    rw [hx2, hy2, hq2]
    have f1 : wrap64 (x * 131) = x * 131 := wrap_id (by omega) (by omega)
    have f2 : wrap64 (y * 1117) = y * 1117 := wrap_id (by omega) (by omega)
    have f3 : wrap64 (p * 29) = p * 29 := wrap_id (by omega) (by omega)
    have f4 : wrap64 (q * 53) = q * 53 := wrap_id (by omega) (by omega)
    rw [f1, f2, f3, f4]
    have f5 : wrap64 (x * 131 + y * 1117) = x * 131 + y * 1117 := wrap_id (by omega) (by omega)
    rw [f5]
    have f6 : wrap64 (x * 131 + y * 1117 + p * 29) = x * 131 + y * 1117 + p * 29 := wrap_id (by omega) (by omega)
    rw [f6]
    have f7 : wrap64 (x * 131 + y * 1117 + p * 29 + q * 53) = x * 131 + y * 1117 + p * 29 + q * 53 := wrap_id (by omega) (by omega)
    rw [f7]
    generalize hz : x * 131 + y * 1117 + p * 29 + q * 53 = z
    have hz0 : 0 ≤ z ∧ z < 1000000000000 := by omega
    have hd2 : 0 ≤ z.tdiv 64 ∧ z.tdiv 64 ≤ z := by
      rw [Int.tdiv_eq_ediv_of_nonneg hz0.1]
      omega
    rw [wrap_id (n := z.tdiv 64) (by omega) (by omega), remI_pos (by omega), bnd_some]
    have hxor := xor_nonneg (x := z) (y := z.tdiv 64) hz0.1 (by omega) hd2.1 (by omega)
    have t3 := tmod_range (y := n) hxor.1 (by omega)
    exact Ok.of ⟨hR, t3.1, fun _ => t3.2, by omega⟩

theorem spec_Wrap_eq (n : Int) (h : wfI n) : Ok (spec_Wrap n) fun r => -2147483648 ≤ r ∧ r ≤ 2147483647 := by
  apply Ok.le (spec_Wrap_le n)
  have hm : -4294967296 < n.tmod 4294967296 ∧ n.tmod 4294967296 < 4294967296 := by
    by_cases h0 : 0 ≤ n
    · have := tmod_range h0 (y := 4294967296) (by omega); omega
    · have e : n.tmod 4294967296 = -((-n).tmod 4294967296) := by rw [Int.neg_tmod]; omega
      have := tmod_range (x := -n) (y := 4294967296) (by omega) (by omega); omega
  generalize n.tmod 4294967296 = m at hm
  refine Ok.bif (fun hb => ?_) (fun hb => ?_)
  · simp only [decide_eq_true_eq] at hb
    rw [wrap_id (by omega) (by omega)]; exact Ok.of (by omega)
  simp only [decide_eq_false_iff_not] at hb
  refine Ok.bif (fun hc => ?_) (fun hc => ?_)
  · simp only [decide_eq_true_eq] at hc
    rw [wrap_id (by omega) (by omega)]; exact Ok.of (by omega)
  · simp only [decide_eq_false_iff_not] at hc
    exact Ok.of (by omega)

/-- A number that was picked names a place in a list. -/
theorem pick_geti {α : Type} {l : List α} {x n : Int} (h : 0 ≤ x ∧ (1 ≤ n → x < n) ∧ (n < 1 → x = 0)) (hn : 1 ≤ n) (hl : (l.length : Int) = n) : Ok (geti l x) fun y => y ∈ l :=
  (Ok.geti h.1 (by have := h.2.1 hn; omega)).mono fun y hy => hy.1

theorem wrap_wf (n : Int) : wfI (wrap64 n) := by unfold wfI wrap64; omega

theorem l91Word_ok {b : List Int} {p m : Int} (h : Rd b p m) (hm : m ≤ 999999990) : Ok (spec_l91Word b p) fun r => Rd r.2.1 r.2.2 (m + 5) ∧ (-2147483648 ≤ r.1 ∧ r.1 ≤ 2147483647) := by
  apply Ok.le (spec_l91Word_le b p)
  refine Ok.bnd (pick_ok h (by omega) (by decide)) fun r1 h1 => ?_
  refine Ok.bif (fun _ => ?_) (fun _ => ?_)
  · refine Ok.bnd (pick_ok h1.1 (by omega) (by decide)) fun r2 h2 => ?_
    refine Ok.bnd (pick_geti h2.2 (by omega) rfl) fun e he => ?_
    refine Ok.of ⟨h2.1.mono (by omega), ?_⟩
    simp only [List.mem_cons, List.not_mem_nil, or_false] at he
    dsimp only
    omega
  refine Ok.bif (fun _ => ?_) (fun _ => ?_)
  · refine Ok.bnd (pick_ok h1.1 (by omega) (by decide)) fun r2 h2 => ?_
    refine Ok.bnd (pick_ok h2.1 (by omega) (by decide)) fun r3 h3 => ?_
    refine Ok.bnd (pick_ok h3.1 (by omega) (by decide)) fun r4 h4 => ?_
    refine Ok.bnd (pick_ok h4.1 (by omega) (by decide)) fun r5 h5 => ?_
    refine Ok.bnd (spec_Wrap_eq _ (wrap_wf _)) fun r6 h6 => ?_
    exact Ok.of ⟨h5.1.mono (by omega), h6⟩
  refine Ok.bif (fun _ => ?_) (fun _ => ?_)
  · refine Ok.bnd (pick_ok h1.1 (by omega) (by decide)) fun r2 h2 => ?_
    have := h2.2.2.1 (by omega)
    rw [wrap_id (by omega) (by omega)]
    exact Ok.of ⟨h2.1.mono (by omega), by dsimp only; omega⟩
  · refine Ok.bnd (pick_ok h1.1 (by omega) (by decide)) fun r2 h2 => ?_
    have := h2.2.2.1 (by omega)
    exact Ok.of ⟨h2.1.mono (by omega), by dsimp only; omega⟩

theorem l91Op_ok {b : List Int} {p m : Int} (h : Rd b p m) (hm : m ≤ 999999990) : Ok (spec_l91Op b p) fun r => Rd r.2.1 r.2.2 (m + 1) ∧ (1 ≤ r.1 ∧ r.1 ≤ 12) := by
  apply Ok.le (spec_l91Op_le b p)
  refine Ok.bnd (pick_ok h (by omega) (by decide)) fun r1 h1 => ?_
  have := h1.2.2.1 (by omega)
  rw [wrap_id (by omega) (by omega)]
  exact Ok.of ⟨h1.1, by dsimp only; omega⟩

theorem geti_some {α : Type} {l : List α} {i : Nat} (h : i < l.length) : geti l (i : Int) = some l[i] := by
  rw [geti_nat', List.getElem?_eq_getElem h]

theorem wrap_succ {i : Nat} (h : (i : Int) < 9223372036854775807) : wrap64 ((i : Int) + 1) = ((i + 1 : Nat) : Int) := by
  rw [wrap_id (by omega) (by omega)]; omega

theorem exp_eta (e : Exp) : (⟨e.op, e.n, e.args⟩ : Exp) = e := by cases e; rfl

theorem stm_eta (s : Stm) : (⟨s.kind, s.var, s.box, ⟨s.e.op, s.e.n, s.e.args⟩, s.body, s.els⟩ : Stm) = s := by
  obtain ⟨k, v, b, e, bd, el⟩ := s
  cases e; rfl

mutual
theorem Stm.ind {P : Stm → Prop} (h : ∀ s : Stm, (∀ a ∈ s.body, P a) → (∀ a ∈ s.els, P a) → P s) : ∀ s : Stm, P s
  | ⟨k, v, b, e, bd, el⟩ => h ⟨k, v, b, e, bd, el⟩ (Stm.inds h bd) (Stm.inds h el)
theorem Stm.inds {P : Stm → Prop} (h : ∀ s : Stm, (∀ a ∈ s.body, P a) → (∀ a ∈ s.els, P a) → P s) : ∀ l : List Stm, ∀ a ∈ l, P a
  | [], a, ha => by cases ha
  | e :: r, a, ha => by
    rcases List.mem_cons.1 ha with e1 | h1
    · rw [e1]; exact Stm.ind h e
    · exact Stm.inds h r a h1
end

/-- Is an expression valid with at most some depth? -/
def expOk : Nat → Exp → Bool
  | 0, _ => false
  | d + 1, e =>
    if e.op = 0 then decide (0 ≤ e.n ∧ e.n ≤ 99999) && e.args.isEmpty
    else if e.op = 13 then decide (0 ≤ e.n ∧ e.n < 4) && e.args.isEmpty
    else decide (1 ≤ e.op ∧ e.op ≤ 12) && decide (e.n = 0) && match e.args with | [a, b] => expOk d a && expOk d b | _ => false

theorem len0 {α : Type} (l : List α) : ((l.length : Int) = 0) ↔ l = [] := by
  constructor
  · intro h; exact List.eq_nil_of_length_eq_zero (by omega)
  · intro h; subst h; rfl

theorem two_args {l : List Exp} : ((l.length : Int) = 2) ↔ ∃ a b, l = [a, b] := by
  constructor
  · intro h
    match l, h with
    | [a, b], _ => exact ⟨a, b, rfl⟩
    | [], h => simp at h
    | [_], h => simp at h
    | _ :: _ :: _ :: _, h => simp at h; omega
  · rintro ⟨a, b, rfl⟩; rfl

theorem geti0 {α : Type} (a : α) (l : List α) : geti (a :: l) 0 = some a := by simp [geti]

theorem geti1 {α : Type} (a b : α) (l : List α) : geti (a :: b :: l) 1 = some b := by simp [geti]

theorem pred_d (d : Nat) (h : d ≤ 5) : wrap64 (((d + 1 : Nat) : Int) - 1) = (d : Int) := by rw [wrap_id (by omega) (by omega)]; omega

theorem impl_exprValid_eq : ∀ (d : Nat) (e : Exp), d ≤ 5 → impl_exprValid e (d : Int) = some (expOk d e)
  | d, e, hd => by
    apply impl_exprValid_le
    simp only [impl_OpValid_eq, bnd_some, exp_eta]
    by_cases h0 : e.op = 0
    · cases d with
      | zero => by_cases h1 : 0 ≤ e.n <;> by_cases h2 : e.n ≤ 99999 <;> by_cases h3 : e.args = [] <;> simp [h0, h1, h2, h3, expOk, len0]
      | succ d => by_cases h1 : 0 ≤ e.n <;> by_cases h2 : e.n ≤ 99999 <;> by_cases h3 : e.args = [] <;> simp [h0, h1, h2, h3, expOk, len0] <;> omega
    · by_cases h13 : e.op = 13
      · cases d with
        | zero => by_cases h1 : 0 ≤ e.n <;> by_cases h2 : e.n < 4 <;> by_cases h3 : e.args = [] <;> simp [h13, h1, h2, h3, expOk, len0]
        | succ d => by_cases h1 : 0 ≤ e.n <;> by_cases h2 : e.n < 4 <;> by_cases h3 : e.args = [] <;> simp [h13, h1, h2, h3, expOk, len0] <;> omega
      · by_cases h1 : 1 ≤ e.op ∧ e.op ≤ 12
        · by_cases h2 : e.n = 0
          · by_cases h3 : (e.args.length : Int) = 2
            · obtain ⟨a, b, hab⟩ := two_args.1 h3
              cases d with
              | zero => simp [h0, h13, h1, h2, h3, expOk]
              | succ d =>
                cases d with
                | zero => simp [h0, h13, h1, h2, h3, expOk, hab]
                | succ d =>
                  have hd1 : (1 : Int) < (d : Int) + 1 + 1 := by omega
                  rw [pred_d (d + 1) (by omega), hab, geti0, geti1]
                  simp only [bnd_some, impl_exprValid_eq (d + 1) _ (by omega)]
                  have e1 : expOk (d + 1 + 1) e = (expOk (d + 1) a && expOk (d + 1) b) := by
                    rw [expOk]; simp [h0, h13, h1, h2, hab]
                  rw [e1]
                  cases expOk (d + 1) a <;> simp [h0, h13, h1, h2, hd1]
            · have hm : (match e.args with | [a, b] => (fun d => expOk d a && expOk d b) | _ => fun _ => false) = fun _ => false := by
                split
                · rename_i a b hab; exact absurd (two_args.2 ⟨a, b, hab⟩) h3
                · rfl
              have e1 : expOk d e = false := by
                cases d with
                | zero => rfl
                | succ d =>
                  rw [expOk]; simp only [h0, h13, if_false]
                  split
                  · rename_i a b hab; exact absurd (two_args.2 ⟨a, b, hab⟩) h3
                  · simp
              rw [e1]; simp [h0, h13, h1, h2, h3]
          · have e1 : expOk d e = false := by cases d <;> simp [expOk, h0, h13, h2]
            rw [e1]; simp [h0, h13, h1, h2]
        · have e1 : expOk d e = false := by cases d <;> simp [expOk, h0, h13, h1]
          rw [e1]; simp [h0, h13, h1]

theorem impl_ExprValid_eq (e : Exp) : impl_ExprValid e = some (expOk 5 e) := by
  apply impl_ExprValid_le
  rw [exp_eta, show (5 : Int) = ((5 : Nat) : Int) by rfl, impl_exprValid_eq 5 e (by omega)]
  rfl

theorem spec_l4Ok_eq : ∀ (d : Nat) (e : Exp), d ≤ 5 → spec_l4Ok e (d : Int) = some (expOk d e)
  | 0, e, hd => by
    apply spec_l4Ok_le
    simp [expOk]
  | d + 1, e, hd => by
    apply spec_l4Ok_le
    have hd0 : ¬ (((d + 1 : Nat) : Int) < 1) := by omega
    simp only [spec_l6In_eq, spec_OpValid_eq, bnd_some, exp_eta, hd0, decide_false, cond_false, expOk]
    by_cases h0 : e.op = 0
    · by_cases h1 : 0 ≤ e.n ∧ e.n ≤ 99999 <;> by_cases h3 : e.args = [] <;> simp [h0, h1, h3, len0]
    · by_cases h13 : e.op = 13
      · have e3 : (e.n < 4) = (e.n ≤ 3) := propext (by omega)
        by_cases h1 : 0 ≤ e.n ∧ e.n ≤ 3 <;> by_cases h3 : e.args = [] <;> simp [h13, h1, h3, len0, e3]
      · by_cases h1 : 1 ≤ e.op ∧ e.op ≤ 12
        · by_cases h2 : e.n = 0
          · by_cases h3 : (e.args.length : Int) = 2
            · obtain ⟨a, b, hab⟩ := two_args.1 h3
              rw [pred_d d (by omega), hab, geti0, geti1]
              simp only [bnd_some, spec_l4Ok_eq d _ (by omega)]
              cases expOk d a <;> simp [h0, h13, h1, h2]
            · have e1 : (match e.args with | [a, b] => expOk d a && expOk d b | _ => false) = false := by
                split
                · rename_i a b hab; exact absurd (two_args.2 ⟨a, b, hab⟩) h3
                · rfl
              rw [e1]; simp [h0, h13, h1, h2, h3]
          · simp [h0, h13, h1, h2]
        · simp [h0, h13, h1]

theorem spec_ExprValid_eq (e : Exp) : spec_ExprValid e = some (expOk 5 e) := by
  apply spec_ExprValid_le
  rw [exp_eta, show (5 : Int) = ((5 : Nat) : Int) by rfl, spec_l4Ok_eq 5 e (by omega)]
  rfl

theorem appL_some {α : Type} {x y : List α} (h : x.length + y.length ≤ 4294967296) : appL x y = some (x ++ y) := by unfold appL; rw [if_pos h]

/-- A drawn expression's slice of arguments has no room. -/
def noRoom (m : Md) : Prop := m = .own false ∨ m = .full

theorem noRoom_dem {m : Md} (h : noRoom m) : noRoom m.dem := by rcases h with rfl | rfl; exact .inl rfl; exact .inr rfl

theorem l4Leaf_eq (o n : Int) : spec_l4Leaf o n = some (o, n, .own false, []) := by apply spec_l4Leaf_le; rfl

theorem l4Both_eq (o : Int) (a b : Exp) : spec_l4Both o a b = some (o, 0, .full, [a, b]) := by apply spec_l4Both_le; simp [exp_eta]

theorem l91Leaf_ok {b : List Int} {p m : Int} (h : Rd b p m) (hm : m ≤ 999999990) : Ok (spec_l91Leaf b p) fun r => Rd r.2.2.2.1 r.2.2.2.2 (m + 2) ∧ noRoom r.2.2.1.1 ∧ r.2.2.1.2.length ≤ 2 := by
  apply Ok.le (spec_l91Leaf_le b p)
  refine Ok.bnd (pick_ok h (by omega) (by decide)) fun r1 h1 => ?_
  refine Ok.bif (fun _ => ?_) (fun _ => ?_)
  · refine Ok.bnd (pick_ok h1.1 (by omega) (by decide)) fun r2 h2 => ?_
    rw [l4Leaf_eq, bnd_some]
    exact Ok.of ⟨h2.1.mono (by omega), .inl rfl, by simp⟩
  refine Ok.bif (fun _ => ?_) (fun _ => ?_)
  · refine Ok.bnd (pick_ok h1.1 (by omega) (by decide)) fun r2 h2 => ?_
    refine Ok.bnd (pick_geti h2.2 (by omega) rfl) fun e he => ?_
    rw [l4Leaf_eq, bnd_some]
    exact Ok.of ⟨h2.1.mono (by omega), .inl rfl, by simp⟩
  · refine Ok.bnd (pick_ok h1.1 (by omega) (by decide)) fun r2 h2 => ?_
    rw [l4Leaf_eq, bnd_some]
    exact Ok.of ⟨h2.1.mono (by omega), .inl rfl, by simp⟩

/-- How many bytes an expression takes at most. -/
def cost : Nat → Int
  | 0 => 2
  | d + 1 => 2 + 2 * cost d

theorem cost_pos : ∀ d, 2 ≤ cost d
  | 0 => by simp [cost]
  | d + 1 => by have := cost_pos d; simp only [cost]; omega

theorem l91Expr_ok : ∀ (d : Nat) {b : List Int} {p m : Int} (n : Int), n = (d : Int) + 1 → d ≤ 10 → Rd b p m → m + cost d ≤ 999999990 →
    Ok (spec_l91Expr n b p) fun r => Rd r.2.2.2.1 r.2.2.2.2 (m + cost d) ∧ noRoom r.2.2.1.1 ∧ r.2.2.1.2.length ≤ 2
  | d, b, p, m, n, hn, hd, h, hm => by
    apply Ok.le (spec_l91Expr_le n b p)
    have hc := cost_pos d
    have leaf : ∀ {b : List Int} {p m' : Int}, Rd b p m' → m' + 2 ≤ m + cost d → Ok (Vs.bnd (spec_l91Leaf b p) fun r1 => some (r1.1, r1.2.1, (Md.dem (Md.dem (Md.dem r1.2.2.1.1)), r1.2.2.1.2), r1.2.2.2.1, r1.2.2.2.2)) fun r => Rd r.2.2.2.1 r.2.2.2.2 (m + cost d) ∧ noRoom r.2.2.1.1 ∧ r.2.2.1.2.length ≤ 2 := by
      intro b p m' h' hm'
      refine Ok.bnd (l91Leaf_ok h' (by omega)) fun r1 h1 => ?_
      exact Ok.of ⟨h1.1.mono hm', noRoom_dem (noRoom_dem (noRoom_dem h1.2.1)), h1.2.2⟩
    refine Ok.bif (fun hb => ?_) (fun hb => ?_)
    · exact leaf h (by omega)
    · simp only [decide_eq_false_iff_not] at hb
      obtain ⟨d, rfl⟩ : ∃ d', d = d' + 1 := ⟨d - 1, by omega⟩
      have hc' := cost_pos d
      simp only [cost] at hm ⊢
      refine Ok.bnd (pick_ok h (by omega) (by decide)) fun r1 h1 => ?_
      refine Ok.bif (fun _ => ?_) (fun _ => ?_)
      · exact (leaf h1.1 (by simp only [cost]; omega)).mono fun r hr => hr
      · refine Ok.bnd (l91Op_ok h1.1 (by omega)) fun r2 h2 => ?_
        rw [wrap_id (n := n - 1) (by omega) (by omega)]
        refine Ok.bnd (l91Expr_ok d (n - 1) (by omega) (by omega) h2.1 (by omega)) fun r3 h3 => ?_
        refine Ok.bnd (l91Expr_ok d (n - 1) (by omega) (by omega) h3.1 (by omega)) fun r4 h4 => ?_
        rw [l4Both_eq, bnd_some]
        exact Ok.of ⟨h4.1.mono (by omega), .inr rfl, by simp⟩

mutual
def emX : Exp → Nat
  | ⟨_, _, as⟩ => emXs as
def emXs : List Exp → Nat
  | [] => 0
  | e :: r => 1 + emX e + emXs r
end

mutual
def mS : Stm → Nat
  | ⟨_, _, _, e, bd, el⟩ => emX e + mSs bd + mSs el
def mSs : List Stm → Nat
  | [] => 0
  | s :: r => 1 + mS s + mSs r
end

theorem emX_eq (e : Exp) : emX e = emXs e.args := by cases e; simp [emX]

theorem mS_eq (s : Stm) : mS s = emX s.e + mSs s.body + mSs s.els := by cases s; simp [mS]

theorem mSs_len : ∀ l : List Stm, l.length ≤ mSs l
  | [] => Nat.le_refl _
  | e :: r => by have := mSs_len r; simp only [mSs, List.length_cons]; omega

theorem mS_mem : ∀ {l : List Stm} {e : Stm}, e ∈ l → mS e < mSs l
  | [], e, h => by cases h
  | a :: r, e, h => by
    simp only [mSs]
    rcases List.mem_cons.1 h with rfl | h
    · omega
    · have := mS_mem h; omega

mutual
def cS : Stm → Nat
  | ⟨_, _, _, _, bd, el⟩ => 1 + cSs bd + cSs el
def cSs : List Stm → Nat
  | [] => 0
  | s :: r => cS s + cSs r
end

theorem cS_eq (s : Stm) : cS s = 1 + cSs s.body + cSs s.els := by cases s; simp [cS]

theorem cSs_drop {l : List Stm} {i : Nat} (hi : i < l.length) : cSs (l.drop i) = cS l[i] + cSs (l.drop (i + 1)) := by
  rw [List.drop_eq_getElem_cons hi]; simp only [cSs]

theorem cSs_len : ∀ l : List Stm, l.length ≤ cSs l
  | [] => Nat.le_refl _
  | e :: r => by have := cSs_len r; have := cS_eq e; simp only [cSs, List.length_cons]; omega

mutual
theorem cS_le : ∀ s : Stm, cS s ≤ 1 + mS s
  | ⟨_, _, _, e, bd, el⟩ => by have := cSs_le bd; have := cSs_le el; simp only [cS, mS]; omega
theorem cSs_le : ∀ l : List Stm, cSs l ≤ mSs l
  | [] => Nat.le_refl _
  | s :: r => by have := cS_le s; have := cSs_le r; simp only [cSs, mSs]; omega
end

theorem cS_mem : ∀ {l : List Stm} {e : Stm}, e ∈ l → cS e ≤ cSs l
  | [], e, h => by cases h
  | a :: r, e, h => by
    simp only [cSs]
    rcases List.mem_cons.1 h with rfl | h
    · omega
    · have := cS_mem h; omega

theorem count_ls {l : List Stm} (hp : ∀ s ∈ l, spec_l11Count s.body = some (cSs s.body : Int) ∧ spec_l11Count s.els = some (cSs s.els : Int)) (hb : cSs l ≤ 4294967296) :
    ∀ (d i : Nat) (k : Int), i + d = l.length → 0 ≤ k → k + cSs (l.drop i) ≤ 4294967296 → spec_l11Count_l1 l k i = some (k + cSs (l.drop i))
  | 0, i, k, hd, h0, h1 => by
    apply spec_l11Count_l1_le
    have hi : ¬ ((i : Int) < l.length) := by omega
    rw [List.drop_eq_nil_of_le (by omega)]
    simp [hi, cSs]
  | d + 1, i, k, hd, h0, h1 => by
    apply spec_l11Count_l1_le
    have hi : i < l.length := by omega
    have hi' : (i : Int) < l.length := by omega
    obtain ⟨p1, p2⟩ := hp _ (List.getElem_mem hi)
    have hlen := cSs_len l
    have hc := cSs_drop hi
    have hs := cS_eq l[i]
    rw [geti_some hi, wrap_succ (by omega)]
    simp only [hi', decide_true, cond_true, bnd_some, p1, p2]
    rw [wrap_id (n := k + 1) (by omega) (by omega), wrap_id (n := k + 1 + (cSs l[i].body : Int)) (by omega) (by omega), wrap_id (by omega) (by omega),
      count_ls hp hb d (i + 1) _ (by omega) (by omega) (by omega)]
    congr 1; omega

theorem spec_l11Count_eq_ {l : List Stm} (hp : ∀ s ∈ l, spec_l11Count s.body = some (cSs s.body : Int) ∧ spec_l11Count s.els = some (cSs s.els : Int)) (hb : cSs l ≤ 4294967296) : spec_l11Count l = some (cSs l : Int) := by
  apply spec_l11Count_le
  have := count_ls hp hb l.length 0 0 (by omega) (by omega) (by simp; omega)
  rw [show ((0 : Nat) : Int) = 0 by rfl] at this
  rw [this]; simp

theorem count_parts : ∀ s : Stm, cS s ≤ 4294967296 → spec_l11Count s.body = some (cSs s.body : Int) ∧ spec_l11Count s.els = some (cSs s.els : Int) := by
  apply Stm.ind
  intro s ih1 ih2 hb
  rw [cS_eq] at hb
  exact ⟨spec_l11Count_eq_ (fun a ha => ih1 a ha (by have := cS_mem ha; omega)) (by omega), spec_l11Count_eq_ (fun a ha => ih2 a ha (by have := cS_mem ha; omega)) (by omega)⟩

theorem spec_l11Count_eq {l : List Stm} (hb : cSs l ≤ 4294967296) : spec_l11Count l = some (cSs l : Int) :=
  spec_l11Count_eq_ (fun s hs => count_parts s (by have := cS_mem hs; omega)) hb

/-- What a statement's own parts must be. -/
def hdr (s : Stm) : Prop :=
  (s.kind = 1 ∧ (0 ≤ s.var ∧ s.var < 4) ∧ s.box = 0 ∧ expOk 5 s.e = true ∧ (s.body.length : Int) = 0 ∧ (s.els.length : Int) = 0) ∨
  (s.kind = 2 ∧ s.var = 0 ∧ s.box = 0 ∧ expOk 5 s.e = true) ∨
  (s.kind = 3 ∧ s.var = 0 ∧ s.box = 0 ∧ expOk 5 s.e = true ∧ (s.els.length : Int) = 0) ∨
  (s.kind = 4 ∧ s.var = 0 ∧ (0 ≤ s.box ∧ s.box < 3) ∧ expOk 5 s.e = true ∧ (s.body.length : Int) = 0 ∧ (s.els.length : Int) = 0) ∨
  (s.kind = 5 ∧ (0 ≤ s.var ∧ s.var < 4) ∧ (0 ≤ s.box ∧ s.box < 3) ∧ (s.e.op = 0 ∧ s.e.n = 0 ∧ (s.e.args.length : Int) = 0) ∧ (s.body.length : Int) = 0 ∧ (s.els.length : Int) = 0) ∨
  (s.kind = 6 ∧ s.var = 0 ∧ s.box = 0 ∧ (s.e.op = 0 ∧ s.e.n = 0 ∧ (s.e.args.length : Int) = 0) ∧ (s.body.length : Int) = 0 ∧ (s.els.length : Int) = 0) ∨
  (s.kind = 7 ∧ s.var = 0 ∧ s.box = 0 ∧ expOk 5 s.e = true ∧ (s.body.length : Int) = 0 ∧ (s.els.length : Int) = 0)

instance (s : Stm) : Decidable (hdr s) := by unfold hdr; infer_instance

def sOk : Nat → Stm → Bool
  | 0, s => decide (hdr s) && !decide (s.kind = 2 ∨ s.kind = 3)
  | d + 1, s => decide (hdr s) && (if s.kind = 2 ∨ s.kind = 3 then s.body.all (sOk d) && s.els.all (sOk d) else true)

theorem impl_stmtValid_1_eq (x n : Int) (b : Bool) (hn : 1 ≤ n) : impl_stmtValid_1 x n b = some (decide (if b then 0 ≤ x ∧ x < n else x = 0)) := by
  apply impl_stmtValid_1_le
  cases b
  · by_cases h : x = 0 <;> simp [h]
  · by_cases h : x = 0
    · simp [h]; omega
    · by_cases h2 : 0 < x
      · simp [h, h2]; omega
      · simp [h, h2]; omega

theorem impl_stmtValid_eq (s : Stm) : impl_stmtValid s 3 = some (decide (hdr s)) := by
  apply impl_stmtValid_le
  simp only [impl_stmtValid_1_eq _ 4 _ (by omega), impl_stmtValid_1_eq _ 3 _ (by omega), impl_ExprValid_eq, exp_eta, bnd_some, cond_some]
  apply some_dec
  obtain ⟨k, v, b, e, bd, el⟩ := s
  have a1 : (0 : Int) ≤ bd.length := by omega
  have a2 : (0 : Int) ≤ el.length := by omega
  have a3 : (0 : Int) ≤ e.args.length := by omega
  simp only [hdr, cond_iff, decide_eq_true_eq, if_true, Bool.false_eq_true, if_false, Bool.not_eq_true', decide_eq_false_iff_not]
  generalize (bd.length : Int) = n1 at a1
  generalize (el.length : Int) = n2 at a2
  generalize (e.args.length : Int) = n3 at a3
  cases hv : expOk 5 e
  all_goals
    by_cases h1 : k = 1
    · subst h1; simp; try omega
    by_cases h2 : k = 2
    · subst h2; simp; try omega
    by_cases h3 : k = 3
    · subst h3; simp; try omega
    by_cases h4 : k = 4
    · subst h4; simp; try omega
    by_cases h5 : k = 5
    · subst h5; simp; try omega
    by_cases h7 : k = 7
    · subst h7; simp; try omega
    by_cases h6 : k = 6
    · subst h6; simp; try omega
    simp [h1, h2, h3, h4, h5, h6, h7]

theorem spec_l11Var_eq (s : Stm) (b : Bool) : spec_l11Var s b = some (decide (if b then 0 ≤ s.var ∧ s.var < 4 else s.var = 0)) := by
  apply spec_l11Var_le
  simp only [spec_l6In_eq, bnd_some, cond_some]
  apply some_dec
  cases b <;> simp; omega

theorem spec_l11Box_eq (s : Stm) (b : Bool) : spec_l11Box s b = some (decide (if b then 0 ≤ s.box ∧ s.box < 3 else s.box = 0)) := by
  apply spec_l11Box_le
  simp only [spec_l6In_eq, bnd_some, cond_some]
  apply some_dec
  cases b <;> simp; omega

theorem spec_l11Plain_eq (e : Exp) : spec_l11Plain e = some (decide (e.op = 0 ∧ e.n = 0 ∧ (e.args.length : Int) = 0)) := by
  apply spec_l11Plain_le
  simp only [cond_some]
  apply some_dec
  simp only [cond_iff, decide_eq_true_eq, Bool.false_eq_true]
  by_cases h : e.op = 0 <;> by_cases h2 : e.n = 0 <;> simp [h, h2]

theorem spec_l11Simple_eq (s : Stm) (n2 : s.kind ≠ 2) (n3 : s.kind ≠ 3) : spec_l11Simple s = some (decide (hdr s)) := by
  apply spec_l11Simple_le
  simp only [stm_eta, exp_eta, spec_l11Var_eq, spec_l11Box_eq, spec_l11Plain_eq, spec_ExprValid_eq, bnd_some, cond_some]
  apply some_dec
  obtain ⟨k, v, b, e, bd, el⟩ := s
  have a1 : (0 : Int) ≤ bd.length := by omega
  have a2 : (0 : Int) ≤ el.length := by omega
  have a3 : (0 : Int) ≤ e.args.length := by omega
  simp only [hdr, cond_iff, decide_eq_true_eq, if_true, Bool.false_eq_true, if_false, Bool.not_eq_true', decide_eq_false_iff_not]
  generalize (bd.length : Int) = n1 at a1
  generalize (el.length : Int) = n2' at a2
  generalize (e.args.length : Int) = n3' at a3
  simp only [] at n2 n3
  cases hv : expOk 5 e
  all_goals
    by_cases h1 : k = 1
    · subst h1; simp; try omega
    by_cases h4 : k = 4
    · subst h4; simp; try omega
    by_cases h5 : k = 5
    · subst h5; simp; try omega
    by_cases h7 : k = 7
    · subst h7; simp; try omega
    by_cases h6 : k = 6
    · subst h6; simp; try omega
    simp [h1, n2, n3, h4, h5, h6, h7]

theorem hdr2 {s : Stm} (h : s.kind = 2) : hdr s ↔ s.var = 0 ∧ s.box = 0 ∧ expOk 5 s.e = true := by simp [hdr, h]

theorem hdr3 {s : Stm} (h : s.kind = 3) : hdr s ↔ s.var = 0 ∧ s.box = 0 ∧ expOk 5 s.e = true ∧ (s.els.length : Int) = 0 := by simp [hdr, h]

theorem if_alike {α : Type} {P Q : Prop} [Decidable P] [Decidable Q] {a b c : α} (h : P ↔ Q) (ha : a = b) : (if P then a else c) = if Q then b else c := by
  subst ha
  by_cases hp : P
  · rw [if_pos hp, if_pos (h.1 hp)]
  · rw [if_neg hp, if_neg fun x => hp (h.2 x)]

theorem blocks_l {l : List Stm} {n : Int} {f : Stm → Bool} (hl : (l.length : Int) ≤ 4294967296) (hp : ∀ s ∈ l, spec_l11Ok s n = some (f s)) :
    ∀ (d i : Nat), i + d = l.length → spec_l11Blocks_l1 l n i = some (if (l.drop i).all f then .inl () else .inr false)
  | 0, i, hd => by
    apply spec_l11Blocks_l1_le
    have hi : ¬ ((i : Int) < l.length) := by omega
    rw [List.drop_eq_nil_of_le (by omega)]
    simp [hi]
  | d + 1, i, hd => by
    apply spec_l11Blocks_l1_le
    have hi : i < l.length := by omega
    have hi' : (i : Int) < l.length := by omega
    rw [geti_some hi, wrap_succ (by omega), blocks_l hl hp d (i + 1) (by omega)]
    have e1 : (l.drop i).all f = (f l[i] && (l.drop (i + 1)).all f) := by rw [List.drop_eq_getElem_cons hi, List.all_cons]
    rw [e1]
    simp only [hi', decide_true, cond_true, bnd_some, stm_eta, hp _ (List.getElem_mem hi)]
    cases f l[i] <;> simp

theorem spec_l11Blocks_eq_ {l : List Stm} {n : Int} {f : Stm → Bool} (hl : (l.length : Int) ≤ 4294967296) (hp : ∀ s ∈ l, spec_l11Ok s n = some (f s)) : spec_l11Blocks l n = some (l.all f) := by
  apply spec_l11Blocks_le
  rw [show (0 : Int) = ((0 : Nat) : Int) by rfl, blocks_l hl hp l.length 0 (by omega), List.drop_zero]
  cases l.all f <;> simp [selm]

theorem spec_l11Ok_eq : ∀ (d : Nat) (s : Stm), d ≤ 3 → mS s ≤ 4294967296 → spec_l11Ok s (d : Int) = some (sOk d s)
  | 0, s, hd, hm => by
    apply spec_l11Ok_le
    by_cases h2 : s.kind = 2
    · simp [h2, sOk]
    · by_cases h3 : s.kind = 3
      · simp [h3, sOk]
      · simp [h2, h3, sOk, stm_eta, spec_l11Simple_eq s h2 h3]
  | d + 1, s, hd, hm => by
    apply spec_l11Ok_le
    have hm' := mS_eq s
    have l1 := mSs_len s.body
    have l2 := mSs_len s.els
    have hd0 : ¬ (((d + 1 : Nat) : Int) < 1) := by omega
    have b1 : spec_l11Blocks s.body (d : Int) = some (s.body.all (sOk d)) := spec_l11Blocks_eq_ (by omega) fun a ha => spec_l11Ok_eq d a (by omega) (by have := mS_mem ha; omega)
    have b2 : spec_l11Blocks s.els (d : Int) = some (s.els.all (sOk d)) := spec_l11Blocks_eq_ (by omega) fun a ha => spec_l11Ok_eq d a (by omega) (by have := mS_mem ha; omega)
    rw [show wrap64 (((d + 1 : Nat) : Int) - 1) = (d : Int) by rw [wrap_id (by omega) (by omega)]; omega]
    simp only [stm_eta, exp_eta, spec_l11Var_eq, spec_l11Box_eq, spec_ExprValid_eq, b1, b2, bnd_some, hd0, decide_false, cond_false]
    by_cases h2 : s.kind = 2
    · have h3 : s.kind ≠ 3 := by omega
      have hh : decide (hdr s) = (decide (s.var = 0) && decide (s.box = 0) && expOk 5 s.e) := by
        rw [Bool.eq_iff_iff]; simp [hdr2 h2, and_assoc]
      simp only [sOk, hh, h2, true_or, if_true]
      by_cases v : s.var = 0 <;> by_cases b : s.box = 0 <;> cases expOk 5 s.e <;> cases s.body.all (sOk d) <;> simp [v, b]
    · by_cases h3 : s.kind = 3
      · by_cases he : (s.els.length : Int) = 0
        · have hh : decide (hdr s) = (decide (s.var = 0) && decide (s.box = 0) && expOk 5 s.e) := by
            rw [Bool.eq_iff_iff]; simp [hdr3 h3, and_assoc, he]
          simp only [sOk, hh, h3, or_true, if_true]
          by_cases v : s.var = 0 <;> by_cases b : s.box = 0 <;> cases expOk 5 s.e <;> cases s.body.all (sOk d) <;> simp [v, b, he]
        · have hh : decide (hdr s) = false := by
            simp [hdr3 h3]; intro _ _ _ h; exact absurd (by rw [h]; rfl) he
          have hpos : 0 < (s.els.length : Int) := by omega
          simp only [sOk, hh, h3, or_true, if_true, hpos]
          simp
      · have hh := spec_l11Simple_eq s h2 h3
        simp only [sOk, h2, h3, or_false, if_false]
        simp [h2, h3]
        show bnd (spec_l11Simple s) _ = _
        rw [hh]; rfl

theorem spec_l11Blocks_eq {d : Nat} {l : List Stm} (hd : d ≤ 3) (hm : mSs l ≤ 4294967296) : spec_l11Blocks l (d : Int) = some (l.all (sOk d)) :=
  spec_l11Blocks_eq_ (by have := mSs_len l; omega) fun s hs => spec_l11Ok_eq d s hd (by have := mS_mem hs; omega)

theorem block_l {l : List Stm} {d0 : Nat} (hl : (l.length : Int) ≤ 4294967296) (hd0 : d0 ≤ 3)
    (hp : ∀ d, d0 = d + 1 → ∀ (bl : List Stm) (n : Int), (∃ s ∈ l, bl = s.body ∨ bl = s.els) → 0 ≤ n → n ≤ 16 → ∃ c, impl_blockValid bl 3 (3 - (d : Int)) n = some (decide (bl.all (sOk d) = true ∧ n + cSs bl ≤ 16), c) ∧ (bl.all (sOk d) = true → n + cSs bl ≤ 16 → c = n + cSs bl)) :
    ∀ (d i : Nat) (n : Int), i + d = l.length → 0 ≤ n → n ≤ 16 → ∃ c, impl_blockValid_l1 l 3 (3 - (d0 : Int)) l.length i n = some (if (l.drop i).all (sOk d0) = true ∧ n + (cSs (l.drop i) - (l.length - i : Int)) ≤ 16 then .inl (n + (cSs (l.drop i) - (l.length - i : Int))) else .inr (false, c))
  | 0, i, n, hd, h0, h1 => by
    refine ⟨0, ?_⟩
    apply impl_blockValid_l1_le
    have hi : ¬ ((i : Int) < l.length) := by omega
    rw [List.drop_eq_nil_of_le (by omega), if_pos ⟨by simp, by simp [cSs]; omega⟩]
    simp [hi, cSs]; omega
  | d + 1, i, n, hd, h0, h1 => by
    have hi : i < l.length := by omega
    have hi' : (i : Int) < l.length := by omega
    have e1 : (l.drop i).all (sOk d0) = (sOk d0 l[i] && (l.drop (i + 1)).all (sOk d0)) := by rw [List.drop_eq_getElem_cons hi, List.all_cons]
    have e2 := cSs_drop hi
    have e3 := cS_eq l[i]
    have e4 := cSs_len (l.drop (i + 1))
    rw [List.length_drop] at e4
    have hn3 : ¬ ((3 : Int) < 3 - (d0 : Int)) := by omega
    by_cases hh : hdr l[i]
    · by_cases hk : l[i].kind = 2 ∨ l[i].kind = 3
      · cases d0 with
        | zero =>
          have s0 : sOk 0 l[i] = false := by simp [sOk, hk]
          refine ⟨n, ?_⟩
          apply impl_blockValid_l1_le
          rw [geti_some hi, e1, s0]
          simp only [hi', decide_true, cond_true, bnd_some, stm_eta, impl_stmtValid_eq, hh, Bool.not_true, cond_false]
          rcases hk with hk | hk <;> simp [hk]
        | succ d1 =>
          have hn4 : ¬ ((3 : Int) ≤ 3 - ((d1 + 1 : Nat) : Int)) := by omega
          have hw : wrap64 (3 - ((d1 + 1 : Nat) : Int) + 1) = 3 - (d1 : Int) := by rw [wrap_id (by omega) (by omega)]; omega
          have s1 : sOk (d1 + 1) l[i] = (l[i].body.all (sOk d1) && l[i].els.all (sOk d1)) := by simp [sOk, hh, hk]
          obtain ⟨c1, k1, k2⟩ := hp d1 rfl l[i].body n ⟨l[i], List.getElem_mem hi, .inl rfl⟩ h0 h1
          by_cases g1 : l[i].body.all (sOk d1) = true ∧ n + cSs l[i].body ≤ 16
          · have hc1 := k2 g1.1 g1.2
            obtain ⟨c2, m1, m2⟩ := hp d1 rfl l[i].els (n + cSs l[i].body) ⟨l[i], List.getElem_mem hi, .inr rfl⟩ (by omega) g1.2
            by_cases g2 : l[i].els.all (sOk d1) = true ∧ n + cSs l[i].body + cSs l[i].els ≤ 16
            · have hc2 := m2 g2.1 g2.2
              obtain ⟨c, hc⟩ := block_l hl hd0 hp d (i + 1) (n + cSs l[i].body + cSs l[i].els) (by omega) (by omega) g2.2
              refine ⟨c, ?_⟩
              apply impl_blockValid_l1_le
              rw [geti_some hi, e1, s1, g1.1, g2.1, wrap_succ (by omega), hw]
              subst hc1 hc2
              have dk1 : decide (l[i].body.all (sOk d1) = true ∧ n + (cSs l[i].body : Int) ≤ 16) = true := decide_eq_true g1
              have dk2 : decide (l[i].els.all (sOk d1) = true ∧ n + (cSs l[i].body : Int) + (cSs l[i].els : Int) ≤ 16) = true := decide_eq_true g2
              rw [dk1] at k1
              rw [dk2] at m1
              have hcond : ((true && true && (l.drop (i + 1)).all (sOk (d1 + 1))) = true ∧ n + ((cSs (l.drop i) : Int) - ((l.length : Int) - (i : Int))) ≤ 16) ↔ ((l.drop (i + 1)).all (sOk (d1 + 1)) = true ∧ n + (cSs l[i].body : Int) + (cSs l[i].els : Int) + ((cSs (l.drop (i + 1)) : Int) - ((l.length : Int) - ((i + 1 : Nat) : Int))) ≤ 16) := by
                simp only [Bool.true_and, Bool.and_true]
                constructor
                · rintro ⟨x, y⟩; exact ⟨x, by omega⟩
                · rintro ⟨x, y⟩; exact ⟨x, by omega⟩
              have hval : n + ((cSs (l.drop i) : Int) - ((l.length : Int) - (i : Int))) = n + (cSs l[i].body : Int) + (cSs l[i].els : Int) + ((cSs (l.drop (i + 1)) : Int) - ((l.length : Int) - ((i + 1 : Nat) : Int))) := by omega
              rw [if_alike hcond (congrArg (Sum.inl (β := Bool × Int)) hval), ← hc]
              simp only [hi', decide_true, cond_true, bnd_some, stm_eta, impl_stmtValid_eq, hh, Bool.not_true, cond_false, hn3, hn4, decide_false, k1, m1]
              rcases hk with hk | hk <;> simp [hk]
            · refine ⟨c2, ?_⟩
              apply impl_blockValid_l1_le
              rw [geti_some hi, e1, s1, g1.1, hw]
              subst hc1
              have dk1 : decide (l[i].body.all (sOk d1) = true ∧ n + (cSs l[i].body : Int) ≤ 16) = true := decide_eq_true g1
              have dk2 : decide (l[i].els.all (sOk d1) = true ∧ n + (cSs l[i].body : Int) + (cSs l[i].els : Int) ≤ 16) = false := decide_eq_false g2
              rw [dk1] at k1
              rw [dk2] at m1
              rw [if_neg (by
                rintro ⟨x, y⟩
                simp only [Bool.true_and, Bool.and_eq_true] at x
                exact g2 ⟨x.1, by omega⟩)]
              simp only [hi', decide_true, cond_true, bnd_some, stm_eta, impl_stmtValid_eq, hh, Bool.not_true, cond_false, hn3, hn4, decide_false, k1, m1]
              rcases hk with hk | hk <;> simp [hk]
          · refine ⟨c1, ?_⟩
            apply impl_blockValid_l1_le
            rw [geti_some hi, e1, s1, hw]
            have dk1 : decide (l[i].body.all (sOk d1) = true ∧ n + (cSs l[i].body : Int) ≤ 16) = false := decide_eq_false g1
            rw [dk1] at k1
            rw [if_neg (by
              rintro ⟨x, y⟩
              simp only [Bool.and_eq_true] at x
              exact g1 ⟨x.1.1, by omega⟩)]
            simp only [hi', decide_true, cond_true, bnd_some, stm_eta, impl_stmtValid_eq, hh, Bool.not_true, cond_false, hn3, hn4, decide_false, k1]
            rcases hk with hk | hk <;> simp [hk]
      · have n2 : l[i].kind ≠ 2 := fun h => hk (.inl h)
        have n3 : l[i].kind ≠ 3 := fun h => hk (.inr h)
        have s1 : sOk d0 l[i] = true := by cases d0 <;> simp [sOk, hh, n2, n3]
        have hbe : l[i].body = [] ∧ l[i].els = [] := by
          have hh' := hh
          simp only [hdr, n2, n3, false_and, false_or] at hh'
          have : (l[i].body.length : Int) = 0 ∧ (l[i].els.length : Int) = 0 := by
            rcases hh' with h | h | h | h | h
            · exact ⟨h.2.2.2.2.1, h.2.2.2.2.2⟩
            · exact ⟨h.2.2.2.2.1, h.2.2.2.2.2⟩
            · exact ⟨h.2.2.2.2.1, h.2.2.2.2.2⟩
            · exact ⟨h.2.2.2.2.1, h.2.2.2.2.2⟩
            · exact ⟨h.2.2.2.2.1, h.2.2.2.2.2⟩
          exact ⟨List.eq_nil_of_length_eq_zero (by omega), List.eq_nil_of_length_eq_zero (by omega)⟩
        rw [hbe.1, hbe.2] at e3
        simp only [cSs] at e3
        obtain ⟨c, hc⟩ := block_l hl hd0 hp d (i + 1) n (by omega) h0 h1
        refine ⟨c, ?_⟩
        apply impl_blockValid_l1_le
        rw [geti_some hi, e1, s1, wrap_succ (by omega)]
        have hcond : ((true && (l.drop (i + 1)).all (sOk d0)) = true ∧ n + ((cSs (l.drop i) : Int) - ((l.length : Int) - (i : Int))) ≤ 16) ↔ ((l.drop (i + 1)).all (sOk d0) = true ∧ n + ((cSs (l.drop (i + 1)) : Int) - ((l.length : Int) - ((i + 1 : Nat) : Int))) ≤ 16) := by
          simp only [Bool.true_and]
          constructor
          · rintro ⟨x, y⟩; exact ⟨x, by omega⟩
          · rintro ⟨x, y⟩; exact ⟨x, by omega⟩
        have hval : n + ((cSs (l.drop i) : Int) - ((l.length : Int) - (i : Int))) = n + ((cSs (l.drop (i + 1)) : Int) - ((l.length : Int) - ((i + 1 : Nat) : Int))) := by omega
        rw [if_alike hcond (congrArg (Sum.inl (β := Bool × Int)) hval), ← hc]
        simp only [hi', decide_true, cond_true, bnd_some, stm_eta, impl_stmtValid_eq, hh, Bool.not_true, cond_false, hn3, decide_false]
        simp [n2, n3]
    · have s1 : sOk d0 l[i] = false := by cases d0 <;> simp [sOk, hh]
      refine ⟨n, ?_⟩
      apply impl_blockValid_l1_le
      rw [geti_some hi, e1, s1]
      simp only [hi', decide_true, cond_true, bnd_some, stm_eta, impl_stmtValid_eq, hh, decide_false, Bool.not_false]
      simp

theorem impl_blockValid_eq : ∀ (d : Nat) (l : List Stm) (n : Int), d ≤ 3 → mSs l ≤ 4294967296 → 0 ≤ n → n ≤ 16 →
    ∃ c, impl_blockValid l 3 (3 - (d : Int)) n = some (decide (l.all (sOk d) = true ∧ n + cSs l ≤ 16), c) ∧ (l.all (sOk d) = true → n + cSs l ≤ 16 → c = n + cSs l)
  | d, l, n, hd, hm, h0, h1 => by
    have hlen := mSs_len l
    have hcl := cSs_len l
    by_cases hc : (16 : Int) < n + l.length
    · refine ⟨n + l.length, ?_, fun _ h => by omega⟩
      apply impl_blockValid_le
      rw [wrap_id (by omega) (by omega)]
      have : ¬ (l.all (sOk d) = true ∧ n + (cSs l : Int) ≤ 16) := fun h => by omega
      rw [decide_eq_false this]
      simp [hc]
    · obtain ⟨c, h⟩ := block_l (l := l) (d0 := d) (by omega) hd (fun d1 e1 bl m hb g0 g1 => by
        obtain ⟨s, hs, hbl⟩ := hb
        have := mS_mem hs
        have := mS_eq s
        have hmb : mSs bl ≤ 4294967296 := by rcases hbl with rfl | rfl <;> omega
        exact impl_blockValid_eq d1 bl m (by omega) hmb g0 g1) l.length 0 (n + l.length) (by omega) (by omega) (by omega)
      rw [List.drop_zero] at h
      by_cases g : l.all (sOk d) = true ∧ n + (cSs l : Int) ≤ 16
      · refine ⟨n + cSs l, ?_, fun _ _ => rfl⟩
        apply impl_blockValid_le
        rw [wrap_id (by omega) (by omega), show (0 : Int) = ((0 : Nat) : Int) by rfl, h, if_pos ⟨g.1, by omega⟩, decide_eq_true g]
        simp only [hc, decide_false, cond_false, bnd_some, selm]
        congr 2; omega
      · refine ⟨c, ?_, fun a b => absurd ⟨a, b⟩ g⟩
        apply impl_blockValid_le
        rw [wrap_id (by omega) (by omega), show (0 : Int) = ((0 : Nat) : Int) by rfl, h, if_neg (fun x => g ⟨x.1, by omega⟩), decide_eq_false g]
        simp only [hc, decide_false, cond_false, bnd_some, selm]
  termination_by d => d

def stOk (l : List Stm) : Bool := decide (l.all (sOk 3) = true ∧ (cSs l : Int) ≤ 16)

theorem impl_stmtsValid_eq (l : List Stm) (hm : mSs l ≤ 4294967296) : impl_stmtsValid l 3 = some (stOk l) := by
  apply impl_stmtsValid_le
  obtain ⟨c, h, _⟩ := impl_blockValid_eq 3 l 0 (by omega) hm (by omega) (by omega)
  rw [show (3 : Int) - ((3 : Nat) : Int) = 0 by omega] at h
  rw [h, bnd_some]
  simp [stOk]

theorem spec_StmtsValid_eq (l : List Stm) (hm : mSs l ≤ 4294967296) : spec_StmtsValid l = some (stOk l) := by
  apply spec_StmtsValid_le
  have hc := cSs_le l
  rw [show (3 : Int) = ((3 : Nat) : Int) by rfl, spec_l11Blocks_eq (by omega) hm, bnd_some, spec_l11Count_eq (by omega)]
  unfold stOk
  cases l.all (sOk 3) <;> simp

theorem cut_one {α : Type} {l : List α} {i : Nat} (hi : i < l.length) : cutL l (i : Int) ((i + 1 : Nat) : Int) = some [l[i]] := by
  unfold cutL
  rw [if_pos (by omega)]
  simp only [Int.toNat_natCast, Option.some.injEq]
  rw [List.drop_take, List.drop_eq_getElem_cons hi, show i + 1 - i = 1 by omega]
  simp only [List.take_succ_cons, List.take_zero]

def words (l : List Int) : Bool := l.all fun n => decide (-2147483648 ≤ n ∧ n ≤ 2147483647)

theorem areWords_l {l : List Int} (hl : (l.length : Int) ≤ 4294967296) : ∀ (d i : Nat), i + d = l.length → impl_areWords_l1 l l.length i = some (if words (l.drop i) then .inl () else .inr false)
  | 0, i, hd => by
    apply impl_areWords_l1_le
    have hi : ¬ ((i : Int) < l.length) := by omega
    rw [List.drop_eq_nil_of_le (by omega)]
    simp [hi, words]
  | d + 1, i, hd => by
    apply impl_areWords_l1_le
    have hi : i < l.length := by omega
    have hi' : (i : Int) < l.length := by omega
    have e1 : words (l.drop i) = (decide (-2147483648 ≤ l[i] ∧ l[i] ≤ 2147483647) && words (l.drop (i + 1))) := by unfold words; rw [List.drop_eq_getElem_cons hi, List.all_cons]
    rw [geti_some hi, wrap_succ (by omega), areWords_l hl d (i + 1) (by omega), e1]
    simp only [hi', decide_true, cond_true, bnd_some, impl_WordValid_eq]
    cases decide (-2147483648 ≤ l[i] ∧ l[i] ≤ 2147483647) <;> simp

theorem impl_areWords_eq {l : List Int} (hl : (l.length : Int) ≤ 4294967296) : impl_areWords l = some (words l) := by
  apply impl_areWords_le
  rw [show (0 : Int) = ((0 : Nat) : Int) by rfl, areWords_l hl l.length 0 (by omega), List.drop_zero]
  cases words l <;> simp [selm]

theorem l4Words_l {l : List Int} (hl : (l.length : Int) ≤ 4294967296) : ∀ (d i : Nat), i + d = l.length → spec_l4Words_l1 l i = some (if words (l.drop i) then .inl () else .inr false)
  | 0, i, hd => by
    apply spec_l4Words_l1_le
    have hi : ¬ ((i : Int) < l.length) := by omega
    rw [List.drop_eq_nil_of_le (by omega)]
    simp [hi, words]
  | d + 1, i, hd => by
    apply spec_l4Words_l1_le
    have hi : i < l.length := by omega
    have hi' : (i : Int) < l.length := by omega
    have e1 : words (l.drop i) = (decide (-2147483648 ≤ l[i] ∧ l[i] ≤ 2147483647) && words (l.drop (i + 1))) := by unfold words; rw [List.drop_eq_getElem_cons hi, List.all_cons]
    rw [geti_some hi, wrap_succ (by omega), l4Words_l hl d (i + 1) (by omega), e1]
    simp only [hi', decide_true, cond_true, bnd_some, spec_WordValid_eq]
    cases decide (-2147483648 ≤ l[i] ∧ l[i] ≤ 2147483647) <;> simp

theorem spec_l4Words_eq {l : List Int} (hl : (l.length : Int) ≤ 4294967296) (n : Int) : spec_l4Words l n = some (decide ((l.length : Int) = n) && words l) := by
  apply spec_l4Words_le
  rw [show (0 : Int) = ((0 : Nat) : Int) by rfl, l4Words_l hl l.length 0 (by omega), List.drop_zero]
  by_cases h : (l.length : Int) = n <;> cases words l <;> simp [selm, h]

def rests (l : List Stm) : Bool := l.all fun s => stOk [s]

theorem rests_drop {l : List Stm} {i : Nat} (hi : i < l.length) : rests (l.drop i) = (stOk [l[i]] && rests (l.drop (i + 1))) := by
  unfold rests; rw [List.drop_eq_getElem_cons hi, List.all_cons]

theorem mSs_one (s : Stm) : mSs [s] = 1 + mS s := by simp [mSs]

theorem impl_rests {v : List Int} {l : List Stm} (hm : mSs l ≤ 4294967296) : ∀ (d i : Nat), i + d = l.length → impl_taskValid_l1 3 l.length i v l = some (if rests (l.drop i) then .inl () else .inr false)
  | 0, i, hd => by
    apply impl_taskValid_l1_le
    have hi : ¬ ((i : Int) < l.length) := by omega
    rw [List.drop_eq_nil_of_le (by omega)]
    simp [hi, rests]
  | d + 1, i, hd => by
    apply impl_taskValid_l1_le
    have hi : i < l.length := by omega
    have hi' : (i : Int) < l.length := by omega
    have hlen := mSs_len l
    have hmem := mS_mem (List.getElem_mem hi)
    rw [wrap_succ (by omega), cut_one hi, rests_drop hi, impl_rests hm d (i + 1) (by omega)]
    simp only [hi', decide_true, cond_true, bnd_some, impl_stmtsValid_eq [l[i]] (by rw [mSs_one]; omega)]
    cases stOk [l[i]] <;> simp

theorem spec_rests {v : List Int} {l : List Stm} (hm : mSs l ≤ 4294967296) : ∀ (d i : Nat), i + d = l.length → spec_TaskValid_l1 i v l = some (if rests (l.drop i) then .inl (v, l) else .inr (false, v, l))
  | 0, i, hd => by
    apply spec_TaskValid_l1_le
    have hi : ¬ ((i : Int) < l.length) := by omega
    rw [List.drop_eq_nil_of_le (by omega)]
    simp [hi, rests]
  | d + 1, i, hd => by
    apply spec_TaskValid_l1_le
    have hi : i < l.length := by omega
    have hi' : (i : Int) < l.length := by omega
    have hlen := mSs_len l
    have hmem := mS_mem (List.getElem_mem hi)
    rw [wrap_succ (by omega), cut_one hi, rests_drop hi, spec_rests hm d (i + 1) (by omega)]
    simp only [hi', decide_true, cond_true, bnd_some, spec_StmtsValid_eq [l[i]] (by rw [mSs_one]; omega)]
    cases stOk [l[i]] <;> simp

def taskOk (t : Tk) : Bool := decide ((t.vars.length : Int) = 4) && words t.vars && rests t.rest

theorem impl_TaskValid_eq (t : Tk) (hv : (t.vars.length : Int) ≤ 4294967296) (hm : mSs t.rest ≤ 4294967296) : impl_TaskValid t = some (taskOk t) := by
  apply impl_TaskValid_le
  have h : impl_taskValid t 3 = some (taskOk t) := by
    apply impl_taskValid_le
    rw [impl_areWords_eq hv, show (0 : Int) = ((0 : Nat) : Int) by rfl, impl_rests hm t.rest.length 0 (by omega), List.drop_zero]
    unfold taskOk
    by_cases h4 : (t.vars.length : Int) = 4 <;> cases words t.vars <;> cases rests t.rest <;> simp [selm, h4]
  rw [h]; rfl

theorem spec_TaskValid_eq (t : Tk) (hv : (t.vars.length : Int) ≤ 4294967296) (hm : mSs t.rest ≤ 4294967296) : spec_TaskValid t = some (taskOk t) := by
  apply spec_TaskValid_le
  rw [show (0 : Int) = ((0 : Nat) : Int) by rfl, spec_rests hm t.rest.length 0 (by omega), List.drop_zero]
  unfold taskOk
  cases rests t.rest
  · simp [selm]
  · simp [selm, spec_l4Words_eq hv]

def xs : Nat → Nat
  | 0 => 0
  | d + 1 => 2 + 2 * xs d

theorem emXs_two (a b : Exp) : emXs [a, b] = 2 + emX a + emX b := by simp [emXs]; omega

theorem l91Leaf_sz {b : List Int} {p m : Int} (h : Rd b p m) (hm : m ≤ 999999990) : Ok (spec_l91Leaf b p) fun r => emXs r.2.2.1.2 = 0 := by
  apply Ok.le (spec_l91Leaf_le b p)
  refine Ok.bnd (pick_ok h (by omega) (by decide)) fun r1 h1 => ?_
  refine Ok.bif (fun _ => ?_) (fun _ => ?_)
  · refine Ok.bnd (pick_ok h1.1 (by omega) (by decide)) fun r2 h2 => ?_
    rw [l4Leaf_eq, bnd_some]
    exact Ok.of rfl
  refine Ok.bif (fun _ => ?_) (fun _ => ?_)
  · refine Ok.bnd (pick_ok h1.1 (by omega) (by decide)) fun r2 h2 => ?_
    refine Ok.bnd (pick_geti h2.2 (by omega) rfl) fun e he => ?_
    rw [l4Leaf_eq, bnd_some]
    exact Ok.of rfl
  · refine Ok.bnd (pick_ok h1.1 (by omega) (by decide)) fun r2 h2 => ?_
    rw [l4Leaf_eq, bnd_some]
    exact Ok.of rfl

theorem l91Expr_sz : ∀ (d : Nat) {b : List Int} {p m : Int} (n : Int), n = (d : Int) + 1 → d ≤ 10 → Rd b p m → m + cost d ≤ 999999990 →
    Ok (spec_l91Expr n b p) fun r => emXs r.2.2.1.2 ≤ xs d
  | d, b, p, m, n, hn, hd, h, hm => by
    apply Ok.le (spec_l91Expr_le n b p)
    have hc := cost_pos d
    refine Ok.bif (fun hb => ?_) (fun hb => ?_)
    · refine Ok.bnd (l91Leaf_sz h (by omega)) fun r1 h1 => ?_
      exact Ok.of (by dsimp only; omega)
    · simp only [decide_eq_false_iff_not] at hb
      obtain ⟨d, rfl⟩ : ∃ d', d = d' + 1 := ⟨d - 1, by omega⟩
      have hc' := cost_pos d
      simp only [cost] at hm ⊢
      refine Ok.bnd (pick_ok h (by omega) (by decide)) fun r1 h1 => ?_
      refine Ok.bif (fun _ => ?_) (fun _ => ?_)
      · refine Ok.bnd (l91Leaf_sz h1.1 (by omega)) fun r2 h2 => ?_
        exact Ok.of (by dsimp only; omega)
      · refine Ok.bnd (l91Op_ok h1.1 (by omega)) fun r2 h2 => ?_
        rw [wrap_id (n := n - 1) (by omega) (by omega)]
        refine Ok.bnd ((l91Expr_ok d (n - 1) (by omega) (by omega) h2.1 (by omega)).and (l91Expr_sz d (n - 1) (by omega) (by omega) h2.1 (by omega))) fun r3 h3 => ?_
        refine Ok.bnd ((l91Expr_ok d (n - 1) (by omega) (by omega) h3.1.1 (by omega)).and (l91Expr_sz d (n - 1) (by omega) (by omega) h3.1.1 (by omega))) fun r4 h4 => ?_
        rw [l4Both_eq, bnd_some]
        refine Ok.of ?_
        have e3 := h3.2
        have e4 := h4.2
        simp only [emXs_two, emX_eq, xs]
        omega

/-- What an expression of at most four levels takes. -/
theorem expr_ok {b : List Int} {p m : Int} (n : Int) (h1 : 1 ≤ n) (h2 : n ≤ 4) (h : Rd b p m) (hm : m ≤ 999999000) : Ok (spec_l91Expr n b p) fun r => Rd r.2.2.2.1 r.2.2.2.2 (m + 30) ∧ emXs r.2.2.1.2 ≤ 14 := by
  have hc : ∀ d : Nat, d ≤ 3 → cost d ≤ 30 ∧ xs d ≤ 14 := by
    intro d hd
    match d, hd with
    | 0, _ => decide
    | 1, _ => decide
    | 2, _ => decide
    | 3, _ => decide
  obtain ⟨c1, c2⟩ := hc (n - 1).toNat (by omega)
  exact ((l91Expr_ok (n - 1).toNat n (by omega) (by omega) h (by omega)).and (l91Expr_sz (n - 1).toNat n (by omega) (by omega) h (by omega))).mono fun r hr => ⟨hr.1.1.mono (by omega), by have := hr.2; omega⟩

theorem mSs_append : ∀ a b : List Stm, mSs (a ++ b) = mSs a + mSs b
  | [], b => by simp [mSs]
  | s :: a, b => by simp only [List.cons_append, mSs, mSs_append a b]; omega

theorem mS_mk (k v x o n : Int) (as : List Exp) (bd el : List Stm) : mS ⟨k, v, x, ⟨o, n, as⟩, bd, el⟩ = emXs as + mSs bd + mSs el := by simp [mS_eq, emX_eq]

def cs : Nat → Int
  | 0 => 40
  | k + 1 => 60 + 4 * cs k

def ms : Nat → Nat
  | 0 => 15
  | k + 1 => 30 + 4 * ms k

theorem cs_pos : ∀ k, 40 ≤ cs k
  | 0 => by simp [cs]
  | k + 1 => by have := cs_pos k; simp only [cs]; omega

theorem ms_pos : ∀ k, 15 ≤ ms k
  | 0 => by simp [ms]
  | k + 1 => by have := ms_pos k; simp only [ms]; omega

theorem l92Set_ok {b : List Int} {p m : Int} (h : Rd b p m) (hm : m ≤ 999998000) : Ok (spec_l92Set b p) fun r => Rd r.2.1 r.2.2 (m + 32) ∧ mS r.1 ≤ 14 := by
  apply Ok.le (spec_l92Set_le b p)
  refine Ok.bnd (pick_ok h (by omega) (by decide)) fun r1 h1 => ?_
  refine Ok.bnd (pick_ok h1.1 (by omega) (by decide)) fun r2 h2 => ?_
  have hk := h2.2.2.1 (by omega)
  rw [wrap_id (n := 1 + r2.1) (by omega) (by omega)]
  refine Ok.bnd (expr_ok _ (by omega) (by omega) h2.1 (by omega)) fun r3 h3 => ?_
  refine Ok.of ⟨h3.1.mono (by omega), ?_⟩
  rw [mS_mk]; have := h3.2; simp only [mSs]; omega

theorem l92Talk_ok {b : List Int} {p m : Int} (n : Int) (hn : n ≤ 1000) (h : Rd b p m) (hm : m ≤ 999998000) : Ok (spec_l92Talk n b p) fun r => Rd r.2.1 r.2.2 (m + 35) ∧ mS r.1 ≤ 14 := by
  apply Ok.le (spec_l92Talk_le n b p)
  refine Ok.bif (fun _ => ?_) (fun hb => ?_)
  · refine Ok.bnd (l92Set_ok h hm) fun r1 h1 => ?_
    refine Ok.of ⟨h1.1.mono (by omega), ?_⟩
    have := h1.2
    rw [mS_mk]; rw [mS_eq, emX_eq] at this; exact this
  simp only [decide_eq_false_iff_not] at hb
  refine Ok.bnd (pick_ok h (by omega) (by unfold wfI; omega)) fun r2 h2 => ?_
  refine Ok.bnd (pick_ok h2.1 (by omega) (by decide)) fun r3 h3 => ?_
  refine Ok.bif (fun _ => ?_) (fun _ => ?_)
  · refine Ok.bnd (pick_ok h3.1 (by omega) (by decide)) fun r4 h4 => ?_
    have hk := h4.2.2.1 (by omega)
    rw [wrap_id (n := 1 + r4.1) (by omega) (by omega)]
    refine Ok.bnd (expr_ok _ (by omega) (by omega) h4.1 (by omega)) fun r5 h5 => ?_
    refine Ok.of ⟨h5.1.mono (by omega), ?_⟩
    rw [mS_mk]; have := h5.2; simp only [mSs]; omega
  · refine Ok.bnd (pick_ok h3.1 (by omega) (by decide)) fun r6 h6 => ?_
    refine Ok.of ⟨h6.1.mono (by omega), ?_⟩
    rw [mS_mk]; simp [mSs, emXs]

/-- Blocks of so many statements with so many levels. -/
def BlockOk (k : Nat) : Prop := ∀ {b : List Int} {p m : Int} (a n : Int) (lo : Bool), a ≤ 1000 → n ≤ 2 → Rd b p m → m + 2 * cs k ≤ 999990000 → Ok (spec_l92Block a k n lo b p) fun r => Rd r.2.1 r.2.2 (m + 2 * cs k) ∧ mSs r.1 ≤ 2 * ms k

def StmtOk (k : Nat) : Prop := ∀ {b : List Int} {p m : Int} (a : Int) (lo : Bool), a ≤ 1000 → Rd b p m → m + cs k ≤ 999990000 → Ok (spec_l92Stmt a k lo b p) fun r => Rd r.2.1 r.2.2 (m + cs k) ∧ mSs r.1 ≤ ms k

theorem block_of {k : Nat} (hs : StmtOk k) {a n : Int} {lo : Bool} (ha : a ≤ 1000) : ∀ (d : Nat) (i : Int) (f : Bool) (l : List Stm) {b : List Int} {p m : Int}, (n ≤ i + d) → 0 ≤ i → i ≤ 100 - d → mSs l + d * ms k ≤ 1000000000 → d ≤ 100 → Rd b p m → m + d * cs k ≤ 999990000 →
    Ok (spec_l92Block_l1 a k n lo f l i b p) fun r => Rd r.2.1 r.2.2 (m + d * cs k) ∧ mSs r.1.2 ≤ mSs l + d * ms k
  | 0, i, f, l, b, p, m, hd, h0, hi1, hl, hdd, h, hm => by
    apply Ok.le (spec_l92Block_l1_le _ _ _ _ _ _ _ _ _)
    have : ¬ (i < n) := by omega
    simp only [this, decide_false, cond_false]
    exact Ok.of ⟨h.mono (by omega), by simp⟩
  | d + 1, i, f, l, b, p, m, hd, h0, hi1, hl, hdd, h, hm => by
    apply Ok.le (spec_l92Block_l1_le _ _ _ _ _ _ _ _ _)
    have hc := cs_pos k
    have e1 : ((d + 1 : Nat) : Int) * cs k = d * cs k + cs k := by rw [Int.natCast_add, Int.add_mul]; omega
    have e2 : (d + 1) * ms k = d * ms k + ms k := by rw [Nat.add_mul]; omega
    have e3 : 0 ≤ (d : Int) * cs k := Int.mul_nonneg (by omega) (by omega)
    rw [e1] at hm ⊢
    rw [e2] at hl ⊢
    refine Ok.bif (fun hb => ?_) (fun hb => ?_)
    · simp only [decide_eq_true_eq] at hb
      refine Ok.bnd (hs a lo ha h (by omega)) fun r1 h1 => ?_
      have hl1 := mSs_len l
      have hl2 := mSs_len r1.1
      have h12 := h1.2
      rw [appL_some (by omega), bnd_some, wrap_id (n := i + 1) (by omega) (by omega)]
      have ea := mSs_append l r1.1
      exact (block_of hs ha d (i + 1) true _ (by omega) (by omega) (by omega) (by omega) (by omega) h1.1 (by omega)).mono fun r hr => ⟨hr.1.mono (by omega), by have := hr.2; omega⟩
    · exact Ok.of ⟨h.mono (by omega), by show mSs l ≤ _; omega⟩

theorem drawn_block {k : Nat} (hs : StmtOk k) (d : Nat) (hd : d ≤ 10) (hms : ms k ≤ 10000000) {b : List Int} {p m : Int} (a n : Int) (lo : Bool) (ha : a ≤ 1000) (hn : n ≤ d) (h : Rd b p m) (hm : m + d * cs k ≤ 999990000) : Ok (spec_l92Block a k n lo b p) fun r => Rd r.2.1 r.2.2 (m + d * cs k) ∧ mSs r.1 ≤ d * ms k := by
  apply Ok.le (spec_l92Block_le _ _ _ _ _ _)
  have hk : d * ms k ≤ 10 * 10000000 := Nat.mul_le_mul hd hms
  refine Ok.bnd (block_of hs ha d 0 true [] (by omega) (by omega) (by omega) (by simp [mSs]; omega) (by omega) h hm) fun r hr => ?_
  exact Ok.of ⟨hr.1, by have := hr.2; simp only [mSs] at this; dsimp only; omega⟩

theorem l92If_ok {k : Nat} (hb : BlockOk k) {b : List Int} {p m : Int} (a : Int) (lo : Bool) (ha : a ≤ 1000) (hk : k ≤ 10) (h : Rd b p m) (hm : m + cs (k + 1) ≤ 999990010) : Ok (spec_l92If a ((k + 1 : Nat) : Int) lo b p) fun r => Rd r.2.1 r.2.2 (m + (cs (k + 1) - 10)) ∧ mS r.1 + 1 ≤ ms (k + 1) := by
  apply Ok.le (spec_l92If_le _ _ _ _ _)
  have hc := cs_pos k
  simp only [cs, ms] at hm ⊢
  refine Ok.bnd (pick_ok h (by omega) (by decide)) fun r1 h1 => ?_
  have hk1 := h1.2.2.1 (by omega)
  rw [wrap_id (n := 1 + r1.1) (by omega) (by omega), wrap_id (n := ((k + 1 : Nat) : Int) - 1) (by omega) (by omega), show ((k + 1 : Nat) : Int) - 1 = (k : Int) by omega]
  refine Ok.bnd (expr_ok _ (by omega) (by omega) h1.1 (by omega)) fun r2 h2 => ?_
  refine Ok.bnd (pick_ok h2.1 (by omega) (by decide)) fun r3 h3 => ?_
  have hk3 := h3.2.2.1 (by omega)
  refine Ok.bnd (hb a _ lo ha (by omega) h3.1 (by omega)) fun r4 h4 => ?_
  refine Ok.bnd (pick_ok h4.1 (by omega) (by decide)) fun r5 h5 => ?_
  have hk5 := h5.2.2.1 (by omega)
  refine Ok.bnd (hb a _ lo ha (by omega) h5.1 (by omega)) fun r6 h6 => ?_
  refine Ok.of ⟨h6.1.mono (by omega), ?_⟩
  have q2 := h2.2
  have q4 := h4.2
  have q6 := h6.2
  rw [mS_mk]; omega

theorem l92Loop_ok {k : Nat} (hb : BlockOk k) {b : List Int} {p m : Int} (a : Int) (ha : a ≤ 1000) (hk : k ≤ 10) (hms : ms k ≤ 10000000) (h : Rd b p m) (hm : m + cs (k + 1) ≤ 999990010) : Ok (spec_l92Loop a ((k + 1 : Nat) : Int) b p) fun r => Rd r.2.1 r.2.2 (m + (cs (k + 1) - 10)) ∧ mSs r.1 ≤ ms (k + 1) := by
  apply Ok.le (spec_l92Loop_le _ _ _ _)
  have hc := cs_pos k
  have hp := ms_pos k
  simp only [cs, ms] at hm ⊢
  refine Ok.bnd (pick_ok h (by omega) (by decide)) fun r1 h1 => ?_
  have hk1 := h1.2.2.1 (by omega)
  rw [wrap_id (n := ((k + 1 : Nat) : Int) - 1) (by omega) (by omega), show ((k + 1 : Nat) : Int) - 1 = (k : Int) by omega]
  refine Ok.bnd (hb a _ false ha (by omega) h1.1 (by omega)) fun r2 h2 => ?_
  rw [l4Leaf_eq, bnd_some, l4Leaf_eq, bnd_some, l4Both_eq, bnd_some, bnd_some]
  refine Ok.bnd (pick_ok h2.1 (by omega) (by decide)) fun r7 h7 => ?_
  have hk7 := h7.2.2.1 (by omega)
  have hl2 := mSs_len r2.1
  have q2 := h2.2
  rw [wrap_id (n := 1 + r7.1) (by omega) (by omega), l4Leaf_eq, bnd_some, l4Both_eq, bnd_some, appL_some (by simp; omega), bnd_some, l4Leaf_eq, bnd_some]
  refine Ok.of ⟨h7.1.mono (by omega), ?_⟩
  simp only [mSs, mS_mk, mSs_append, emXs_two, emX_eq, emXs]
  omega

theorem stmt_ok (k : Nat) (hk : k ≤ 4) (hms : ms k ≤ 10000000) (hb : ∀ k', k = k' + 1 → BlockOk k') : StmtOk k := by
  intro b p m a lo ha h hm
  apply Ok.le (spec_l92Stmt_le _ _ _ _ _)
  have hc := cs_pos k
  have hp := ms_pos k
  have pr : ∀ {b : List Int} {p m' : Int}, Rd b p m' → m' ≤ m + 1 → Ok (Vs.bnd (spec_l6Rd_pick 3 b p) fun r5 => Vs.bnd (spec_l91Expr (wrap64 (1 + r5.1)) r5.2.1 r5.2.2) fun r6 => some (([⟨7, 0, 0, ⟨r6.1, r6.2.1, r6.2.2.1.2⟩, [], []⟩] : List Stm), r6.2.2.2.1, r6.2.2.2.2)) fun r => Rd r.2.1 r.2.2 (m + cs k) ∧ mSs r.1 ≤ ms k := by
    intro b p m' h' hm'
    refine Ok.bnd (pick_ok h' (by omega) (by decide)) fun r5 h5 => ?_
    have hk5 := h5.2.2.1 (by omega)
    rw [wrap_id (n := 1 + r5.1) (by omega) (by omega)]
    refine Ok.bnd (expr_ok _ (by omega) (by omega) h5.1 (by omega)) fun r6 h6 => ?_
    refine Ok.of ⟨h6.1.mono (by omega), ?_⟩
    have := h6.2
    simp only [mSs, mS_mk]; omega
  have one : ∀ {s : Stm}, mS s ≤ 14 → mSs [(⟨s.kind, s.var, s.box, ⟨s.e.op, s.e.n, s.e.args⟩, s.body, s.els⟩ : Stm)] ≤ ms k := by
    intro s hs
    rw [mS_eq, emX_eq] at hs
    simp only [mSs, mS_mk]; omega
  refine Ok.bnd (pick_ok h (by omega) (by decide)) fun r1 h1 => ?_
  refine Ok.bif (fun _ => ?_) (fun _ => ?_)
  · exact Ok.bnd (l92Set_ok h1.1 (by omega)) fun r2 h2 => Ok.of ⟨h2.1.mono (by omega), one h2.2⟩
  refine Ok.bif (fun _ => ?_) (fun _ => ?_)
  · exact Ok.bnd (l92Set_ok h1.1 (by omega)) fun r2 h2 => Ok.of ⟨h2.1.mono (by omega), one h2.2⟩
  refine Ok.bif (fun _ => ?_) (fun _ => ?_)
  · refine Ok.bif (fun h0 => ?_) (fun _ => pr h1.1 (by omega))
    simp only [decide_eq_true_eq] at h0
    obtain ⟨k', rfl⟩ : ∃ k', k = k' + 1 := ⟨k - 1, by omega⟩
    refine Ok.bnd (l92If_ok (hb k' rfl) a lo ha (by omega) h1.1 (by omega)) fun r4 h4 => ?_
    refine Ok.of ⟨h4.1.mono (by omega), ?_⟩
    have := h4.2
    rw [mS_eq, emX_eq] at this
    simp only [mSs, mS_mk]; omega
  refine Ok.bif (fun _ => ?_) (fun _ => ?_)
  · refine Ok.bif (fun h0 => ?_) (fun _ => pr h1.1 (by omega))
    refine Ok.bif (fun _ => ?_) (fun _ => pr h1.1 (by omega))
    simp only [decide_eq_true_eq] at h0
    obtain ⟨k', rfl⟩ : ∃ k', k = k' + 1 := ⟨k - 1, by omega⟩
    refine Ok.bnd (l92Loop_ok (hb k' rfl) a ha (by omega) (by simp only [ms] at hms; omega) h1.1 (by omega)) fun r4 h4 => ?_
    exact Ok.of ⟨h4.1.mono (by omega), h4.2⟩
  refine Ok.bif (fun _ => ?_) (fun _ => ?_)
  · exact Ok.bnd (l92Talk_ok a ha h1.1 (by omega)) fun r2 h2 => Ok.of ⟨h2.1.mono (by omega), one h2.2⟩
  refine Ok.bif (fun _ => ?_) (fun _ => ?_)
  · exact Ok.bnd (l92Talk_ok a ha h1.1 (by omega)) fun r2 h2 => Ok.of ⟨h2.1.mono (by omega), one h2.2⟩
  refine Ok.bif (fun _ => ?_) (fun _ => ?_)
  · exact Ok.bnd (l92Talk_ok a ha h1.1 (by omega)) fun r2 h2 => Ok.of ⟨h2.1.mono (by omega), one h2.2⟩
  refine Ok.bif (fun _ => ?_) (fun _ => pr h1.1 (by omega))
  exact Ok.of ⟨h1.1.mono (by omega), by simp only [mSs, mS_mk, emXs]; omega⟩

theorem ms_small : ∀ k, k ≤ 3 → ms k ≤ 10000000 ∧ cs k ≤ 100000 := by
  intro k hk
  match k, hk with
  | 0, _ => decide
  | 1, _ => decide
  | 2, _ => decide
  | 3, _ => decide

theorem stmts_ok : ∀ k, k ≤ 3 → StmtOk k
  | 0, _ => stmt_ok 0 (by omega) (ms_small 0 (by omega)).1 (fun k' h => by omega)
  | k + 1, hk => stmt_ok (k + 1) (by omega) (ms_small (k + 1) hk).1 (fun k' h => by
    obtain rfl : k = k' := by omega
    intro b p m a n lo ha hn h hm
    exact drawn_block (stmts_ok k (by omega)) 2 (by omega) (ms_small k (by omega)).1 a n lo ha hn h hm)

theorem l91Vars_l {A : List Ent} : ∀ (d : Nat) (i : Int) (h : Hd) (l : List Int) (B : List Ent) {b : List Int} {p m : Int}, i + d = 4 → 0 ≤ i → (l.length : Int) = i → Got .int A l h B → Rd b p m → m + 5 * d ≤ 999990000 →
    Ok (spec_l91Vars_l1 h i b p B) fun r => Rd r.2.1 r.2.2.1 (m + 5 * d) ∧ ∃ l', l'.length = 4 ∧ Got .int A l' r.1 r.2.2.2
  | 0, i, h, l, B, b, p, m, hd, h0, hl, hg, hr, hm => by
    apply Ok.le (spec_l91Vars_l1_le _ _ _ _ _)
    have : ¬ (i < 4) := by omega
    simp only [this, decide_false, cond_false]
    exact Ok.of ⟨hr.mono (by omega), l, by omega, hg⟩
  | d + 1, i, h, l, B, b, p, m, hd, h0, hl, hg, hr, hm => by
    apply Ok.le (spec_l91Vars_l1_le _ _ _ _ _)
    have : i < 4 := by omega
    simp only [this, decide_true, cond_true]
    refine Ok.bnd (l91Word_ok hr (by omega)) fun r1 h1 => ?_
    refine Ok.bnd (hg.app (ys := [r1.1]) (by have := hg.cnt; simp; omega)) fun B2 hB2 => ?_
    rw [wrap_id (by omega) (by omega)]
    exact (l91Vars_l d (i + 1) _ (l ++ [r1.1]) _ (by omega) (by omega) (by simp; omega) hB2.1 h1.1 (by omega)).mono fun r hr => ⟨hr.1.mono (by omega), hr.2⟩

theorem l91Vars_ok {b : List Int} {p m : Int} (h : Rd b p m) (hm : m ≤ 999980000) : Ok (spec_l91Vars b p) fun r => Rd r.2.1 r.2.2 (m + 21) ∧ r.1.length ≤ 5 := by
  apply Ok.le (spec_l91Vars_le b p)
  have hg : Got .int [] [] ⟨some (List.length ([] : List Ent)), 0⟩ (arPush ([] : List Ent) .int ([] : List Int)) := Got.push (c := .int) (l := ([] : List Int)) (Ext.refl _ [])
  refine Ok.bnd (l91Vars_l 4 0 _ [] _ (by omega) (by omega) rfl hg h (by omega)) fun r1 h1 => ?_
  obtain ⟨h1r, l, hl, h1g⟩ := h1
  refine Ok.bnd (pick_ok h1r (by omega) (by decide)) fun r2 h2 => ?_
  refine Ok.bif (fun _ => ?_) (fun _ => ?_)
  · refine Ok.bnd (h1g.app (ys := [1]) (by have := h1g.cnt; simp; omega)) fun B3 hB3 => ?_
    have hg := hB3.1.get
    rw [arView_int, hg, bnd_some]
    exact Ok.of ⟨h2.1.mono (by omega), by simp; omega⟩
  refine Ok.bif (fun _ => ?_) (fun _ => ?_)
  · have hn := h1g.cnt
    have hx : l[0]? = some l[0] := List.getElem?_eq_getElem (by omega)
    rw [idxN_eq (by omega) (by omega), bnd_some, show (0 : Int).toNat = 0 from rfl, h1g.row hx, bnd_some, arView_int, (h1g.set (i := 0) (x := 2147483648)).get, bnd_some]
    exact Ok.of ⟨h2.1.mono (by omega), by simp; omega⟩
  · rw [arView_int, h1g.get, bnd_some]
    exact Ok.of ⟨h2.1.mono (by omega), by dsimp only; omega⟩

theorem blockp_of {k : Nat} (hs : StmtOk k) {A : List Ent} {a n : Int} {lo : Bool} (ha : a ≤ 1000) : ∀ (d : Nat) (i : Int) (h : Hd) (l : List Stm) (B : List Ent) {b : List Int} {p m : Int}, (n ≤ i + d) → 0 ≤ i → i ≤ 100 - d → mSs l + d * ms k ≤ 1000000000 → d ≤ 100 → Got .stm A l h B → Rd b p m → m + d * cs k ≤ 999990000 →
    Ok (spec_l92Block_p_l1 a k n lo h i b p B) fun r => Rd r.2.1 r.2.2.1 (m + d * cs k) ∧ ∃ l', Got .stm A l' r.1 r.2.2.2 ∧ mSs l' ≤ mSs l + d * ms k
  | 0, i, h, l, B, b, p, m, hd, h0, hi1, hl, hdd, hg, hr, hm => by
    apply Ok.le (spec_l92Block_p_l1_le _ _ _ _ _ _ _ _ _)
    have : ¬ (i < n) := by omega
    simp only [this, decide_false, cond_false]
    exact Ok.of ⟨hr.mono (by omega), l, hg, by omega⟩
  | d + 1, i, h, l, B, b, p, m, hd, h0, hi1, hl, hdd, hg, hr, hm => by
    apply Ok.le (spec_l92Block_p_l1_le _ _ _ _ _ _ _ _ _)
    have hc := cs_pos k
    have e1 : ((d + 1 : Nat) : Int) * cs k = d * cs k + cs k := by rw [Int.natCast_add, Int.add_mul]; omega
    have e2 : (d + 1) * ms k = d * ms k + ms k := by rw [Nat.add_mul]; omega
    have e3 : 0 ≤ (d : Int) * cs k := Int.mul_nonneg (by omega) (by omega)
    rw [e1] at hm ⊢
    rw [e2] at hl ⊢
    refine Ok.bif (fun hb => ?_) (fun hb => ?_)
    · simp only [decide_eq_true_eq] at hb
      refine Ok.bnd (hs a lo ha hr (by omega)) fun r1 h1 => ?_
      have hl1 := mSs_len l
      have hl2 := mSs_len r1.1
      have h12 := h1.2
      have hn := hg.cnt
      refine Ok.bnd (Got.app (c := .stm) hg (ys := r1.1) (by omega)) fun B2 hB2 => ?_
      rw [wrap_id (n := i + 1) (by omega) (by omega)]
      have ea := mSs_append l r1.1
      exact (blockp_of hs ha d (i + 1) _ (l ++ r1.1) _ (by omega) (by omega) (by omega) (by omega) (by omega) hB2.1 h1.1 (by omega)).mono fun r hr => ⟨hr.1.mono (by omega), (let ⟨l', q1, q2⟩ := hr.2; ⟨l', q1, by omega⟩)⟩
    · exact Ok.of ⟨hr.mono (by omega), l, hg, by omega⟩

theorem mSs_take (l : List Stm) (i : Nat) : mSs (l.take i) ≤ mSs l := by
  have := mSs_append (l.take i) (l.drop i)
  rw [List.take_append_drop] at this; omega

theorem stmtsp_l {A : List Ent} {b : List Int} {p : Int} : ∀ (d : Nat) (h : Hd) (l : List Stm) (B : List Ent), l.length ≤ d → mSs l ≤ 1000000000 → Got .stm A l h B →
    Ok (spec_l92Stmts_p_l1 h b p B) fun r => r.2.1 = b ∧ r.2.2.1 = p ∧ ∃ l', Got .stm A l' r.1 r.2.2.2 ∧ mSs l' ≤ mSs l ∧ cSs l' ≤ 16
  | d, h, l, B, hd, hl, hg => by
    apply Ok.le (spec_l92Stmts_p_l1_le _ _ _ _)
    have hc := cSs_le l
    rw [arView_stm, hg.get, bnd_some, spec_l11Count_eq (by omega), bnd_some]
    refine Ok.bif (fun hb => ?_) (fun hb => ?_)
    · simp only [decide_eq_true_eq] at hb
      have hn := hg.cnt
      have hm := mSs_len l
      have hpos : 0 < l.length := by
        cases l with
        | nil => simp [cSs] at hb
        | cons s r => simp
      rw [wrap_id (n := ((h.n : Nat) : Int) - 1) (by omega) (by omega)]
      refine Ok.bnd (hg.cut (i := ((h.n : Nat) : Int) - 1) (by omega) (by omega)) fun q hq => ?_
      have ht := mSs_take l (((h.n : Nat) : Int) - 1).toNat
      match d, hd with
      | 0, hd => omega
      | d + 1, hd =>
        exact (stmtsp_l d _ _ q.2 (by simp; omega) (by omega) hq.1).mono fun r hr => ⟨hr.1, hr.2.1, (let ⟨l', q1, q2, q3⟩ := hr.2.2; ⟨l', q1, by omega, q3⟩)⟩
    · simp only [decide_eq_false_iff_not] at hb
      exact Ok.of ⟨rfl, rfl, l, hg, by omega, by omega⟩

theorem l92Stmts_p_ok {b : List Int} {p m : Int} (a : Int) (ha : a ≤ 1000) (A : List Ent) (h : Rd b p m) (hm : m ≤ 999900000) : Ok (spec_l92Stmts_p a b p A) fun r => Rd r.2.1 r.2.2.1 (m + 23000) ∧ ∃ l, Got .stm A l r.1 r.2.2.2 ∧ mSs l ≤ 10000 ∧ cSs l ≤ 16 := by
  apply Ok.le (spec_l92Stmts_p_le a b p A)
  have hcs : cs 3 = 3820 := by decide
  have hms : ms 3 = 1590 := by decide
  refine Ok.bnd (pick_ok h (by omega) (by decide)) fun r1 h1 => ?_
  have hk := h1.2.2.1 (by omega)
  rw [wrap_id (n := 1 + r1.1) (by omega) (by omega)]
  have hb : Ok (spec_l92Block_p a 3 (1 + r1.1) true r1.2.1 r1.2.2 A) fun r => Rd r.2.1 r.2.2.1 (m + 1 + 6 * 3820) ∧ ∃ l', Got .stm A l' r.1 r.2.2.2 ∧ mSs l' ≤ 10000 := by
    apply Ok.le (spec_l92Block_p_le _ _ _ _ _ _ _)
    have hg : Got .stm A [] ⟨some A.length, 0⟩ (arPush A .stm ([] : List Stm)) := Got.push (c := .stm) (l := ([] : List Stm)) (Ext.refl _ A)
    refine Ok.bnd (blockp_of (stmts_ok 3 (by omega)) (a := a) (n := 1 + r1.1) (lo := true) ha 6 0 _ [] _ (by omega) (by omega) (by omega) (by simp [mSs, hms]) (by omega) hg h1.1 (by rw [hcs]; omega)) fun r hr => ?_
    obtain ⟨h1, l', h2, h3⟩ := hr
    rw [hcs] at h1
    rw [hms] at h3
    exact Ok.of ⟨h1.mono (by omega), l', h2, by simp only [mSs] at h3; omega⟩
  refine Ok.bnd hb fun r2 h2 => ?_
  obtain ⟨h2r, l, h2g, h2m⟩ := h2
  refine Ok.bnd (stmtsp_l (b := r2.2.1) (p := r2.2.2.1) l.length r2.1 l r2.2.2.2 (Nat.le_refl _) (by omega) h2g) fun r3 h3 => ?_
  obtain ⟨e1, e2, l', h3g, h3m, h3c⟩ := h3
  refine Ok.of ⟨?_, l', h3g, by omega, h3c⟩
  dsimp only
  rw [e1, e2]; exact h2r.mono (by omega)

theorem l92Task_ok {b : List Int} {p m : Int} (h : Rd b p m) (hm : m ≤ 999000000) : Ok (spec_l92Task b p) fun r => r.1.vars.length ≤ 5 ∧ mSs r.1.rest ≤ 20000 := by
  apply Ok.le (spec_l92Task_le b p)
  refine Ok.bnd (l91Vars_ok h (by omega)) fun r0 h0 => ?_
  refine Ok.bnd (l92Stmts_p_ok 2 (by omega) [] h0.1 (by omega)) fun r1 h1 => ?_
  obtain ⟨h1r, l, h1g, h1m, h1c⟩ := h1
  have hn := h1g.cnt
  have hl := mSs_len l
  refine Ok.bnd (pick_ok h1r (by omega) (by decide)) fun r2 h2 => ?_
  refine Ok.bif (fun _ => ?_) (fun _ => ?_)
  · rw [arView_stm, arGet_push, bnd_some]
    exact Ok.of ⟨h0.2, by simp [mSs]⟩
  refine Ok.bif (fun _ => ?_) (fun _ => ?_)
  · have hx : Ext0 r1.2.2.2 (arPush r1.2.2.2 .stm ([⟨5, 0, 2, ⟨0, 0, []⟩, [], []⟩] : List Stm)) := push_ext _
    have hg := h1g.keep hx
    rw [hg.get, bnd_some]
    have hp : Got .stm r1.2.2.2 [⟨5, 0, 2, ⟨0, 0, []⟩, [], []⟩] ⟨some r1.2.2.2.length, 1⟩ (arPush r1.2.2.2 .stm ([⟨5, 0, 2, ⟨0, 0, []⟩, [], []⟩] : List Stm)) := Got.push (c := .stm) (l := ([⟨5, 0, 2, ⟨0, 0, []⟩, [], []⟩] : List Stm)) (Ext.refl _ _)
    refine Ok.bnd (Got.app (c := .stm) hp (ys := l) (by show 1 + l.length ≤ _; omega)) fun B5 hB5 => ?_
    have hg := hB5.1.get
    dsimp only at hg
    rw [arView_stm, hg, bnd_some]
    exact Ok.of ⟨h0.2, by rw [mSs_append]; simp only [mSs, mS_mk, emXs]; omega⟩
  refine Ok.bif (fun _ => ?_) (fun _ => ?_)
  · refine Ok.bnd (Got.app (c := .stm) h1g (ys := ([⟨9, 0, 0, ⟨0, 0, []⟩, [], []⟩] : List Stm)) (by simp; omega)) fun B8 hB8 => ?_
    have hg := hB8.1.get
    dsimp only at hg
    rw [arView_stm, hg, bnd_some]
    exact Ok.of ⟨h0.2, by rw [mSs_append]; simp only [mSs, mS_mk, emXs]; omega⟩
  · rw [arView_stm, h1g.get, bnd_some]
    exact Ok.of ⟨h0.2, by dsimp only; omega⟩

theorem DrawTaskValid_ok {a : List Int} (h : wfBs a) : Ok (spec_DrawTaskValid a) fun t => t.vars.length ≤ 5 ∧ mSs t.rest ≤ 20000 := by
  apply Ok.le (spec_DrawTaskValid_le a)
  refine Ok.bnd (open_ok h) fun r1 h1 => ?_
  exact Ok.bnd (l92Task_ok h1 (by omega)) fun r2 h2 => Ok.of h2

theorem rests_append (a b : List Stm) : rests (a ++ b) = (rests a && rests b) := by unfold rests; rw [List.all_append]

theorem rests_tail {l : List Stm} (h : rests l = true) (k : Nat) : rests (l.drop k) = true := by
  unfold rests at h ⊢
  rw [List.all_eq_true] at h ⊢
  exact fun s hs => h s (List.mem_of_mem_drop hs)

theorem mSs_tail (l : List Stm) (i : Nat) : mSs (l.drop i) ≤ mSs l := by
  have := mSs_append (l.take i) (l.drop i)
  rw [List.take_append_drop] at this; omega

theorem laws_FnTask_eq (a : List Int) (h : wfBs a) (c : List Int) (h2 : wfBs c) : laws_FnTask a c = some true := by
  apply laws_FnTask_le
  apply Ok.some
  refine Ok.bif (fun _ => Ok.of rfl) (fun _ => ?_)
  refine Ok.bif (fun _ => Ok.of rfl) (fun hb => ?_)
  simp only [decide_eq_false_iff_not] at hb
  refine Ok.bnd (DrawTaskValid_ok h) fun t ht => ?_
  obtain ⟨v, l⟩ := t
  obtain ⟨hv, hm⟩ := ht
  dsimp only at hv hm
  have hl := mSs_len l
  rw [impl_TaskValid_eq _ (by simp only []; omega) (by simp only []; omega), bnd_some, spec_TaskValid_eq _ (by simp only []; omega) (by simp only []; omega), bnd_some]
  cases hok : taskOk ⟨v, l⟩
  · simp only [beq_self_eq_true, Bool.not_true, cond_false, Bool.not_false, cond_true]
    exact Ok.of rfl
  · have hk := hok
    unfold taskOk at hk
    simp only [Bool.and_eq_true, decide_eq_true_eq] at hk
    obtain ⟨⟨hv4, hw⟩, hr⟩ := hk
    refine Ok.bif (fun h => absurd h (by decide)) (fun _ => ?_)
    refine Ok.bif (fun h => absurd h (by decide)) (fun _ => ?_)
    have hpos : (l.length : Int) + 1 ≠ 0 := by omega
    dsimp only
    rw [wrap_id (n := (l.length : Int) + 1) (by omega) (by omega), remI_pos hpos, bnd_some]
    have hm0 := tmod_range (x := (c.length : Int)) (y := (l.length : Int) + 1) (by omega) (by omega)
    generalize hkk : (c.length : Int).tmod ((l.length : Int) + 1) = k at hm0
    have hll : (⟨v, l⟩ : Tk).rest = l := rfl
    have hcut : cutL l k (l.length : Int) = some (l.drop k.toNat) := by
      unfold cutL
      rw [if_pos (by omega)]
      simp
    have ha := mSs_append l l
    rw [hcut, bnd_some, appL_some (by simp; omega), bnd_some, List.nil_append, appL_some (by omega), bnd_some]
    have ht := mSs_tail l k.toNat
    have h1 : impl_TaskValid ⟨v, l.drop k.toNat⟩ = some true := by
      rw [impl_TaskValid_eq _ (by simp only []; omega) (by simp only []; omega)]
      unfold taskOk
      simp [hv4, hw, rests_tail hr]
    have h2 : impl_TaskValid ⟨v, l ++ l⟩ = some true := by
      rw [impl_TaskValid_eq _ (by simp only []; omega) (by simp only []; omega)]
      unfold taskOk
      simp [hv4, hw, rests_append, hr]
    have hcv : cutL v 1 (v.length : Int) = some (v.drop 1) := by
      unfold cutL
      rw [if_pos (by omega)]
      simp
    have h3 : impl_TaskValid ⟨v.drop 1, l⟩ = some false := by
      rw [impl_TaskValid_eq _ (by simp only [List.length_drop]; omega) (by simp only []; omega)]
      unfold taskOk
      have : ¬ (((v.drop 1).length : Nat) : Int) = 4 := by simp only [List.length_drop]; omega
      simp only [this, decide_false, Bool.false_and]
    refine Ok.bnd (Ok.eq h1) fun r8 h8 => ?_
    subst h8
    refine Ok.bif (fun _ => ?_) (fun h => absurd h (by decide))
    refine Ok.bnd (Ok.eq h2) fun r9 h9 => ?_
    subst h9
    refine Ok.bif (fun _ => ?_) (fun h => absurd h (by decide))
    rw [hcv, bnd_some, h3, bnd_some]
    exact Ok.of rfl
end Go.TFnTask
