/- The plain law: what the functions answer. -/
import Derived.Test.YtpkgdoapdijmeaaDFnWorldNewE0
import Derived.Test.YtpkgdoapdijmeaaDFnWorldNewE1
import Derived.Test.YtpkgdoapdijmeaaLkA
set_option linter.unusedVariables false
set_option linter.unusedSimpArgs false
namespace Go.TFnWorldNew
open Go Go.RowKit Go.Vs Go.Tv
theorem spec_l6In_eq (a b c : Int) : spec_l6In a b c = some (decide (b ≤ a ∧ a ≤ c)) := by
  apply spec_l6In_le
  by_cases h : b ≤ a <;> simp [h]

theorem spec_OpValid_eq (a : Int) : spec_OpValid a = some (decide (1 ≤ a ∧ a ≤ 12)) := by
  apply spec_OpValid_le; simp [spec_l6In_eq]

theorem impl_OpValid_eq (a : Int) : impl_OpValid a = some (decide (1 ≤ a ∧ a ≤ 12)) := by
  apply impl_OpValid_le
  by_cases h : 1 ≤ a <;> simp [h]

theorem impl_WordValid_eq (a : Int) : impl_WordValid a = some (decide (-2147483648 ≤ a ∧ a ≤ 2147483647)) := by
  apply impl_WordValid_le
  by_cases h : -2147483648 ≤ a <;> simp [h]

/-- A reader of bytes: how far it may have come. -/
def Rd (b : List Int) (p m : Int) : Prop := (∀ x ∈ b, 0 ≤ x ∧ x ≤ 255) ∧ (b.length : Int) ≤ 2000 ∧ 0 ≤ p ∧ p ≤ m

theorem Rd.mono {b : List Int} {p m n : Int} (h : Rd b p m) (hm : m ≤ n) : Rd b p n := ⟨h.1, h.2.1, h.2.2.1, by have := h.2.2.2; omega⟩

theorem open_ok {a : List Int} (h : wfBs a) : Ok (spec_l6Open a) fun r => Rd r.1 r.2 0 := by
  apply Ok.le (spec_l6Open_le a)
  refine Ok.bif (fun hb => ?_) (fun hb => ?_)
  · simp only [decide_eq_true_eq] at hb
    have : cutL a 0 2000 = some (a.take 2000) := by
      unfold cutL
      rw [if_pos (by omega)]
      simp
    rw [this]
    refine Ok.of ⟨fun x hx => h x (List.mem_of_mem_take hx), ?_, by omega, by omega⟩
    simp only [List.length_take]; omega
  · simp only [decide_eq_false_iff_not] at hb
    exact Ok.of ⟨h, (by show (a.length : Int) ≤ 2000; omega), by omega, by omega⟩

theorem u8_get {b : List Int} (h : ∀ x ∈ b, 0 ≤ x ∧ x ≤ 255) {n : Int} (h0 : 0 ≤ n) (h1 : n < b.length) : Ok (geti b n) fun x => 0 ≤ x ∧ x ≤ 255 :=
  (Ok.geti h0 h1).mono fun x hx => h x hx.1

theorem pick_ok {b : List Int} {p m n : Int} (h : Rd b p m) (hm : m ≤ 1000000000) (hn : wfI n) :
    Ok (spec_l6Rd_pick n b p) fun r => Rd r.2.1 r.2.2 (m + 1) ∧ 0 ≤ r.1 ∧ (1 ≤ n → r.1 < n) ∧ (n < 1 → r.1 = 0) := by
  obtain ⟨h1, h2, h3, h4⟩ := h
  obtain ⟨n1, n2⟩ := hn
  apply Ok.le (spec_l6Rd_pick_le n b p)
  have e1 : wrap64 (p + 1) = p + 1 := wrap_id (by omega) (by omega)
  have e2 : wrap64 (p + 1 - 1) = p := by rw [show p + 1 - 1 = p by omega]; exact wrap_id (by omega) (by omega)
  rw [e1, e2]
  have hR : Rd b (p + 1) (m + 1) := ⟨h1, h2, by omega, by omega⟩
  refine Ok.bif (fun hb => ?_) (fun hb => ?_)
  · simp only [decide_eq_true_eq] at hb
    exact Ok.of ⟨hR, by omega, by omega, by omega⟩
  simp only [decide_eq_false_iff_not] at hb
  refine Ok.bif (fun hc => ?_) (fun hc => ?_)
  · exact Ok.of ⟨hR, by omega, by omega, by omega⟩
  simp only [decide_eq_false_iff_not] at hc
  refine Ok.bif (fun hd => ?_) (fun hd => ?_)
  · simp only [decide_eq_true_eq] at hd
    refine Ok.bnd (u8_get h1 h3 hd) fun x hx => ?_
    rw [wrap_id (by omega) (by omega), remI_pos (by omega)]
    have := tmod_range (y := n) hx.1 (by omega)
    exact Ok.of ⟨hR, this.1, fun _ => this.2, by omega⟩
  · simp only [decide_eq_false_iff_not] at hd
    have hl : 0 < (b.length : Int) := by omega
    rw [remI_pos (by omega), bnd_some]
    have t1 := tmod_range (x := p) h3 hl
    refine Ok.bnd (u8_get h1 t1.1 t1.2) fun x hx => ?_
    have e3 : wrap64 (p * 7) = p * 7 := wrap_id (by omega) (by omega)
    have e4 : wrap64 (p * 7 + 3) = p * 7 + 3 := wrap_id (by omega) (by omega)
    rw [e3, e4, remI_pos (by omega), bnd_some]
    have t2 := tmod_range (x := p * 7 + 3) (by omega) hl
    refine Ok.bnd (u8_get h1 t2.1 t2.2) fun y hy => ?_
    rw [quoI_pos (by omega), bnd_some]
    have q0 : 0 ≤ p.tdiv b.length ∧ p.tdiv b.length ≤ p := by
      rw [Int.tdiv_eq_ediv_of_nonneg h3]
      exact ⟨Int.ediv_nonneg h3 (by omega), Int.ediv_le_self _ h3⟩
    generalize hq : p.tdiv b.length = q at q0
    have hx2 : wrap64 x = x := wrap_id (by omega) (by omega)
    have hy2 : wrap64 y = y := wrap_id (by omega) (by omega)
    have hq2 : wrap64 q = q := wrap_id (by omega) (by omega)
    rw [hx2, hy2, hq2]
    have f1 : wrap64 (x * 131) = x * 131 := wrap_id (by omega) (by omega)
    have f2 : wrap64 (y * 1117) = y * 1117 := wrap_id (by omega) (by omega)
    have f3 : wrap64 (p * 29) = p * 29 := wrap_id (by omega) (by omega)
    have f4 : wrap64 (q * 53) = q * 53 := wrap_id (by omega) (by omega)
    rw [f1, f2, f3, f4]
    have f5 : wrap64 (x * 131 + y * 1117) = x * 131 + y * 1117 := wrap_id (by omega) (by omega)
    rw [f5]
    have f6 : wrap64 (x * 131 + y * 1117 + p * 29) = x * 131 + y * 1117 + p * 29 := wrap_id (by omega) (by omega)
    rw [f6]
    have f7 : wrap64 (x * 131 + y * 1117 + p * 29 + q * 53) = x * 131 + y * 1117 + p * 29 + q * 53 := wrap_id (by omega) (by omega)
    rw [f7]
    generalize hz : x * 131 + y * 1117 + p * 29 + q * 53 = z
    have hz0 : 0 ≤ z ∧ z < 1000000000000 := by omega
    have hd2 : 0 ≤ z.tdiv 64 ∧ z.tdiv 64 ≤ z := by
      rw [Int.tdiv_eq_ediv_of_nonneg hz0.1]
      omega
    rw [wrap_id (n := z.tdiv 64) (by omega) (by omega), remI_pos (by omega), bnd_some]
    have hxor := xor_nonneg (x := z) (y := z.tdiv 64) hz0.1 (by omega) hd2.1 (by omega)
    have t3 := tmod_range (y := n) hxor.1 (by omega)
    exact Ok.of ⟨hR, t3.1, fun _ => t3.2, by omega⟩

/-- A number that was picked names a place in a list. -/
theorem pick_geti {α : Type} {l : List α} {x n : Int} (h : 0 ≤ x ∧ (1 ≤ n → x < n) ∧ (n < 1 → x = 0)) (hn : 1 ≤ n) (hl : (l.length : Int) = n) : Ok (geti l x) fun y => y ∈ l :=
  (Ok.geti h.1 (by have := h.2.1 hn; omega)).mono fun y hy => hy.1

theorem l91Op_ok {b : List Int} {p m : Int} (h : Rd b p m) (hm : m ≤ 999999990) : Ok (spec_l91Op b p) fun r => Rd r.2.1 r.2.2 (m + 1) ∧ (1 ≤ r.1 ∧ r.1 ≤ 12) := by
  apply Ok.le (spec_l91Op_le b p)
  refine Ok.bnd (pick_ok h (by omega) (by decide)) fun r1 h1 => ?_
  have := h1.2.2.1 (by omega)
  rw [wrap_id (by omega) (by omega)]
  exact Ok.of ⟨h1.1, by dsimp only; omega⟩

theorem geti_some {α : Type} {l : List α} {i : Nat} (h : i < l.length) : geti l (i : Int) = some l[i] := by
  rw [geti_nat', List.getElem?_eq_getElem h]

theorem wrap_succ {i : Nat} (h : (i : Int) < 9223372036854775807) : wrap64 ((i : Int) + 1) = ((i + 1 : Nat) : Int) := by
  rw [wrap_id (by omega) (by omega)]; omega

theorem exp_eta (e : Exp) : (⟨e.op, e.n, e.args⟩ : Exp) = e := by cases e; rfl

theorem stm_eta (s : Stm) : (⟨s.kind, s.var, s.box, ⟨s.e.op, s.e.n, s.e.args⟩, s.body, s.els⟩ : Stm) = s := by
  obtain ⟨k, v, b, e, bd, el⟩ := s
  cases e; rfl

mutual
theorem Exp.ind {P : Exp → Prop} (h : ∀ e : Exp, (∀ a ∈ e.args, P a) → P e) : ∀ e : Exp, P e
  | ⟨o, n, as⟩ => h ⟨o, n, as⟩ (Exp.inds h as)
theorem Exp.inds {P : Exp → Prop} (h : ∀ e : Exp, (∀ a ∈ e.args, P a) → P e) : ∀ l : List Exp, ∀ a ∈ l, P a
  | [], a, ha => by cases ha
  | e :: r, a, ha => by
    rcases List.mem_cons.1 ha with e1 | h1
    · rw [e1]; exact Exp.ind h e
    · exact Exp.inds h r a h1
end

mutual
theorem Stm.ind {P : Stm → Prop} (h : ∀ s : Stm, (∀ a ∈ s.body, P a) → (∀ a ∈ s.els, P a) → P s) : ∀ s : Stm, P s
  | ⟨k, v, b, e, bd, el⟩ => h ⟨k, v, b, e, bd, el⟩ (Stm.inds h bd) (Stm.inds h el)
theorem Stm.inds {P : Stm → Prop} (h : ∀ s : Stm, (∀ a ∈ s.body, P a) → (∀ a ∈ s.els, P a) → P s) : ∀ l : List Stm, ∀ a ∈ l, P a
  | [], a, ha => by cases ha
  | e :: r, a, ha => by
    rcases List.mem_cons.1 ha with e1 | h1
    · rw [e1]; exact Stm.ind h e
    · exact Stm.inds h r a h1
end

/-- Is an expression valid with at most some depth? -/
def expOk : Nat → Exp → Bool
  | 0, _ => false
  | d + 1, e =>
    if e.op = 0 then decide (0 ≤ e.n ∧ e.n ≤ 99999) && e.args.isEmpty
    else if e.op = 13 then decide (0 ≤ e.n ∧ e.n < 4) && e.args.isEmpty
    else decide (1 ≤ e.op ∧ e.op ≤ 12) && decide (e.n = 0) && match e.args with | [a, b] => expOk d a && expOk d b | _ => false

theorem len0 {α : Type} (l : List α) : ((l.length : Int) = 0) ↔ l = [] := by
  constructor
  · intro h; exact List.eq_nil_of_length_eq_zero (by omega)
  · intro h; subst h; rfl

theorem two_args {l : List Exp} : ((l.length : Int) = 2) ↔ ∃ a b, l = [a, b] := by
  constructor
  · intro h
    match l, h with
    | [a, b], _ => exact ⟨a, b, rfl⟩
    | [], h => simp at h
    | [_], h => simp at h
    | _ :: _ :: _ :: _, h => simp at h; omega
  · rintro ⟨a, b, rfl⟩; rfl

theorem geti0 {α : Type} (a : α) (l : List α) : geti (a :: l) 0 = some a := by simp [geti]

theorem geti1 {α : Type} (a b : α) (l : List α) : geti (a :: b :: l) 1 = some b := by simp [geti]

theorem pred_d (d : Nat) (h : d ≤ 5) : wrap64 (((d + 1 : Nat) : Int) - 1) = (d : Int) := by rw [wrap_id (by omega) (by omega)]; omega

theorem impl_exprValid_eq : ∀ (d : Nat) (e : Exp), d ≤ 5 → impl_exprValid e (d : Int) = some (expOk d e)
  | d, e, hd => by
    apply impl_exprValid_le
    simp only [impl_OpValid_eq, bnd_some, exp_eta]
    by_cases h0 : e.op = 0
    · cases d with
      | zero => by_cases h1 : 0 ≤ e.n <;> by_cases h2 : e.n ≤ 99999 <;> by_cases h3 : e.args = [] <;> simp [h0, h1, h2, h3, expOk, len0]
      | succ d => by_cases h1 : 0 ≤ e.n <;> by_cases h2 : e.n ≤ 99999 <;> by_cases h3 : e.args = [] <;> simp [h0, h1, h2, h3, expOk, len0] <;> omega
    · by_cases h13 : e.op = 13
      · cases d with
        | zero => by_cases h1 : 0 ≤ e.n <;> by_cases h2 : e.n < 4 <;> by_cases h3 : e.args = [] <;> simp [h13, h1, h2, h3, expOk, len0]
        | succ d => by_cases h1 : 0 ≤ e.n <;> by_cases h2 : e.n < 4 <;> by_cases h3 : e.args = [] <;> simp [h13, h1, h2, h3, expOk, len0] <;> omega
      · by_cases h1 : 1 ≤ e.op ∧ e.op ≤ 12
        · by_cases h2 : e.n = 0
          · by_cases h3 : (e.args.length : Int) = 2
            · obtain ⟨a, b, hab⟩ := two_args.1 h3
              cases d with
              | zero => simp [h0, h13, h1, h2, h3, expOk]
              | succ d =>
                cases d with
                | zero => simp [h0, h13, h1, h2, h3, expOk, hab]
                | succ d =>
                  have hd1 : (1 : Int) < (d : Int) + 1 + 1 := by omega
                  rw [pred_d (d + 1) (by omega), hab, geti0, geti1]
                  simp only [bnd_some, impl_exprValid_eq (d + 1) _ (by omega)]
                  have e1 : expOk (d + 1 + 1) e = (expOk (d + 1) a && expOk (d + 1) b) := by
                    rw [expOk]; simp [h0, h13, h1, h2, hab]
                  rw [e1]
                  cases expOk (d + 1) a <;> simp [h0, h13, h1, h2, hd1]
            · have hm : (match e.args with | [a, b] => (fun d => expOk d a && expOk d b) | _ => fun _ => false) = fun _ => false := by
                split
                · rename_i a b hab; exact absurd (two_args.2 ⟨a, b, hab⟩) h3
                · rfl
              have e1 : expOk d e = false := by
                cases d with
                | zero => rfl
                | succ d =>
                  rw [expOk]; simp only [h0, h13, if_false]
                  split
                  · rename_i a b hab; exact absurd (two_args.2 ⟨a, b, hab⟩) h3
                  · simp
              rw [e1]; simp [h0, h13, h1, h2, h3]
          · have e1 : expOk d e = false := by cases d <;> simp [expOk, h0, h13, h2]
            rw [e1]; simp [h0, h13, h1, h2]
        · have e1 : expOk d e = false := by cases d <;> simp [expOk, h0, h13, h1]
          rw [e1]; simp [h0, h13, h1]

theorem impl_ExprValid_eq (e : Exp) : impl_ExprValid e = some (expOk 5 e) := by
  apply impl_ExprValid_le
  rw [exp_eta, show (5 : Int) = ((5 : Nat) : Int) by rfl, impl_exprValid_eq 5 e (by omega)]
  rfl

theorem spec_l4Ok_eq : ∀ (d : Nat) (e : Exp), d ≤ 5 → spec_l4Ok e (d : Int) = some (expOk d e)
  | 0, e, hd => by
    apply spec_l4Ok_le
    simp [expOk]
  | d + 1, e, hd => by
    apply spec_l4Ok_le
    have hd0 : ¬ (((d + 1 : Nat) : Int) < 1) := by omega
    simp only [spec_l6In_eq, spec_OpValid_eq, bnd_some, exp_eta, hd0, decide_false, cond_false, expOk]
    by_cases h0 : e.op = 0
    · by_cases h1 : 0 ≤ e.n ∧ e.n ≤ 99999 <;> by_cases h3 : e.args = [] <;> simp [h0, h1, h3, len0]
    · by_cases h13 : e.op = 13
      · have e3 : (e.n < 4) = (e.n ≤ 3) := propext (by omega)
        by_cases h1 : 0 ≤ e.n ∧ e.n ≤ 3 <;> by_cases h3 : e.args = [] <;> simp [h13, h1, h3, len0, e3]
      · by_cases h1 : 1 ≤ e.op ∧ e.op ≤ 12
        · by_cases h2 : e.n = 0
          · by_cases h3 : (e.args.length : Int) = 2
            · obtain ⟨a, b, hab⟩ := two_args.1 h3
              rw [pred_d d (by omega), hab, geti0, geti1]
              simp only [bnd_some, spec_l4Ok_eq d _ (by omega)]
              cases expOk d a <;> simp [h0, h13, h1, h2]
            · have e1 : (match e.args with | [a, b] => expOk d a && expOk d b | _ => false) = false := by
                split
                · rename_i a b hab; exact absurd (two_args.2 ⟨a, b, hab⟩) h3
                · rfl
              rw [e1]; simp [h0, h13, h1, h2, h3]
          · simp [h0, h13, h1, h2]
        · simp [h0, h13, h1]

theorem spec_ExprValid_eq (e : Exp) : spec_ExprValid e = some (expOk 5 e) := by
  apply spec_ExprValid_le
  rw [exp_eta, show (5 : Int) = ((5 : Nat) : Int) by rfl, spec_l4Ok_eq 5 e (by omega)]
  rfl

theorem appL_some {α : Type} {x y : List α} (h : x.length + y.length ≤ 4294967296) : appL x y = some (x ++ y) := by unfold appL; rw [if_pos h]

/-- A drawn expression's slice of arguments has no room. -/
def noRoom (m : Md) : Prop := m = .own false ∨ m = .full

theorem noRoom_dem {m : Md} (h : noRoom m) : noRoom m.dem := by rcases h with rfl | rfl; exact .inl rfl; exact .inr rfl

theorem l4Leaf_eq (o n : Int) : spec_l4Leaf o n = some (o, n, .own false, []) := by apply spec_l4Leaf_le; rfl

theorem l4Both_eq (o : Int) (a b : Exp) : spec_l4Both o a b = some (o, 0, .full, [a, b]) := by apply spec_l4Both_le; simp [exp_eta]

theorem l91Leaf_ok {b : List Int} {p m : Int} (h : Rd b p m) (hm : m ≤ 999999990) : Ok (spec_l91Leaf b p) fun r => Rd r.2.2.2.1 r.2.2.2.2 (m + 2) ∧ noRoom r.2.2.1.1 ∧ r.2.2.1.2.length ≤ 2 := by
  apply Ok.le (spec_l91Leaf_le b p)
  refine Ok.bnd (pick_ok h (by omega) (by decide)) fun r1 h1 => ?_
  refine Ok.bif (fun _ => ?_) (fun _ => ?_)
  · refine Ok.bnd (pick_ok h1.1 (by omega) (by decide)) fun r2 h2 => ?_
    rw [l4Leaf_eq, bnd_some]
    exact Ok.of ⟨h2.1.mono (by omega), .inl rfl, by simp⟩
  refine Ok.bif (fun _ => ?_) (fun _ => ?_)
  · refine Ok.bnd (pick_ok h1.1 (by omega) (by decide)) fun r2 h2 => ?_
    refine Ok.bnd (pick_geti h2.2 (by omega) rfl) fun e he => ?_
    rw [l4Leaf_eq, bnd_some]
    exact Ok.of ⟨h2.1.mono (by omega), .inl rfl, by simp⟩
  · refine Ok.bnd (pick_ok h1.1 (by omega) (by decide)) fun r2 h2 => ?_
    rw [l4Leaf_eq, bnd_some]
    exact Ok.of ⟨h2.1.mono (by omega), .inl rfl, by simp⟩

/-- How many bytes an expression takes at most. -/
def cost : Nat → Int
  | 0 => 2
  | d + 1 => 2 + 2 * cost d

theorem cost_pos : ∀ d, 2 ≤ cost d
  | 0 => by simp [cost]
  | d + 1 => by have := cost_pos d; simp only [cost]; omega

theorem l91Expr_ok : ∀ (d : Nat) {b : List Int} {p m : Int} (n : Int), n = (d : Int) + 1 → d ≤ 10 → Rd b p m → m + cost d ≤ 999999990 →
    Ok (spec_l91Expr n b p) fun r => Rd r.2.2.2.1 r.2.2.2.2 (m + cost d) ∧ noRoom r.2.2.1.1 ∧ r.2.2.1.2.length ≤ 2
  | d, b, p, m, n, hn, hd, h, hm => by
    apply Ok.le (spec_l91Expr_le n b p)
    have hc := cost_pos d
    have leaf : ∀ {b : List Int} {p m' : Int}, Rd b p m' → m' + 2 ≤ m + cost d → Ok (Vs.bnd (spec_l91Leaf b p) fun r1 => some (r1.1, r1.2.1, (Md.dem (Md.dem (Md.dem r1.2.2.1.1)), r1.2.2.1.2), r1.2.2.2.1, r1.2.2.2.2)) fun r => Rd r.2.2.2.1 r.2.2.2.2 (m + cost d) ∧ noRoom r.2.2.1.1 ∧ r.2.2.1.2.length ≤ 2 := by
      intro b p m' h' hm'
      refine Ok.bnd (l91Leaf_ok h' (by omega)) fun r1 h1 => ?_
      exact Ok.of ⟨h1.1.mono hm', noRoom_dem (noRoom_dem (noRoom_dem h1.2.1)), h1.2.2⟩
    refine Ok.bif (fun hb => ?_) (fun hb => ?_)
    · exact leaf h (by omega)
    · simp only [decide_eq_false_iff_not] at hb
      obtain ⟨d, rfl⟩ : ∃ d', d = d' + 1 := ⟨d - 1, by omega⟩
      have hc' := cost_pos d
      simp only [cost] at hm ⊢
      refine Ok.bnd (pick_ok h (by omega) (by decide)) fun r1 h1 => ?_
      refine Ok.bif (fun _ => ?_) (fun _ => ?_)
      · exact (leaf h1.1 (by simp only [cost]; omega)).mono fun r hr => hr
      · refine Ok.bnd (l91Op_ok h1.1 (by omega)) fun r2 h2 => ?_
        rw [wrap_id (n := n - 1) (by omega) (by omega)]
        refine Ok.bnd (l91Expr_ok d (n - 1) (by omega) (by omega) h2.1 (by omega)) fun r3 h3 => ?_
        refine Ok.bnd (l91Expr_ok d (n - 1) (by omega) (by omega) h3.1 (by omega)) fun r4 h4 => ?_
        rw [l4Both_eq, bnd_some]
        exact Ok.of ⟨h4.1.mono (by omega), .inr rfl, by simp⟩

mutual
def emX : Exp → Nat
  | ⟨_, _, as⟩ => emXs as
def emXs : List Exp → Nat
  | [] => 0
  | e :: r => 1 + emX e + emXs r
end

mutual
def mS : Stm → Nat
  | ⟨_, _, _, e, bd, el⟩ => emX e + mSs bd + mSs el
def mSs : List Stm → Nat
  | [] => 0
  | s :: r => 1 + mS s + mSs r
end

theorem emX_eq (e : Exp) : emX e = emXs e.args := by cases e; simp [emX]

theorem mS_eq (s : Stm) : mS s = emX s.e + mSs s.body + mSs s.els := by cases s; simp [mS]

theorem emXs_len : ∀ l : List Exp, l.length ≤ emXs l
  | [] => Nat.le_refl _
  | e :: r => by have := emXs_len r; simp only [emXs, List.length_cons]; omega

theorem mSs_len : ∀ l : List Stm, l.length ≤ mSs l
  | [] => Nat.le_refl _
  | e :: r => by have := mSs_len r; simp only [mSs, List.length_cons]; omega

theorem emX_mem : ∀ {l : List Exp} {e : Exp}, e ∈ l → emX e < emXs l
  | [], e, h => by cases h
  | a :: r, e, h => by
    simp only [emXs]
    rcases List.mem_cons.1 h with rfl | h
    · omega
    · have := emX_mem h; omega

theorem mS_mem : ∀ {l : List Stm} {e : Stm}, e ∈ l → mS e < mSs l
  | [], e, h => by cases h
  | a :: r, e, h => by
    simp only [mSs]
    rcases List.mem_cons.1 h with rfl | h
    · omega
    · have := mS_mem h; omega

mutual
def cS : Stm → Nat
  | ⟨_, _, _, _, bd, el⟩ => 1 + cSs bd + cSs el
def cSs : List Stm → Nat
  | [] => 0
  | s :: r => cS s + cSs r
end

theorem cS_eq (s : Stm) : cS s = 1 + cSs s.body + cSs s.els := by cases s; simp [cS]

theorem cSs_drop {l : List Stm} {i : Nat} (hi : i < l.length) : cSs (l.drop i) = cS l[i] + cSs (l.drop (i + 1)) := by
  rw [List.drop_eq_getElem_cons hi]; simp only [cSs]

theorem cSs_len : ∀ l : List Stm, l.length ≤ cSs l
  | [] => Nat.le_refl _
  | e :: r => by have := cSs_len r; have := cS_eq e; simp only [cSs, List.length_cons]; omega

mutual
theorem cS_le : ∀ s : Stm, cS s ≤ 1 + mS s
  | ⟨_, _, _, e, bd, el⟩ => by have := cSs_le bd; have := cSs_le el; simp only [cS, mS]; omega
theorem cSs_le : ∀ l : List Stm, cSs l ≤ mSs l
  | [] => Nat.le_refl _
  | s :: r => by have := cS_le s; have := cSs_le r; simp only [cSs, mSs]; omega
end

theorem cS_mem : ∀ {l : List Stm} {e : Stm}, e ∈ l → cS e ≤ cSs l
  | [], e, h => by cases h
  | a :: r, e, h => by
    simp only [cSs]
    rcases List.mem_cons.1 h with rfl | h
    · omega
    · have := cS_mem h; omega

theorem count_ls {l : List Stm} (hp : ∀ s ∈ l, spec_l11Count s.body = some (cSs s.body : Int) ∧ spec_l11Count s.els = some (cSs s.els : Int)) (hb : cSs l ≤ 4294967296) :
    ∀ (d i : Nat) (k : Int), i + d = l.length → 0 ≤ k → k + cSs (l.drop i) ≤ 4294967296 → spec_l11Count_l1 l k i = some (k + cSs (l.drop i))
  | 0, i, k, hd, h0, h1 => by
    apply spec_l11Count_l1_le
    have hi : ¬ ((i : Int) < l.length) := by omega
    rw [List.drop_eq_nil_of_le (by omega)]
    simp [hi, cSs]
  | d + 1, i, k, hd, h0, h1 => by
    apply spec_l11Count_l1_le
    have hi : i < l.length := by omega
    have hi' : (i : Int) < l.length := by omega
    obtain ⟨p1, p2⟩ := hp _ (List.getElem_mem hi)
    have hlen := cSs_len l
    have hc := cSs_drop hi
    have hs := cS_eq l[i]
    rw [geti_some hi, wrap_succ (by omega)]
    simp only [hi', decide_true, cond_true, bnd_some, p1, p2]
    rw [wrap_id (n := k + 1) (by omega) (by omega), wrap_id (n := k + 1 + (cSs l[i].body : Int)) (by omega) (by omega), wrap_id (by omega) (by omega),
      count_ls hp hb d (i + 1) _ (by omega) (by omega) (by omega)]
    congr 1; omega

theorem spec_l11Count_eq_ {l : List Stm} (hp : ∀ s ∈ l, spec_l11Count s.body = some (cSs s.body : Int) ∧ spec_l11Count s.els = some (cSs s.els : Int)) (hb : cSs l ≤ 4294967296) : spec_l11Count l = some (cSs l : Int) := by
  apply spec_l11Count_le
  have := count_ls hp hb l.length 0 0 (by omega) (by omega) (by simp; omega)
  rw [show ((0 : Nat) : Int) = 0 by rfl] at this
  rw [this]; simp

theorem count_parts : ∀ s : Stm, cS s ≤ 4294967296 → spec_l11Count s.body = some (cSs s.body : Int) ∧ spec_l11Count s.els = some (cSs s.els : Int) := by
  apply Stm.ind
  intro s ih1 ih2 hb
  rw [cS_eq] at hb
  exact ⟨spec_l11Count_eq_ (fun a ha => ih1 a ha (by have := cS_mem ha; omega)) (by omega), spec_l11Count_eq_ (fun a ha => ih2 a ha (by have := cS_mem ha; omega)) (by omega)⟩

theorem spec_l11Count_eq {l : List Stm} (hb : cSs l ≤ 4294967296) : spec_l11Count l = some (cSs l : Int) :=
  spec_l11Count_eq_ (fun s hs => count_parts s (by have := cS_mem hs; omega)) hb

/-- What a statement's own parts must be. -/
def hdr (s : Stm) : Prop :=
  (s.kind = 1 ∧ (0 ≤ s.var ∧ s.var < 4) ∧ s.box = 0 ∧ expOk 5 s.e = true ∧ (s.body.length : Int) = 0 ∧ (s.els.length : Int) = 0) ∨
  (s.kind = 2 ∧ s.var = 0 ∧ s.box = 0 ∧ expOk 5 s.e = true) ∨
  (s.kind = 3 ∧ s.var = 0 ∧ s.box = 0 ∧ expOk 5 s.e = true ∧ (s.els.length : Int) = 0) ∨
  (s.kind = 4 ∧ s.var = 0 ∧ (0 ≤ s.box ∧ s.box < 3) ∧ expOk 5 s.e = true ∧ (s.body.length : Int) = 0 ∧ (s.els.length : Int) = 0) ∨
  (s.kind = 5 ∧ (0 ≤ s.var ∧ s.var < 4) ∧ (0 ≤ s.box ∧ s.box < 3) ∧ (s.e.op = 0 ∧ s.e.n = 0 ∧ (s.e.args.length : Int) = 0) ∧ (s.body.length : Int) = 0 ∧ (s.els.length : Int) = 0) ∨
  (s.kind = 6 ∧ s.var = 0 ∧ s.box = 0 ∧ (s.e.op = 0 ∧ s.e.n = 0 ∧ (s.e.args.length : Int) = 0) ∧ (s.body.length : Int) = 0 ∧ (s.els.length : Int) = 0) ∨
  (s.kind = 7 ∧ s.var = 0 ∧ s.box = 0 ∧ expOk 5 s.e = true ∧ (s.body.length : Int) = 0 ∧ (s.els.length : Int) = 0)

instance (s : Stm) : Decidable (hdr s) := by unfold hdr; infer_instance

def sOk : Nat → Stm → Bool
  | 0, s => decide (hdr s) && !decide (s.kind = 2 ∨ s.kind = 3)
  | d + 1, s => decide (hdr s) && (if s.kind = 2 ∨ s.kind = 3 then s.body.all (sOk d) && s.els.all (sOk d) else true)

theorem impl_stmtValid_1_eq (x n : Int) (b : Bool) (hn : 1 ≤ n) : impl_stmtValid_1 x n b = some (decide (if b then 0 ≤ x ∧ x < n else x = 0)) := by
  apply impl_stmtValid_1_le
  cases b
  · by_cases h : x = 0 <;> simp [h]
  · by_cases h : x = 0
    · simp [h]; omega
    · by_cases h2 : 0 < x
      · simp [h, h2]; omega
      · simp [h, h2]; omega

theorem impl_stmtValid_eq (s : Stm) : impl_stmtValid s 3 = some (decide (hdr s)) := by
  apply impl_stmtValid_le
  simp only [impl_stmtValid_1_eq _ 4 _ (by omega), impl_stmtValid_1_eq _ 3 _ (by omega), impl_ExprValid_eq, exp_eta, bnd_some, cond_some]
  apply some_dec
  obtain ⟨k, v, b, e, bd, el⟩ := s
  have a1 : (0 : Int) ≤ bd.length := by omega
  have a2 : (0 : Int) ≤ el.length := by omega
  have a3 : (0 : Int) ≤ e.args.length := by omega
  simp only [hdr, cond_iff, decide_eq_true_eq, if_true, Bool.false_eq_true, if_false, Bool.not_eq_true', decide_eq_false_iff_not]
  generalize (bd.length : Int) = n1 at a1
  generalize (el.length : Int) = n2 at a2
  generalize (e.args.length : Int) = n3 at a3
  cases hv : expOk 5 e
  all_goals
    by_cases h1 : k = 1
    · subst h1; simp; try omega
    by_cases h2 : k = 2
    · subst h2; simp; try omega
    by_cases h3 : k = 3
    · subst h3; simp; try omega
    by_cases h4 : k = 4
    · subst h4; simp; try omega
    by_cases h5 : k = 5
    · subst h5; simp; try omega
    by_cases h7 : k = 7
    · subst h7; simp; try omega
    by_cases h6 : k = 6
    · subst h6; simp; try omega
    simp [h1, h2, h3, h4, h5, h6, h7]

theorem spec_l11Var_eq (s : Stm) (b : Bool) : spec_l11Var s b = some (decide (if b then 0 ≤ s.var ∧ s.var < 4 else s.var = 0)) := by
  apply spec_l11Var_le
  simp only [spec_l6In_eq, bnd_some, cond_some]
  apply some_dec
  cases b <;> simp; omega

theorem spec_l11Box_eq (s : Stm) (b : Bool) : spec_l11Box s b = some (decide (if b then 0 ≤ s.box ∧ s.box < 3 else s.box = 0)) := by
  apply spec_l11Box_le
  simp only [spec_l6In_eq, bnd_some, cond_some]
  apply some_dec
  cases b <;> simp; omega

theorem spec_l11Plain_eq (e : Exp) : spec_l11Plain e = some (decide (e.op = 0 ∧ e.n = 0 ∧ (e.args.length : Int) = 0)) := by
  apply spec_l11Plain_le
  simp only [cond_some]
  apply some_dec
  simp only [cond_iff, decide_eq_true_eq, Bool.false_eq_true]
  by_cases h : e.op = 0 <;> by_cases h2 : e.n = 0 <;> simp [h, h2]

theorem spec_l11Simple_eq (s : Stm) (n2 : s.kind ≠ 2) (n3 : s.kind ≠ 3) : spec_l11Simple s = some (decide (hdr s)) := by
  apply spec_l11Simple_le
  simp only [stm_eta, exp_eta, spec_l11Var_eq, spec_l11Box_eq, spec_l11Plain_eq, spec_ExprValid_eq, bnd_some, cond_some]
  apply some_dec
  obtain ⟨k, v, b, e, bd, el⟩ := s
  have a1 : (0 : Int) ≤ bd.length := by omega
  have a2 : (0 : Int) ≤ el.length := by omega
  have a3 : (0 : Int) ≤ e.args.length := by omega
  simp only [hdr, cond_iff, decide_eq_true_eq, if_true, Bool.false_eq_true, if_false, Bool.not_eq_true', decide_eq_false_iff_not]
  generalize (bd.length : Int) = n1 at a1
  generalize (el.length : Int) = n2' at a2
  generalize (e.args.length : Int) = n3' at a3
  simp only [] at n2 n3
  cases hv : expOk 5 e
  all_goals
    by_cases h1 : k = 1
    · subst h1; simp; try omega
    by_cases h4 : k = 4
    · subst h4; simp; try omega
    by_cases h5 : k = 5
    · subst h5; simp; try omega
    by_cases h7 : k = 7
    · subst h7; simp; try omega
    by_cases h6 : k = 6
    · subst h6; simp; try omega
    simp [h1, n2, n3, h4, h5, h6, h7]

theorem hdr2 {s : Stm} (h : s.kind = 2) : hdr s ↔ s.var = 0 ∧ s.box = 0 ∧ expOk 5 s.e = true := by simp [hdr, h]

theorem hdr3 {s : Stm} (h : s.kind = 3) : hdr s ↔ s.var = 0 ∧ s.box = 0 ∧ expOk 5 s.e = true ∧ (s.els.length : Int) = 0 := by simp [hdr, h]

theorem if_alike {α : Type} {P Q : Prop} [Decidable P] [Decidable Q] {a b c : α} (h : P ↔ Q) (ha : a = b) : (if P then a else c) = if Q then b else c := by
  subst ha
  by_cases hp : P
  · rw [if_pos hp, if_pos (h.1 hp)]
  · rw [if_neg hp, if_neg fun x => hp (h.2 x)]

theorem blocks_l {l : List Stm} {n : Int} {f : Stm → Bool} (hl : (l.length : Int) ≤ 4294967296) (hp : ∀ s ∈ l, spec_l11Ok s n = some (f s)) :
    ∀ (d i : Nat), i + d = l.length → spec_l11Blocks_l1 l n i = some (if (l.drop i).all f then .inl () else .inr false)
  | 0, i, hd => by
    apply spec_l11Blocks_l1_le
    have hi : ¬ ((i : Int) < l.length) := by omega
    rw [List.drop_eq_nil_of_le (by omega)]
    simp [hi]
  | d + 1, i, hd => by
    apply spec_l11Blocks_l1_le
    have hi : i < l.length := by omega
    have hi' : (i : Int) < l.length := by omega
    rw [geti_some hi, wrap_succ (by omega), blocks_l hl hp d (i + 1) (by omega)]
    have e1 : (l.drop i).all f = (f l[i] && (l.drop (i + 1)).all f) := by rw [List.drop_eq_getElem_cons hi, List.all_cons]
    rw [e1]
    simp only [hi', decide_true, cond_true, bnd_some, stm_eta, hp _ (List.getElem_mem hi)]
    cases f l[i] <;> simp

theorem spec_l11Blocks_eq_ {l : List Stm} {n : Int} {f : Stm → Bool} (hl : (l.length : Int) ≤ 4294967296) (hp : ∀ s ∈ l, spec_l11Ok s n = some (f s)) : spec_l11Blocks l n = some (l.all f) := by
  apply spec_l11Blocks_le
  rw [show (0 : Int) = ((0 : Nat) : Int) by rfl, blocks_l hl hp l.length 0 (by omega), List.drop_zero]
  cases l.all f <;> simp [selm]

theorem spec_l11Ok_eq : ∀ (d : Nat) (s : Stm), d ≤ 3 → mS s ≤ 4294967296 → spec_l11Ok s (d : Int) = some (sOk d s)
  | 0, s, hd, hm => by
    apply spec_l11Ok_le
    by_cases h2 : s.kind = 2
    · simp [h2, sOk]
    · by_cases h3 : s.kind = 3
      · simp [h3, sOk]
      · simp [h2, h3, sOk, stm_eta, spec_l11Simple_eq s h2 h3]
  | d + 1, s, hd, hm => by
    apply spec_l11Ok_le
    have hm' := mS_eq s
    have l1 := mSs_len s.body
    have l2 := mSs_len s.els
    have hd0 : ¬ (((d + 1 : Nat) : Int) < 1) := by omega
    have b1 : spec_l11Blocks s.body (d : Int) = some (s.body.all (sOk d)) := spec_l11Blocks_eq_ (by omega) fun a ha => spec_l11Ok_eq d a (by omega) (by have := mS_mem ha; omega)
    have b2 : spec_l11Blocks s.els (d : Int) = some (s.els.all (sOk d)) := spec_l11Blocks_eq_ (by omega) fun a ha => spec_l11Ok_eq d a (by omega) (by have := mS_mem ha; omega)
    rw [show wrap64 (((d + 1 : Nat) : Int) - 1) = (d : Int) by rw [wrap_id (by omega) (by omega)]; omega]
    simp only [stm_eta, exp_eta, spec_l11Var_eq, spec_l11Box_eq, spec_ExprValid_eq, b1, b2, bnd_some, hd0, decide_false, cond_false]
    by_cases h2 : s.kind = 2
    · have h3 : s.kind ≠ 3 := by omega
      have hh : decide (hdr s) = (decide (s.var = 0) && decide (s.box = 0) && expOk 5 s.e) := by
        rw [Bool.eq_iff_iff]; simp [hdr2 h2, and_assoc]
      simp only [sOk, hh, h2, true_or, if_true]
      by_cases v : s.var = 0 <;> by_cases b : s.box = 0 <;> cases expOk 5 s.e <;> cases s.body.all (sOk d) <;> simp [v, b]
    · by_cases h3 : s.kind = 3
      · by_cases he : (s.els.length : Int) = 0
        · have hh : decide (hdr s) = (decide (s.var = 0) && decide (s.box = 0) && expOk 5 s.e) := by
            rw [Bool.eq_iff_iff]; simp [hdr3 h3, and_assoc, he]
          simp only [sOk, hh, h3, or_true, if_true]
          by_cases v : s.var = 0 <;> by_cases b : s.box = 0 <;> cases expOk 5 s.e <;> cases s.body.all (sOk d) <;> simp [v, b, he]
        · have hh : decide (hdr s) = false := by
            simp [hdr3 h3]; intro _ _ _ h; exact absurd (by rw [h]; rfl) he
          have hpos : 0 < (s.els.length : Int) := by omega
          simp only [sOk, hh, h3, or_true, if_true, hpos]
          simp
      · have hh := spec_l11Simple_eq s h2 h3
        simp only [sOk, h2, h3, or_false, if_false]
        simp [h2, h3]
        show bnd (spec_l11Simple s) _ = _
        rw [hh]; rfl

theorem spec_l11Blocks_eq {d : Nat} {l : List Stm} (hd : d ≤ 3) (hm : mSs l ≤ 4294967296) : spec_l11Blocks l (d : Int) = some (l.all (sOk d)) :=
  spec_l11Blocks_eq_ (by have := mSs_len l; omega) fun s hs => spec_l11Ok_eq d s hd (by have := mS_mem hs; omega)

theorem block_l {l : List Stm} {d0 : Nat} (hl : (l.length : Int) ≤ 4294967296) (hd0 : d0 ≤ 3)
    (hp : ∀ d, d0 = d + 1 → ∀ (bl : List Stm) (n : Int), (∃ s ∈ l, bl = s.body ∨ bl = s.els) → 0 ≤ n → n ≤ 16 → ∃ c, impl_blockValid bl 3 (3 - (d : Int)) n = some (decide (bl.all (sOk d) = true ∧ n + cSs bl ≤ 16), c) ∧ (bl.all (sOk d) = true → n + cSs bl ≤ 16 → c = n + cSs bl)) :
    ∀ (d i : Nat) (n : Int), i + d = l.length → 0 ≤ n → n ≤ 16 → ∃ c, impl_blockValid_l1 l 3 (3 - (d0 : Int)) l.length i n = some (if (l.drop i).all (sOk d0) = true ∧ n + (cSs (l.drop i) - (l.length - i : Int)) ≤ 16 then .inl (n + (cSs (l.drop i) - (l.length - i : Int))) else .inr (false, c))
  | 0, i, n, hd, h0, h1 => by
    refine ⟨0, ?_⟩
    apply impl_blockValid_l1_le
    have hi : ¬ ((i : Int) < l.length) := by omega
    rw [List.drop_eq_nil_of_le (by omega), if_pos ⟨by simp, by simp [cSs]; omega⟩]
    simp [hi, cSs]; omega
  | d + 1, i, n, hd, h0, h1 => by
    have hi : i < l.length := by omega
    have hi' : (i : Int) < l.length := by omega
    have e1 : (l.drop i).all (sOk d0) = (sOk d0 l[i] && (l.drop (i + 1)).all (sOk d0)) := by rw [List.drop_eq_getElem_cons hi, List.all_cons]
    have e2 := cSs_drop hi
    have e3 := cS_eq l[i]
    have e4 := cSs_len (l.drop (i + 1))
    rw [List.length_drop] at e4
    have hn3 : ¬ ((3 : Int) < 3 - (d0 : Int)) := by omega
    by_cases hh : hdr l[i]
    · by_cases hk : l[i].kind = 2 ∨ l[i].kind = 3
      · cases d0 with
        | zero =>
          have s0 : sOk 0 l[i] = false := by simp [sOk, hk]
          refine ⟨n, ?_⟩
          apply impl_blockValid_l1_le
          rw [geti_some hi, e1, s0]
          simp only [hi', decide_true, cond_true, bnd_some, stm_eta, impl_stmtValid_eq, hh, Bool.not_true, cond_false]
          rcases hk with hk | hk <;> simp [hk]
        | succ d1 =>
          have hn4 : ¬ ((3 : Int) ≤ 3 - ((d1 + 1 : Nat) : Int)) := by omega
          have hw : wrap64 (3 - ((d1 + 1 : Nat) : Int) + 1) = 3 - (d1 : Int) := by rw [wrap_id (by omega) (by omega)]; omega
          have s1 : sOk (d1 + 1) l[i] = (l[i].body.all (sOk d1) && l[i].els.all (sOk d1)) := by simp [sOk, hh, hk]
          obtain ⟨c1, k1, k2⟩ := hp d1 rfl l[i].body n ⟨l[i], List.getElem_mem hi, .inl rfl⟩ h0 h1
          by_cases g1 : l[i].body.all (sOk d1) = true ∧ n + cSs l[i].body ≤ 16
          · have hc1 := k2 g1.1 g1.2
            obtain ⟨c2, m1, m2⟩ := hp d1 rfl l[i].els (n + cSs l[i].body) ⟨l[i], List.getElem_mem hi, .inr rfl⟩ (by omega) g1.2
            by_cases g2 : l[i].els.all (sOk d1) = true ∧ n + cSs l[i].body + cSs l[i].els ≤ 16
            · have hc2 := m2 g2.1 g2.2
              obtain ⟨c, hc⟩ := block_l hl hd0 hp d (i + 1) (n + cSs l[i].body + cSs l[i].els) (by omega) (by omega) g2.2
              refine ⟨c, ?_⟩
              apply impl_blockValid_l1_le
              rw [geti_some hi, e1, s1, g1.1, g2.1, wrap_succ (by omega), hw]
              subst hc1 hc2
              have dk1 : decide (l[i].body.all (sOk d1) = true ∧ n + (cSs l[i].body : Int) ≤ 16) = true := decide_eq_true g1
              have dk2 : decide (l[i].els.all (sOk d1) = true ∧ n + (cSs l[i].body : Int) + (cSs l[i].els : Int) ≤ 16) = true := decide_eq_true g2
              rw [dk1] at k1
              rw [dk2] at m1
              have hcond : ((true && true && (l.drop (i + 1)).all (sOk (d1 + 1))) = true ∧ n + ((cSs (l.drop i) : Int) - ((l.length : Int) - (i : Int))) ≤ 16) ↔ ((l.drop (i + 1)).all (sOk (d1 + 1)) = true ∧ n + (cSs l[i].body : Int) + (cSs l[i].els : Int) + ((cSs (l.drop (i + 1)) : Int) - ((l.length : Int) - ((i + 1 : Nat) : Int))) ≤ 16) := by
                simp only [Bool.true_and, Bool.and_true]
                constructor
                · rintro ⟨x, y⟩; exact ⟨x, by omega⟩
                · rintro ⟨x, y⟩; exact ⟨x, by omega⟩
              have hval : n + ((cSs (l.drop i) : Int) - ((l.length : Int) - (i : Int))) = n + (cSs l[i].body : Int) + (cSs l[i].els : Int) + ((cSs (l.drop (i + 1)) : Int) - ((l.length : Int) - ((i + 1 : Nat) : Int))) := by omega
              rw [if_alike hcond (congrArg (Sum.inl (β := Bool × Int)) hval), ← hc]
              simp only [hi', decide_true, cond_true, bnd_some, stm_eta, impl_stmtValid_eq, hh, Bool.not_true, cond_false, hn3, hn4, decide_false, k1, m1]
              rcases hk with hk | hk <;> simp [hk]
            · refine ⟨c2, ?_⟩
              apply impl_blockValid_l1_le
              rw [geti_some hi, e1, s1, g1.1, hw]
              subst hc1
              have dk1 : decide (l[i].body.all (sOk d1) = true ∧ n + (cSs l[i].body : Int) ≤ 16) = true := decide_eq_true g1
              have dk2 : decide (l[i].els.all (sOk d1) = true ∧ n + (cSs l[i].body : Int) + (cSs l[i].els : Int) ≤ 16) = false := decide_eq_false g2
              rw [dk1] at k1
              rw [dk2] at m1
              rw [if_neg (by
                rintro ⟨x, y⟩
                simp only [Bool.true_and, Bool.and_eq_true] at x
                exact g2 ⟨x.1, by omega⟩)]
              simp only [hi', decide_true, cond_true, bnd_some, stm_eta, impl_stmtValid_eq, hh, Bool.not_true, cond_false, hn3, hn4, decide_false, k1, m1]
              rcases hk with hk | hk <;> simp [hk]
          · refine ⟨c1, ?_⟩
            apply impl_blockValid_l1_le
            rw [geti_some hi, e1, s1, hw]
            have dk1 : decide (l[i].body.all (sOk d1) = true ∧ n + (cSs l[i].body : Int) ≤ 16) = false := decide_eq_false g1
            rw [dk1] at k1
            rw [if_neg (by
              rintro ⟨x, y⟩
              simp only [Bool.and_eq_true] at x
              exact g1 ⟨x.1.1, by omega⟩)]
            simp only [hi', decide_true, cond_true, bnd_some, stm_eta, impl_stmtValid_eq, hh, Bool.not_true, cond_false, hn3, hn4, decide_false, k1]
            rcases hk with hk | hk <;> simp [hk]
      · have n2 : l[i].kind ≠ 2 := fun h => hk (.inl h)
        have n3 : l[i].kind ≠ 3 := fun h => hk (.inr h)
        have s1 : sOk d0 l[i] = true := by cases d0 <;> simp [sOk, hh, n2, n3]
        have hbe : l[i].body = [] ∧ l[i].els = [] := by
          have hh' := hh
          simp only [hdr, n2, n3, false_and, false_or] at hh'
          have : (l[i].body.length : Int) = 0 ∧ (l[i].els.length : Int) = 0 := by
            rcases hh' with h | h | h | h | h
            · exact ⟨h.2.2.2.2.1, h.2.2.2.2.2⟩
            · exact ⟨h.2.2.2.2.1, h.2.2.2.2.2⟩
            · exact ⟨h.2.2.2.2.1, h.2.2.2.2.2⟩
            · exact ⟨h.2.2.2.2.1, h.2.2.2.2.2⟩
            · exact ⟨h.2.2.2.2.1, h.2.2.2.2.2⟩
          exact ⟨List.eq_nil_of_length_eq_zero (by omega), List.eq_nil_of_length_eq_zero (by omega)⟩
        rw [hbe.1, hbe.2] at e3
        simp only [cSs] at e3
        obtain ⟨c, hc⟩ := block_l hl hd0 hp d (i + 1) n (by omega) h0 h1
        refine ⟨c, ?_⟩
        apply impl_blockValid_l1_le
        rw [geti_some hi, e1, s1, wrap_succ (by omega)]
        have hcond : ((true && (l.drop (i + 1)).all (sOk d0)) = true ∧ n + ((cSs (l.drop i) : Int) - ((l.length : Int) - (i : Int))) ≤ 16) ↔ ((l.drop (i + 1)).all (sOk d0) = true ∧ n + ((cSs (l.drop (i + 1)) : Int) - ((l.length : Int) - ((i + 1 : Nat) : Int))) ≤ 16) := by
          simp only [Bool.true_and]
          constructor
          · rintro ⟨x, y⟩; exact ⟨x, by omega⟩
          · rintro ⟨x, y⟩; exact ⟨x, by omega⟩
        have hval : n + ((cSs (l.drop i) : Int) - ((l.length : Int) - (i : Int))) = n + ((cSs (l.drop (i + 1)) : Int) - ((l.length : Int) - ((i + 1 : Nat) : Int))) := by omega
        rw [if_alike hcond (congrArg (Sum.inl (β := Bool × Int)) hval), ← hc]
        simp only [hi', decide_true, cond_true, bnd_some, stm_eta, impl_stmtValid_eq, hh, Bool.not_true, cond_false, hn3, decide_false]
        simp [n2, n3]
    · have s1 : sOk d0 l[i] = false := by cases d0 <;> simp [sOk, hh]
      refine ⟨n, ?_⟩
      apply impl_blockValid_l1_le
      rw [geti_some hi, e1, s1]
      simp only [hi', decide_true, cond_true, bnd_some, stm_eta, impl_stmtValid_eq, hh, decide_false, Bool.not_false]
      simp

theorem impl_blockValid_eq : ∀ (d : Nat) (l : List Stm) (n : Int), d ≤ 3 → mSs l ≤ 4294967296 → 0 ≤ n → n ≤ 16 →
    ∃ c, impl_blockValid l 3 (3 - (d : Int)) n = some (decide (l.all (sOk d) = true ∧ n + cSs l ≤ 16), c) ∧ (l.all (sOk d) = true → n + cSs l ≤ 16 → c = n + cSs l)
  | d, l, n, hd, hm, h0, h1 => by
    have hlen := mSs_len l
    have hcl := cSs_len l
    by_cases hc : (16 : Int) < n + l.length
    · refine ⟨n + l.length, ?_, fun _ h => by omega⟩
      apply impl_blockValid_le
      rw [wrap_id (by omega) (by omega)]
      have : ¬ (l.all (sOk d) = true ∧ n + (cSs l : Int) ≤ 16) := fun h => by omega
      rw [decide_eq_false this]
      simp [hc]
    · obtain ⟨c, h⟩ := block_l (l := l) (d0 := d) (by omega) hd (fun d1 e1 bl m hb g0 g1 => by
        obtain ⟨s, hs, hbl⟩ := hb
        have := mS_mem hs
        have := mS_eq s
        have hmb : mSs bl ≤ 4294967296 := by rcases hbl with rfl | rfl <;> omega
        exact impl_blockValid_eq d1 bl m (by omega) hmb g0 g1) l.length 0 (n + l.length) (by omega) (by omega) (by omega)
      rw [List.drop_zero] at h
      by_cases g : l.all (sOk d) = true ∧ n + (cSs l : Int) ≤ 16
      · refine ⟨n + cSs l, ?_, fun _ _ => rfl⟩
        apply impl_blockValid_le
        rw [wrap_id (by omega) (by omega), show (0 : Int) = ((0 : Nat) : Int) by rfl, h, if_pos ⟨g.1, by omega⟩, decide_eq_true g]
        simp only [hc, decide_false, cond_false, bnd_some, selm]
        congr 2; omega
      · refine ⟨c, ?_, fun a b => absurd ⟨a, b⟩ g⟩
        apply impl_blockValid_le
        rw [wrap_id (by omega) (by omega), show (0 : Int) = ((0 : Nat) : Int) by rfl, h, if_neg (fun x => g ⟨x.1, by omega⟩), decide_eq_false g]
        simp only [hc, decide_false, cond_false, bnd_some, selm]
  termination_by d => d

def stOk (l : List Stm) : Bool := decide (l.all (sOk 3) = true ∧ (cSs l : Int) ≤ 16)

theorem impl_stmtsValid_eq (l : List Stm) (hm : mSs l ≤ 4294967296) : impl_stmtsValid l 3 = some (stOk l) := by
  apply impl_stmtsValid_le
  obtain ⟨c, h, _⟩ := impl_blockValid_eq 3 l 0 (by omega) hm (by omega) (by omega)
  rw [show (3 : Int) - ((3 : Nat) : Int) = 0 by omega] at h
  rw [h, bnd_some]
  simp [stOk]

theorem spec_StmtsValid_eq (l : List Stm) (hm : mSs l ≤ 4294967296) : spec_StmtsValid l = some (stOk l) := by
  apply spec_StmtsValid_le
  have hc := cSs_le l
  rw [show (3 : Int) = ((3 : Nat) : Int) by rfl, spec_l11Blocks_eq (by omega) hm, bnd_some, spec_l11Count_eq (by omega)]
  unfold stOk
  cases l.all (sOk 3) <;> simp

theorem cut_one {α : Type} {l : List α} {i : Nat} (hi : i < l.length) : cutL l (i : Int) ((i + 1 : Nat) : Int) = some [l[i]] := by
  unfold cutL
  rw [if_pos (by omega)]
  simp only [Int.toNat_natCast, Option.some.injEq]
  rw [List.drop_take, List.drop_eq_getElem_cons hi, show i + 1 - i = 1 by omega]
  simp only [List.take_succ_cons, List.take_zero]

def words (l : List Int) : Bool := l.all fun n => decide (-2147483648 ≤ n ∧ n ≤ 2147483647)

theorem areWords_l {l : List Int} (hl : (l.length : Int) ≤ 4294967296) : ∀ (d i : Nat), i + d = l.length → impl_areWords_l1 l l.length i = some (if words (l.drop i) then .inl () else .inr false)
  | 0, i, hd => by
    apply impl_areWords_l1_le
    have hi : ¬ ((i : Int) < l.length) := by omega
    rw [List.drop_eq_nil_of_le (by omega)]
    simp [hi, words]
  | d + 1, i, hd => by
    apply impl_areWords_l1_le
    have hi : i < l.length := by omega
    have hi' : (i : Int) < l.length := by omega
    have e1 : words (l.drop i) = (decide (-2147483648 ≤ l[i] ∧ l[i] ≤ 2147483647) && words (l.drop (i + 1))) := by unfold words; rw [List.drop_eq_getElem_cons hi, List.all_cons]
    rw [geti_some hi, wrap_succ (by omega), areWords_l hl d (i + 1) (by omega), e1]
    simp only [hi', decide_true, cond_true, bnd_some, impl_WordValid_eq]
    cases decide (-2147483648 ≤ l[i] ∧ l[i] ≤ 2147483647) <;> simp

theorem impl_areWords_eq {l : List Int} (hl : (l.length : Int) ≤ 4294967296) : impl_areWords l = some (words l) := by
  apply impl_areWords_le
  rw [show (0 : Int) = ((0 : Nat) : Int) by rfl, areWords_l hl l.length 0 (by omega), List.drop_zero]
  cases words l <;> simp [selm]

def rests (l : List Stm) : Bool := l.all fun s => stOk [s]

theorem mSs_one (s : Stm) : mSs [s] = 1 + mS s := by simp [mSs]

def taskOk (t : Tk) : Bool := decide ((t.vars.length : Int) = 4) && words t.vars && rests t.rest

def hdN (many : Int) (s : Stm) : Prop := hdr s ∧ (s.kind = 4 ∨ s.kind = 5 → s.box < many)

instance (many : Int) (s : Stm) : Decidable (hdN many s) := by unfold hdN; infer_instance

def gOk (many : Int) : Nat → Stm → Bool
  | 0, s => decide (hdN many s) && !decide (s.kind = 2 ∨ s.kind = 3)
  | d + 1, s => decide (hdN many s) && (if s.kind = 2 ∨ s.kind = 3 then s.body.all (gOk many d) && s.els.all (gOk many d) else true)

theorem impl_stmtValid_1_zero (x n : Int) (hn : 0 ≤ n) : impl_stmtValid_1 x n true = some (decide (x = 0 ∨ (0 ≤ x ∧ x < n))) := by
  apply impl_stmtValid_1_le
  by_cases h : x = 0
  · simp [h]
  · by_cases h2 : 0 < x
    · simp [h, h2]; omega
    · simp [h, h2]; omega

theorem impl_stmtValid_1_false (x n : Int) : impl_stmtValid_1 x n false = some (decide (x = 0)) := by
  apply impl_stmtValid_1_le
  by_cases h : x = 0 <;> simp [h]

theorem impl_stmtValid_n {many : Int} (hmn : 0 ≤ many ∧ many ≤ 3) (s : Stm) : impl_stmtValid s many = some (decide (hdN many s)) := by
  apply impl_stmtValid_le
  simp only [impl_stmtValid_1_zero _ many hmn.1, impl_stmtValid_1_eq _ 4 true (by omega), impl_stmtValid_1_false, impl_ExprValid_eq, exp_eta, bnd_some, cond_some]
  apply some_dec
  obtain ⟨k, v, b, e, bd, el⟩ := s
  have a1 : (0 : Int) ≤ bd.length := by omega
  have a2 : (0 : Int) ≤ el.length := by omega
  have a3 : (0 : Int) ≤ e.args.length := by omega
  simp only [hdN, hdr, cond_iff, decide_eq_true_eq, if_true, Bool.false_eq_true, if_false, Bool.not_eq_true', decide_eq_false_iff_not]
  generalize (bd.length : Int) = n1 at a1
  generalize (el.length : Int) = n2 at a2
  generalize (e.args.length : Int) = n3 at a3
  cases hv : expOk 5 e
  all_goals
    by_cases h1 : k = 1
    · subst h1; simp; try omega
    by_cases h2 : k = 2
    · subst h2; simp; try omega
    by_cases h3 : k = 3
    · subst h3; simp; try omega
    by_cases h4 : k = 4
    · subst h4; simp; try omega
    by_cases h5 : k = 5
    · subst h5; simp; try omega
    by_cases h7 : k = 7
    · subst h7; simp; try omega
    by_cases h6 : k = 6
    · subst h6; simp; try omega
    simp [h1, h2, h3, h4, h5, h6, h7]

theorem block_n {many : Int} (hmn : 0 ≤ many ∧ many ≤ 3) {l : List Stm} {d0 : Nat} (hl : (l.length : Int) ≤ 4294967296) (hd0 : d0 ≤ 3)
    (hp : ∀ d, d0 = d + 1 → ∀ (bl : List Stm) (n : Int), (∃ s ∈ l, bl = s.body ∨ bl = s.els) → 0 ≤ n → n ≤ 16 → ∃ c, impl_blockValid bl many (3 - (d : Int)) n = some (decide (bl.all (gOk many d) = true ∧ n + cSs bl ≤ 16), c) ∧ (bl.all (gOk many d) = true → n + cSs bl ≤ 16 → c = n + cSs bl)) :
    ∀ (d i : Nat) (n : Int), i + d = l.length → 0 ≤ n → n ≤ 16 → ∃ c, impl_blockValid_l1 l many (3 - (d0 : Int)) l.length i n = some (if (l.drop i).all (gOk many d0) = true ∧ n + (cSs (l.drop i) - (l.length - i : Int)) ≤ 16 then .inl (n + (cSs (l.drop i) - (l.length - i : Int))) else .inr (false, c))
  | 0, i, n, hd, h0, h1 => by
    refine ⟨0, ?_⟩
    apply impl_blockValid_l1_le
    have hi : ¬ ((i : Int) < l.length) := by omega
    rw [List.drop_eq_nil_of_le (by omega), if_pos ⟨by simp, by simp [cSs]; omega⟩]
    simp [hi, cSs]; omega
  | d + 1, i, n, hd, h0, h1 => by
    have hi : i < l.length := by omega
    have hi' : (i : Int) < l.length := by omega
    have e1 : (l.drop i).all (gOk many d0) = (gOk many d0 l[i] && (l.drop (i + 1)).all (gOk many d0)) := by rw [List.drop_eq_getElem_cons hi, List.all_cons]
    have e2 := cSs_drop hi
    have e3 := cS_eq l[i]
    have e4 := cSs_len (l.drop (i + 1))
    rw [List.length_drop] at e4
    have hn3 : ¬ ((3 : Int) < 3 - (d0 : Int)) := by omega
    by_cases hh : hdN many l[i]
    · by_cases hk : l[i].kind = 2 ∨ l[i].kind = 3
      · cases d0 with
        | zero =>
          have s0 : gOk many 0 l[i] = false := by simp [gOk, hk]
          refine ⟨n, ?_⟩
          apply impl_blockValid_l1_le
          rw [geti_some hi, e1, s0]
          simp only [hi', decide_true, cond_true, bnd_some, stm_eta, impl_stmtValid_n hmn, hh, Bool.not_true, cond_false]
          rcases hk with hk | hk <;> simp [hk]
        | succ d1 =>
          have hn4 : ¬ ((3 : Int) ≤ 3 - ((d1 + 1 : Nat) : Int)) := by omega
          have hw : wrap64 (3 - ((d1 + 1 : Nat) : Int) + 1) = 3 - (d1 : Int) := by rw [wrap_id (by omega) (by omega)]; omega
          have s1 : gOk many (d1 + 1) l[i] = (l[i].body.all (gOk many d1) && l[i].els.all (gOk many d1)) := by simp [gOk, hh, hk]
          obtain ⟨c1, k1, k2⟩ := hp d1 rfl l[i].body n ⟨l[i], List.getElem_mem hi, .inl rfl⟩ h0 h1
          by_cases g1 : l[i].body.all (gOk many d1) = true ∧ n + cSs l[i].body ≤ 16
          · have hc1 := k2 g1.1 g1.2
            obtain ⟨c2, m1, m2⟩ := hp d1 rfl l[i].els (n + cSs l[i].body) ⟨l[i], List.getElem_mem hi, .inr rfl⟩ (by omega) g1.2
            by_cases g2 : l[i].els.all (gOk many d1) = true ∧ n + cSs l[i].body + cSs l[i].els ≤ 16
            · have hc2 := m2 g2.1 g2.2
              obtain ⟨c, hc⟩ := block_n hmn hl hd0 hp d (i + 1) (n + cSs l[i].body + cSs l[i].els) (by omega) (by omega) g2.2
              refine ⟨c, ?_⟩
              apply impl_blockValid_l1_le
              rw [geti_some hi, e1, s1, g1.1, g2.1, wrap_succ (by omega), hw]
              subst hc1 hc2
              have dk1 : decide (l[i].body.all (gOk many d1) = true ∧ n + (cSs l[i].body : Int) ≤ 16) = true := decide_eq_true g1
              have dk2 : decide (l[i].els.all (gOk many d1) = true ∧ n + (cSs l[i].body : Int) + (cSs l[i].els : Int) ≤ 16) = true := decide_eq_true g2
              rw [dk1] at k1
              rw [dk2] at m1
              have hcond : ((true && true && (l.drop (i + 1)).all (gOk many (d1 + 1))) = true ∧ n + ((cSs (l.drop i) : Int) - ((l.length : Int) - (i : Int))) ≤ 16) ↔ ((l.drop (i + 1)).all (gOk many (d1 + 1)) = true ∧ n + (cSs l[i].body : Int) + (cSs l[i].els : Int) + ((cSs (l.drop (i + 1)) : Int) - ((l.length : Int) - ((i + 1 : Nat) : Int))) ≤ 16) := by
                simp only [Bool.true_and, Bool.and_true]
                constructor
                · rintro ⟨x, y⟩; exact ⟨x, by omega⟩
                · rintro ⟨x, y⟩; exact ⟨x, by omega⟩
              have hval : n + ((cSs (l.drop i) : Int) - ((l.length : Int) - (i : Int))) = n + (cSs l[i].body : Int) + (cSs l[i].els : Int) + ((cSs (l.drop (i + 1)) : Int) - ((l.length : Int) - ((i + 1 : Nat) : Int))) := by omega
              rw [if_alike hcond (congrArg (Sum.inl (β := Bool × Int)) hval), ← hc]
              simp only [hi', decide_true, cond_true, bnd_some, stm_eta, impl_stmtValid_n hmn, hh, Bool.not_true, cond_false, hn3, hn4, decide_false, k1, m1]
              rcases hk with hk | hk <;> simp [hk]
            · refine ⟨c2, ?_⟩
              apply impl_blockValid_l1_le
              rw [geti_some hi, e1, s1, g1.1, hw]
              subst hc1
              have dk1 : decide (l[i].body.all (gOk many d1) = true ∧ n + (cSs l[i].body : Int) ≤ 16) = true := decide_eq_true g1
              have dk2 : decide (l[i].els.all (gOk many d1) = true ∧ n + (cSs l[i].body : Int) + (cSs l[i].els : Int) ≤ 16) = false := decide_eq_false g2
              rw [dk1] at k1
              rw [dk2] at m1
              rw [if_neg (by
                rintro ⟨x, y⟩
                simp only [Bool.true_and, Bool.and_eq_true] at x
                exact g2 ⟨x.1, by omega⟩)]
              simp only [hi', decide_true, cond_true, bnd_some, stm_eta, impl_stmtValid_n hmn, hh, Bool.not_true, cond_false, hn3, hn4, decide_false, k1, m1]
              rcases hk with hk | hk <;> simp [hk]
          · refine ⟨c1, ?_⟩
            apply impl_blockValid_l1_le
            rw [geti_some hi, e1, s1, hw]
            have dk1 : decide (l[i].body.all (gOk many d1) = true ∧ n + (cSs l[i].body : Int) ≤ 16) = false := decide_eq_false g1
            rw [dk1] at k1
            rw [if_neg (by
              rintro ⟨x, y⟩
              simp only [Bool.and_eq_true] at x
              exact g1 ⟨x.1.1, by omega⟩)]
            simp only [hi', decide_true, cond_true, bnd_some, stm_eta, impl_stmtValid_n hmn, hh, Bool.not_true, cond_false, hn3, hn4, decide_false, k1]
            rcases hk with hk | hk <;> simp [hk]
      · have n2 : l[i].kind ≠ 2 := fun h => hk (.inl h)
        have n3 : l[i].kind ≠ 3 := fun h => hk (.inr h)
        have s1 : gOk many d0 l[i] = true := by cases d0 <;> simp [gOk, hh, n2, n3]
        have hbe : l[i].body = [] ∧ l[i].els = [] := by
          have hh' := hh
          have hh' := hh'.1
          simp only [hdr, n2, n3, false_and, false_or] at hh'
          have : (l[i].body.length : Int) = 0 ∧ (l[i].els.length : Int) = 0 := by
            rcases hh' with h | h | h | h | h
            · exact ⟨h.2.2.2.2.1, h.2.2.2.2.2⟩
            · exact ⟨h.2.2.2.2.1, h.2.2.2.2.2⟩
            · exact ⟨h.2.2.2.2.1, h.2.2.2.2.2⟩
            · exact ⟨h.2.2.2.2.1, h.2.2.2.2.2⟩
            · exact ⟨h.2.2.2.2.1, h.2.2.2.2.2⟩
          exact ⟨List.eq_nil_of_length_eq_zero (by omega), List.eq_nil_of_length_eq_zero (by omega)⟩
        rw [hbe.1, hbe.2] at e3
        simp only [cSs] at e3
        obtain ⟨c, hc⟩ := block_n hmn hl hd0 hp d (i + 1) n (by omega) h0 h1
        refine ⟨c, ?_⟩
        apply impl_blockValid_l1_le
        rw [geti_some hi, e1, s1, wrap_succ (by omega)]
        have hcond : ((true && (l.drop (i + 1)).all (gOk many d0)) = true ∧ n + ((cSs (l.drop i) : Int) - ((l.length : Int) - (i : Int))) ≤ 16) ↔ ((l.drop (i + 1)).all (gOk many d0) = true ∧ n + ((cSs (l.drop (i + 1)) : Int) - ((l.length : Int) - ((i + 1 : Nat) : Int))) ≤ 16) := by
          simp only [Bool.true_and]
          constructor
          · rintro ⟨x, y⟩; exact ⟨x, by omega⟩
          · rintro ⟨x, y⟩; exact ⟨x, by omega⟩
        have hval : n + ((cSs (l.drop i) : Int) - ((l.length : Int) - (i : Int))) = n + ((cSs (l.drop (i + 1)) : Int) - ((l.length : Int) - ((i + 1 : Nat) : Int))) := by omega
        rw [if_alike hcond (congrArg (Sum.inl (β := Bool × Int)) hval), ← hc]
        simp only [hi', decide_true, cond_true, bnd_some, stm_eta, impl_stmtValid_n hmn, hh, Bool.not_true, cond_false, hn3, decide_false]
        simp [n2, n3]
    · have s1 : gOk many d0 l[i] = false := by cases d0 <;> simp [gOk, hh]
      refine ⟨n, ?_⟩
      apply impl_blockValid_l1_le
      rw [geti_some hi, e1, s1]
      simp only [hi', decide_true, cond_true, bnd_some, stm_eta, impl_stmtValid_n hmn, hh, decide_false, Bool.not_false]
      simp

theorem impl_blockValid_n {many : Int} (hmn : 0 ≤ many ∧ many ≤ 3) : ∀ (d : Nat) (l : List Stm) (n : Int), d ≤ 3 → mSs l ≤ 4294967296 → 0 ≤ n → n ≤ 16 →
    ∃ c, impl_blockValid l many (3 - (d : Int)) n = some (decide (l.all (gOk many d) = true ∧ n + cSs l ≤ 16), c) ∧ (l.all (gOk many d) = true → n + cSs l ≤ 16 → c = n + cSs l)
  | d, l, n, hd, hm, h0, h1 => by
    have hlen := mSs_len l
    have hcl := cSs_len l
    by_cases hc : (16 : Int) < n + l.length
    · refine ⟨n + l.length, ?_, fun _ h => by omega⟩
      apply impl_blockValid_le
      rw [wrap_id (by omega) (by omega)]
      have : ¬ (l.all (gOk many d) = true ∧ n + (cSs l : Int) ≤ 16) := fun h => by omega
      rw [decide_eq_false this]
      simp [hc]
    · obtain ⟨c, h⟩ := block_n hmn (l := l) (d0 := d) (by omega) hd (fun d1 e1 bl m hb g0 g1 => by
        obtain ⟨s, hs, hbl⟩ := hb
        have := mS_mem hs
        have := mS_eq s
        have hmb : mSs bl ≤ 4294967296 := by rcases hbl with rfl | rfl <;> omega
        exact impl_blockValid_n hmn d1 bl m (by omega) hmb g0 g1) l.length 0 (n + l.length) (by omega) (by omega) (by omega)
      rw [List.drop_zero] at h
      by_cases g : l.all (gOk many d) = true ∧ n + (cSs l : Int) ≤ 16
      · refine ⟨n + cSs l, ?_, fun _ _ => rfl⟩
        apply impl_blockValid_le
        rw [wrap_id (by omega) (by omega), show (0 : Int) = ((0 : Nat) : Int) by rfl, h, if_pos ⟨g.1, by omega⟩, decide_eq_true g]
        simp only [hc, decide_false, cond_false, bnd_some, selm]
        congr 2; omega
      · refine ⟨c, ?_, fun a b => absurd ⟨a, b⟩ g⟩
        apply impl_blockValid_le
        rw [wrap_id (by omega) (by omega), show (0 : Int) = ((0 : Nat) : Int) by rfl, h, if_neg (fun x => g ⟨x.1, by omega⟩), decide_eq_false g]
        simp only [hc, decide_false, cond_false, bnd_some, selm]
  termination_by d => d

mutual
def bS (many : Int) : Stm → Bool
  | ⟨k, _, b, _, bd, el⟩ => !(decide (k = 4 ∨ k = 5) && decide (many ≤ b)) && bSs many bd && bSs many el
def bSs (many : Int) : List Stm → Bool
  | [] => true
  | s :: r => bS many s && bSs many r
end

theorem bS_eq (many : Int) (s : Stm) : bS many s = (!(decide (s.kind = 4 ∨ s.kind = 5) && decide (many ≤ s.box)) && bSs many s.body && bSs many s.els) := by cases s; simp [bS]

theorem bSs_eq (many : Int) : ∀ l : List Stm, bSs many l = l.all (bS many)
  | [] => rfl
  | s :: r => by simp [bSs, bSs_eq many r]

theorem hdr_leaf {s : Stm} (h : hdr s) (n2 : s.kind ≠ 2) (n3 : s.kind ≠ 3) : s.body = [] ∧ s.els = [] := by
  simp only [hdr, n2, n3, false_and, false_or] at h
  have : (s.body.length : Int) = 0 ∧ (s.els.length : Int) = 0 := by
    rcases h with h | h | h | h | h
    · exact ⟨h.2.2.2.2.1, h.2.2.2.2.2⟩
    · exact ⟨h.2.2.2.2.1, h.2.2.2.2.2⟩
    · exact ⟨h.2.2.2.2.1, h.2.2.2.2.2⟩
    · exact ⟨h.2.2.2.2.1, h.2.2.2.2.2⟩
    · exact ⟨h.2.2.2.2.1, h.2.2.2.2.2⟩
  exact ⟨List.eq_nil_of_length_eq_zero (by omega), List.eq_nil_of_length_eq_zero (by omega)⟩

theorem hdN_dec (many : Int) (s : Stm) : decide (hdN many s) = (decide (hdr s) && !(decide (s.kind = 4 ∨ s.kind = 5) && decide (many ≤ s.box))) := by
  rw [Bool.eq_iff_iff]
  simp only [hdN, decide_eq_true_eq, Bool.and_eq_true, Bool.not_eq_true', Bool.and_eq_false_iff, decide_eq_false_iff_not]
  by_cases h : s.kind = 4 ∨ s.kind = 5
  · simp [h]
  · simp [h]

theorem all_and {α : Type} {f g h : α → Bool} (hp : ∀ a, f a = (g a && h a)) : ∀ l : List α, l.all f = (l.all g && l.all h)
  | [] => rfl
  | a :: r => by
    simp only [List.all_cons, hp a, all_and hp r]
    cases g a <;> cases h a <;> simp

theorem gOk_eq (many : Int) : ∀ (d : Nat) (s : Stm), gOk many d s = (sOk d s && bS many s)
  | 0, s => by
    simp only [gOk, sOk, hdN_dec, bS_eq]
    by_cases hh : hdr s
    · by_cases hk : s.kind = 2 ∨ s.kind = 3
      · simp [hk]
      · have hl := hdr_leaf hh (fun h => hk (.inl h)) (fun h => hk (.inr h))
        rw [hl.1, hl.2]
        simp [hh, hk, bSs]
    · simp [hh]
  | d + 1, s => by
    simp only [gOk, sOk, hdN_dec, bS_eq]
    by_cases hh : hdr s
    · by_cases hk : s.kind = 2 ∨ s.kind = 3
      · have hk4 : ¬ (s.kind = 4 ∨ s.kind = 5) := by omega
        rw [all_and (gOk_eq many d) s.body, all_and (gOk_eq many d) s.els, bSs_eq, bSs_eq]
        simp only [hk, if_true, hk4, decide_false, Bool.false_and, Bool.not_false, hh, decide_true, Bool.true_and, Bool.and_true]
        cases s.body.all (sOk d) <;> cases s.body.all (bS many) <;> cases s.els.all (sOk d) <;> simp
      · have hl := hdr_leaf hh (fun h => hk (.inl h)) (fun h => hk (.inr h))
        rw [hl.1, hl.2]
        simp [hh, hk, bSs]
    · simp [hh]

theorem l12_l {l : List Stm} {many : Int} (hl : (l.length : Int) ≤ 4294967296) (hp : ∀ s ∈ l, spec_l12Boxes s.body many = some (bSs many s.body) ∧ spec_l12Boxes s.els many = some (bSs many s.els)) :
    ∀ (d i : Nat), i + d = l.length → spec_l12Boxes_l1 l many i = some (if bSs many (l.drop i) then .inl () else .inr false)
  | 0, i, hd => by
    apply spec_l12Boxes_l1_le
    have hi : ¬ ((i : Int) < l.length) := by omega
    rw [List.drop_eq_nil_of_le (by omega)]
    simp [hi, bSs]
  | d + 1, i, hd => by
    apply spec_l12Boxes_l1_le
    have hi : i < l.length := by omega
    have hi' : (i : Int) < l.length := by omega
    obtain ⟨p1, p2⟩ := hp _ (List.getElem_mem hi)
    have e1 : bSs many (l.drop i) = (bS many l[i] && bSs many (l.drop (i + 1))) := by rw [List.drop_eq_getElem_cons hi]; simp only [bSs]
    rw [geti_some hi, wrap_succ (by omega), l12_l hl hp d (i + 1) (by omega), e1, bS_eq]
    simp only [hi', decide_true, cond_true, bnd_some, p1, p2]
    by_cases h4 : l[i].kind = 4
    · by_cases hb : many ≤ l[i].box <;> cases bSs many l[i].body <;> cases bSs many l[i].els <;> simp [h4, hb]
    · by_cases h5 : l[i].kind = 5
      · by_cases hb : many ≤ l[i].box <;> cases bSs many l[i].body <;> cases bSs many l[i].els <;> simp [h5, hb]
      · cases bSs many l[i].body <;> cases bSs many l[i].els <;> simp [h4, h5]

theorem spec_l12Boxes_eq_ {l : List Stm} {many : Int} (hl : (l.length : Int) ≤ 4294967296) (hp : ∀ s ∈ l, spec_l12Boxes s.body many = some (bSs many s.body) ∧ spec_l12Boxes s.els many = some (bSs many s.els)) : spec_l12Boxes l many = some (bSs many l) := by
  apply spec_l12Boxes_le
  rw [show (0 : Int) = ((0 : Nat) : Int) by rfl, l12_l hl hp l.length 0 (by omega), List.drop_zero]
  cases bSs many l <;> simp [selm]

theorem l12_parts (many : Int) : ∀ s : Stm, mS s ≤ 4294967296 → spec_l12Boxes s.body many = some (bSs many s.body) ∧ spec_l12Boxes s.els many = some (bSs many s.els) := by
  apply Stm.ind
  intro s ih1 ih2 hb
  rw [mS_eq] at hb
  have l1 := mSs_len s.body
  have l2 := mSs_len s.els
  exact ⟨spec_l12Boxes_eq_ (by omega) (fun a ha => ih1 a ha (by have := mS_mem ha; omega)), spec_l12Boxes_eq_ (by omega) (fun a ha => ih2 a ha (by have := mS_mem ha; omega))⟩

theorem spec_l12Boxes_eq {l : List Stm} {many : Int} (hb : mSs l ≤ 4294967296) : spec_l12Boxes l many = some (bSs many l) :=
  spec_l12Boxes_eq_ (by have := mSs_len l; omega) (fun s hs => l12_parts many s (by have := mS_mem hs; omega))

def gtOk (many : Int) (l : List Stm) : Bool := decide (l.all (gOk many 3) = true ∧ (cSs l : Int) ≤ 16)

theorem gtOk_eq (many : Int) (l : List Stm) : gtOk many l = (stOk l && bSs many l) := by
  unfold gtOk stOk
  rw [all_and (gOk_eq many 3) l, bSs_eq]
  cases l.all (sOk 3) <;> cases l.all (bS many) <;> simp

theorem impl_stmtsValid_n {many : Int} (hmn : 0 ≤ many ∧ many ≤ 3) (l : List Stm) (hm : mSs l ≤ 4294967296) : impl_stmtsValid l many = some (stOk l && bSs many l) := by
  apply impl_stmtsValid_le
  obtain ⟨c, h, _⟩ := impl_blockValid_n hmn 3 l 0 (by omega) hm (by omega) (by omega)
  rw [show (3 : Int) - ((3 : Nat) : Int) = 0 by omega] at h
  rw [h, bnd_some, ← gtOk_eq]
  simp [gtOk]

def restsN (many : Int) (l : List Stm) : Bool := l.all fun s => stOk [s] && bSs many [s]

theorem restsN_drop {many : Int} {l : List Stm} {i : Nat} (hi : i < l.length) : restsN many (l.drop i) = ((stOk [l[i]] && bSs many [l[i]]) && restsN many (l.drop (i + 1))) := by
  unfold restsN; rw [List.drop_eq_getElem_cons hi, List.all_cons]

theorem impl_rests_n {many : Int} (hmn : 0 ≤ many ∧ many ≤ 3) {v : List Int} {l : List Stm} (hm : mSs l ≤ 4294967296) : ∀ (d i : Nat), i + d = l.length → impl_taskValid_l1 many l.length i v l = some (if restsN many (l.drop i) then .inl () else .inr false)
  | 0, i, hd => by
    apply impl_taskValid_l1_le
    have hi : ¬ ((i : Int) < l.length) := by omega
    rw [List.drop_eq_nil_of_le (by omega)]
    simp [hi, restsN]
  | d + 1, i, hd => by
    apply impl_taskValid_l1_le
    have hi : i < l.length := by omega
    have hi' : (i : Int) < l.length := by omega
    have hlen := mSs_len l
    have hmem := mS_mem (List.getElem_mem hi)
    rw [wrap_succ (by omega), cut_one hi, restsN_drop hi, impl_rests_n hmn hm d (i + 1) (by omega)]
    simp only [hi', decide_true, cond_true, bnd_some, impl_stmtsValid_n hmn [l[i]] (by rw [mSs_one]; omega)]
    cases stOk [l[i]] <;> cases bSs many [l[i]] <;> simp

theorem restsN_eq (many : Int) (l : List Stm) : restsN many l = (rests l && bSs many l) := by
  unfold restsN rests
  rw [bSs_eq]
  refine all_and (fun s => ?_) l
  simp [bSs]

theorem impl_taskValid_n {many : Int} (hmn : 0 ≤ many ∧ many ≤ 3) (t : Tk) (hv : (t.vars.length : Int) ≤ 4294967296) (hm : mSs t.rest ≤ 4294967296) : impl_taskValid t many = some (taskOk t && bSs many t.rest) := by
  apply impl_taskValid_le
  rw [impl_areWords_eq hv, show (0 : Int) = ((0 : Nat) : Int) by rfl, impl_rests_n hmn hm t.rest.length 0 (by omega), List.drop_zero, restsN_eq]
  unfold taskOk
  by_cases h4 : (t.vars.length : Int) = 4 <;> cases words t.vars <;> cases rests t.rest <;> cases bSs many t.rest <;> simp [selm, h4]

def mT (t : Tk) : Nat := t.vars.length + mSs t.rest

def mB (b : Bx) : Nat := b.items.length

def mTs : List Tk → Nat
  | [] => 0
  | e :: r => 1 + mT e + mTs r

theorem mTs_len : ∀ l : List Tk, l.length ≤ mTs l
  | [] => Nat.le_refl _
  | e :: r => by have := mTs_len r; simp only [mTs, List.length_cons]; omega

theorem mTs_mem : ∀ {l : List Tk} {e : Tk}, e ∈ l → mT e < mTs l
  | [], e, h => by cases h
  | a :: r, e, h => by
    simp only [mTs]
    rcases List.mem_cons.1 h with rfl | h
    · omega
    · have := mTs_mem h; omega

def mBs : List Bx → Nat
  | [] => 0
  | e :: r => 1 + mB e + mBs r

theorem mBs_len : ∀ l : List Bx, l.length ≤ mBs l
  | [] => Nat.le_refl _
  | e :: r => by have := mBs_len r; simp only [mBs, List.length_cons]; omega

theorem mBs_mem : ∀ {l : List Bx} {e : Bx}, e ∈ l → mB e < mBs l
  | [], e, h => by cases h
  | a :: r, e, h => by
    simp only [mBs]
    rcases List.mem_cons.1 h with rfl | h
    · omega
    · have := mBs_mem h; omega

def mW (v : Wld) : Nat := mTs v.tasks + mBs v.boxes + v.out.length

theorem mW_parts {v : Wld} (h : mW v ≤ 4294967296) : (v.tasks.length : Int) ≤ 4294967296 ∧ (∀ t ∈ v.tasks, mT t ≤ 4294967296) ∧ (v.boxes.length : Int) ≤ 4294967296 ∧ (∀ b ∈ v.boxes, mB b ≤ 4294967296) ∧ (v.out.length : Int) ≤ 4294967296 := by
  unfold mW at h
  have h1 := mTs_len v.tasks
  have h2 := mBs_len v.boxes
  refine ⟨by omega, fun t ht => ?_, by omega, fun b hb => ?_, by omega⟩
  · have := mTs_mem ht; omega
  · have := mBs_mem hb; omega

def boxOk (b : Bx) : Bool := decide (1 ≤ b.room ∧ b.room ≤ 4) && decide ((b.items.length : Int) ≤ b.room) && words b.items

theorem impl_BoxValid_eq {b : Bx} (h : mB b ≤ 4294967296) : impl_BoxValid b = some (boxOk b) := by
  apply impl_BoxValid_le
  unfold mB at h
  rw [impl_areWords_eq (by omega)]
  unfold boxOk
  by_cases h1 : 1 ≤ b.room <;> by_cases h2 : b.room ≤ 4 <;> by_cases h3 : (b.items.length : Int) ≤ b.room <;> cases words b.items <;> simp [h1, h2, h3]

theorem impl_boxes_l {l : List Bx} (hl : (l.length : Int) ≤ 4294967296) (hp : ∀ b ∈ l, mB b ≤ 4294967296) : ∀ (d i : Nat), i + d = l.length → impl_boxesValid_l1 l l l.length i = some (if (l.drop i).all boxOk then .inl l else .inr (l, false))
  | 0, i, hd => by
    apply impl_boxesValid_l1_le
    have hi : ¬ ((i : Int) < l.length) := by omega
    rw [List.drop_eq_nil_of_le (by omega)]
    simp [hi]
  | d + 1, i, hd => by
    apply impl_boxesValid_l1_le
    have hi : i < l.length := by omega
    have hi' : (i : Int) < l.length := by omega
    have e1 : (l.drop i).all boxOk = (boxOk l[i] && (l.drop (i + 1)).all boxOk) := by rw [List.drop_eq_getElem_cons hi, List.all_cons]
    rw [geti_some hi, wrap_succ (by omega), impl_boxes_l hl hp d (i + 1) (by omega), e1]
    simp only [hi', decide_true, cond_true, bnd_some, impl_BoxValid_eq (hp _ (List.getElem_mem hi))]
    cases boxOk l[i] <;> simp

theorem impl_boxesValid_eq {l : List Bx} (hl : (l.length : Int) ≤ 4294967296) (hp : ∀ b ∈ l, mB b ≤ 4294967296) : impl_boxesValid l = some (l.all boxOk && decide ((l.length : Int) ≤ 3)) := by
  apply impl_boxesValid_le
  rw [show (0 : Int) = ((0 : Nat) : Int) by rfl, impl_boxes_l hl hp l.length 0 (by omega), List.drop_zero]
  cases l.all boxOk <;> simp [selm]

def tkOk (many : Int) (t : Tk) : Bool := taskOk t && bSs many t.rest

theorem impl_tasks_l {l t0 : List Tk} {bx : List Bx} {n k : Int} {o : List Int} (hb : (bx.length : Int) ≤ 3) (hl : (l.length : Int) ≤ 4294967296) (hp : ∀ t ∈ l, mT t ≤ 4294967296) : ∀ (d i : Nat), i + d = l.length → impl_WorldValid_l1 l l.length i t0 bx n k o = some (if (l.drop i).all (tkOk bx.length) then .inl () else .inr false)
  | 0, i, hd => by
    apply impl_WorldValid_l1_le
    have hi : ¬ ((i : Int) < l.length) := by omega
    rw [List.drop_eq_nil_of_le (by omega)]
    simp [hi]
  | d + 1, i, hd => by
    apply impl_WorldValid_l1_le
    have hi : i < l.length := by omega
    have hi' : (i : Int) < l.length := by omega
    have hm := hp _ (List.getElem_mem hi)
    unfold mT at hm
    have e1 : (l.drop i).all (tkOk bx.length) = (tkOk bx.length l[i] && (l.drop (i + 1)).all (tkOk bx.length)) := by rw [List.drop_eq_getElem_cons hi, List.all_cons]
    rw [geti_some hi, wrap_succ (by omega), impl_tasks_l hb hl hp d (i + 1) (by omega), e1]
    simp only [hi', decide_true, cond_true, bnd_some, impl_taskValid_n ⟨Int.natCast_nonneg _, hb⟩ l[i] (by omega) (by omega)]
    unfold tkOk
    cases taskOk l[i] <;> cases bSs (bx.length : Int) l[i].rest <;> simp

def worldOk (v : Wld) : Bool := decide (1 ≤ (v.tasks.length : Int) ∧ (v.tasks.length : Int) ≤ 3) && (v.boxes.all boxOk && decide ((v.boxes.length : Int) ≤ 3)) && decide (0 ≤ v.turn ∧ v.turn < (v.tasks.length : Int)) && decide (0 ≤ v.idle ∧ v.idle ≤ (v.tasks.length : Int)) && v.tasks.all (tkOk v.boxes.length) && words v.out

theorem impl_WorldValid_eq {v : Wld} (h : mW v ≤ 4294967296) : impl_WorldValid v = some (worldOk v) := by
  obtain ⟨h1, h2, h3, h4, h5⟩ := mW_parts h
  apply impl_WorldValid_le
  have ht : impl_turnsValid (v.tasks.length : Int) v.turn v.idle v.out = some (decide (1 ≤ (v.tasks.length : Int) ∧ (v.tasks.length : Int) ≤ 3) && decide (0 ≤ v.turn ∧ v.turn < (v.tasks.length : Int)) && decide (0 ≤ v.idle ∧ v.idle ≤ (v.tasks.length : Int)) && words v.out) := by
    apply impl_turnsValid_le
    rw [impl_areWords_eq h5]
    generalize (v.tasks.length : Int) = n
    by_cases c1 : 1 ≤ n <;> by_cases c2 : n ≤ 3 <;> by_cases c3 : 0 ≤ v.turn <;> by_cases c4 : v.turn < n <;> by_cases c5 : 0 ≤ v.idle <;> by_cases c6 : v.idle ≤ n <;> simp [c1, c2, c3, c4, c5, c6]
  rw [ht, impl_boxesValid_eq h3 h4, bnd_some]
  unfold worldOk
  by_cases hb : (v.boxes.length : Int) ≤ 3
  · rw [show (0 : Int) = ((0 : Nat) : Int) by rfl, impl_tasks_l hb h1 h2 v.tasks.length 0 (by omega), List.drop_zero]
    rw [show ((0 : Nat) : Int) = 0 by rfl]
    generalize decide (1 ≤ (v.tasks.length : Int) ∧ (v.tasks.length : Int) ≤ 3) = x1
    generalize decide (0 ≤ v.turn ∧ v.turn < (v.tasks.length : Int)) = x2
    generalize decide (0 ≤ v.idle ∧ v.idle ≤ (v.tasks.length : Int)) = x3
    cases x1 <;> cases x2 <;> cases x3 <;> cases words v.out <;> cases v.boxes.all boxOk <;> cases v.tasks.all (tkOk v.boxes.length) <;> simp [selm, hb]
  · generalize decide (1 ≤ (v.tasks.length : Int) ∧ (v.tasks.length : Int) ≤ 3) = x1
    generalize decide (0 ≤ v.turn ∧ v.turn < (v.tasks.length : Int)) = x2
    generalize decide (0 ≤ v.idle ∧ v.idle ≤ (v.tasks.length : Int)) = x3
    cases x1 <;> cases x2 <;> cases x3 <;> cases words v.out <;> simp [hb]

theorem sameInts_l {a : List Int} (hl : (a.length : Int) ≤ 4294967296) : ∀ (d i : Nat), i + d = a.length → laws_sameInts_l1 a a i = some (.inl ())
  | 0, i, hd => by
    apply laws_sameInts_l1_le
    have hi : ¬ ((i : Int) < a.length) := by omega
    simp [hi]
  | d + 1, i, hd => by
    apply laws_sameInts_l1_le
    have hi : i < a.length := by omega
    have hi' : (i : Int) < a.length := by omega
    rw [geti_some hi, wrap_succ (by omega)]
    simp only [hi', decide_true, cond_true, bnd_some, Bool.not_true, cond_false]
    exact sameInts_l hl d (i + 1) (by omega)

theorem laws_sameInts_refl {a : List Int} (hl : (a.length : Int) ≤ 4294967296) : laws_sameInts a a = some true := by
  apply laws_sameInts_le
  rw [show (0 : Int) = ((0 : Nat) : Int) by rfl, sameInts_l hl a.length 0 (by omega)]
  simp [selm]

theorem laws_sameBox_refl {b : Bx} (h : mB b ≤ 4294967296) : laws_sameBox b b = some true := by
  apply laws_sameBox_le
  unfold mB at h
  rw [laws_sameInts_refl (by omega)]; simp

theorem boxOk_mk {b : Bx} (h1 : 1 ≤ b.room) (h2 : b.room ≤ 4) (h3 : (b.items.length : Int) ≤ b.room) (h4 : words b.items = true) : boxOk b = true := by
  unfold boxOk; simp [h1, h2, h3, h4]

abbrev Tok := List UInt8

def dg (c : UInt8) : Bool := decide (48 ≤ c.toNat ∧ c.toNat ≤ 57)

def gt (t : Tok) : Prop := ∃ c r, t = c :: r ∧ (dg c = true → ∀ x ∈ t, dg x = true)

def xs : Nat → Nat
  | 0 => 0
  | d + 1 => 2 + 2 * xs d

theorem emXs_two (a b : Exp) : emXs [a, b] = 2 + emX a + emX b := by simp [emXs]; omega

theorem l91Leaf_sz {b : List Int} {p m : Int} (h : Rd b p m) (hm : m ≤ 999999990) : Ok (spec_l91Leaf b p) fun r => emXs r.2.2.1.2 = 0 := by
  apply Ok.le (spec_l91Leaf_le b p)
  refine Ok.bnd (pick_ok h (by omega) (by decide)) fun r1 h1 => ?_
  refine Ok.bif (fun _ => ?_) (fun _ => ?_)
  · refine Ok.bnd (pick_ok h1.1 (by omega) (by decide)) fun r2 h2 => ?_
    rw [l4Leaf_eq, bnd_some]
    exact Ok.of rfl
  refine Ok.bif (fun _ => ?_) (fun _ => ?_)
  · refine Ok.bnd (pick_ok h1.1 (by omega) (by decide)) fun r2 h2 => ?_
    refine Ok.bnd (pick_geti h2.2 (by omega) rfl) fun e he => ?_
    rw [l4Leaf_eq, bnd_some]
    exact Ok.of rfl
  · refine Ok.bnd (pick_ok h1.1 (by omega) (by decide)) fun r2 h2 => ?_
    rw [l4Leaf_eq, bnd_some]
    exact Ok.of rfl

theorem l91Expr_sz : ∀ (d : Nat) {b : List Int} {p m : Int} (n : Int), n = (d : Int) + 1 → d ≤ 10 → Rd b p m → m + cost d ≤ 999999990 →
    Ok (spec_l91Expr n b p) fun r => emXs r.2.2.1.2 ≤ xs d
  | d, b, p, m, n, hn, hd, h, hm => by
    apply Ok.le (spec_l91Expr_le n b p)
    have hc := cost_pos d
    refine Ok.bif (fun hb => ?_) (fun hb => ?_)
    · refine Ok.bnd (l91Leaf_sz h (by omega)) fun r1 h1 => ?_
      exact Ok.of (by dsimp only; omega)
    · simp only [decide_eq_false_iff_not] at hb
      obtain ⟨d, rfl⟩ : ∃ d', d = d' + 1 := ⟨d - 1, by omega⟩
      have hc' := cost_pos d
      simp only [cost] at hm ⊢
      refine Ok.bnd (pick_ok h (by omega) (by decide)) fun r1 h1 => ?_
      refine Ok.bif (fun _ => ?_) (fun _ => ?_)
      · refine Ok.bnd (l91Leaf_sz h1.1 (by omega)) fun r2 h2 => ?_
        exact Ok.of (by dsimp only; omega)
      · refine Ok.bnd (l91Op_ok h1.1 (by omega)) fun r2 h2 => ?_
        rw [wrap_id (n := n - 1) (by omega) (by omega)]
        refine Ok.bnd ((l91Expr_ok d (n - 1) (by omega) (by omega) h2.1 (by omega)).and (l91Expr_sz d (n - 1) (by omega) (by omega) h2.1 (by omega))) fun r3 h3 => ?_
        refine Ok.bnd ((l91Expr_ok d (n - 1) (by omega) (by omega) h3.1.1 (by omega)).and (l91Expr_sz d (n - 1) (by omega) (by omega) h3.1.1 (by omega))) fun r4 h4 => ?_
        rw [l4Both_eq, bnd_some]
        refine Ok.of ?_
        have e3 := h3.2
        have e4 := h4.2
        simp only [emXs_two, emX_eq, xs]
        omega

/-- What an expression of at most four levels takes. -/
theorem expr_ok {b : List Int} {p m : Int} (n : Int) (h1 : 1 ≤ n) (h2 : n ≤ 4) (h : Rd b p m) (hm : m ≤ 999999000) : Ok (spec_l91Expr n b p) fun r => Rd r.2.2.2.1 r.2.2.2.2 (m + 30) ∧ emXs r.2.2.1.2 ≤ 14 := by
  have hc : ∀ d : Nat, d ≤ 3 → cost d ≤ 30 ∧ xs d ≤ 14 := by
    intro d hd
    match d, hd with
    | 0, _ => decide
    | 1, _ => decide
    | 2, _ => decide
    | 3, _ => decide
  obtain ⟨c1, c2⟩ := hc (n - 1).toNat (by omega)
  exact ((l91Expr_ok (n - 1).toNat n (by omega) (by omega) h (by omega)).and (l91Expr_sz (n - 1).toNat n (by omega) (by omega) h (by omega))).mono fun r hr => ⟨hr.1.1.mono (by omega), by have := hr.2; omega⟩

theorem mSs_append : ∀ a b : List Stm, mSs (a ++ b) = mSs a + mSs b
  | [], b => by simp [mSs]
  | s :: a, b => by simp only [List.cons_append, mSs, mSs_append a b]; omega

theorem mS_mk (k v x o n : Int) (as : List Exp) (bd el : List Stm) : mS ⟨k, v, x, ⟨o, n, as⟩, bd, el⟩ = emXs as + mSs bd + mSs el := by simp [mS_eq, emX_eq]

def cs : Nat → Int
  | 0 => 40
  | k + 1 => 60 + 4 * cs k

def ms : Nat → Nat
  | 0 => 15
  | k + 1 => 30 + 4 * ms k

theorem cs_pos : ∀ k, 40 ≤ cs k
  | 0 => by simp [cs]
  | k + 1 => by have := cs_pos k; simp only [cs]; omega

theorem ms_pos : ∀ k, 15 ≤ ms k
  | 0 => by simp [ms]
  | k + 1 => by have := ms_pos k; simp only [ms]; omega

theorem l92Set_ok {b : List Int} {p m : Int} (h : Rd b p m) (hm : m ≤ 999998000) : Ok (spec_l92Set b p) fun r => Rd r.2.1 r.2.2 (m + 32) ∧ mS r.1 ≤ 14 := by
  apply Ok.le (spec_l92Set_le b p)
  refine Ok.bnd (pick_ok h (by omega) (by decide)) fun r1 h1 => ?_
  refine Ok.bnd (pick_ok h1.1 (by omega) (by decide)) fun r2 h2 => ?_
  have hk := h2.2.2.1 (by omega)
  rw [wrap_id (n := 1 + r2.1) (by omega) (by omega)]
  refine Ok.bnd (expr_ok _ (by omega) (by omega) h2.1 (by omega)) fun r3 h3 => ?_
  refine Ok.of ⟨h3.1.mono (by omega), ?_⟩
  rw [mS_mk]; have := h3.2; simp only [mSs]; omega

theorem l92Talk_ok {b : List Int} {p m : Int} (n : Int) (hn : n ≤ 1000) (h : Rd b p m) (hm : m ≤ 999998000) : Ok (spec_l92Talk n b p) fun r => Rd r.2.1 r.2.2 (m + 35) ∧ mS r.1 ≤ 14 := by
  apply Ok.le (spec_l92Talk_le n b p)
  refine Ok.bif (fun _ => ?_) (fun hb => ?_)
  · refine Ok.bnd (l92Set_ok h hm) fun r1 h1 => ?_
    refine Ok.of ⟨h1.1.mono (by omega), ?_⟩
    have := h1.2
    rw [mS_mk]; rw [mS_eq, emX_eq] at this; exact this
  simp only [decide_eq_false_iff_not] at hb
  refine Ok.bnd (pick_ok h (by omega) (by unfold wfI; omega)) fun r2 h2 => ?_
  refine Ok.bnd (pick_ok h2.1 (by omega) (by decide)) fun r3 h3 => ?_
  refine Ok.bif (fun _ => ?_) (fun _ => ?_)
  · refine Ok.bnd (pick_ok h3.1 (by omega) (by decide)) fun r4 h4 => ?_
    have hk := h4.2.2.1 (by omega)
    rw [wrap_id (n := 1 + r4.1) (by omega) (by omega)]
    refine Ok.bnd (expr_ok _ (by omega) (by omega) h4.1 (by omega)) fun r5 h5 => ?_
    refine Ok.of ⟨h5.1.mono (by omega), ?_⟩
    rw [mS_mk]; have := h5.2; simp only [mSs]; omega
  · refine Ok.bnd (pick_ok h3.1 (by omega) (by decide)) fun r6 h6 => ?_
    refine Ok.of ⟨h6.1.mono (by omega), ?_⟩
    rw [mS_mk]; simp [mSs, emXs]

/-- Blocks of so many statements with so many levels. -/
def BlockOk (k : Nat) : Prop := ∀ {b : List Int} {p m : Int} (a n : Int) (lo : Bool), a ≤ 1000 → n ≤ 2 → Rd b p m → m + 2 * cs k ≤ 999990000 → Ok (spec_l92Block a k n lo b p) fun r => Rd r.2.1 r.2.2 (m + 2 * cs k) ∧ mSs r.1 ≤ 2 * ms k

def StmtOk (k : Nat) : Prop := ∀ {b : List Int} {p m : Int} (a : Int) (lo : Bool), a ≤ 1000 → Rd b p m → m + cs k ≤ 999990000 → Ok (spec_l92Stmt a k lo b p) fun r => Rd r.2.1 r.2.2 (m + cs k) ∧ mSs r.1 ≤ ms k

theorem block_of {k : Nat} (hs : StmtOk k) {a n : Int} {lo : Bool} (ha : a ≤ 1000) : ∀ (d : Nat) (i : Int) (f : Bool) (l : List Stm) {b : List Int} {p m : Int}, (n ≤ i + d) → 0 ≤ i → i ≤ 100 - d → mSs l + d * ms k ≤ 1000000000 → d ≤ 100 → Rd b p m → m + d * cs k ≤ 999990000 →
    Ok (spec_l92Block_l1 a k n lo f l i b p) fun r => Rd r.2.1 r.2.2 (m + d * cs k) ∧ mSs r.1.2 ≤ mSs l + d * ms k
  | 0, i, f, l, b, p, m, hd, h0, hi1, hl, hdd, h, hm => by
    apply Ok.le (spec_l92Block_l1_le _ _ _ _ _ _ _ _ _)
    have : ¬ (i < n) := by omega
    simp only [this, decide_false, cond_false]
    exact Ok.of ⟨h.mono (by omega), by simp⟩
  | d + 1, i, f, l, b, p, m, hd, h0, hi1, hl, hdd, h, hm => by
    apply Ok.le (spec_l92Block_l1_le _ _ _ _ _ _ _ _ _)
    have hc := cs_pos k
    have e1 : ((d + 1 : Nat) : Int) * cs k = d * cs k + cs k := by rw [Int.natCast_add, Int.add_mul]; omega
    have e2 : (d + 1) * ms k = d * ms k + ms k := by rw [Nat.add_mul]; omega
    have e3 : 0 ≤ (d : Int) * cs k := Int.mul_nonneg (by omega) (by omega)
    rw [e1] at hm ⊢
    rw [e2] at hl ⊢
    refine Ok.bif (fun hb => ?_) (fun hb => ?_)
    · simp only [decide_eq_true_eq] at hb
      refine Ok.bnd (hs a lo ha h (by omega)) fun r1 h1 => ?_
      have hl1 := mSs_len l
      have hl2 := mSs_len r1.1
      have h12 := h1.2
      rw [appL_some (by omega), bnd_some, wrap_id (n := i + 1) (by omega) (by omega)]
      have ea := mSs_append l r1.1
      exact (block_of hs ha d (i + 1) true _ (by omega) (by omega) (by omega) (by omega) (by omega) h1.1 (by omega)).mono fun r hr => ⟨hr.1.mono (by omega), by have := hr.2; omega⟩
    · exact Ok.of ⟨h.mono (by omega), by show mSs l ≤ _; omega⟩

theorem drawn_block {k : Nat} (hs : StmtOk k) (d : Nat) (hd : d ≤ 10) (hms : ms k ≤ 10000000) {b : List Int} {p m : Int} (a n : Int) (lo : Bool) (ha : a ≤ 1000) (hn : n ≤ d) (h : Rd b p m) (hm : m + d * cs k ≤ 999990000) : Ok (spec_l92Block a k n lo b p) fun r => Rd r.2.1 r.2.2 (m + d * cs k) ∧ mSs r.1 ≤ d * ms k := by
  apply Ok.le (spec_l92Block_le _ _ _ _ _ _)
  have hk : d * ms k ≤ 10 * 10000000 := Nat.mul_le_mul hd hms
  refine Ok.bnd (block_of hs ha d 0 true [] (by omega) (by omega) (by omega) (by simp [mSs]; omega) (by omega) h hm) fun r hr => ?_
  exact Ok.of ⟨hr.1, by have := hr.2; simp only [mSs] at this; dsimp only; omega⟩

theorem l92If_ok {k : Nat} (hb : BlockOk k) {b : List Int} {p m : Int} (a : Int) (lo : Bool) (ha : a ≤ 1000) (hk : k ≤ 10) (h : Rd b p m) (hm : m + cs (k + 1) ≤ 999990010) : Ok (spec_l92If a ((k + 1 : Nat) : Int) lo b p) fun r => Rd r.2.1 r.2.2 (m + (cs (k + 1) - 10)) ∧ mS r.1 + 1 ≤ ms (k + 1) := by
  apply Ok.le (spec_l92If_le _ _ _ _ _)
  have hc := cs_pos k
  simp only [cs, ms] at hm ⊢
  refine Ok.bnd (pick_ok h (by omega) (by decide)) fun r1 h1 => ?_
  have hk1 := h1.2.2.1 (by omega)
  rw [wrap_id (n := 1 + r1.1) (by omega) (by omega), wrap_id (n := ((k + 1 : Nat) : Int) - 1) (by omega) (by omega), show ((k + 1 : Nat) : Int) - 1 = (k : Int) by omega]
  refine Ok.bnd (expr_ok _ (by omega) (by omega) h1.1 (by omega)) fun r2 h2 => ?_
  refine Ok.bnd (pick_ok h2.1 (by omega) (by decide)) fun r3 h3 => ?_
  have hk3 := h3.2.2.1 (by omega)
  refine Ok.bnd (hb a _ lo ha (by omega) h3.1 (by omega)) fun r4 h4 => ?_
  refine Ok.bnd (pick_ok h4.1 (by omega) (by decide)) fun r5 h5 => ?_
  have hk5 := h5.2.2.1 (by omega)
  refine Ok.bnd (hb a _ lo ha (by omega) h5.1 (by omega)) fun r6 h6 => ?_
  refine Ok.of ⟨h6.1.mono (by omega), ?_⟩
  have q2 := h2.2
  have q4 := h4.2
  have q6 := h6.2
  rw [mS_mk]; omega

theorem l92Loop_ok {k : Nat} (hb : BlockOk k) {b : List Int} {p m : Int} (a : Int) (ha : a ≤ 1000) (hk : k ≤ 10) (hms : ms k ≤ 10000000) (h : Rd b p m) (hm : m + cs (k + 1) ≤ 999990010) : Ok (spec_l92Loop a ((k + 1 : Nat) : Int) b p) fun r => Rd r.2.1 r.2.2 (m + (cs (k + 1) - 10)) ∧ mSs r.1 ≤ ms (k + 1) := by
  apply Ok.le (spec_l92Loop_le _ _ _ _)
  have hc := cs_pos k
  have hp := ms_pos k
  simp only [cs, ms] at hm ⊢
  refine Ok.bnd (pick_ok h (by omega) (by decide)) fun r1 h1 => ?_
  have hk1 := h1.2.2.1 (by omega)
  rw [wrap_id (n := ((k + 1 : Nat) : Int) - 1) (by omega) (by omega), show ((k + 1 : Nat) : Int) - 1 = (k : Int) by omega]
  refine Ok.bnd (hb a _ false ha (by omega) h1.1 (by omega)) fun r2 h2 => ?_
  rw [l4Leaf_eq, bnd_some, l4Leaf_eq, bnd_some, l4Both_eq, bnd_some, bnd_some]
  refine Ok.bnd (pick_ok h2.1 (by omega) (by decide)) fun r7 h7 => ?_
  have hk7 := h7.2.2.1 (by omega)
  have hl2 := mSs_len r2.1
  have q2 := h2.2
  rw [wrap_id (n := 1 + r7.1) (by omega) (by omega), l4Leaf_eq, bnd_some, l4Both_eq, bnd_some, appL_some (by simp; omega), bnd_some, l4Leaf_eq, bnd_some]
  refine Ok.of ⟨h7.1.mono (by omega), ?_⟩
  simp only [mSs, mS_mk, mSs_append, emXs_two, emX_eq, emXs]
  omega

theorem stmt_ok (k : Nat) (hk : k ≤ 4) (hms : ms k ≤ 10000000) (hb : ∀ k', k = k' + 1 → BlockOk k') : StmtOk k := by
  intro b p m a lo ha h hm
  apply Ok.le (spec_l92Stmt_le _ _ _ _ _)
  have hc := cs_pos k
  have hp := ms_pos k
  have pr : ∀ {b : List Int} {p m' : Int}, Rd b p m' → m' ≤ m + 1 → Ok (Vs.bnd (spec_l6Rd_pick 3 b p) fun r5 => Vs.bnd (spec_l91Expr (wrap64 (1 + r5.1)) r5.2.1 r5.2.2) fun r6 => some (([⟨7, 0, 0, ⟨r6.1, r6.2.1, r6.2.2.1.2⟩, [], []⟩] : List Stm), r6.2.2.2.1, r6.2.2.2.2)) fun r => Rd r.2.1 r.2.2 (m + cs k) ∧ mSs r.1 ≤ ms k := by
    intro b p m' h' hm'
    refine Ok.bnd (pick_ok h' (by omega) (by decide)) fun r5 h5 => ?_
    have hk5 := h5.2.2.1 (by omega)
    rw [wrap_id (n := 1 + r5.1) (by omega) (by omega)]
    refine Ok.bnd (expr_ok _ (by omega) (by omega) h5.1 (by omega)) fun r6 h6 => ?_
    refine Ok.of ⟨h6.1.mono (by omega), ?_⟩
    have := h6.2
    simp only [mSs, mS_mk]; omega
  have one : ∀ {s : Stm}, mS s ≤ 14 → mSs [(⟨s.kind, s.var, s.box, ⟨s.e.op, s.e.n, s.e.args⟩, s.body, s.els⟩ : Stm)] ≤ ms k := by
    intro s hs
    rw [mS_eq, emX_eq] at hs
    simp only [mSs, mS_mk]; omega
  refine Ok.bnd (pick_ok h (by omega) (by decide)) fun r1 h1 => ?_
  refine Ok.bif (fun _ => ?_) (fun _ => ?_)
  · exact Ok.bnd (l92Set_ok h1.1 (by omega)) fun r2 h2 => Ok.of ⟨h2.1.mono (by omega), one h2.2⟩
  refine Ok.bif (fun _ => ?_) (fun _ => ?_)
  · exact Ok.bnd (l92Set_ok h1.1 (by omega)) fun r2 h2 => Ok.of ⟨h2.1.mono (by omega), one h2.2⟩
  refine Ok.bif (fun _ => ?_) (fun _ => ?_)
  · refine Ok.bif (fun h0 => ?_) (fun _ => pr h1.1 (by omega))
    simp only [decide_eq_true_eq] at h0
    obtain ⟨k', rfl⟩ : ∃ k', k = k' + 1 := ⟨k - 1, by omega⟩
    refine Ok.bnd (l92If_ok (hb k' rfl) a lo ha (by omega) h1.1 (by omega)) fun r4 h4 => ?_
    refine Ok.of ⟨h4.1.mono (by omega), ?_⟩
    have := h4.2
    rw [mS_eq, emX_eq] at this
    simp only [mSs, mS_mk]; omega
  refine Ok.bif (fun _ => ?_) (fun _ => ?_)
  · refine Ok.bif (fun h0 => ?_) (fun _ => pr h1.1 (by omega))
    refine Ok.bif (fun _ => ?_) (fun _ => pr h1.1 (by omega))
    simp only [decide_eq_true_eq] at h0
    obtain ⟨k', rfl⟩ : ∃ k', k = k' + 1 := ⟨k - 1, by omega⟩
    refine Ok.bnd (l92Loop_ok (hb k' rfl) a ha (by omega) (by simp only [ms] at hms; omega) h1.1 (by omega)) fun r4 h4 => ?_
    exact Ok.of ⟨h4.1.mono (by omega), h4.2⟩
  refine Ok.bif (fun _ => ?_) (fun _ => ?_)
  · exact Ok.bnd (l92Talk_ok a ha h1.1 (by omega)) fun r2 h2 => Ok.of ⟨h2.1.mono (by omega), one h2.2⟩
  refine Ok.bif (fun _ => ?_) (fun _ => ?_)
  · exact Ok.bnd (l92Talk_ok a ha h1.1 (by omega)) fun r2 h2 => Ok.of ⟨h2.1.mono (by omega), one h2.2⟩
  refine Ok.bif (fun _ => ?_) (fun _ => ?_)
  · exact Ok.bnd (l92Talk_ok a ha h1.1 (by omega)) fun r2 h2 => Ok.of ⟨h2.1.mono (by omega), one h2.2⟩
  refine Ok.bif (fun _ => ?_) (fun _ => pr h1.1 (by omega))
  exact Ok.of ⟨h1.1.mono (by omega), by simp only [mSs, mS_mk, emXs]; omega⟩

theorem ms_small : ∀ k, k ≤ 3 → ms k ≤ 10000000 ∧ cs k ≤ 100000 := by
  intro k hk
  match k, hk with
  | 0, _ => decide
  | 1, _ => decide
  | 2, _ => decide
  | 3, _ => decide

theorem stmts_ok : ∀ k, k ≤ 3 → StmtOk k
  | 0, _ => stmt_ok 0 (by omega) (ms_small 0 (by omega)).1 (fun k' h => by omega)
  | k + 1, hk => stmt_ok (k + 1) (by omega) (ms_small (k + 1) hk).1 (fun k' h => by
    obtain rfl : k = k' := by omega
    intro b p m a n lo ha hn h hm
    exact drawn_block (stmts_ok k (by omega)) 2 (by omega) (ms_small k (by omega)).1 a n lo ha hn h hm)

theorem blocks_ok {k : Nat} (hk : k ≤ 3) : BlockOk k := fun a n lo ha hn h hm => drawn_block (stmts_ok k hk) 2 (by omega) (ms_small k hk).1 a n lo ha hn h hm

theorem l92Endless_ok {b : List Int} {p m : Int} (h : Rd b p m) (hm : m ≤ 999800000) : Ok (spec_l92Endless b p) fun r => Rd r.2.1 r.2.2 (m + 1000) ∧ mS r.1 ≤ 1000 := by
  apply Ok.le (spec_l92Endless_le _ _)
  rw [l4Leaf_eq, bnd_some]
  refine Ok.bnd (pick_ok h (by omega) (by decide)) fun r2 h2 => ?_
  have hk := h2.2.2.1 (by omega)
  have hc : cs 1 = 220 := by decide
  have hms : ms 1 = 90 := by decide
  have := blocks_ok (k := 1) (by omega) 0 r2.1 false (by omega) (by omega) h2.1 (by omega)
  refine Ok.bnd this fun r3 h3 => ?_
  refine Ok.of ⟨h3.1.mono (by omega), ?_⟩
  have := h3.2
  rw [mS_mk]; simp only [mSs, emXs]; omega

theorem blockp_of {k : Nat} (hs : StmtOk k) {A : List Ent} {a n : Int} {lo : Bool} (ha : a ≤ 1000) : ∀ (d : Nat) (i : Int) (h : Hd) (l : List Stm) (B : List Ent) {b : List Int} {p m : Int}, (n ≤ i + d) → 0 ≤ i → i ≤ 100 - d → mSs l + d * ms k ≤ 1000000000 → d ≤ 100 → Got .stm A l h B → Rd b p m → m + d * cs k ≤ 999990000 →
    Ok (spec_l92Block_p_l1 a k n lo h i b p B) fun r => Rd r.2.1 r.2.2.1 (m + d * cs k) ∧ ∃ l', Got .stm A l' r.1 r.2.2.2 ∧ mSs l' ≤ mSs l + d * ms k
  | 0, i, h, l, B, b, p, m, hd, h0, hi1, hl, hdd, hg, hr, hm => by
    apply Ok.le (spec_l92Block_p_l1_le _ _ _ _ _ _ _ _ _)
    have : ¬ (i < n) := by omega
    simp only [this, decide_false, cond_false]
    exact Ok.of ⟨hr.mono (by omega), l, hg, by omega⟩
  | d + 1, i, h, l, B, b, p, m, hd, h0, hi1, hl, hdd, hg, hr, hm => by
    apply Ok.le (spec_l92Block_p_l1_le _ _ _ _ _ _ _ _ _)
    have hc := cs_pos k
    have e1 : ((d + 1 : Nat) : Int) * cs k = d * cs k + cs k := by rw [Int.natCast_add, Int.add_mul]; omega
    have e2 : (d + 1) * ms k = d * ms k + ms k := by rw [Nat.add_mul]; omega
    have e3 : 0 ≤ (d : Int) * cs k := Int.mul_nonneg (by omega) (by omega)
    rw [e1] at hm ⊢
    rw [e2] at hl ⊢
    refine Ok.bif (fun hb => ?_) (fun hb => ?_)
    · simp only [decide_eq_true_eq] at hb
      refine Ok.bnd (hs a lo ha hr (by omega)) fun r1 h1 => ?_
      have hl1 := mSs_len l
      have hl2 := mSs_len r1.1
      have h12 := h1.2
      have hn := hg.cnt
      refine Ok.bnd (Got.app (c := .stm) hg (ys := r1.1) (by omega)) fun B2 hB2 => ?_
      rw [wrap_id (n := i + 1) (by omega) (by omega)]
      have ea := mSs_append l r1.1
      exact (blockp_of hs ha d (i + 1) _ (l ++ r1.1) _ (by omega) (by omega) (by omega) (by omega) (by omega) hB2.1 h1.1 (by omega)).mono fun r hr => ⟨hr.1.mono (by omega), (let ⟨l', q1, q2⟩ := hr.2; ⟨l', q1, by omega⟩)⟩
    · exact Ok.of ⟨hr.mono (by omega), l, hg, by omega⟩

theorem mSs_take (l : List Stm) (i : Nat) : mSs (l.take i) ≤ mSs l := by
  have := mSs_append (l.take i) (l.drop i)
  rw [List.take_append_drop] at this; omega

theorem stmtsp_l {A : List Ent} {b : List Int} {p : Int} : ∀ (d : Nat) (h : Hd) (l : List Stm) (B : List Ent), l.length ≤ d → mSs l ≤ 1000000000 → Got .stm A l h B →
    Ok (spec_l92Stmts_p_l1 h b p B) fun r => r.2.1 = b ∧ r.2.2.1 = p ∧ ∃ l', Got .stm A l' r.1 r.2.2.2 ∧ mSs l' ≤ mSs l ∧ cSs l' ≤ 16
  | d, h, l, B, hd, hl, hg => by
    apply Ok.le (spec_l92Stmts_p_l1_le _ _ _ _)
    have hc := cSs_le l
    rw [arView_stm, hg.get, bnd_some, spec_l11Count_eq (by omega), bnd_some]
    refine Ok.bif (fun hb => ?_) (fun hb => ?_)
    · simp only [decide_eq_true_eq] at hb
      have hn := hg.cnt
      have hm := mSs_len l
      have hpos : 0 < l.length := by
        cases l with
        | nil => simp [cSs] at hb
        | cons s r => simp
      rw [wrap_id (n := ((h.n : Nat) : Int) - 1) (by omega) (by omega)]
      refine Ok.bnd (hg.cut (i := ((h.n : Nat) : Int) - 1) (by omega) (by omega)) fun q hq => ?_
      have ht := mSs_take l (((h.n : Nat) : Int) - 1).toNat
      match d, hd with
      | 0, hd => omega
      | d + 1, hd =>
        exact (stmtsp_l d _ _ q.2 (by simp; omega) (by omega) hq.1).mono fun r hr => ⟨hr.1, hr.2.1, (let ⟨l', q1, q2, q3⟩ := hr.2.2; ⟨l', q1, by omega, q3⟩)⟩
    · simp only [decide_eq_false_iff_not] at hb
      exact Ok.of ⟨rfl, rfl, l, hg, by omega, by omega⟩

theorem l92Stmts_p_ok {b : List Int} {p m : Int} (a : Int) (ha : a ≤ 1000) (A : List Ent) (h : Rd b p m) (hm : m ≤ 999900000) : Ok (spec_l92Stmts_p a b p A) fun r => Rd r.2.1 r.2.2.1 (m + 23000) ∧ ∃ l, Got .stm A l r.1 r.2.2.2 ∧ mSs l ≤ 10000 ∧ cSs l ≤ 16 := by
  apply Ok.le (spec_l92Stmts_p_le a b p A)
  have hcs : cs 3 = 3820 := by decide
  have hms : ms 3 = 1590 := by decide
  refine Ok.bnd (pick_ok h (by omega) (by decide)) fun r1 h1 => ?_
  have hk := h1.2.2.1 (by omega)
  rw [wrap_id (n := 1 + r1.1) (by omega) (by omega)]
  have hb : Ok (spec_l92Block_p a 3 (1 + r1.1) true r1.2.1 r1.2.2 A) fun r => Rd r.2.1 r.2.2.1 (m + 1 + 6 * 3820) ∧ ∃ l', Got .stm A l' r.1 r.2.2.2 ∧ mSs l' ≤ 10000 := by
    apply Ok.le (spec_l92Block_p_le _ _ _ _ _ _ _)
    have hg : Got .stm A [] ⟨some A.length, 0⟩ (arPush A .stm ([] : List Stm)) := Got.push (c := .stm) (l := ([] : List Stm)) (Ext.refl _ A)
    refine Ok.bnd (blockp_of (stmts_ok 3 (by omega)) (a := a) (n := 1 + r1.1) (lo := true) ha 6 0 _ [] _ (by omega) (by omega) (by omega) (by simp [mSs, hms]) (by omega) hg h1.1 (by rw [hcs]; omega)) fun r hr => ?_
    obtain ⟨h1, l', h2, h3⟩ := hr
    rw [hcs] at h1
    rw [hms] at h3
    exact Ok.of ⟨h1.mono (by omega), l', h2, by simp only [mSs] at h3; omega⟩
  refine Ok.bnd hb fun r2 h2 => ?_
  obtain ⟨h2r, l, h2g, h2m⟩ := h2
  refine Ok.bnd (stmtsp_l (b := r2.2.1) (p := r2.2.2.1) l.length r2.1 l r2.2.2.2 (Nat.le_refl _) (by omega) h2g) fun r3 h3 => ?_
  obtain ⟨e1, e2, l', h3g, h3m, h3c⟩ := h3
  refine Ok.of ⟨?_, l', h3g, by omega, h3c⟩
  dsimp only
  rw [e1, e2]; exact h2r.mono (by omega)

mutual
def binX : Exp → Bool
  | ⟨_, n, as⟩ => decide (as.length = 0 ∨ (as.length = 2 ∧ n = 0)) && binXs as
def binXs : List Exp → Bool
  | [] => true
  | e :: r => binX e && binXs r
end

mutual
def binS : Stm → Bool
  | ⟨_, _, _, e, bd, el⟩ => binX e && binSs bd && binSs el
def binSs : List Stm → Bool
  | [] => true
  | s :: r => binS s && binSs r
end

theorem binX_eq (e : Exp) : binX e = (decide (e.args.length = 0 ∨ (e.args.length = 2 ∧ e.n = 0)) && binXs e.args) := by cases e; simp [binX]

theorem binS_eq (s : Stm) : binS s = (binX s.e && binSs s.body && binSs s.els) := by cases s; simp [binS]

theorem binXs_all : ∀ l : List Exp, binXs l = l.all binX
  | [] => rfl
  | e :: r => by simp [binXs, binXs_all r]

theorem binSs_all : ∀ l : List Stm, binSs l = l.all binS
  | [] => rfl
  | e :: r => by simp [binSs, binSs_all r]

theorem binX_leaf {e : Exp} (h : e.args = []) : binX e = true := by rw [binX_eq, h]; rfl

theorem binX_ok : ∀ (d : Nat) (e : Exp), expOk d e = true → binX e = true
  | 0, e, h => by simp [expOk] at h
  | d + 1, e, h => by
    unfold expOk at h
    split at h
    · simp only [Bool.and_eq_true] at h
      exact binX_leaf (by simpa using h.2)
    split at h
    · simp only [Bool.and_eq_true] at h
      exact binX_leaf (by simpa using h.2)
    · simp only [Bool.and_eq_true] at h
      obtain ⟨⟨_, hn⟩, h⟩ := h
      have hn := of_decide_eq_true hn
      split at h
      · rename_i a b hab
        simp only [Bool.and_eq_true] at h
        rw [binX_eq, hab]
        simp [binXs, binX_ok d a h.1, binX_ok d b h.2, hn]
      · cases h

theorem binX_hdr {s : Stm} (h : hdr s) : binX s.e = true := by
  have e0 : ∀ {e : Exp}, (e.args.length : Int) = 0 → binX e = true := fun h => binX_leaf (List.eq_nil_of_length_eq_zero (by omega))
  rcases h with ⟨_, _, _, h, _⟩ | ⟨_, _, _, h⟩ | ⟨_, _, _, h, _⟩ | ⟨_, _, _, h, _⟩ | ⟨_, _, _, ⟨_, _, h⟩, _⟩ | ⟨_, _, _, ⟨_, _, h⟩, _⟩ | ⟨_, _, _, h, _⟩
  all_goals first | exact binX_ok _ _ h | exact e0 h

theorem binS_ok : ∀ (d : Nat) (s : Stm), sOk d s = true → binS s = true := by
  have leaf : ∀ {s : Stm}, hdr s → s.kind ≠ 2 → s.kind ≠ 3 → binS s = true := by
    intro s h h2 h3
    obtain ⟨e1, e2⟩ := hdr_leaf h h2 h3
    rw [binS_eq, e1, e2, binX_hdr h]; rfl
  intro d
  induction d with
  | zero =>
    intro s h
    simp only [sOk, Bool.and_eq_true, decide_eq_true_eq, Bool.not_eq_true', decide_eq_false_iff_not] at h
    exact leaf h.1 (fun hh => h.2 (.inl hh)) (fun hh => h.2 (.inr hh))
  | succ d ih =>
    intro s h
    simp only [sOk, Bool.and_eq_true, decide_eq_true_eq] at h
    obtain ⟨h1, h2⟩ := h
    by_cases hk : s.kind = 2 ∨ s.kind = 3
    · rw [if_pos hk, Bool.and_eq_true, List.all_eq_true, List.all_eq_true] at h2
      rw [binS_eq, binX_hdr h1, binSs_all, binSs_all, List.all_eq_true.2 fun s hs => ih s (h2.1 s hs), List.all_eq_true.2 fun s hs => ih s (h2.2 s hs)]; rfl
    · exact leaf h1 (fun hh => hk (.inl hh)) (fun hh => hk (.inr hh))

theorem binSs_ok {l : List Stm} (h : stOk l = true) : binSs l = true := by
  unfold stOk at h
  simp only [decide_eq_true_eq] at h
  rw [binSs_all, List.all_eq_true]
  exact fun s hs => binS_ok 3 s (List.all_eq_true.1 h.1 s hs)

theorem spec_l4Copy_eq : ∀ e : Exp, binX e = true → spec_l4Copy e = some e := by
  apply Exp.ind
  intro e ih hb
  apply spec_l4Copy_le
  rw [binX_eq, binXs_all] at hb
  simp only [Bool.and_eq_true, decide_eq_true_eq, List.all_eq_true] at hb
  obtain ⟨h1, h2⟩ := hb
  obtain ⟨o, n, as⟩ := e
  match as, h1, ih, h2 with
  | [], _, _, _ => simp [l4Leaf_eq]
  | [a, b], _, ih, h2 =>
    have ha := ih a (by simp) (h2 a (by simp))
    have hb := ih b (by simp) (h2 b (by simp))
    have g0 : geti [a, b] 0 = some a := rfl
    have g1 : geti [a, b] 1 = some b := rfl
    have hn : n = 0 := by
      rename_i h1
      rcases h1 with h1 | h1
      · simp at h1
      · exact h1.2
    subst hn
    simp only [g0, g1, bnd_some, exp_eta, ha, hb, l4Both_eq]
    simp

theorem stm_eta2 (s : Stm) : (⟨s.kind, s.var, s.box, s.e, s.body, s.els⟩ : Stm) = s := by cases s; rfl

theorem exprCopy_l {l : List Exp} {x0 x1 o n : Int} {f0 : Bool} {l0 : List Exp} (hl : (l.length : Int) ≤ 4294967296) (hp : ∀ e ∈ l, impl_exprCopy e = some e) : ∀ (d i : Nat) (f : Bool), i + d = l.length →
    Ok (impl_exprCopy_l1 l l.length i x0 x1 f0 l0 o n f (l.take i)) fun r => r.2.2.2.1 = o ∧ r.2.2.2.2.1 = n ∧ r.2.2.2.2.2.2 = l
  | 0, i, f, hd => by
    apply Ok.le (impl_exprCopy_l1_le _ _ _ _ _ _ _ _ _ _ _)
    have hi : ¬ ((i : Int) < l.length) := by omega
    simp only [hi, decide_false, cond_false]
    exact Ok.of ⟨rfl, rfl, List.take_of_length_le (by omega)⟩
  | d + 1, i, f, hd => by
    apply Ok.le (impl_exprCopy_l1_le _ _ _ _ _ _ _ _ _ _ _)
    have hi : i < l.length := by omega
    have hi' : (i : Int) < l.length := by omega
    simp only [hi', decide_true, cond_true, geti_some hi, bnd_some, exp_eta, hp _ (List.getElem_mem hi), wrap_succ (show (i : Int) < 9223372036854775807 by omega), appL_some (show (l.take i).length + [l[i]].length ≤ 4294967296 by simp; omega)]
    have e : l.take i ++ [l[i]] = l.take (i + 1) := by rw [List.take_add_one, List.getElem?_eq_getElem hi]; rfl
    rw [e]
    exact exprCopy_l hl hp d (i + 1) true (by omega)

theorem impl_exprCopy_eq : ∀ e : Exp, emX e ≤ 4294967296 → impl_exprCopy e = some e := by
  apply Exp.ind
  intro e ih hm
  apply impl_exprCopy_le
  rw [emX_eq] at hm
  have hl := emXs_len e.args
  obtain ⟨r, h1, h2, h3, h4⟩ := exprCopy_l (l := e.args) (x0 := 0) (x1 := 0) (o := e.op) (n := e.n) (f0 := false) (l0 := []) (by omega) (fun a ha => ih a ha (by have := emX_mem ha; omega)) e.args.length 0 false (by omega)
  have h1' : impl_exprCopy_l1 e.args (e.args.length : Int) 0 0 0 false [] e.op e.n false [] = some r := h1
  rw [h1', bnd_some, h2, h3, h4, exp_eta]

theorem stmtsCopy_l {l : List Stm} (hl : (l.length : Int) ≤ 4294967296) (hp : ∀ s ∈ l, impl_stmtsCopy s.body = some s.body ∧ impl_stmtsCopy s.els = some s.els ∧ impl_exprCopy s.e = some s.e) : ∀ (d i : Nat) (f : Bool), i + d = l.length →
    Ok (impl_stmtsCopy_l1 f (l.take i) l l.length i) fun r => r.2 = l
  | 0, i, f, hd => by
    apply Ok.le (impl_stmtsCopy_l1_le _ _ _ _ _)
    have hi : ¬ ((i : Int) < l.length) := by omega
    simp only [hi, decide_false, cond_false]
    exact Ok.of (List.take_of_length_le (by omega))
  | d + 1, i, f, hd => by
    apply Ok.le (impl_stmtsCopy_l1_le _ _ _ _ _)
    have hi : i < l.length := by omega
    have hi' : (i : Int) < l.length := by omega
    obtain ⟨h1, h2, h3⟩ := hp _ (List.getElem_mem hi)
    simp only [hi', decide_true, cond_true, geti_some hi, bnd_some, exp_eta, h1, h2, h3, stm_eta2, wrap_succ (show (i : Int) < 9223372036854775807 by omega), appL_some (show (l.take i).length + [l[i]].length ≤ 4294967296 by simp; omega)]
    have e : l.take i ++ [l[i]] = l.take (i + 1) := by rw [List.take_add_one, List.getElem?_eq_getElem hi]; rfl
    rw [e]
    exact stmtsCopy_l hl hp d (i + 1) true (by omega)

theorem impl_stmtsCopy_of {l : List Stm} (hl : (l.length : Int) ≤ 4294967296) (hp : ∀ s ∈ l, impl_stmtsCopy s.body = some s.body ∧ impl_stmtsCopy s.els = some s.els ∧ impl_exprCopy s.e = some s.e) : impl_stmtsCopy l = some l := by
  apply impl_stmtsCopy_le
  obtain ⟨r, h1, h2⟩ := stmtsCopy_l hl hp l.length 0 false (by omega)
  have h1' : impl_stmtsCopy_l1 false [] l (l.length : Int) 0 = some r := h1
  rw [h1', bnd_some, h2]

theorem impl_stmtsCopy_parts : ∀ s : Stm, mS s ≤ 4294967296 → impl_stmtsCopy s.body = some s.body ∧ impl_stmtsCopy s.els = some s.els ∧ impl_exprCopy s.e = some s.e := by
  apply Stm.ind
  intro s ih1 ih2 hm
  rw [mS_eq] at hm
  have l1 := mSs_len s.body
  have l2 := mSs_len s.els
  exact ⟨impl_stmtsCopy_of (by omega) (fun a ha => ih1 a ha (by have := mS_mem ha; omega)), impl_stmtsCopy_of (by omega) (fun a ha => ih2 a ha (by have := mS_mem ha; omega)), impl_exprCopy_eq _ (by omega)⟩

theorem impl_stmtsCopy_eq {l : List Stm} (hm : mSs l ≤ 4294967296) : impl_stmtsCopy l = some l :=
  impl_stmtsCopy_of (by have := mSs_len l; omega) fun s hs => impl_stmtsCopy_parts s (by have := mS_mem hs; omega)

theorem l11Copy_l {l : List Stm} (hl : (l.length : Int) ≤ 4294967296) (hp : ∀ s ∈ l, spec_l11Copy s.body = some s.body ∧ spec_l11Copy s.els = some s.els ∧ spec_l4Copy s.e = some s.e) : ∀ (d i : Nat) (f : Bool), i + d = l.length →
    Ok (spec_l11Copy_l1 l f (l.take i) i) fun r => r.2 = l
  | 0, i, f, hd => by
    apply Ok.le (spec_l11Copy_l1_le _ _ _ _)
    have hi : ¬ ((i : Int) < l.length) := by omega
    simp only [hi, decide_false, cond_false]
    exact Ok.of (List.take_of_length_le (by omega))
  | d + 1, i, f, hd => by
    apply Ok.le (spec_l11Copy_l1_le _ _ _ _)
    have hi : i < l.length := by omega
    have hi' : (i : Int) < l.length := by omega
    obtain ⟨h1, h2, h3⟩ := hp _ (List.getElem_mem hi)
    simp only [hi', decide_true, cond_true, geti_some hi, bnd_some, exp_eta, h1, h2, h3, stm_eta2, wrap_succ (show (i : Int) < 9223372036854775807 by omega), appL_some (show (l.take i).length + [l[i]].length ≤ 4294967296 by simp; omega)]
    have e : l.take i ++ [l[i]] = l.take (i + 1) := by rw [List.take_add_one, List.getElem?_eq_getElem hi]; rfl
    rw [e]
    exact l11Copy_l hl hp d (i + 1) true (by omega)

theorem spec_l11Copy_of {l : List Stm} (hl : (l.length : Int) ≤ 4294967296) (hp : ∀ s ∈ l, spec_l11Copy s.body = some s.body ∧ spec_l11Copy s.els = some s.els ∧ spec_l4Copy s.e = some s.e) : spec_l11Copy l = some l := by
  apply spec_l11Copy_le
  obtain ⟨r, h1, h2⟩ := l11Copy_l hl hp l.length 0 true (by omega)
  have h1' : spec_l11Copy_l1 l true ([] : List Stm) 0 = some r := h1
  rw [h1', bnd_some, h2]

theorem spec_l11Copy_parts : ∀ s : Stm, mS s ≤ 4294967296 → binS s = true → spec_l11Copy s.body = some s.body ∧ spec_l11Copy s.els = some s.els ∧ spec_l4Copy s.e = some s.e := by
  apply Stm.ind
  intro s ih1 ih2 hm hb
  rw [mS_eq] at hm
  rw [binS_eq, binSs_all, binSs_all] at hb
  simp only [Bool.and_eq_true, List.all_eq_true] at hb
  have l1 := mSs_len s.body
  have l2 := mSs_len s.els
  exact ⟨spec_l11Copy_of (by omega) (fun a ha => ih1 a ha (by have := mS_mem ha; omega) (hb.1.2 a ha)), spec_l11Copy_of (by omega) (fun a ha => ih2 a ha (by have := mS_mem ha; omega) (hb.2 a ha)), spec_l4Copy_eq _ hb.1.1⟩

theorem spec_l11Copy_eq {l : List Stm} (hm : mSs l ≤ 4294967296) (hb : binSs l = true) : spec_l11Copy l = some l := by
  rw [binSs_all, List.all_eq_true] at hb
  exact spec_l11Copy_of (by have := mSs_len l; omega) fun s hs => spec_l11Copy_parts s (by have := mS_mem hs; omega) (hb s hs)

theorem sameExpr_l {l : List Exp} {o n : Int} (hl : (l.length : Int) ≤ 4294967296) (hp : ∀ e ∈ l, laws_sameExpr e e = some true) : ∀ (d i : Nat), i + d = l.length → laws_sameExpr_l1 i o n l o n l = some (.inl ())
  | 0, i, hd => by
    apply laws_sameExpr_l1_le
    have hi : ¬ ((i : Int) < l.length) := by omega
    simp [hi]
  | d + 1, i, hd => by
    apply laws_sameExpr_l1_le
    have hi : i < l.length := by omega
    have hi' : (i : Int) < l.length := by omega
    simp only [hi', decide_true, cond_true, geti_some hi, bnd_some, exp_eta, hp _ (List.getElem_mem hi), Bool.not_true, cond_false, wrap_succ (show (i : Int) < 9223372036854775807 by omega)]
    exact sameExpr_l hl hp d (i + 1) (by omega)

theorem laws_sameExpr_refl : ∀ e : Exp, emX e ≤ 4294967296 → laws_sameExpr e e = some true := by
  apply Exp.ind
  intro e ih hm
  apply laws_sameExpr_le
  rw [emX_eq] at hm
  have hl := emXs_len e.args
  have h : laws_sameExpr_l1 0 e.op e.n e.args e.op e.n e.args = some (.inl ()) := sameExpr_l (l := e.args) (by omega) (fun a ha => ih a ha (by have := emX_mem ha; omega)) e.args.length 0 (by omega)
  simp [h, selm]

theorem sameStmts_l {l : List Stm} (hl : (l.length : Int) ≤ 4294967296) (hp : ∀ s ∈ l, laws_sameStmts s.body s.body = some true ∧ laws_sameStmts s.els s.els = some true ∧ laws_sameExpr s.e s.e = some true) : ∀ (d i : Nat), i + d = l.length → laws_sameStmts_l1 l l i = some (.inl ())
  | 0, i, hd => by
    apply laws_sameStmts_l1_le
    have hi : ¬ ((i : Int) < l.length) := by omega
    simp [hi]
  | d + 1, i, hd => by
    apply laws_sameStmts_l1_le
    have hi : i < l.length := by omega
    have hi' : (i : Int) < l.length := by omega
    obtain ⟨h1, h2, h3⟩ := hp _ (List.getElem_mem hi)
    simp only [hi', decide_true, cond_true, geti_some hi, bnd_some, exp_eta, h1, h2, h3, Bool.not_true, cond_false, wrap_succ (show (i : Int) < 9223372036854775807 by omega)]
    exact sameStmts_l hl hp d (i + 1) (by omega)

theorem laws_sameStmts_of {l : List Stm} (hl : (l.length : Int) ≤ 4294967296) (hp : ∀ s ∈ l, laws_sameStmts s.body s.body = some true ∧ laws_sameStmts s.els s.els = some true ∧ laws_sameExpr s.e s.e = some true) : laws_sameStmts l l = some true := by
  apply laws_sameStmts_le
  have h : laws_sameStmts_l1 l l 0 = some (.inl ()) := sameStmts_l hl hp l.length 0 (by omega)
  simp [h, selm]

theorem laws_sameStmts_parts : ∀ s : Stm, mS s ≤ 4294967296 → laws_sameStmts s.body s.body = some true ∧ laws_sameStmts s.els s.els = some true ∧ laws_sameExpr s.e s.e = some true := by
  apply Stm.ind
  intro s ih1 ih2 hm
  rw [mS_eq] at hm
  have l1 := mSs_len s.body
  have l2 := mSs_len s.els
  exact ⟨laws_sameStmts_of (by omega) (fun a ha => ih1 a ha (by have := mS_mem ha; omega)), laws_sameStmts_of (by omega) (fun a ha => ih2 a ha (by have := mS_mem ha; omega)), laws_sameExpr_refl _ (by omega)⟩

theorem laws_sameStmts_refl {l : List Stm} (hm : mSs l ≤ 4294967296) : laws_sameStmts l l = some true :=
  laws_sameStmts_of (by have := mSs_len l; omega) fun s hs => laws_sameStmts_parts s (by have := mS_mem hs; omega)

theorem laws_sameTask_refl {t : Tk} (hv : (t.vars.length : Int) ≤ 4294967296) (hm : mSs t.rest ≤ 4294967296) : laws_sameTask t t = some true := by
  apply laws_sameTask_le
  rw [laws_sameInts_refl hv, bnd_some, laws_sameStmts_refl hm]; rfl

def taskN (l : List Stm) : Tk × Bool := if stOk l = true then (⟨[0, 0, 0, 0], l⟩, true) else (⟨[], []⟩, false)

theorem impl_TaskNew_eq {l : List Stm} (hm : mSs l ≤ 4294967296) : impl_TaskNew l = some (taskN l) := by
  apply impl_TaskNew_le
  have hv : impl_StmtsValid l = some (stOk l) := by
    apply impl_StmtsValid_le
    rw [impl_stmtsValid_eq l hm]; rfl
  rw [hv, bnd_some, impl_stmtsCopy_eq hm, bnd_some]
  unfold taskN
  cases stOk l <;> rfl

theorem spec_TaskNew_eq {l : List Stm} (hm : mSs l ≤ 4294967296) : spec_TaskNew l = some (taskN l) := by
  apply spec_TaskNew_le
  rw [spec_StmtsValid_eq l hm, bnd_some]
  unfold taskN
  cases hs : stOk l
  · rfl
  · rw [spec_l11Copy_eq hm (binSs_ok hs), bnd_some]; rfl

theorem cSs_one (s : Stm) : cSs [s] = cS s := by simp [cSs]

theorem rests_of {l : List Stm} (h : stOk l = true) : rests l = true := by
  unfold stOk at h
  simp only [decide_eq_true_eq] at h
  unfold rests
  rw [List.all_eq_true]
  intro s hs
  unfold stOk
  simp only [decide_eq_true_eq]
  refine ⟨by simp [List.all_eq_true.1 h.1 s hs], ?_⟩
  have := cS_mem hs
  rw [cSs_one]; omega

def roomsOk (l : List Int) : Bool := l.all fun n => decide (1 ≤ n ∧ n ≤ 4)

theorem roomsOk_drop {l : List Int} {i : Nat} (hi : i < l.length) : roomsOk (l.drop i) = (decide (1 ≤ l[i] ∧ l[i] ≤ 4) && roomsOk (l.drop (i + 1))) := by
  unfold roomsOk; rw [List.drop_eq_getElem_cons hi, List.all_cons]

theorem impl_rooms_l {l : List Int} (hl : (l.length : Int) ≤ 4294967296) : ∀ (d i : Nat), i + d = l.length → impl_roomsValid_l1 l l l.length i = some (if roomsOk (l.drop i) then .inl l else .inr (l, false))
  | 0, i, hd => by
    apply impl_roomsValid_l1_le
    have hi : ¬ ((i : Int) < l.length) := by omega
    rw [List.drop_eq_nil_of_le (by omega)]
    simp [hi, roomsOk]
  | d + 1, i, hd => by
    apply impl_roomsValid_l1_le
    have hi : i < l.length := by omega
    have hi' : (i : Int) < l.length := by omega
    rw [roomsOk_drop hi]
    simp only [hi', decide_true, cond_true, geti_some hi, bnd_some, wrap_succ (show (i : Int) < 9223372036854775807 by omega), impl_rooms_l hl d (i + 1) (by omega)]
    by_cases h1 : l[i] < 1
    · have : ¬ (1 ≤ l[i] ∧ l[i] ≤ 4) := by omega
      simp [h1, this]
    by_cases h2 : 4 < l[i]
    · have : ¬ (1 ≤ l[i] ∧ l[i] ≤ 4) := by omega
      simp [h1, h2, this]
    · have : 1 ≤ l[i] ∧ l[i] ≤ 4 := by omega
      simp [h1, h2, this]

theorem impl_roomsValid_eq {l : List Int} (hl : (l.length : Int) ≤ 4294967296) : impl_roomsValid l = some (roomsOk l && decide ((l.length : Int) ≤ 3)) := by
  apply impl_roomsValid_le
  have h : impl_roomsValid_l1 l l (l.length : Int) 0 = _ := impl_rooms_l hl l.length 0 (by omega)
  rw [h, bnd_some, List.drop_zero]
  cases roomsOk l <;> simp [selm]

theorem spec_rooms_l {l : List Int} (hl : (l.length : Int) ≤ 4294967296) : ∀ (d i : Nat), i + d = l.length → spec_l12Rooms_l1 l i = some (if roomsOk (l.drop i) then .inl l else .inr (l, false))
  | 0, i, hd => by
    apply spec_l12Rooms_l1_le
    have hi : ¬ ((i : Int) < l.length) := by omega
    rw [List.drop_eq_nil_of_le (by omega)]
    simp [hi, roomsOk]
  | d + 1, i, hd => by
    apply spec_l12Rooms_l1_le
    have hi : i < l.length := by omega
    have hi' : (i : Int) < l.length := by omega
    rw [roomsOk_drop hi]
    simp only [hi', decide_true, cond_true, geti_some hi, bnd_some, spec_l6In_eq, wrap_succ (show (i : Int) < 9223372036854775807 by omega), spec_rooms_l hl d (i + 1) (by omega)]
    by_cases h1 : 1 ≤ l[i] ∧ l[i] ≤ 4 <;> simp [h1]

theorem spec_l12Rooms_eq {l : List Int} (hl : (l.length : Int) ≤ 4294967296) : spec_l12Rooms l = some (roomsOk l && decide ((l.length : Int) ≤ 3)) := by
  apply spec_l12Rooms_le
  have h : spec_l12Rooms_l1 l 0 = _ := spec_rooms_l hl l.length 0 (by omega)
  rw [h, bnd_some, List.drop_zero]
  cases roomsOk l <;> simp [selm]

def lsOk (n : Int) (l : List (List Stm)) : Bool := l.all fun x => stOk x && bSs n x

theorem lsOk_drop {n : Int} {l : List (List Stm)} {i : Nat} (hi : i < l.length) : lsOk n (l.drop i) = ((stOk l[i] && bSs n l[i]) && lsOk n (l.drop (i + 1))) := by
  unfold lsOk; rw [List.drop_eq_getElem_cons hi, List.all_cons]

theorem impl_lists_l {r : List Int} (hr : (r.length : Int) ≤ 3) {l : List (List Stm)} (hl : (l.length : Int) ≤ 4294967296) (hm : ∀ x ∈ l, mSs x ≤ 4294967296) : ∀ (d i : Nat), i + d = l.length → impl_ProgramValid_l1 l l.length i r l = some (if lsOk r.length (l.drop i) then .inl () else .inr false)
  | 0, i, hd => by
    apply impl_ProgramValid_l1_le
    have hi : ¬ ((i : Int) < l.length) := by omega
    rw [List.drop_eq_nil_of_le (by omega)]
    simp [hi, lsOk]
  | d + 1, i, hd => by
    apply impl_ProgramValid_l1_le
    have hi : i < l.length := by omega
    have hi' : (i : Int) < l.length := by omega
    rw [lsOk_drop hi]
    simp only [hi', decide_true, cond_true, geti_some hi, bnd_some, impl_stmtsValid_n (show (0 : Int) ≤ (r.length : Int) ∧ (r.length : Int) ≤ 3 by omega) _ (hm _ (List.getElem_mem hi)), wrap_succ (show (i : Int) < 9223372036854775807 by omega), impl_lists_l hr hl hm d (i + 1) (by omega)]
    cases stOk l[i] && bSs (r.length : Int) l[i] <;> simp

theorem spec_lists_l {r : List Int} {l : List (List Stm)} (hl : (l.length : Int) ≤ 4294967296) (hm : ∀ x ∈ l, mSs x ≤ 4294967296) : ∀ (d i : Nat), i + d = l.length → spec_ProgramValid_l1 i r l = some (if lsOk r.length (l.drop i) then .inl () else .inr false)
  | 0, i, hd => by
    apply spec_ProgramValid_l1_le
    have hi : ¬ ((i : Int) < l.length) := by omega
    rw [List.drop_eq_nil_of_le (by omega)]
    simp [hi, lsOk]
  | d + 1, i, hd => by
    apply spec_ProgramValid_l1_le
    have hi : i < l.length := by omega
    have hi' : (i : Int) < l.length := by omega
    rw [lsOk_drop hi]
    simp only [hi', decide_true, cond_true, geti_some hi, bnd_some, spec_StmtsValid_eq _ (hm _ (List.getElem_mem hi)), spec_l12Boxes_eq (hm _ (List.getElem_mem hi)), wrap_succ (show (i : Int) < 9223372036854775807 by omega), spec_lists_l hl hm d (i + 1) (by omega)]
    cases stOk l[i] <;> cases bSs (r.length : Int) l[i] <;> simp

def progOk (p : Prg) : Bool := (roomsOk p.rooms && decide ((p.rooms.length : Int) ≤ 3)) && decide (1 ≤ (p.tasks.length : Int) ∧ (p.tasks.length : Int) ≤ 3) && lsOk p.rooms.length p.tasks

theorem impl_ProgramValid_eq {p : Prg} (hr : (p.rooms.length : Int) ≤ 4294967296) (hl : (p.tasks.length : Int) ≤ 4294967296) (hm : ∀ x ∈ p.tasks, mSs x ≤ 4294967296) : impl_ProgramValid p = some (progOk p) := by
  apply impl_ProgramValid_le
  rw [impl_roomsValid_eq hr, bnd_some]
  unfold progOk
  by_cases h3 : (p.rooms.length : Int) ≤ 3
  · have h : impl_ProgramValid_l1 p.tasks (p.tasks.length : Int) 0 p.rooms p.tasks = _ := impl_lists_l h3 hl hm p.tasks.length 0 (by omega)
    rw [h, bnd_some, List.drop_zero]
    cases roomsOk p.rooms
    · simp
    by_cases h1 : (p.tasks.length : Int) < 1
    · have : ¬ (1 ≤ (p.tasks.length : Int) ∧ (p.tasks.length : Int) ≤ 3) := by omega
      simp only [this, h1, h3, decide_true, decide_false, Bool.and_true, Bool.not_true, cond_false, cond_true, Bool.and_false, Bool.false_and]
    by_cases h2 : 3 < (p.tasks.length : Int)
    · have : ¬ (1 ≤ (p.tasks.length : Int) ∧ (p.tasks.length : Int) ≤ 3) := by omega
      simp only [this, h1, h2, h3, decide_true, decide_false, Bool.and_true, Bool.not_true, cond_false, cond_true, Bool.and_false, Bool.false_and]
    · have : 1 ≤ (p.tasks.length : Int) ∧ (p.tasks.length : Int) ≤ 3 := by omega
      simp only [this, h1, h2, h3, decide_true, decide_false, Bool.and_true, Bool.true_and, Bool.not_true, cond_false, and_self]
      cases lsOk (p.rooms.length : Int) p.tasks <;> simp [selm]
  · simp [h3]

theorem spec_ProgramValid_eq {p : Prg} (hr : (p.rooms.length : Int) ≤ 4294967296) (hl : (p.tasks.length : Int) ≤ 4294967296) (hm : ∀ x ∈ p.tasks, mSs x ≤ 4294967296) : spec_ProgramValid p = some (progOk p) := by
  apply spec_ProgramValid_le
  have h : spec_ProgramValid_l1 0 p.rooms p.tasks = _ := spec_lists_l hl hm p.tasks.length 0 (by omega)
  rw [spec_l12Rooms_eq hr, bnd_some, spec_l6In_eq, bnd_some, h, bnd_some, List.drop_zero]
  unfold progOk
  cases roomsOk p.rooms && decide ((p.rooms.length : Int) ≤ 3)
  · simp
  by_cases h1 : 1 ≤ (p.tasks.length : Int) ∧ (p.tasks.length : Int) ≤ 3
  · simp only [h1, and_self, decide_true, Bool.not_true, cond_false, Bool.true_and]
    cases lsOk (p.rooms.length : Int) p.tasks <;> simp [selm]
  · simp only [h1, decide_false, Bool.not_false, cond_true, Bool.not_true, cond_false, Bool.and_false, Bool.false_and]

theorem impl_boxesNew_l {l : List Int} (hl : (l.length : Int) ≤ 4294967296) : ∀ (d i : Nat) (f : Bool), i + d = l.length → Ok (impl_boxesNew_l1 f ((l.take i).map fun n => (⟨n, []⟩ : Bx)) l l.length i) fun r => r.2 = l.map fun n => (⟨n, []⟩ : Bx)
  | 0, i, f, hd => by
    apply Ok.le (impl_boxesNew_l1_le _ _ _ _ _)
    have hi : ¬ ((i : Int) < l.length) := by omega
    simp only [hi, decide_false, cond_false]
    exact Ok.of (by rw [List.take_of_length_le (by omega)])
  | d + 1, i, f, hd => by
    apply Ok.le (impl_boxesNew_l1_le _ _ _ _ _)
    have hi : i < l.length := by omega
    have hi' : (i : Int) < l.length := by omega
    simp only [hi', decide_true, cond_true, geti_some hi, bnd_some, wrap_succ (show (i : Int) < 9223372036854775807 by omega), appL_some (show ((l.take i).map fun n => (⟨n, []⟩ : Bx)).length + [(⟨l[i], []⟩ : Bx)].length ≤ 4294967296 by simp; omega)]
    have e : ((l.take i).map fun n => (⟨n, []⟩ : Bx)) ++ [(⟨l[i], []⟩ : Bx)] = (l.take (i + 1)).map fun n => (⟨n, []⟩ : Bx) := by rw [List.take_add_one, List.getElem?_eq_getElem hi, List.map_append]; rfl
    rw [e]
    exact impl_boxesNew_l hl d (i + 1) true (by omega)

theorem impl_boxesNew_eq {l : List Int} (hl : (l.length : Int) ≤ 4294967296) : impl_boxesNew l = some (l.map fun n => (⟨n, []⟩ : Bx)) := by
  apply impl_boxesNew_le
  obtain ⟨r, h1, h2⟩ := impl_boxesNew_l hl l.length 0 false (by omega)
  have h1' : impl_boxesNew_l1 false [] l (l.length : Int) 0 = some r := h1
  rw [h1', bnd_some, h2]

theorem spec_l16Empty_l {l : List Int} (hl : (l.length : Int) ≤ 4294967296) : ∀ (d i : Nat) (f : Bool), i + d = l.length → Ok (spec_l16Empty_l1 l f ((l.take i).map fun n => (⟨n, []⟩ : Bx)) i) fun r => r.2 = l.map fun n => (⟨n, []⟩ : Bx)
  | 0, i, f, hd => by
    apply Ok.le (spec_l16Empty_l1_le _ _ _ _)
    have hi : ¬ ((i : Int) < l.length) := by omega
    simp only [hi, decide_false, cond_false]
    exact Ok.of (by rw [List.take_of_length_le (by omega)])
  | d + 1, i, f, hd => by
    apply Ok.le (spec_l16Empty_l1_le _ _ _ _)
    have hi : i < l.length := by omega
    have hi' : (i : Int) < l.length := by omega
    simp only [hi', decide_true, cond_true, geti_some hi, bnd_some, wrap_succ (show (i : Int) < 9223372036854775807 by omega), appL_some (show ((l.take i).map fun n => (⟨n, []⟩ : Bx)).length + [(⟨l[i], []⟩ : Bx)].length ≤ 4294967296 by simp; omega)]
    have e : ((l.take i).map fun n => (⟨n, []⟩ : Bx)) ++ [(⟨l[i], []⟩ : Bx)] = (l.take (i + 1)).map fun n => (⟨n, []⟩ : Bx) := by rw [List.take_add_one, List.getElem?_eq_getElem hi, List.map_append]; rfl
    rw [e]
    exact spec_l16Empty_l hl d (i + 1) true (by omega)

theorem spec_l16Empty_eq {l : List Int} (hl : (l.length : Int) ≤ 4294967296) : spec_l16Empty l = some (l.map fun n => (⟨n, []⟩ : Bx)) := by
  apply spec_l16Empty_le
  obtain ⟨r, h1, h2⟩ := spec_l16Empty_l hl l.length 0 true (by omega)
  have h1' : spec_l16Empty_l1 l true ([] : List Bx) 0 = some r := h1
  rw [h1', bnd_some, h2]

def newT (l : List Stm) : Tk := (taskN l).1

theorem impl_WorldNew_l {l : List (List Stm)} (hl : (l.length : Int) ≤ 4294967296) (hm : ∀ x ∈ l, mSs x ≤ 4294967296) {b0 b1 b4 : Bool} {t0 : List Tk} {x1 : List Bx} {n2 n3 : Int} {o4 : List Int} {bx : List Bx} {n5 n6 : Int} {c4 : Bool} {o : List Int} : ∀ (d i : Nat) (f : Bool), i + d = l.length →
    Ok (impl_WorldNew_l1 l l.length i b0 t0 b1 x1 n2 n3 b4 o4 f ((l.take i).map newT) bx n5 n6 c4 o) fun r => r.2.2.2.2.2.1.2 = l.map newT ∧ r.2.2.2.2.2.2.1 = bx ∧ r.2.2.2.2.2.2.2.1 = n5 ∧ r.2.2.2.2.2.2.2.2.1 = n6 ∧ r.2.2.2.2.2.2.2.2.2.2 = o
  | 0, i, f, hd => by
    apply Ok.le (impl_WorldNew_l1_le _ _ _ _ _ _ _ _ _ _ _ _ _ _ _ _ _ _)
    have hi : ¬ ((i : Int) < l.length) := by omega
    simp only [hi, decide_false, cond_false]
    exact Ok.of ⟨by rw [List.take_of_length_le (by omega)], rfl, rfl, rfl, rfl⟩
  | d + 1, i, f, hd => by
    apply Ok.le (impl_WorldNew_l1_le _ _ _ _ _ _ _ _ _ _ _ _ _ _ _ _ _ _)
    have hi : i < l.length := by omega
    have hi' : (i : Int) < l.length := by omega
    simp only [hi', decide_true, cond_true, geti_some hi, bnd_some, impl_TaskNew_eq (hm _ (List.getElem_mem hi)), wrap_succ (show (i : Int) < 9223372036854775807 by omega), appL_some (show ((l.take i).map newT).length + [(taskN l[i]).1].length ≤ 4294967296 by simp; omega)]
    have e : ((l.take i).map newT) ++ [(taskN l[i]).1] = (l.take (i + 1)).map newT := by rw [List.take_add_one, List.getElem?_eq_getElem hi, List.map_append]; rfl
    rw [e]
    exact impl_WorldNew_l hl hm d (i + 1) true (by omega)

theorem spec_WorldNew_l {r : List Int} {l : List (List Stm)} (hl : (l.length : Int) ≤ 4294967296) (hm : ∀ x ∈ l, mSs x ≤ 4294967296) {b0 b1 b4 : Bool} {t0 : List Tk} {x1 : List Bx} {n2 n3 : Int} {o4 : List Int} {bx : List Bx} {n5 n6 : Int} {c4 : Bool} {o : List Int} : ∀ (d i : Nat) (f : Bool), i + d = l.length →
    Ok (spec_WorldNew_l1 i r l b0 t0 b1 x1 n2 n3 b4 o4 f ((l.take i).map newT) bx n5 n6 c4 o) fun r => r.2.2.2.2.2.1.2 = l.map newT ∧ r.2.2.2.2.2.2.1 = bx ∧ r.2.2.2.2.2.2.2.1 = n5 ∧ r.2.2.2.2.2.2.2.2.1 = n6 ∧ r.2.2.2.2.2.2.2.2.2.2 = o
  | 0, i, f, hd => by
    apply Ok.le (spec_WorldNew_l1_le _ _ _ _ _ _ _ _ _ _ _ _ _ _ _ _ _ _)
    have hi : ¬ ((i : Int) < l.length) := by omega
    simp only [hi, decide_false, cond_false]
    exact Ok.of ⟨by rw [List.take_of_length_le (by omega)], rfl, rfl, rfl, rfl⟩
  | d + 1, i, f, hd => by
    apply Ok.le (spec_WorldNew_l1_le _ _ _ _ _ _ _ _ _ _ _ _ _ _ _ _ _ _)
    have hi : i < l.length := by omega
    have hi' : (i : Int) < l.length := by omega
    simp only [hi', decide_true, cond_true, geti_some hi, bnd_some, spec_TaskNew_eq (hm _ (List.getElem_mem hi)), wrap_succ (show (i : Int) < 9223372036854775807 by omega), appL_some (show ((l.take i).map newT).length + [(taskN l[i]).1].length ≤ 4294967296 by simp; omega)]
    have e : ((l.take i).map newT) ++ [(taskN l[i]).1] = (l.take (i + 1)).map newT := by rw [List.take_add_one, List.getElem?_eq_getElem hi, List.map_append]; rfl
    rw [e]
    exact spec_WorldNew_l hl hm d (i + 1) true (by omega)

def worldN (p : Prg) : Wld × Bool := if progOk p = true then (⟨p.tasks.map newT, p.rooms.map fun n => (⟨n, []⟩ : Bx), 0, 0, []⟩, true) else (⟨[], [], 0, 0, []⟩, false)

theorem impl_WorldNew_eq {p : Prg} (hr : (p.rooms.length : Int) ≤ 4294967296) (hl : (p.tasks.length : Int) ≤ 4294967296) (hm : ∀ x ∈ p.tasks, mSs x ≤ 4294967296) : impl_WorldNew p = some (worldN p) := by
  apply impl_WorldNew_le
  rw [impl_ProgramValid_eq hr hl hm, bnd_some, impl_boxesNew_eq hr, bnd_some]
  unfold worldN
  obtain ⟨r, e, h1, h2, h3, h4, h5⟩ := impl_WorldNew_l hl hm (b0 := false) (b1 := false) (b4 := false) (t0 := []) (x1 := []) (n2 := 0) (n3 := 0) (o4 := []) (bx := p.rooms.map fun n => (⟨n, []⟩ : Bx)) (n5 := 0) (n6 := 0) (c4 := false) (o := []) p.tasks.length 0 false (by omega)
  have e' : impl_WorldNew_l1 p.tasks (p.tasks.length : Int) 0 false [] false [] 0 0 false [] false [] (p.rooms.map fun n => (⟨n, []⟩ : Bx)) 0 0 false [] = some r := e
  rw [e', bnd_some, h1, h2, h3, h4, h5]
  cases progOk p <;> rfl

theorem spec_WorldNew_eq {p : Prg} (hr : (p.rooms.length : Int) ≤ 4294967296) (hl : (p.tasks.length : Int) ≤ 4294967296) (hm : ∀ x ∈ p.tasks, mSs x ≤ 4294967296) : spec_WorldNew p = some (worldN p) := by
  apply spec_WorldNew_le
  rw [spec_ProgramValid_eq hr hl hm, bnd_some, spec_l16Empty_eq hr, bnd_some]
  unfold worldN
  obtain ⟨r, e, h1, h2, h3, h4, h5⟩ := spec_WorldNew_l (r := p.rooms) hl hm (b0 := false) (b1 := false) (b4 := false) (t0 := []) (x1 := []) (n2 := 0) (n3 := 0) (o4 := []) (bx := p.rooms.map fun n => (⟨n, []⟩ : Bx)) (n5 := 0) (n6 := 0) (c4 := false) (o := []) p.tasks.length 0 false (by omega)
  have e' : spec_WorldNew_l1 0 p.rooms p.tasks false [] false [] 0 0 false [] false ([] : List Tk) (p.rooms.map fun n => (⟨n, []⟩ : Bx)) 0 0 false ([] : List Int) = some r := e
  rw [e', bnd_some, h1, h2, h3, h4, h5]
  cases progOk p <;> rfl

theorem sameBoxes_l {l : List Bx} (hl : (l.length : Int) ≤ 4294967296) (hm : ∀ b ∈ l, mB b ≤ 4294967296) : ∀ (d i : Nat), i + d = l.length → laws_sameBoxes_l1 l l i = some (.inl ())
  | 0, i, hd => by
    apply laws_sameBoxes_l1_le
    have hi : ¬ ((i : Int) < l.length) := by omega
    simp [hi]
  | d + 1, i, hd => by
    apply laws_sameBoxes_l1_le
    have hi : i < l.length := by omega
    have hi' : (i : Int) < l.length := by omega
    simp only [hi', decide_true, cond_true, geti_some hi, bnd_some, laws_sameBox_refl (hm _ (List.getElem_mem hi)), Bool.not_true, cond_false, wrap_succ (show (i : Int) < 9223372036854775807 by omega)]
    exact sameBoxes_l hl hm d (i + 1) (by omega)

theorem laws_sameBoxes_refl {l : List Bx} (hl : (l.length : Int) ≤ 4294967296) (hm : ∀ b ∈ l, mB b ≤ 4294967296) : laws_sameBoxes l l = some true := by
  apply laws_sameBoxes_le
  have h : laws_sameBoxes_l1 l l 0 = some (.inl ()) := sameBoxes_l hl hm l.length 0 (by omega)
  simp [h, selm]

theorem sameWorld_l {l : List Tk} {bx : List Bx} {t k : Int} {o : List Int} (hl : (l.length : Int) ≤ 4294967296) (hm : ∀ x ∈ l, mT x ≤ 4294967296) : ∀ (d i : Nat), i + d = l.length → laws_sameWorld_l1 i l bx t k o l bx t k o = some (.inl (l, bx, t, k, o, l, bx, t, k, o))
  | 0, i, hd => by
    apply laws_sameWorld_l1_le
    have hi : ¬ ((i : Int) < l.length) := by omega
    simp [hi]
  | d + 1, i, hd => by
    apply laws_sameWorld_l1_le
    have hi : i < l.length := by omega
    have hi' : (i : Int) < l.length := by omega
    have ht := hm _ (List.getElem_mem hi)
    unfold mT at ht
    simp only [hi', decide_true, cond_true, geti_some hi, bnd_some, laws_sameTask_refl (t := l[i]) (by omega) (by omega), Bool.not_true, cond_false, wrap_succ (show (i : Int) < 9223372036854775807 by omega)]
    exact sameWorld_l hl hm d (i + 1) (by omega)

theorem laws_sameWorld_refl {v : Wld} (h : mW v ≤ 4294967296) : laws_sameWorld v v = some true := by
  apply laws_sameWorld_le
  obtain ⟨h1, h2, h3, h4, h5⟩ := mW_parts h
  have e : laws_sameWorld_l1 0 v.tasks v.boxes v.turn v.idle v.out v.tasks v.boxes v.turn v.idle v.out = _ := sameWorld_l h1 h2 v.tasks.length 0 (by omega)
  simp only [decide_true, Bool.not_true, cond_false, e, bnd_some, selm, laws_sameBoxes_refl h3 h4, cond_true, laws_sameInts_refl h5]

def smallP (p : Prg) : Prop := p.rooms.length ≤ 20 ∧ p.tasks.length ≤ 10 ∧ ∀ x ∈ p.tasks, mSs x ≤ 20000

theorem newT_sz {x : List Stm} (h : mSs x ≤ 20000) : mT (newT x) ≤ 20004 := by
  unfold newT taskN mT
  split
  · simp only [List.length_cons, List.length_nil]; omega
  · simp [mSs]

theorem mTs_map : ∀ l : List (List Stm), (∀ x ∈ l, mSs x ≤ 20000) → mTs (l.map newT) ≤ 20005 * l.length
  | [], _ => by simp [mTs]
  | x :: r, h => by
    have h1 := newT_sz (h x List.mem_cons_self)
    have h2 := mTs_map r fun y hy => h y (List.mem_cons_of_mem _ hy)
    simp only [List.map_cons, mTs, List.length_cons]; omega

theorem mBs_map : ∀ l : List Int, mBs (l.map fun n => (⟨n, []⟩ : Bx)) ≤ l.length
  | [] => by simp [mBs]
  | x :: r => by
    have h2 := mBs_map r
    simp only [List.map_cons, mBs, List.length_cons, mB, List.length_nil]; omega

theorem worldN_sz {p : Prg} (h : smallP p) : mW (worldN p).1 ≤ 1000000 := by
  unfold worldN
  split
  · have h1 := mTs_map p.tasks h.2.2
    have h2 := mBs_map p.rooms
    have h3 := h.1
    have h4 := h.2.1
    simp only [mW, List.length_nil]; omega
  · simp [mW, mTs, mBs]

theorem newT_ok {x : List Stm} (h : stOk x = true) : newT x = ⟨[0, 0, 0, 0], x⟩ := by unfold newT taskN; rw [if_pos h]

theorem worldN_ok {p : Prg} (h : progOk p = true) : worldOk (worldN p).1 = true := by
  have hw : worldN p = (⟨p.tasks.map newT, p.rooms.map fun n => (⟨n, []⟩ : Bx), 0, 0, []⟩, true) := by unfold worldN; rw [if_pos h]
  unfold progOk at h
  simp only [Bool.and_eq_true, decide_eq_true_eq] at h
  obtain ⟨⟨⟨h1, h2⟩, h3⟩, h4⟩ := h
  rw [hw]
  unfold worldOk
  have b1 : ((p.rooms.map fun n => (⟨n, []⟩ : Bx)).all boxOk) = true := by
    rw [List.all_map, List.all_eq_true]
    intro n hn
    have := List.all_eq_true.1 h1 n hn
    simp only [decide_eq_true_eq] at this
    exact boxOk_mk this.1 this.2 (by simp; omega) rfl
  have b2 : ((p.tasks.map newT).all (tkOk (p.rooms.length : Int))) = true := by
    rw [List.all_map, List.all_eq_true]
    intro x hx
    have := List.all_eq_true.1 h4 x hx
    simp only [Bool.and_eq_true] at this
    show tkOk (p.rooms.length : Int) (newT x) = true
    rw [newT_ok this.1]
    unfold tkOk taskOk
    rw [rests_of this.1, this.2]; rfl
  have e0 : words [] = true := rfl
  simp only [List.length_map, b1, b2, h2, e0, decide_true, Bool.and_true, Bool.true_and, Bool.and_eq_true, decide_eq_true_eq]
  omega

theorem new1_l {r : List Int} {l : List (List Stm)} {bx : List Bx} {t k : Int} {o : List Int} (hl : (l.length : Int) ≤ 4294967296) (hm : ∀ x ∈ l, mSs x ≤ 20000) (hs : ∀ x ∈ l, stOk x = true) : ∀ (d i : Nat), i + d = l.length → laws_FnWorldNew_l1 i r l (l.map newT) bx t k o = some (.inl (r, l, l.map newT, bx, t, k, o))
  | 0, i, hd => by
    apply laws_FnWorldNew_l1_le
    have hi : ¬ ((i : Int) < ((l.map newT).length : Nat)) := by rw [List.length_map]; omega
    simp only [hi, decide_false, cond_false]
  | d + 1, i, hd => by
    apply laws_FnWorldNew_l1_le
    have hi : i < l.length := by omega
    have hi' : (i : Int) < ((l.map newT).length : Nat) := by rw [List.length_map]; omega
    have hk := hs _ (List.getElem_mem hi)
    have hz := hm _ (List.getElem_mem hi)
    have ht : taskN l[i] = (⟨[0, 0, 0, 0], l[i]⟩, true) := by unfold taskN; rw [if_pos hk]
    have hg : geti (l.map newT) (i : Int) = some ⟨[0, 0, 0, 0], l[i]⟩ := by rw [geti_nat', List.getElem?_map, List.getElem?_eq_getElem hi]; exact congrArg some (newT_ok hk)
    simp only [hi', decide_true, cond_true, geti_some hi, bnd_some, impl_TaskNew_eq (show mSs l[i] ≤ 4294967296 by omega), ht, hg, Bool.not_true, cond_false, laws_sameTask_refl (t := ⟨[0, 0, 0, 0], l[i]⟩) (by simp) (by show mSs l[i] ≤ _; omega), wrap_succ (show (i : Int) < 9223372036854775807 by omega)]
    exact new1_l hl hm hs d (i + 1) (by omega)

theorem new2_l {r : List Int} {l : List (List Stm)} {ts : List Tk} {t k : Int} {o : List Int} (hl : (r.length : Int) ≤ 4294967296) : ∀ (d i : Nat), i + d = r.length → laws_FnWorldNew_l2 i r l ts (r.map fun n => (⟨n, []⟩ : Bx)) t k o = some (.inl (r, l, ts, r.map fun n => (⟨n, []⟩ : Bx), t, k, o))
  | 0, i, hd => by
    apply laws_FnWorldNew_l2_le
    have hi : ¬ ((i : Int) < ((r.map fun n => (⟨n, []⟩ : Bx)).length : Nat)) := by rw [List.length_map]; omega
    simp only [hi, decide_false, cond_false]
  | d + 1, i, hd => by
    apply laws_FnWorldNew_l2_le
    have hi : i < r.length := by omega
    have hi' : (i : Int) < ((r.map fun n => (⟨n, []⟩ : Bx)).length : Nat) := by rw [List.length_map]; omega
    have hg : geti (r.map fun n => (⟨n, []⟩ : Bx)) (i : Int) = some ⟨r[i], []⟩ := by rw [geti_nat', List.getElem?_map, List.getElem?_eq_getElem hi]; rfl
    simp only [hi', decide_true, cond_true, geti_some hi, bnd_some, hg, Bool.not_true, cond_false, List.length_nil, wrap_succ (show (i : Int) < 9223372036854775807 by omega)]
    have h0 : ¬ ((0 : Int) < ((0 : Nat) : Int)) := by omega
    simp only [h0, decide_false, cond_false]
    exact new2_l hl d (i + 1) (by omega)

theorem lawWorldNew {a : List Int} (hd : Ok (spec_DrawWorldNew a) smallP) : laws_FnWorldNew a = some true := by
  apply laws_FnWorldNew_le
  apply Ok.some
  refine Ok.bif (fun _ => Ok.of rfl) (fun _ => ?_)
  refine Ok.bnd hd fun p hp => ?_
  have hz := worldN_sz hp
  have hm : ∀ x ∈ p.tasks, mSs x ≤ 4294967296 := fun x hx => by have := hp.2.2 x hx; omega
  have h1 := hp.1
  have h2 := hp.2.1
  rw [impl_WorldNew_eq (by omega) (by omega) hm, bnd_some, spec_WorldNew_eq (by omega) (by omega) hm, bnd_some]
  have hs : laws_sameWorld (worldN p).1 (worldN p).1 = some true := laws_sameWorld_refl (by omega)
  simp only [hs, bnd_some, beq_self_eq_true, Bool.not_true, cond_false, cond_true]
  by_cases hok : progOk p = true
  · have ht : worldN p = (⟨p.tasks.map newT, p.rooms.map fun n => (⟨n, []⟩ : Bx), 0, 0, []⟩, true) := by unfold worldN; rw [if_pos hok]
    have hv : impl_WorldValid (worldN p).1 = some true := by rw [impl_WorldValid_eq (by omega), worldN_ok hok]
    have hst : ∀ x ∈ p.tasks, stOk x = true := by
      unfold progOk at hok
      simp only [Bool.and_eq_true] at hok
      intro x hx
      have := List.all_eq_true.1 hok.2 x hx
      simp only [Bool.and_eq_true] at this
      exact this.1
    rw [ht] at hv ⊢
    have e1 : laws_FnWorldNew_l1 0 p.rooms p.tasks (p.tasks.map newT) (p.rooms.map fun n => (⟨n, []⟩ : Bx)) 0 0 [] = _ := new1_l (r := p.rooms) (by omega) hp.2.2 hst p.tasks.length 0 (by omega)
    have e2 : laws_FnWorldNew_l2 0 p.rooms p.tasks (p.tasks.map newT) (p.rooms.map fun n => (⟨n, []⟩ : Bx)) 0 0 [] = _ := new2_l (l := p.tasks) (ts := p.tasks.map newT) (by omega) p.rooms.length 0 (by omega)
    simp only [Bool.not_true, cond_false, e1, bnd_some, selm, e2, hv, cond_true, decide_true, List.length_nil, List.length_map]
    exact Ok.of rfl
  · have ht : worldN p = (⟨[], [], 0, 0, []⟩, false) := by unfold worldN; rw [if_neg hok]
    rw [ht]; simp; exact Ok.of rfl

theorem l92Roomsp_l {A : List Ent} {n : Int} (hn : n ≤ 3) : ∀ (d : Nat) (i : Int) (h : Hd) (l : List Int) (B : List Ent) {b : List Int} {p m : Int}, n ≤ i + d → 0 ≤ i → i ≤ 10 - d → d ≤ 3 → (l.length : Int) ≤ i → Got .int A l h B → Rd b p m → m + d ≤ 999990000 →
    Ok (spec_l92Rooms_p_l1 h n i b p B) fun r => Rd r.2.1 r.2.2.1 (m + d) ∧ ∃ l', l'.length ≤ 10 ∧ Got .int A l' r.1 r.2.2.2
  | 0, i, h, l, B, b, p, m, hd, h0, hi1, hd3, hl, hg, hr, hm => by
    apply Ok.le (spec_l92Rooms_p_l1_le _ _ _ _ _ _)
    have : ¬ (i < n) := by omega
    simp only [this, decide_false, cond_false]
    exact Ok.of ⟨hr.mono (by omega), l, by omega, hg⟩
  | d + 1, i, h, l, B, b, p, m, hd, h0, hi1, hd3, hl, hg, hr, hm => by
    apply Ok.le (spec_l92Rooms_p_l1_le _ _ _ _ _ _)
    refine Ok.bif (fun hb => ?_) (fun hb => ?_)
    · refine Ok.bnd (pick_ok hr (by omega) (by decide)) fun r1 h1 => ?_
      refine Ok.bnd (pick_geti h1.2 (by omega) rfl) fun e he => ?_
      refine Ok.bnd (hg.app (ys := [e]) (by have := hg.cnt; simp; omega)) fun B2 hB2 => ?_
      rw [wrap_id (n := i + 1) (by omega) (by omega)]
      exact (l92Roomsp_l hn d (i + 1) _ (l ++ [e]) _ (by omega) (by omega) (by omega) (by omega) (by simp; omega) hB2.1 h1.1 (by omega)).mono fun r hr => ⟨hr.1.mono (by omega), hr.2⟩
    · exact Ok.of ⟨hr.mono (by omega), l, by omega, hg⟩

theorem l92Rooms_p_ok {b : List Int} {p m : Int} (A : List Ent) (h : Rd b p m) (hm : m ≤ 999900000) : Ok (spec_l92Rooms_p b p A) fun r => Rd r.2.1 r.2.2.1 (m + 4) ∧ ∃ l, l.length ≤ 10 ∧ Got .int A l r.1 r.2.2.2 := by
  apply Ok.le (spec_l92Rooms_p_le b p A)
  refine Ok.bnd (pick_ok h (by omega) (by decide)) fun r1 h1 => ?_
  refine Ok.bnd (pick_geti h1.2 (by omega) rfl) fun e he => ?_
  have he3 : e ≤ 3 := by
    simp only [List.mem_cons, List.not_mem_nil, or_false] at he; omega
  have hg : Got .int A [] ⟨some A.length, 0⟩ (arPush A .int ([] : List Int)) := Got.push (c := .int) (l := ([] : List Int)) (Ext.refl _ A)
  refine Ok.bnd (l92Roomsp_l he3 3 0 _ [] _ (by omega) (by omega) (by omega) (by omega) (by simp) hg h1.1 (by omega)) fun r hr => ?_
  exact Ok.of ⟨hr.1.mono (by omega), hr.2⟩

/-- A program whose lists of statements are headers: rooms, headers of tasks, what they stand for. -/
structure GotP (A : List Ent) (hr ht : Hd) (rs : List Int) (hs : List Hd) (ls : List (List Stm)) (B : List Ent) : Prop where
  rooms : Got .int A rs hr B
  tasks : Got .stmsH A hs ht B
  each : hs.length = ls.length
  list : ∀ (i : Nat) (h : Hd), hs[i]? = some h → ∃ l, ls[i]? = some l ∧ Got .stm A l h B
  apart : ∀ (i : Nat) (h : Hd), hs[i]? = some h → ∀ n, h.id = some n → hr.id ≠ some n ∧ ht.id ≠ some n
  diff : ∀ (i j : Nat) (h k : Hd), i ≠ j → hs[i]? = some h → hs[j]? = some k → ∀ n, h.id = some n → k.id ≠ some n
  other : ∀ n, hr.id = some n → ht.id ≠ some n

theorem GotP.keep {A B D : List Ent} {hr ht : Hd} {rs : List Int} {hs : List Hd} {ls : List (List Stm)} (h : GotP A hr ht rs hs ls B) (hx : Ext0 B D) : GotP A hr ht rs hs ls D :=
  ⟨h.rooms.keep hx, h.tasks.keep hx, h.each, fun i x hi => (let ⟨l, q1, q2⟩ := h.list i x hi; ⟨l, q1, q2.keep hx⟩), h.apart, h.diff, h.other⟩

/-- What a reader sees. -/
theorem see_tasks {A B : List Ent} : ∀ {hs : List Hd} {ls : List (List Stm)}, (∀ (i : Nat) (h : Hd), hs[i]? = some h → ∃ l, ls[i]? = some l ∧ Got .stm A l h B) → hs.length = ls.length → mapB (fun x : Hd => arGet B .stm x.id) hs = some ls
  | [], ls, h1, h2 => by
    have : ls = [] := List.eq_nil_of_length_eq_zero (by simpa using h2.symm)
    subst this; rfl
  | x :: r, ls, h1, h2 => by
    obtain ⟨l, e1, e2⟩ := h1 0 x rfl
    cases ls with
    | nil => cases e1
    | cons y s =>
      have : y = l := by simpa using e1
      subst this
      simp only [mapB, e2.get, bnd_some]
      rw [see_tasks (hs := r) (ls := s) (fun i z hz => by
        obtain ⟨l, q1, q2⟩ := h1 (i + 1) z (by simpa using hz)
        exact ⟨l, by simpa using q1, q2⟩) (by simpa using h2)]
      rfl

theorem GotP.view {A B : List Ent} {hr ht : Hd} {rs : List Int} {hs : List Hd} {ls : List (List Stm)} (h : GotP A hr ht rs hs ls B) : arView B .stmsH ht.id = some ls := arView_stmsH h.tasks.get (see_tasks h.list h.each)

/-- One more task. -/
theorem GotP.add {A B B1 : List Ent} {hr ht : Hd} {rs : List Int} {hs : List Hd} {ls : List (List Stm)} (h : GotP A hr ht rs hs ls B) {x : Hd} {l : List Stm} (hx : Got .stm B l x B1) (hle : ht.n + 1 ≤ 4294967296) :
    Ok (arApp B1 .stmsH ht.id ht.n ([x] : List Hd)) fun B2 => GotP A hr ⟨some B1.length, ht.n + 1⟩ rs (hs ++ [x]) (ls ++ [l]) B2 := by
  have h1 := h.keep hx.ext
  refine (Got.appX (c := .stmsH) h1.tasks (ys := ([x] : List Hd)) hle).mono fun B2 hB2 => ?_
  obtain ⟨g, hl, hX⟩ := hB2
  have hA := g.ext
  have hxA : Got .stm A l x B1 := hx.base h.rooms.ext
  have lr := h1.rooms.lt
  have hfresh : ∀ n, x.id = some n → ht.id ≠ some n ∧ hr.id ≠ some n := by
    intro n hn
    have h2 := hx.id n hn
    exact ⟨fun hh => by have := h.tasks.lt n hh; omega, fun hh => by have := h.rooms.lt n hh; omega⟩
  have hlist : ∀ (i : Nat) (k : Hd), (hs ++ [x])[i]? = some k → (hs[i]? = some k ∧ i < hs.length) ∨ (i = hs.length ∧ k = x) := by
    intro i k hk
    by_cases hi : i < hs.length
    · rw [List.getElem?_append_left hi] at hk; exact .inl ⟨hk, hi⟩
    · rw [List.getElem?_append_right (by omega)] at hk
      have : i - hs.length = 0 := by
        cases hn : i - hs.length with
        | zero => rfl
        | succ j => rw [hn] at hk; simp at hk
      rw [this] at hk
      simp only [List.getElem?_cons_zero, Option.some.injEq] at hk
      exact .inr ⟨by omega, hk.symm⟩
  refine ⟨h1.rooms.stay hX hA (fun n hn => h.other n hn), g, by simp [h.each], fun i k hk => ?_, fun i k hk n hn => ?_, fun i j k k' hij hk hk' n hn => ?_, fun n hn => ?_⟩
  · rcases hlist i k hk with ⟨hk, hi⟩ | ⟨rfl, rfl⟩
    · obtain ⟨l', q1, q2⟩ := h1.list i k hk
      exact ⟨l', by rw [List.getElem?_append_left (by rw [← h.each]; exact hi)]; exact q1, q2.stay hX hA (fun n hn => (h.apart i k hk n hn).2)⟩
    · exact ⟨l, by rw [h.each]; simp, hxA.stay hX hA (fun n hn => (hfresh n hn).1)⟩
  · rcases hlist i k hk with ⟨hk, hi⟩ | ⟨rfl, rfl⟩
    · refine ⟨(h.apart i k hk n hn).1, fun hh => ?_⟩
      injection hh with hh
      obtain ⟨l', q1, q2⟩ := h1.list i k hk
      have := q2.lt n hn; omega
    · refine ⟨(hfresh n hn).2, fun hh => ?_⟩
      injection hh with hh
      have := hx.lt n hn; omega
  · have old : ∀ (i : Nat) (k : Hd), hs[i]? = some k → ∀ n, k.id = some n → n < B.length := fun i k hk n hn => (let ⟨l', q1, q2⟩ := h.list i k hk; q2.lt n hn)
    rcases hlist i k hk with ⟨hk1, hi⟩ | ⟨e1, e2⟩ <;> rcases hlist j k' hk' with ⟨hk2, hj⟩ | ⟨e3, e4⟩
    · exact h.diff i j k k' hij hk1 hk2 n hn
    · subst e4
      intro hh
      have h2 := hx.id n hh
      have := old i k hk1 n hn; omega
    · subst e2
      intro hh
      have h2 := hx.id n hn
      have := old j k' hk2 n hh; omega
    · exact absurd (e1.trans e3.symm) hij
  · intro hh
    injection hh with hh
    have := lr n hn; omega

/-- Another list in the place of one. -/
theorem GotP.put {A B B1 : List Ent} {hr ht : Hd} {rs : List Int} {hs : List Hd} {ls : List (List Stm)} (h : GotP A hr ht rs hs ls B) {i : Nat} {k x : Hd} {l : List Stm} (hi : hs[i]? = some k) (hX : Ext (fun n => k.id = some n) B B1) (hx : Got .stm A l x B1) (hid : ∀ n, x.id = some n → B.length ≤ n) :
    GotP A hr ht rs (hs.set i x) (ls.set i l) (arSet B1 .stmsH ht.id i x) := by
  have hlt := (List.getElem?_eq_some_iff.1 hi).1
  have ht1 : Got .stmsH A hs ht B1 := h.tasks.stay hX hx.ext (fun n hn hh => (h.apart i k hi n hh).2 hn)
  have hr1 : Got .int A rs hr B1 := h.rooms.stay hX hx.ext (fun n hn hh => (h.apart i k hi n hh).1 hn)
  have g := Got.set (c := .stmsH) (i := i) (x := x) ht1
  have hA := g.ext
  have hS : Ext (fun n => ht.id = some n) B1 (arSet B1 .stmsH ht.id i x) := arSet_ext fun n hn => hn
  have hfresh : ∀ n, x.id = some n → ht.id ≠ some n ∧ hr.id ≠ some n := by
    intro n hn
    have h2 := hid n hn
    exact ⟨fun hh => by have := h.tasks.lt n hh; omega, fun hh => by have := h.rooms.lt n hh; omega⟩
  have hlist : ∀ (j : Nat) (y : Hd), (hs.set i x)[j]? = some y → (hs[j]? = some y ∧ j ≠ i) ∨ (j = i ∧ y = x) := by
    intro j y hy
    by_cases hj : i = j
    · subst hj
      rw [List.getElem?_set_self hlt] at hy
      injection hy with hy
      exact .inr ⟨rfl, hy.symm⟩
    · rw [List.getElem?_set_ne hj] at hy
      exact .inl ⟨hy, fun hh => hj hh.symm⟩
  refine ⟨hr1.stay hS hA (fun n hn => h.other n hn), g, by simp [h.each], fun j y hy => ?_, fun j y hy n hn => ?_, fun j j' y y' hjj hy hy' n hn => ?_, h.other⟩
  · rcases hlist j y hy with ⟨hy, hj⟩ | ⟨rfl, rfl⟩
    · obtain ⟨l', q1, q2⟩ := h.list j y hy
      refine ⟨l', by rw [List.getElem?_set_ne (fun hh => hj hh.symm)]; exact q1, ?_⟩
      exact (q2.stay hX hx.ext (fun n hn hh => h.diff j i y k hj hy hi n hn hh)).stay hS hA (fun n hn => (h.apart j y hy n hn).2)
    · exact ⟨l, by rw [List.getElem?_set_self (by rw [← h.each]; exact hlt)], hx.stay hS hA (fun n hn => (hfresh n hn).1)⟩
  · rcases hlist j y hy with ⟨hy, hj⟩ | ⟨rfl, rfl⟩
    · exact h.apart j y hy n hn
    · exact ⟨(hfresh n hn).2, (hfresh n hn).1⟩
  · have old : ∀ (i : Nat) (k : Hd), hs[i]? = some k → ∀ n, k.id = some n → n < B.length := fun i k hk n hn => (let ⟨l', q1, q2⟩ := h.list i k hk; q2.lt n hn)
    rcases hlist j y hy with ⟨hy1, hj⟩ | ⟨e1, e2⟩ <;> rcases hlist j' y' hy' with ⟨hy2, hj'⟩ | ⟨e3, e4⟩
    · exact h.diff j j' y y' hjj hy1 hy2 n hn
    · subst e4
      intro hh
      have h2 := hid n hh
      have := old j y hy1 n hn; omega
    · subst e2
      intro hh
      have h2 := hid n hn
      have := old j' y' hy2 n hh; omega
    · exact absurd (e1.trans e3.symm) hjj

theorem mem_add {ls : List (List Stm)} {l : List Stm} {n : Nat} (h : ∀ x ∈ ls, mSs x ≤ n) (hl : mSs l ≤ n) : ∀ x ∈ ls ++ [l], mSs x ≤ n := by
  intro x hx
  rcases List.mem_append.1 hx with hx | hx
  · exact h x hx
  · rw [List.mem_singleton.1 hx]; exact hl

theorem l92Programp_l {A : List Ent} {n : Int} {x0 x1 : Hd} {rs : List Int} (hrs : rs.length ≤ 10) : ∀ (d : Nat) (i : Int) (hr ht : Hd) (hs : List Hd) (ls : List (List Stm)) (B : List Ent) {b : List Int} {p m : Int}, n ≤ i + d → 0 ≤ i → i ≤ 10 - d → d ≤ 3 → (ls.length : Int) = i → (∀ x ∈ ls, mSs x ≤ 10000) → GotP A hr ht rs hs ls B → Rd b p m → m + 23000 * d ≤ 999800000 →
    Ok (spec_l92Program_p_l1 n i b p x0 x1 hr ht B) fun r => Rd r.1 r.2.1 (m + 23000 * d) ∧ r.2.2.2.2.1 = hr ∧ ∃ hs' ls', (ls'.length : Int) ≤ i + d ∧ n ≤ (ls'.length : Int) ∧ (∀ x ∈ ls', mSs x ≤ 10000) ∧ GotP A hr r.2.2.2.2.2.1 rs hs' ls' r.2.2.2.2.2.2
  | 0, i, hr, ht, hs, ls, B, b, p, m, hd, h0, hi1, hd3, hl, hm, hg, hrd, hb => by
    apply Ok.le (spec_l92Program_p_l1_le _ _ _ _ _ _ _ _ _)
    have : ¬ (i < n) := by omega
    simp only [this, decide_false, cond_false]
    exact Ok.of ⟨hrd.mono (by omega), rfl, hs, ls, by omega, by omega, hm, hg⟩
  | d + 1, i, hr, ht, hs, ls, B, b, p, m, hd, h0, hi1, hd3, hl, hm, hg, hrd, hb => by
    apply Ok.le (spec_l92Program_p_l1_le _ _ _ _ _ _ _ _ _)
    refine Ok.bif (fun hc => ?_) (fun hc => ?_)
    · have hn := hg.rooms.cnt
      refine Ok.bnd (l92Stmts_p_ok ((hr.n : Nat) : Int) (by omega) B hrd (by omega)) fun r1 h1 => ?_
      obtain ⟨h1r, l, h1g, h1m, h1c⟩ := h1
      have hc2 := hg.tasks.cnt
      have he := hg.each
      refine Ok.bnd (hg.add h1g (by rw [hc2]; omega)) fun B2 hB2 => ?_
      rw [wrap_id (n := i + 1) (by omega) (by omega)]
      exact (l92Programp_l hrs d (i + 1) hr _ (hs ++ [r1.1]) (ls ++ [l]) B2 (by omega) (by omega) (by omega) (by omega) (by simp; omega) (mem_add hm h1m) hB2 h1r (by omega)).mono fun r hr' => ⟨hr'.1.mono (by omega), hr'.2.1, (let ⟨hs', ls', q1, q0, q2, q3⟩ := hr'.2.2; ⟨hs', ls', by omega, q0, q2, q3⟩)⟩
    · simp only [decide_eq_false_iff_not] at hc
      exact Ok.of ⟨hrd.mono (by omega), rfl, hs, ls, by omega, by omega, hm, hg⟩

theorem mem_set {ls : List (List Stm)} {l : List Stm} {n i : Nat} (h : ∀ x ∈ ls, mSs x ≤ n) (hl : mSs l ≤ n) : ∀ x ∈ ls.set i l, mSs x ≤ n := by
  intro x hx
  rcases List.mem_or_eq_of_mem_set hx with hx | rfl
  · exact h x hx
  · exact hl

theorem l92Program_p_ok {b : List Int} {p m : Int} (A : List Ent) (h : Rd b p m) (hm : m ≤ 999000000) : Ok (spec_l92Program_p b p A) fun r => Rd r.2.2.1 r.2.2.2.1 (m + 80000) ∧ ∃ rs hs ls, rs.length ≤ 10 ∧ ls.length ≤ 3 ∧ 1 ≤ ls.length ∧ (∀ x ∈ ls, mSs x ≤ 10000) ∧ GotP A r.1 r.2.1 rs hs ls r.2.2.2.2 := by
  apply Ok.le (spec_l92Program_p_le b p A)
  refine Ok.bnd (l92Rooms_p_ok A h (by omega)) fun r1 h1 => ?_
  obtain ⟨h1r, rs, hrs, h1g⟩ := h1
  refine Ok.bnd (pick_ok h1r (by omega) (by decide)) fun r2 h2 => ?_
  have hk := h2.2.2.1 (by omega)
  rw [wrap_id (n := 1 + r2.1) (by omega) (by omega)]
  have hx : Ext0 r1.2.2.2 (arPush r1.2.2.2 .stmsH ([] : List Hd)) := push_ext _
  have hg : GotP A r1.1 ⟨some r1.2.2.2.length, 0⟩ rs [] [] (arPush r1.2.2.2 .stmsH ([] : List Hd)) := by
    refine ⟨h1g.keep hx, Got.push (c := .stmsH) (l := ([] : List Hd)) h1g.ext, rfl, fun i h hi => (by simp at hi), fun i h hi => (by simp at hi), fun i j h k hij hi => (by simp at hi), fun n hn hh => ?_⟩
    injection hh with hh
    have := h1g.lt n hn; omega
  refine Ok.bnd (l92Programp_l (x0 := ⟨none, 0⟩) (x1 := ⟨none, 0⟩) hrs 3 0 _ _ [] [] _ (by omega) (by omega) (by omega) (by omega) (by simp) (by simp) hg h2.1 (by omega)) fun r3 h3 => ?_
  obtain ⟨h3r, e3, hs, ls, hl, hl1, hms, h3g⟩ := h3
  refine Ok.bnd (pick_ok h3r (by omega) (by decide)) fun r4 h4 => ?_
  refine Ok.bif (fun _ => ?_) (fun _ => ?_)
  · refine Ok.bnd (l92Endless_ok h4.1 (by omega)) fun r5 h5 => ?_
    have he := h3g.each
    have hc := h3g.tasks.cnt
    obtain ⟨k, hk0⟩ : ∃ k, hs[0]? = some k := ⟨hs[0]'(by omega), List.getElem?_eq_getElem (by omega)⟩
    have hX : ∀ pp, Ext pp r3.2.2.2.2.2.2 (arPush r3.2.2.2.2.2.2 .stm ([⟨r5.1.kind, r5.1.var, r5.1.box, ⟨r5.1.e.op, r5.1.e.n, r5.1.e.args⟩, r5.1.body, r5.1.els⟩] : List Stm)) := fun pp => push_ext pp
    have hrow : arRow (arPush r3.2.2.2.2.2.2 .stm ([⟨r5.1.kind, r5.1.var, r5.1.box, ⟨r5.1.e.op, r5.1.e.n, r5.1.e.args⟩, r5.1.body, r5.1.els⟩] : List Stm)) .stmsH r3.2.2.2.2.2.1.id (0 : Int).toNat = some k := (h3g.tasks.keep (hX _)).row hk0
    rw [idxN_eq (by omega) (by omega), bnd_some, hrow, bnd_some]
    have hp : Got .stm A [⟨r5.1.kind, r5.1.var, r5.1.box, ⟨r5.1.e.op, r5.1.e.n, r5.1.e.args⟩, r5.1.body, r5.1.els⟩] ⟨some r3.2.2.2.2.2.2.length, 1⟩ (arPush r3.2.2.2.2.2.2 .stm ([⟨r5.1.kind, r5.1.var, r5.1.box, ⟨r5.1.e.op, r5.1.e.n, r5.1.e.args⟩, r5.1.body, r5.1.els⟩] : List Stm)) := Got.push (c := .stm) (l := ([⟨r5.1.kind, r5.1.var, r5.1.box, ⟨r5.1.e.op, r5.1.e.n, r5.1.e.args⟩, r5.1.body, r5.1.els⟩] : List Stm)) h3g.rooms.ext
    have hput := h3g.put hk0 (hX _) hp (fun n hn => by injection hn with hn; omega)
    have hsz := h5.2
    rw [mS_eq, emX_eq] at hsz
    refine Ok.of ⟨h5.1.mono (by omega), rs, hs.set 0 ⟨some r3.2.2.2.2.2.2.length, 1⟩, ls.set 0 [⟨r5.1.kind, r5.1.var, r5.1.box, ⟨r5.1.e.op, r5.1.e.n, r5.1.e.args⟩, r5.1.body, r5.1.els⟩], hrs, by rw [List.length_set]; omega, by rw [List.length_set]; omega, mem_set hms (l := [⟨r5.1.kind, r5.1.var, r5.1.box, ⟨r5.1.e.op, r5.1.e.n, r5.1.e.args⟩, r5.1.body, r5.1.els⟩]) (i := 0) (by simp only [mSs, mS_mk]; omega), ?_⟩
    dsimp only
    rw [e3]; exact hput
  · refine Ok.of ⟨h4.1.mono (by omega), rs, hs, ls, hrs, by omega, by omega, hms, ?_⟩
    dsimp only
    rw [e3]; exact h3g

/-- A statement in the place of one. -/
theorem GotP.cell {A B : List Ent} {hr ht : Hd} {rs : List Int} {hs : List Hd} {ls : List (List Stm)} (h : GotP A hr ht rs hs ls B) {i : Nat} {k : Hd} {l : List Stm} {j : Nat} {x : Stm} (hi : hs[i]? = some k) (hl : ls[i]? = some l) : GotP A hr ht rs hs (ls.set i (l.set j x)) (arSet B .stm k.id j x) := by
  have hlt := (List.getElem?_eq_some_iff.1 hl).1
  have hS : Ext (fun n => k.id = some n) B (arSet B .stm k.id j x) := arSet_ext fun n hn => hn
  obtain ⟨l', q1, q2⟩ := h.list i k hi
  rw [hl] at q1
  injection q1 with q1
  subst q1
  have g := Got.set (c := .stm) (i := j) (x := x) q2
  have hA := g.ext
  refine ⟨h.rooms.stay hS hA (fun n hn hh => (h.apart i k hi n hh).1 hn), h.tasks.stay hS hA (fun n hn hh => (h.apart i k hi n hh).2 hn), by simp [h.each], fun j' y hy => ?_, h.apart, h.diff, h.other⟩
  by_cases hj : i = j'
  · subst hj
    rw [hi] at hy
    injection hy with hy
    subst hy
    exact ⟨_, List.getElem?_set_self hlt, g⟩
  · obtain ⟨l', q3, q4⟩ := h.list j' y hy
    exact ⟨l', by rw [List.getElem?_set_ne hj]; exact q3, q4.stay hS hA (fun n hn hh => h.diff j' i y k (fun e => hj e.symm) hy hi n hn hh)⟩

theorem l92Wrong_ok {b : List Int} {p m : Int} (h : Rd b p m) (hm : m ≤ 990000000) : Ok (spec_l92Wrong b p) fun r => Rd r.2.1 r.2.2 (m + 81000) ∧ smallP r.1 := by
  apply Ok.le (spec_l92Wrong_le b p)
  refine Ok2.both ?_
  refine Ok2.bnd (l92Program_p_ok [] h (by omega)) fun r1 h1 => ?_
  obtain ⟨h1r, rs, hs, ls, hrs, hls, hl1, hms, hg⟩ := h1
  obtain ⟨k, hk0⟩ : ∃ k, hs[0]? = some k := ⟨hs[0]'(by have := hg.each; omega), List.getElem?_eq_getElem (by have := hg.each; omega)⟩
  obtain ⟨l0, hl0, hgk⟩ := hg.list 0 k hk0
  have hz0 := hms l0 (List.mem_of_getElem? hl0)
  have hc := hg.tasks.cnt
  have hcr := hg.rooms.cnt
  have he := hg.each
  have up : ∀ {l : List (List Stm)}, (∀ x ∈ l, mSs x ≤ 10000) → ∀ x ∈ l, mSs x ≤ 20000 := fun h x hx => by have := h x hx; omega
  refine Ok2.bnd (pick_ok h1r (by omega) (by decide)) fun r2 h2 => ?_
  refine Ok2.bif (fun _ => ?_) (fun _ => ?_)
  · refine Ok2.same ?_
    refine Ok.bnd (pick_ok h2.1 (by omega) (by decide)) fun r3 h3 => ?_
    refine Ok.bnd (pick_geti h3.2 (by omega) rfl) fun e4 he4 => ?_
    refine Ok.bnd (hg.rooms.appX (ys := [e4]) (by simp; omega)) fun B5 hB5 => ?_
    obtain ⟨g, _, hX⟩ := hB5
    have hA := g.ext
    have gt : Got .stmsH [] hs r1.2.1 B5 := hg.tasks.stay hX hA (fun n hn hh => hg.other n hh hn)
    have hv : arView B5 .stmsH r1.2.1.id = some ls := arView_stmsH gt.get (see_tasks (A := []) (fun i k hk => (let ⟨l, q1, q2⟩ := hg.list i k hk; ⟨l, q1, q2.stay hX hA (fun n hn hh => (hg.apart i k hk n hn).1 hh)⟩)) he)
    have hgr := g.get
    dsimp only at hgr
    rw [arView_int, hgr, bnd_some, hv, bnd_some]
    exact Ok.of ⟨h3.1.mono (by omega), by simp; omega, by dsimp only; omega, up hms⟩
  refine Ok2.bif (fun _ => ?_) (fun _ => ?_)
  · refine Ok2.same ?_
    refine Ok.bnd ((l91Leaf_ok h2.1 (by omega)).and (l91Leaf_sz h2.1 (by omega))) fun r8 h8 => ?_
    have hp : Got .stm r1.2.2.2.2 [⟨4, 0, ((r1.1.n : Nat) : Int), ⟨r8.1, r8.2.1, r8.2.2.1.2⟩, [], []⟩] ⟨some r1.2.2.2.2.length, 1⟩ (arPush r1.2.2.2.2 .stm ([⟨4, 0, ((r1.1.n : Nat) : Int), ⟨r8.1, r8.2.1, r8.2.2.1.2⟩, [], []⟩] : List Stm)) := Got.push (c := .stm) (l := ([⟨4, 0, ((r1.1.n : Nat) : Int), ⟨r8.1, r8.2.1, r8.2.2.1.2⟩, [], []⟩] : List Stm)) (Ext.refl _ _)
    refine Ok.bnd (hg.add hp (by omega)) fun B9 hB9 => ?_
    have hv := hB9.view
    have hgr := hB9.rooms.get
    dsimp only at hv
    rw [arView_int, hgr, bnd_some, hv, bnd_some]
    have hz := h8.2
    exact Ok.of ⟨h8.1.1.mono (by omega), by dsimp only; omega, by simp; omega, up (mem_add hms (by simp only [mSs, mS_mk]; omega))⟩
  refine Ok2.bif (fun _ => ?_) (fun _ => ?_)
  · refine Ok2.same ?_
    have hx : Ext0 r1.2.2.2.2 (arPush r1.2.2.2.2 .stmsH ([] : List Hd)) := push_ext _
    have hv : arView (arPush r1.2.2.2.2 .stmsH ([] : List Hd)) .stmsH (some (List.length r1.2.2.2.2)) = some [] := arView_stmsH (arGet_push (c := .stmsH) (l := ([] : List Hd))) rfl
    rw [arView_int, (hg.rooms.keep hx).get, bnd_some, hv, bnd_some]
    exact Ok.of ⟨h2.1.mono (by omega), by dsimp only; omega, by simp, fun x hx => by simp at hx⟩
  refine Ok2.bif (fun _ => ?_) (fun _ => ?_)
  · refine Ok2.same ?_
    have hrow : arRow r1.2.2.2.2 .stmsH r1.2.1.id (0 : Int).toNat = some k := hg.tasks.row hk0
    simp only [idxN_eq (show (0 : Int) ≤ 0 by omega) (show (0 : Int) < (r1.2.1.n : Nat) by omega), bnd_some, hrow]
    refine Ok.bnd (Got.appX (c := .stmsH) hg.tasks (ys := ([k, k, k] : List Hd)) (by simp; omega)) fun B20 hB20 => ?_
    obtain ⟨g, _, hX⟩ := hB20
    have hA := g.ext
    have gr : Got .int [] rs r1.1 B20 := hg.rooms.stay hX hA (fun n hn hh => hg.other n hn hh)
    have gl : ∀ (i : Nat) (h : Hd), hs[i]? = some h → ∃ l, ls[i]? = some l ∧ Got .stm [] l h B20 := fun i x hi => (let ⟨l, q1, q2⟩ := hg.list i x hi; ⟨l, q1, q2.stay hX hA (fun n hn hh => (hg.apart i x hi n hn).2 hh)⟩)
    obtain ⟨l0', hl0', gk⟩ := gl 0 k hk0
    have e0 : l0' = l0 := by rw [hl0] at hl0'; injection hl0' with e; exact e.symm
    subst e0
    have hv : arView B20 .stmsH (some (List.length r1.2.2.2.2)) = some (ls ++ [l0', l0', l0']) := by
      refine arView_stmsH g.get (see_tasks (A := []) (fun i x hi => ?_) (by simp [he]))
      by_cases hlt : i < hs.length
      · rw [List.getElem?_append_left hlt] at hi
        obtain ⟨l, q1, q2⟩ := gl i x hi
        exact ⟨l, by rw [List.getElem?_append_left (by omega)]; exact q1, q2⟩
      · rw [List.getElem?_append_right (by omega)] at hi
        rw [List.getElem?_append_right (by omega), ← he]
        have : i - hs.length < 3 := (List.getElem?_eq_some_iff.1 hi).1
        match hj : i - hs.length, this with
        | 0, _ => rw [hj] at hi; simp at hi; subst hi; exact ⟨l0', rfl, gk⟩
        | 1, _ => rw [hj] at hi; simp at hi; subst hi; exact ⟨l0', rfl, gk⟩
        | 2, _ => rw [hj] at hi; simp at hi; subst hi; exact ⟨l0', rfl, gk⟩
    rw [arView_int, gr.get, bnd_some, hv, bnd_some]
    refine Ok.of ⟨h2.1.mono (by omega), by dsimp only; omega, by simp; omega, up fun x hx => ?_⟩
    rcases List.mem_append.1 hx with hx | hx
    · exact hms x hx
    · simp only [List.mem_cons, List.not_mem_nil, or_false, or_self] at hx
      rw [hx]; exact hz0
  refine Ok2.bif (fun _ => ?_) (fun _ => ?_)
  · have hrow : arRow r1.2.2.2.2 .stmsH r1.2.1.id (0 : Int).toNat = some k := hg.tasks.row hk0
    have hck := hgk.cnt
    have hlk := mSs_len l0
    have hlen : (l0 ++ [(⟨0, 0, 0, ⟨0, 0, []⟩, [], []⟩ : Stm)]).set k.n ⟨9, 0, 0, ⟨0, 0, []⟩, [], []⟩ = l0 ++ [⟨9, 0, 0, ⟨0, 0, []⟩, [], []⟩] := by
      rw [hck]; simp
    refine Ok2.of (⟨rs, ls.set 0 (l0 ++ [⟨9, 0, 0, ⟨0, 0, []⟩, [], []⟩])⟩, r2.2.1, r2.2.2) ?_ ?_ ⟨h2.1.mono (by omega), by dsimp only; omega, by simp; omega, mem_set (up hms) (by rw [mSs_append]; simp only [mSs, mS_mk, emXs]; omega)⟩
    · rw [idxN_eq (show (0 : Int) ≤ 0 by omega) (show (0 : Int) < (r1.2.1.n : Nat) by omega), bnd_some, hrow, bnd_some]
      refine Ok.bnd (Got.appX (c := .stm) hgk (ys := ([⟨9, 0, 0, ⟨0, 0, []⟩, [], []⟩] : List Stm)) (by simp; omega)) fun B25 hB25 => ?_
      obtain ⟨g, _, hX⟩ := hB25
      have hput := hg.put hk0 hX g (fun n hn => by injection hn with hn; omega)
      have gt : Got .stmsH [] hs r1.2.1 B25 := hg.tasks.stay hX g.ext (fun n hn hh => (hg.apart 0 k hk0 n hh).2 hn)
      have hrow2 : arRow B25 .stmsH r1.2.1.id (0 : Int).toNat = some k := gt.row hk0
      rw [bnd_some, hrow2, bnd_some]
      have hv := hput.view
      have hgr := hput.rooms.get
      have e1 : arView (arSet B25 .stmsH r1.2.1.id (0 : Int).toNat (⟨(some (List.length r1.2.2.2.2)), (k.n + List.length ([⟨9, 0, 0, ⟨0, 0, []⟩, [], []⟩] : List Stm))⟩ : Hd)) .int r1.1.id = some rs := by rw [arView_int]; exact hgr
      have e2 : arView (arSet B25 .stmsH r1.2.1.id (0 : Int).toNat (⟨(some (List.length r1.2.2.2.2)), (k.n + List.length ([⟨9, 0, 0, ⟨0, 0, []⟩, [], []⟩] : List Stm))⟩ : Hd)) .stmsH r1.2.1.id = some (ls.set 0 (l0 ++ [⟨9, 0, 0, ⟨0, 0, []⟩, [], []⟩])) := hv
      rw [e1, bnd_some, e2, bnd_some]
      exact Ok.of rfl
    · rw [idxN_eq (show (0 : Int) ≤ 0 by omega) (show (0 : Int) < (r1.2.1.n : Nat) by omega), bnd_some, hrow, bnd_some]
      refine Ok.bnd (Got.appX (c := .stm) hgk (ys := ([⟨0, 0, 0, ⟨0, 0, []⟩, [], []⟩] : List Stm)) (by simp; omega)) fun B25 hB25 => ?_
      obtain ⟨g, _, hX⟩ := hB25
      have hput := hg.put hk0 hX g (fun n hn => by injection hn with hn; omega)
      have gt : Got .stmsH [] hs r1.2.1 B25 := hg.tasks.stay hX g.ext (fun n hn hh => (hg.apart 0 k hk0 n hh).2 hn)
      have hrow2 : arRow B25 .stmsH r1.2.1.id (0 : Int).toNat = some k := gt.row hk0
      rw [bnd_some, hrow2, bnd_some, idxN_eq (show (0 : Int) ≤ ((k.n : Nat) : Int) by omega) (show ((k.n : Nat) : Int) < ((k.n + List.length ([⟨0, 0, 0, ⟨0, 0, []⟩, [], []⟩] : List Stm) : Nat) : Int) by simp; omega), bnd_some]
      have hlt0 : 0 < hs.length := by omega
      have hlt1 : 0 < ls.length := by omega
      obtain ⟨l1, q1, q2⟩ := hput.list 0 _ (List.getElem?_set_self hlt0)
      rw [List.getElem?_set_self hlt1] at q1
      injection q1 with q1
      subst q1
      have hrow3 : arRow (arSet B25 .stmsH r1.2.1.id (0 : Int).toNat (⟨(some (List.length r1.2.2.2.2)), (k.n + List.length ([⟨0, 0, 0, ⟨0, 0, []⟩, [], []⟩] : List Stm))⟩ : Hd)) .stm (some (List.length r1.2.2.2.2)) ((k.n : Nat) : Int).toNat = some ⟨0, 0, 0, ⟨0, 0, []⟩, [], []⟩ := Got.row (c := .stm) q2 (by rw [Int.toNat_natCast, hck]; simp)
      rw [hrow3, bnd_some]
      have hcell := hput.cell (i := 0) (j := ((k.n : Nat) : Int).toNat) (x := ⟨9, 0, 0, ⟨0, 0, []⟩, [], []⟩) (List.getElem?_set_self hlt0) (List.getElem?_set_self hlt1)
      rw [Int.toNat_natCast, hlen, List.set_set] at hcell
      have hv := hcell.view
      have hgr := hcell.rooms.get
      have e1 : arView (arSet (arSet B25 .stmsH r1.2.1.id (0 : Int).toNat (⟨(some (List.length r1.2.2.2.2)), (k.n + List.length ([⟨0, 0, 0, ⟨0, 0, []⟩, [], []⟩] : List Stm))⟩ : Hd)) .stm (some (List.length r1.2.2.2.2)) ((k.n : Nat) : Int).toNat (⟨9, 0, 0, ⟨0, 0, []⟩, [], []⟩ : Stm)) .int r1.1.id = some rs := by rw [arView_int]; exact hgr
      have e2 : arView (arSet (arSet B25 .stmsH r1.2.1.id (0 : Int).toNat (⟨(some (List.length r1.2.2.2.2)), (k.n + List.length ([⟨0, 0, 0, ⟨0, 0, []⟩, [], []⟩] : List Stm))⟩ : Hd)) .stm (some (List.length r1.2.2.2.2)) ((k.n : Nat) : Int).toNat (⟨9, 0, 0, ⟨0, 0, []⟩, [], []⟩ : Stm)) .stmsH r1.2.1.id = some (ls.set 0 (l0 ++ [⟨9, 0, 0, ⟨0, 0, []⟩, [], []⟩])) := hv
      rw [e1, bnd_some, e2, bnd_some]
      exact Ok.of rfl
  · refine Ok2.same ?_
    rw [arView_int, hg.rooms.get, bnd_some, hg.view, bnd_some]
    exact Ok.of ⟨h2.1.mono (by omega), by dsimp only; omega, by dsimp only; omega, up hms⟩

theorem DrawWorldNew_ok {a : List Int} (h : wfBs a) : Ok (spec_DrawWorldNew a) smallP := by
  apply Ok.le (spec_DrawWorldNew_le a)
  refine Ok.bnd (open_ok h) fun r1 h1 => ?_
  exact Ok.bnd (l92Wrong_ok h1 (by omega)) fun r2 h2 => Ok.of h2.2

theorem laws_FnWorldNew_eq (a : List Int) (h : wfBs a) : laws_FnWorldNew a = some true := lawWorldNew (DrawWorldNew_ok h)
end Go.TFnWorldNew
