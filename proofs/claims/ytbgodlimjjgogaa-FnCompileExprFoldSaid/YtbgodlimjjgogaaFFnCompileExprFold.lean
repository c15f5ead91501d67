/- The plain law: what the functions answer. -/
import Derived.Test.YtbgodlimjjgogaaDFnCompileExprFoldE0
import Derived.Test.YtbgodlimjjgogaaLk
set_option linter.unusedVariables false
set_option linter.unusedSimpArgs false
namespace Go.TFnCompileExprFold
open Go Go.RowKit Go.Vs Go.Tv
theorem spec_l6In_eq (a b c : Int) : spec_l6In a b c = some (decide (b ≤ a ∧ a ≤ c)) := by
  apply spec_l6In_le
  by_cases h : b ≤ a <;> simp [h]

theorem spec_OpValid_eq (a : Int) : spec_OpValid a = some (decide (1 ≤ a ∧ a ≤ 12)) := by
  apply spec_OpValid_le; simp [spec_l6In_eq]

theorem impl_OpValid_eq (a : Int) : impl_OpValid a = some (decide (1 ≤ a ∧ a ≤ 12)) := by
  apply impl_OpValid_le
  by_cases h : 1 ≤ a <;> simp [h]

/-- A reader of bytes: how far it may have come. -/
def Rd (b : List Int) (p m : Int) : Prop := (∀ x ∈ b, 0 ≤ x ∧ x ≤ 255) ∧ (b.length : Int) ≤ 2000 ∧ 0 ≤ p ∧ p ≤ m

theorem Rd.mono {b : List Int} {p m n : Int} (h : Rd b p m) (hm : m ≤ n) : Rd b p n := ⟨h.1, h.2.1, h.2.2.1, by have := h.2.2.2; omega⟩

theorem open_ok {a : List Int} (h : wfBs a) : Ok (spec_l6Open a) fun r => Rd r.1 r.2 0 := by
  apply Ok.le (spec_l6Open_le a)
  refine Ok.bif (fun hb => ?_) (fun hb => ?_)
  · simp only [decide_eq_true_eq] at hb
    have : cutL a 0 2000 = some (a.take 2000) := by
      unfold cutL
      rw [if_pos (by omega)]
      simp
    rw [this]
    refine Ok.of ⟨fun x hx => h x (List.mem_of_mem_take hx), ?_, by omega, by omega⟩
    simp only [List.length_take]; omega
  · simp only [decide_eq_false_iff_not] at hb
    exact Ok.of ⟨h, (by show (a.length : Int) ≤ 2000; omega), by omega, by omega⟩

theorem u8_get {b : List Int} (h : ∀ x ∈ b, 0 ≤ x ∧ x ≤ 255) {n : Int} (h0 : 0 ≤ n) (h1 : n < b.length) : Ok (geti b n) fun x => 0 ≤ x ∧ x ≤ 255 :=
  (Ok.geti h0 h1).mono fun x hx => h x hx.1

theorem pick_ok {b : List Int} {p m n : Int} (h : Rd b p m) (hm : m ≤ 1000000000) (hn : wfI n) :
    Ok (spec_l6Rd_pick n b p) fun r => Rd r.2.1 r.2.2 (m + 1) ∧ 0 ≤ r.1 ∧ (1 ≤ n → r.1 < n) ∧ (n < 1 → r.1 = 0) := by
  obtain ⟨h1, h2, h3, h4⟩ := h
  obtain ⟨n1, n2⟩ := hn
  apply Ok.le (spec_l6Rd_pick_le n b p)
  have e1 : wrap64 (p + 1) = p + 1 := wrap_id (by omega) (by omega)
  have e2 : wrap64 (p + 1 - 1) = p := by rw [show p + 1 - 1 = p by omega]; exact wrap_id (by omega) (by omega)
  rw [e1, e2]
  have hR : Rd b (p + 1) (m + 1) := ⟨h1, h2, by omega, by omega⟩
  refine Ok.bif (fun hb => ?_) (fun hb => ?_)
  · simp only [decide_eq_true_eq] at hb
    exact Ok.of ⟨hR, by omega, by omega, by omega⟩
  simp only [decide_eq_false_iff_not] at hb
  refine Ok.bif (fun hc => ?_) (fun hc => ?_)
  · exact Ok.of ⟨hR, by omega, by omega, by omega⟩
  simp only [decide_eq_false_iff_not] at hc
  refine Ok.bif (fun hd => ?_) (fun hd => ?_)
  · simp only [decide_eq_true_eq] at hd
    refine Ok.bnd (u8_get h1 h3 hd) fun x hx => ?_
    rw [wrap_id (by omega) (by omega), remI_pos (by omega)]
    have := tmod_range (y := n) hx.1 (by omega)
    exact Ok.of ⟨hR, this.1, fun _ => this.2, by omega⟩
  · simp only [decide_eq_false_iff_not] at hd
    have hl : 0 < (b.length : Int) := by omega
    rw [remI_pos (by omega), bnd_some]
    have t1 := tmod_range (x := p) h3 hl
    refine Ok.bnd (u8_get h1 t1.1 t1.2) fun x hx => ?_
    have e3 : wrap64 (p * 7) = p * 7 := wrap_id (by omega) (by omega)
    have e4 : wrap64 (p * 7 + 3) = p * 7 + 3 := wrap_id (by omega) (by omega)
    rw [e3, e4, remI_pos (by omega), bnd_some]
    have t2 := tmod_range (x := p * 7 + 3) (by omega) hl
    refine Ok.bnd (u8_get h1 t2.1 t2.2) fun y hy => ?_
    rw [quoI_pos (by omega), bnd_some]
    have q0 : 0 ≤ p.tdiv b.length ∧ p.tdiv b.length ≤ p := by
      rw [Int.tdiv_eq_ediv_of_nonneg h3]
      exact ⟨Int.ediv_nonneg h3 (by omega), Int.ediv_le_self _ h3⟩
    generalize hq : p.tdiv b.length = q at q0
    have hx2 : wrap64 x = x := wrap_id (by omega) (by omega)
    have hy2 : wrap64 y = y := wrap_id (by omega) (by omega)
    have hq2 : wrap64 q = q := wrap_id (by omega) (by omega)
    rw [hx2, hy2, hq2]
    have f1 : wrap64 (x * 131) = x * 131 := wrap_id (by omega) (by omega)
    have f2 : wrap64 (y * 1117) = y * 1117 := wrap_id (by omega) (by omega)
    have f3 : wrap64 (p * 29) = p * 29 := wrap_id (by omega) (by omega)
    have f4 : wrap64 (q * 53) = q * 53 := wrap_id (by omega) (by omega)
    rw [f1, f2, f3, f4]
    have f5 : wrap64 (x * 131 + y * 1117) = x * 131 + y * 1117 := wrap_id (by omega) (by omega)
    rw [f5]
    have f6 : wrap64 (x * 131 + y * 1117 + p * 29) = x * 131 + y * 1117 + p * 29 := wrap_id (by omega) (by omega)
    rw [f6]
    have f7 : wrap64 (x * 131 + y * 1117 + p * 29 + q * 53) = x * 131 + y * 1117 + p * 29 + q * 53 := wrap_id (by omega) (by omega)
    rw [f7]
    generalize hz : x * 131 + y * 1117 + p * 29 + q * 53 = z
    have hz0 : 0 ≤ z ∧ z < 1000000000000 := by omega
    have hd2 : 0 ≤ z.tdiv 64 ∧ z.tdiv 64 ≤ z := by
      rw [Int.tdiv_eq_ediv_of_nonneg hz0.1]
      omega
    rw [wrap_id (n := z.tdiv 64) (by omega) (by omega), remI_pos (by omega), bnd_some]
    have hxor := xor_nonneg (x := z) (y := z.tdiv 64) hz0.1 (by omega) hd2.1 (by omega)
    have t3 := tmod_range (y := n) hxor.1 (by omega)
    exact Ok.of ⟨hR, t3.1, fun _ => t3.2, by omega⟩

/-- A number that was picked names a place in a list. -/
theorem pick_geti {α : Type} {l : List α} {x n : Int} (h : 0 ≤ x ∧ (1 ≤ n → x < n) ∧ (n < 1 → x = 0)) (hn : 1 ≤ n) (hl : (l.length : Int) = n) : Ok (geti l x) fun y => y ∈ l :=
  (Ok.geti h.1 (by have := h.2.1 hn; omega)).mono fun y hy => hy.1

theorem l91Op_ok {b : List Int} {p m : Int} (h : Rd b p m) (hm : m ≤ 999999990) : Ok (spec_l91Op b p) fun r => Rd r.2.1 r.2.2 (m + 1) ∧ (1 ≤ r.1 ∧ r.1 ≤ 12) := by
  apply Ok.le (spec_l91Op_le b p)
  refine Ok.bnd (pick_ok h (by omega) (by decide)) fun r1 h1 => ?_
  have := h1.2.2.1 (by omega)
  rw [wrap_id (by omega) (by omega)]
  exact Ok.of ⟨h1.1, by dsimp only; omega⟩

theorem geti_some {α : Type} {l : List α} {i : Nat} (h : i < l.length) : geti l (i : Int) = some l[i] := by
  rw [geti_nat', List.getElem?_eq_getElem h]

theorem wrap_succ {i : Nat} (h : (i : Int) < 9223372036854775807) : wrap64 ((i : Int) + 1) = ((i + 1 : Nat) : Int) := by
  rw [wrap_id (by omega) (by omega)]; omega

theorem exp_eta (e : Exp) : (⟨e.op, e.n, e.args⟩ : Exp) = e := by cases e; rfl

/-- Is an expression valid with at most some depth? -/
def expOk : Nat → Exp → Bool
  | 0, _ => false
  | d + 1, e =>
    if e.op = 0 then decide (0 ≤ e.n ∧ e.n ≤ 99999) && e.args.isEmpty
    else if e.op = 13 then decide (0 ≤ e.n ∧ e.n < 4) && e.args.isEmpty
    else decide (1 ≤ e.op ∧ e.op ≤ 12) && decide (e.n = 0) && match e.args with | [a, b] => expOk d a && expOk d b | _ => false

theorem len0 {α : Type} (l : List α) : ((l.length : Int) = 0) ↔ l = [] := by
  constructor
  · intro h; exact List.eq_nil_of_length_eq_zero (by omega)
  · intro h; subst h; rfl

theorem two_args {l : List Exp} : ((l.length : Int) = 2) ↔ ∃ a b, l = [a, b] := by
  constructor
  · intro h
    match l, h with
    | [a, b], _ => exact ⟨a, b, rfl⟩
    | [], h => simp at h
    | [_], h => simp at h
    | _ :: _ :: _ :: _, h => simp at h; omega
  · rintro ⟨a, b, rfl⟩; rfl

theorem geti0 {α : Type} (a : α) (l : List α) : geti (a :: l) 0 = some a := by simp [geti]

theorem geti1 {α : Type} (a b : α) (l : List α) : geti (a :: b :: l) 1 = some b := by simp [geti]

theorem pred_d (d : Nat) (h : d ≤ 5) : wrap64 (((d + 1 : Nat) : Int) - 1) = (d : Int) := by rw [wrap_id (by omega) (by omega)]; omega

theorem impl_exprValid_eq : ∀ (d : Nat) (e : Exp), d ≤ 5 → impl_exprValid e (d : Int) = some (expOk d e)
  | d, e, hd => by
    apply impl_exprValid_le
    simp only [impl_OpValid_eq, bnd_some, exp_eta]
    by_cases h0 : e.op = 0
    · cases d with
      | zero => by_cases h1 : 0 ≤ e.n <;> by_cases h2 : e.n ≤ 99999 <;> by_cases h3 : e.args = [] <;> simp [h0, h1, h2, h3, expOk, len0]
      | succ d => by_cases h1 : 0 ≤ e.n <;> by_cases h2 : e.n ≤ 99999 <;> by_cases h3 : e.args = [] <;> simp [h0, h1, h2, h3, expOk, len0] <;> omega
    · by_cases h13 : e.op = 13
      · cases d with
        | zero => by_cases h1 : 0 ≤ e.n <;> by_cases h2 : e.n < 4 <;> by_cases h3 : e.args = [] <;> simp [h13, h1, h2, h3, expOk, len0]
        | succ d => by_cases h1 : 0 ≤ e.n <;> by_cases h2 : e.n < 4 <;> by_cases h3 : e.args = [] <;> simp [h13, h1, h2, h3, expOk, len0] <;> omega
      · by_cases h1 : 1 ≤ e.op ∧ e.op ≤ 12
        · by_cases h2 : e.n = 0
          · by_cases h3 : (e.args.length : Int) = 2
            · obtain ⟨a, b, hab⟩ := two_args.1 h3
              cases d with
              | zero => simp [h0, h13, h1, h2, h3, expOk]
              | succ d =>
                cases d with
                | zero => simp [h0, h13, h1, h2, h3, expOk, hab]
                | succ d =>
                  have hd1 : (1 : Int) < (d : Int) + 1 + 1 := by omega
                  rw [pred_d (d + 1) (by omega), hab, geti0, geti1]
                  simp only [bnd_some, impl_exprValid_eq (d + 1) _ (by omega)]
                  have e1 : expOk (d + 1 + 1) e = (expOk (d + 1) a && expOk (d + 1) b) := by
                    rw [expOk]; simp [h0, h13, h1, h2, hab]
                  rw [e1]
                  cases expOk (d + 1) a <;> simp [h0, h13, h1, h2, hd1]
            · have hm : (match e.args with | [a, b] => (fun d => expOk d a && expOk d b) | _ => fun _ => false) = fun _ => false := by
                split
                · rename_i a b hab; exact absurd (two_args.2 ⟨a, b, hab⟩) h3
                · rfl
              have e1 : expOk d e = false := by
                cases d with
                | zero => rfl
                | succ d =>
                  rw [expOk]; simp only [h0, h13, if_false]
                  split
                  · rename_i a b hab; exact absurd (two_args.2 ⟨a, b, hab⟩) h3
                  · simp
              rw [e1]; simp [h0, h13, h1, h2, h3]
          · have e1 : expOk d e = false := by cases d <;> simp [expOk, h0, h13, h2]
            rw [e1]; simp [h0, h13, h1, h2]
        · have e1 : expOk d e = false := by cases d <;> simp [expOk, h0, h13, h1]
          rw [e1]; simp [h0, h13, h1]

theorem impl_ExprValid_eq (e : Exp) : impl_ExprValid e = some (expOk 5 e) := by
  apply impl_ExprValid_le
  rw [exp_eta, show (5 : Int) = ((5 : Nat) : Int) by rfl, impl_exprValid_eq 5 e (by omega)]
  rfl

theorem spec_l4Ok_eq : ∀ (d : Nat) (e : Exp), d ≤ 5 → spec_l4Ok e (d : Int) = some (expOk d e)
  | 0, e, hd => by
    apply spec_l4Ok_le
    simp [expOk]
  | d + 1, e, hd => by
    apply spec_l4Ok_le
    have hd0 : ¬ (((d + 1 : Nat) : Int) < 1) := by omega
    simp only [spec_l6In_eq, spec_OpValid_eq, bnd_some, exp_eta, hd0, decide_false, cond_false, expOk]
    by_cases h0 : e.op = 0
    · by_cases h1 : 0 ≤ e.n ∧ e.n ≤ 99999 <;> by_cases h3 : e.args = [] <;> simp [h0, h1, h3, len0]
    · by_cases h13 : e.op = 13
      · have e3 : (e.n < 4) = (e.n ≤ 3) := propext (by omega)
        by_cases h1 : 0 ≤ e.n ∧ e.n ≤ 3 <;> by_cases h3 : e.args = [] <;> simp [h13, h1, h3, len0, e3]
      · by_cases h1 : 1 ≤ e.op ∧ e.op ≤ 12
        · by_cases h2 : e.n = 0
          · by_cases h3 : (e.args.length : Int) = 2
            · obtain ⟨a, b, hab⟩ := two_args.1 h3
              rw [pred_d d (by omega), hab, geti0, geti1]
              simp only [bnd_some, spec_l4Ok_eq d _ (by omega)]
              cases expOk d a <;> simp [h0, h13, h1, h2]
            · have e1 : (match e.args with | [a, b] => expOk d a && expOk d b | _ => false) = false := by
                split
                · rename_i a b hab; exact absurd (two_args.2 ⟨a, b, hab⟩) h3
                · rfl
              rw [e1]; simp [h0, h13, h1, h2, h3]
          · simp [h0, h13, h1, h2]
        · simp [h0, h13, h1]

theorem spec_ExprValid_eq (e : Exp) : spec_ExprValid e = some (expOk 5 e) := by
  apply spec_ExprValid_le
  rw [exp_eta, show (5 : Int) = ((5 : Nat) : Int) by rfl, spec_l4Ok_eq 5 e (by omega)]
  rfl

/-- A valid expression is a number, a variable, or an operation on two valid ones. -/
theorem expOk_cases {d : Nat} {e : Exp} (h : expOk (d + 1) e = true) : (e.op = 0 ∧ e.args = [] ∧ 0 ≤ e.n ∧ e.n ≤ 99999) ∨ (e.op = 13 ∧ e.args = [] ∧ 0 ≤ e.n ∧ e.n < 4) ∨
    (1 ≤ e.op ∧ e.op ≤ 12 ∧ e.n = 0 ∧ ∃ a b, e.args = [a, b] ∧ expOk d a = true ∧ expOk d b = true) := by
  unfold expOk at h
  split at h
  · rename_i h0; simp at h; exact .inl ⟨h0, h.2, h.1⟩
  · split at h
    · rename_i h0; simp at h; exact .inr (.inl ⟨h0, h.2, h.1⟩)
    · simp only [Bool.and_eq_true, decide_eq_true_eq] at h
      obtain ⟨⟨h1, h2⟩, h3⟩ := h
      split at h3
      · rename_i a b hab
        simp only [Bool.and_eq_true] at h3
        exact .inr (.inr ⟨h1.1, h1.2, h2, a, b, hab, h3.1, h3.2⟩)
      · cases h3

/-- How deep an expression is; how many parts it has. -/
def dep : Nat → Exp → Nat
  | 0, _ => 0
  | d + 1, e => match e.args with | [a, b] => 1 + max (dep d a) (dep d b) | _ => 1

def siz : Nat → Exp → Nat
  | 0, _ => 0
  | d + 1, e => match e.args with | [a, b] => 1 + siz d a + siz d b | _ => 1

theorem dep_le : ∀ (d : Nat) (e : Exp), dep d e ≤ d
  | 0, e => Nat.le_refl _
  | d + 1, e => by
    unfold dep
    split
    · rename_i a b _
      have := dep_le d a; have := dep_le d b; omega
    · omega

theorem dep_pos (d : Nat) (e : Exp) : 1 ≤ dep (d + 1) e := by unfold dep; split <;> omega

theorem siz_le : ∀ (d : Nat) (e : Exp), siz d e + 1 ≤ 2 ^ d
  | 0, e => by simp [siz]
  | d + 1, e => by
    unfold siz
    have hp : 2 ^ (d + 1) = 2 * 2 ^ d := by rw [Nat.pow_succ]; omega
    have h1 : 1 ≤ 2 ^ d := Nat.one_le_two_pow
    split
    · rename_i a b _
      have := siz_le d a; have := siz_le d b; omega
    · omega

theorem siz_small {d : Nat} (hd : d ≤ 5) (e : Exp) : siz d e ≤ 31 := by
  have h1 := siz_le d e
  have h2 : 2 ^ d ≤ 2 ^ 5 := Nat.pow_le_pow_right (by omega) hd
  omega

theorem w01 : wrap64 (0 + 1) = 1 := by unfold wrap64; omega

theorem w11 : wrap64 (1 + 1) = 2 := by unfold wrap64; omega

theorem w1 : wrap64 1 = 1 := by unfold wrap64; omega

theorem ite_max (a b : Int) : (if a < b then b else a) = max a b := by
  by_cases h : a < b
  · rw [if_pos h]; omega
  · rw [if_neg h]; omega

theorem impl_exprDepth_eq : ∀ (d : Nat) (e : Exp), d ≤ 5 → expOk d e = true → impl_exprDepth e = some (dep d e : Int)
  | 0, e, _, h => by simp [expOk] at h
  | d + 1, e, hd, h => by
    apply impl_exprDepth_le
    have leaf : e.args = [] → (bnd (impl_exprDepth_l1 0 e.args (e.args.length : Int) 0) fun r1 => some (wrap64 (r1 + 1))) = some ((dep (d + 1) e : Nat) : Int) := by
      intro ha
      have e1 : impl_exprDepth_l1 0 [] (([] : List Exp).length : Int) 0 = some 0 := by
        apply impl_exprDepth_l1_le; simp
      rw [ha, e1]
      simp [dep, ha, w1]
    rcases expOk_cases h with ⟨_, ha, _⟩ | ⟨_, ha, _⟩ | ⟨_, _, _, a, b, hab, h1, h2⟩
    · exact leaf ha
    · exact leaf ha
    · rw [hab]
      have e3 : ∀ x : Int, impl_exprDepth_l1 x [a, b] (([a, b] : List Exp).length : Int) 2 = some x := by
        intro x; apply impl_exprDepth_l1_le; simp
      have e2 : ∀ x : Int, impl_exprDepth_l1 x [a, b] (([a, b] : List Exp).length : Int) 1 = some (max x (dep d b : Int)) := by
        intro x; apply impl_exprDepth_l1_le
        rw [geti1, w11]
        simp only [exp_eta, bnd_some, impl_exprDepth_eq d b (by omega) h2, e3, ite_max]
        simp
      have e1 : impl_exprDepth_l1 0 [a, b] (([a, b] : List Exp).length : Int) 0 = some (max (max 0 (dep d a : Int)) (dep d b : Int)) := by
        apply impl_exprDepth_l1_le
        rw [geti0, w01]
        simp only [exp_eta, bnd_some, impl_exprDepth_eq d a (by omega) h1, e2, ite_max]
        simp
      rw [e1, bnd_some]
      have := dep_le d a; have := dep_le d b
      rw [wrap_id (by omega) (by omega)]
      simp only [dep, hab, Option.some.injEq]
      omega

theorem spec_l4Depth_eq : ∀ (d : Nat) (e : Exp), d ≤ 5 → expOk d e = true → spec_l4Depth e = some (dep d e : Int)
  | 0, e, _, h => by simp [expOk] at h
  | d + 1, e, hd, h => by
    apply spec_l4Depth_le
    rcases expOk_cases h with ⟨_, ha, _⟩ | ⟨_, ha, _⟩ | ⟨_, _, _, a, b, hab, h1, h2⟩
    · simp [ha, dep]
    · simp [ha, dep]
    · have hn : ¬ ((e.args.length : Int) = 0) := by rw [hab]; simp
      simp only [hn, decide_false, cond_false]
      rw [hab, geti0, geti1]
      simp only [exp_eta, bnd_some, spec_l4Depth_eq d a (by omega) h1, spec_l4Depth_eq d b (by omega) h2, ite_max]
      have := dep_le d a; have := dep_le d b
      rw [wrap_id (by omega) (by omega)]
      simp only [dep, hab, Option.some.injEq]
      omega

/-- The quads of an expression. -/
def cod : Nat → Exp → Int → List Quad
  | 0, _, _ => []
  | d + 1, e, at_ =>
    if e.op = 0 then [⟨1, at_, 0, 0, e.n⟩]
    else if e.op = 13 then [⟨2, at_, e.n, 0, 0⟩]
    else match e.args with
      | [a, b] => cod d a at_ ++ cod d b (at_ + 1) ++ [⟨3, at_, at_, at_ + 1, e.op⟩]
      | _ => []

theorem cod_len : ∀ (d : Nat) (e : Exp) (t : Int), expOk d e = true → (cod d e t).length = siz d e
  | 0, e, t, h => by simp [expOk] at h
  | d + 1, e, t, h => by
    rcases expOk_cases h with ⟨h0, ha, _⟩ | ⟨h0, ha, _⟩ | ⟨h0, h0', _, a, b, hab, h1, h2⟩
    · simp [cod, siz, h0, ha]
    · simp [cod, siz, h0, ha]
    · have n0 : e.op ≠ 0 := by omega
      have n1 : e.op ≠ 13 := by omega
      simp [cod, siz, n0, n1, hab, cod_len d a _ h1, cod_len d b _ h2]; omega

theorem appL_some {α : Type} {x y : List α} (h : x.length + y.length ≤ 4294967296) : appL x y = some (x ++ y) := by unfold appL; rw [if_pos h]

theorem impl_compileExpr_eq : ∀ (d : Nat) (e : Exp) (t : Int) (c : List Quad), d ≤ 5 → expOk d e = true → 0 ≤ t → t + d ≤ 1000 → c.length ≤ 1000 * (6 - d) → impl_compileExpr e t c = some (c ++ cod d e t)
  | 0, e, t, c, _, h, _, _, _ => by simp [expOk] at h
  | d + 1, e, t, c, hd, h, t0, t1, hc => by
    apply impl_compileExpr_le
    rcases expOk_cases h with ⟨h0, ha, _⟩ | ⟨h0, ha, _⟩ | ⟨h0, h0', _, a, b, hab, h1, h2⟩
    · rw [appL_some (by simp; omega)]; simp [cod, h0]
    · rw [appL_some (x := c) (y := [⟨2, t, e.n, 0, 0⟩]) (by simp; omega)]; simp [cod, h0]
    · have n0 : e.op ≠ 0 := by omega
      have n1 : e.op ≠ 13 := by omega
      have la := cod_len d a t h1
      have lb := cod_len d b (t + 1) h2
      have sa := siz_small (show d ≤ 5 by omega) a
      have sb := siz_small (show d ≤ 5 by omega) b
      rw [hab, geti0, geti1, wrap_id (n := t + 1) (by omega) (by omega)]
      simp only [exp_eta, bnd_some, n0, n1, decide_false, cond_false]
      rw [impl_compileExpr_eq d a t c (by omega) h1 t0 (by omega) (by omega), bnd_some,
        impl_compileExpr_eq d b (t + 1) _ (by omega) h2 (by omega) (by omega) (by rw [List.length_append]; omega), bnd_some, appL_some (by simp; omega)]
      simp [cod, n0, n1, hab]

theorem spec_l22Expr_eq : ∀ (d : Nat) (e : Exp) (t : Int), d ≤ 5 → expOk d e = true → 0 ≤ t → t + d ≤ 1000 → spec_l22Expr e t = some (cod d e t)
  | 0, e, t, _, h, _, _ => by simp [expOk] at h
  | d + 1, e, t, hd, h, t0, t1 => by
    apply spec_l22Expr_le
    rcases expOk_cases h with ⟨h0, ha, _⟩ | ⟨h0, ha, _⟩ | ⟨h0, h0', _, a, b, hab, h1, h2⟩
    · simp [cod, h0]
    · simp [cod, h0]
    · have n0 : e.op ≠ 0 := by omega
      have n1 : e.op ≠ 13 := by omega
      have la := cod_len d a t h1
      have lb := cod_len d b (t + 1) h2
      have sa := siz_small (show d ≤ 5 by omega) a
      have sb := siz_small (show d ≤ 5 by omega) b
      rw [hab, geti0, geti1, wrap_id (n := t + 1) (by omega) (by omega)]
      simp only [exp_eta, bnd_some, n0, n1, decide_false, cond_false]
      rw [spec_l22Expr_eq d a t (by omega) h1 t0 (by omega), bnd_some, spec_l22Expr_eq d b (t + 1) (by omega) h2 (by omega) (by omega), bnd_some, appL_some (by omega), bnd_some, appL_some (by simp; omega)]
      simp [cod, n0, n1, hab]

/-- The quads of an expression, where there are registers enough. -/
def comp (e : Exp) (t : Int) : List Quad × Bool := if expOk 5 e = true ∧ 4 ≤ t ∧ t + dep 5 e ≤ 12 then (cod 5 e t, true) else ([], false)

theorem impl_CompileExpr_eq (e : Exp) (t : Int) (h : wfI t) : impl_CompileExpr e t = some (comp e t) := by
  apply impl_CompileExpr_le
  rw [exp_eta, impl_ExprValid_eq, bnd_some]
  unfold comp
  by_cases hv : expOk 5 e = true
  · have hd := dep_le 5 e
    have hp := dep_pos 4 e
    rw [impl_exprDepth_eq 5 e (by omega) hv, bnd_some]
    by_cases h1 : t < 4
    · rw [if_neg (by omega)]; simp [hv, h1]
    · by_cases h2 : 12 < t
      · rw [if_neg (by omega)]; simp [hv, h1, h2]
      · rw [wrap_id (by omega) (by omega)]
        by_cases h3 : 12 < t + (dep 5 e : Int)
        · rw [if_neg (by omega)]; simp [hv, h1, h2, h3]
        · rw [if_pos ⟨hv, by omega, by omega⟩, impl_compileExpr_eq 5 e t [] (by omega) hv (by omega) (by omega) (by simp)]
          simp [hv, h1, h2, h3]
  · have hv' : expOk 5 e = false := by simpa using hv
    rw [if_neg (fun h => hv h.1)]; simp [hv']

theorem spec_CompileExpr_eq (e : Exp) (t : Int) (h : wfI t) : spec_CompileExpr e t = some (comp e t) := by
  apply spec_CompileExpr_le
  rw [exp_eta, spec_ExprValid_eq, bnd_some]
  unfold comp
  by_cases hv : expOk 5 e = true
  · have hd := dep_le 5 e
    have hp := dep_pos 4 e
    rw [spec_l4Depth_eq 5 e (by omega) hv, bnd_some, wrap_id (by omega) (by omega), spec_l6In_eq, bnd_some]
    by_cases h3 : 4 ≤ t ∧ t ≤ 12 - (dep 5 e : Int)
    · rw [if_pos ⟨hv, by omega, by omega⟩, spec_l22Expr_eq 5 e t (by omega) hv (by omega) (by omega)]
      simp [hv, h3]
    · rw [if_neg (by omega)]; simp [hv, h3]
  · have hv' : expOk 5 e = false := by simpa using hv
    rw [if_neg (fun h => hv h.1)]; simp [hv']

theorem sameCode_l {a : List Quad} (hl : (a.length : Int) ≤ 4294967296) : ∀ (d i : Nat), i + d = a.length → laws_sameCode_l1 a a i = some (.inl ())
  | 0, i, hd => by
    apply laws_sameCode_l1_le
    have hi : ¬ ((i : Int) < a.length) := by omega
    simp [hi]
  | d + 1, i, hd => by
    apply laws_sameCode_l1_le
    have hi : i < a.length := by omega
    have hi' : (i : Int) < a.length := by omega
    rw [geti_some hi, wrap_succ (by omega), sameCode_l hl d (i + 1) (by omega)]
    simp [hi']

theorem laws_sameCode_refl {a : List Quad} (hl : (a.length : Int) ≤ 4294967296) : laws_sameCode a a = some true := by
  apply laws_sameCode_le
  rw [show (0 : Int) = ((0 : Nat) : Int) by rfl, sameCode_l hl a.length 0 (by omega)]
  simp [selm]

theorem comp_len (e : Exp) (t : Int) : ((comp e t).1.length : Int) ≤ 31 := by
  unfold comp
  split
  · rename_i h
    have := siz_small (show 5 ≤ 5 by omega) e
    rw [cod_len 5 e t h.1]; omega
  · simp

/-- A drawn expression's slice of arguments has no room. -/
def noRoom (m : Md) : Prop := m = .own false ∨ m = .full

theorem noRoom_dem {m : Md} (h : noRoom m) : noRoom m.dem := by rcases h with rfl | rfl; exact .inl rfl; exact .inr rfl

theorem l4Leaf_eq (o n : Int) : spec_l4Leaf o n = some (o, n, .own false, []) := by apply spec_l4Leaf_le; rfl

theorem l4Both_eq (o : Int) (a b : Exp) : spec_l4Both o a b = some (o, 0, .full, [a, b]) := by apply spec_l4Both_le; simp [exp_eta]

theorem l91Leaf_ok {b : List Int} {p m : Int} (h : Rd b p m) (hm : m ≤ 999999990) : Ok (spec_l91Leaf b p) fun r => Rd r.2.2.2.1 r.2.2.2.2 (m + 2) ∧ noRoom r.2.2.1.1 ∧ r.2.2.1.2.length ≤ 2 := by
  apply Ok.le (spec_l91Leaf_le b p)
  refine Ok.bnd (pick_ok h (by omega) (by decide)) fun r1 h1 => ?_
  refine Ok.bif (fun _ => ?_) (fun _ => ?_)
  · refine Ok.bnd (pick_ok h1.1 (by omega) (by decide)) fun r2 h2 => ?_
    rw [l4Leaf_eq, bnd_some]
    exact Ok.of ⟨h2.1.mono (by omega), .inl rfl, by simp⟩
  refine Ok.bif (fun _ => ?_) (fun _ => ?_)
  · refine Ok.bnd (pick_ok h1.1 (by omega) (by decide)) fun r2 h2 => ?_
    refine Ok.bnd (pick_geti h2.2 (by omega) rfl) fun e he => ?_
    rw [l4Leaf_eq, bnd_some]
    exact Ok.of ⟨h2.1.mono (by omega), .inl rfl, by simp⟩
  · refine Ok.bnd (pick_ok h1.1 (by omega) (by decide)) fun r2 h2 => ?_
    rw [l4Leaf_eq, bnd_some]
    exact Ok.of ⟨h2.1.mono (by omega), .inl rfl, by simp⟩

/-- How many bytes an expression takes at most. -/
def cost : Nat → Int
  | 0 => 2
  | d + 1 => 2 + 2 * cost d

theorem cost_pos : ∀ d, 2 ≤ cost d
  | 0 => by simp [cost]
  | d + 1 => by have := cost_pos d; simp only [cost]; omega

theorem l91Expr_ok : ∀ (d : Nat) {b : List Int} {p m : Int} (n : Int), n = (d : Int) + 1 → d ≤ 10 → Rd b p m → m + cost d ≤ 999999990 →
    Ok (spec_l91Expr n b p) fun r => Rd r.2.2.2.1 r.2.2.2.2 (m + cost d) ∧ noRoom r.2.2.1.1 ∧ r.2.2.1.2.length ≤ 2
  | d, b, p, m, n, hn, hd, h, hm => by
    apply Ok.le (spec_l91Expr_le n b p)
    have hc := cost_pos d
    have leaf : ∀ {b : List Int} {p m' : Int}, Rd b p m' → m' + 2 ≤ m + cost d → Ok (Vs.bnd (spec_l91Leaf b p) fun r1 => some (r1.1, r1.2.1, (Md.dem (Md.dem (Md.dem r1.2.2.1.1)), r1.2.2.1.2), r1.2.2.2.1, r1.2.2.2.2)) fun r => Rd r.2.2.2.1 r.2.2.2.2 (m + cost d) ∧ noRoom r.2.2.1.1 ∧ r.2.2.1.2.length ≤ 2 := by
      intro b p m' h' hm'
      refine Ok.bnd (l91Leaf_ok h' (by omega)) fun r1 h1 => ?_
      exact Ok.of ⟨h1.1.mono hm', noRoom_dem (noRoom_dem (noRoom_dem h1.2.1)), h1.2.2⟩
    refine Ok.bif (fun hb => ?_) (fun hb => ?_)
    · exact leaf h (by omega)
    · simp only [decide_eq_false_iff_not] at hb
      obtain ⟨d, rfl⟩ : ∃ d', d = d' + 1 := ⟨d - 1, by omega⟩
      have hc' := cost_pos d
      simp only [cost] at hm ⊢
      refine Ok.bnd (pick_ok h (by omega) (by decide)) fun r1 h1 => ?_
      refine Ok.bif (fun _ => ?_) (fun _ => ?_)
      · exact (leaf h1.1 (by simp only [cost]; omega)).mono fun r hr => hr
      · refine Ok.bnd (l91Op_ok h1.1 (by omega)) fun r2 h2 => ?_
        rw [wrap_id (n := n - 1) (by omega) (by omega)]
        refine Ok.bnd (l91Expr_ok d (n - 1) (by omega) (by omega) h2.1 (by omega)) fun r3 h3 => ?_
        refine Ok.bnd (l91Expr_ok d (n - 1) (by omega) (by omega) h3.1 (by omega)) fun r4 h4 => ?_
        rw [l4Both_eq, bnd_some]
        exact Ok.of ⟨h4.1.mono (by omega), .inr rfl, by simp⟩

theorem appM_noRoom {α : Type} {m : Md} (h : noRoom m) (x : List α) (a : α) (hl : x.length ≤ 1000) : appM m x [a] = some (x ++ [a]) := by
  rcases h with rfl | rfl <;> exact appL_some (by simp; omega)

theorem l91Spoilt_ok {b : List Int} {p m : Int} (h : Rd b p m) (hm : m ≤ 999990000) : Ok (spec_l91Spoilt b p) fun r => Rd r.2.1 r.2.2 (m + 300) := by
  apply Ok.le (spec_l91Spoilt_le b p)
  refine Ok.bnd (pick_ok h (by omega) (by decide)) fun r1 h1 => ?_
  have hk := h1.2.2.1 (by omega)
  rw [wrap_id (n := 2 + r1.1) (by omega) (by omega)]
  have hex : ∀ {b : List Int} {p m' : Int} (n : Int), 1 ≤ n → n ≤ 6 → Rd b p m' → m' ≤ 999999000 → Ok (spec_l91Expr n b p) fun r => Rd r.2.2.2.1 r.2.2.2.2 (m' + 126) ∧ noRoom r.2.2.1.1 ∧ r.2.2.1.2.length ≤ 2 := by
    intro b p m' n hn1 hn2 h' hm'
    have mono : ∀ d : Nat, d ≤ 5 → cost d ≤ 126 := by
      intro d hd
      match d, hd with
      | 0, _ => decide
      | 1, _ => decide
      | 2, _ => decide
      | 3, _ => decide
      | 4, _ => decide
      | 5, _ => decide
    have hc := mono (n - 1).toNat (by omega)
    exact (l91Expr_ok (n - 1).toNat n (by omega) (by omega) h' (by omega)).mono fun r hr => ⟨hr.1.mono (by omega), hr.2⟩
  refine Ok.bnd (hex _ (by omega) (by omega) h1.1 (by omega)) fun r2 h2 => ?_
  refine Ok.bnd (pick_ok h2.1 (by omega) (by decide)) fun r3 h3 => ?_
  refine Ok.bif (fun _ => ?_) (fun _ => ?_)
  · refine Ok.bnd (pick_ok h3.1 (by omega) (by decide)) fun r4 h4 => ?_
    refine Ok.bnd (pick_geti h4.2 (by omega) rfl) fun e he => ?_
    exact Ok.of (h4.1.mono (by omega))
  refine Ok.bif (fun _ => ?_) (fun _ => ?_)
  · refine Ok.bnd (pick_ok h3.1 (by omega) (by decide)) fun r4 h4 => ?_
    refine Ok.bnd (pick_geti h4.2 (by omega) rfl) fun e he => ?_
    exact Ok.of (h4.1.mono (by omega))
  refine Ok.bif (fun _ => ?_) (fun _ => ?_)
  · refine Ok.bnd (l91Leaf_ok h3.1 (by omega)) fun r4 h4 => ?_
    rw [appM_noRoom (noRoom_dem h2.2.1) _ _ (by omega), bnd_some]
    exact Ok.of (h4.1.mono (by omega))
  refine Ok.bif (fun _ => ?_) (fun _ => ?_)
  · refine Ok.bnd (l91Leaf_ok h3.1 (by omega)) fun r4 h4 => ?_
    rw [l4Both_eq, bnd_some]
    refine Ok.bnd (hex 5 (by omega) (by omega) h4.1 (by omega)) fun r5 h5 => ?_
    rw [l4Both_eq, bnd_some]
    exact Ok.of (h5.1.mono (by omega))
  refine Ok.bif (fun _ => ?_) (fun _ => ?_)
  · refine Ok.bnd (l91Op_ok h3.1 (by omega)) fun r4 h4 => ?_
    refine Ok.bnd (hex 4 (by omega) (by omega) h4.1 (by omega)) fun r5 h5 => ?_
    rw [l4Leaf_eq, bnd_some, l4Both_eq, bnd_some]
    exact Ok.of (h5.1.mono (by omega))
  · exact Ok.of (h3.1.mono (by omega))

theorem DrawCompileExpr_ok {a : List Int} (h : wfBs a) : Ok (spec_DrawCompileExpr a) fun r => 3 ≤ r.2 ∧ r.2 ≤ 11 := by
  apply Ok.le (spec_DrawCompileExpr_le a)
  refine Ok.bnd (open_ok h) fun r1 h1 => ?_
  refine Ok.bnd (l91Spoilt_ok h1 (by omega)) fun r2 h2 => ?_
  refine Ok.bnd (pick_ok h2 (by omega) (by decide)) fun r3 h3 => ?_
  refine Ok.bnd (pick_geti h3.2 (by omega) rfl) fun e he => ?_
  refine Ok.of ?_
  simp only [List.mem_cons, List.not_mem_nil, or_false] at he
  dsimp only
  omega

theorem impl_truth_ok (b : Bool) : Ok (impl_truth b) fun _ => True := by
  apply Ok.le (impl_truth_le b)
  cases b <;> exact Ok.of trivial

theorem impl_Wrap_ok (n : Int) : Ok (impl_Wrap n) fun _ => True := by
  apply Ok.le (impl_Wrap_le n)
  exact Ok.of trivial

theorem and31 {y : Int} (h : 0 ≤ y) : 0 ≤ bits .and .i64 y 31 := by
  obtain ⟨a, rfl⟩ := Int.eq_ofNat_of_zero_le h
  have h : ((BitVec.ofInt 64 (a : Int)) &&& (BitVec.ofInt 64 31)).toNat < 32 := by
    rw [BitVec.toNat_and]
    apply Nat.and_lt_two_pow (n := 5)
    decide
  have e : bits .and .i64 (a : Int) 31 = IntKind.i64.wrap ((((BitVec.ofInt 64 (a : Int)) &&& (BitVec.ofInt 64 31)).toNat : Nat) : Int) := rfl
  rw [e]
  generalize ((BitVec.ofInt 64 (a : Int)) &&& (BitVec.ofInt 64 31)).toNat = n at h
  have e2 : IntKind.i64.wrap (n : Int) = n := by
    simp [IntKind.wrap, IntKind.signed, IntKind.bits]; omega
  rw [e2]; omega

theorem shlI_ok {x y : Int} (h : 0 ≤ y) : Ok (shlI .i64 x y) fun _ => True := by
  unfold shlI
  rw [if_neg (by omega)]
  exact Ok.of trivial

theorem shrI_ok {x y : Int} (h : 0 ≤ y) : Ok (shrI .i64 x y) fun _ => True := by
  unfold shrI
  rw [if_neg (by omega)]
  exact Ok.of trivial

theorem impl_apply_ok (o x y : Int) (hy : 0 ≤ y) : Ok (impl_apply o x y) fun _ => True := by
  apply Ok.le (impl_apply_le o x y)
  repeat' first
    | exact Ok.of trivial
    | refine Ok.bif (fun _ => ?_) (fun _ => ?_)
    | refine Ok.bnd (impl_truth_ok _) fun _ _ => ?_
    | refine Ok.bnd (impl_Wrap_ok _) fun _ _ => ?_
    | refine Ok.bnd (shlI_ok (and31 hy)) fun _ _ => ?_
    | refine Ok.bnd (shrI_ok (and31 hy)) fun _ _ => ?_
  · rename_i h; rw [decide_eq_false_iff_not] at h
    rw [quoI_pos h, bnd_some]
    refine Ok.bnd (impl_Wrap_ok _) fun _ _ => Ok.of trivial
  · rename_i h; rw [decide_eq_false_iff_not] at h
    rw [remI_pos h, bnd_some]
    exact Ok.of trivial

theorem impl_exprFold_ok : ∀ (d : Nat) (e : Exp), expOk d e = true → Ok (impl_exprFold e) fun r => expOk d r = true ∧ dep d r ≤ dep d e ∧ siz d r ≤ siz d e
  | 0, e, h => by simp [expOk] at h
  | d + 1, e, h => by
    apply Ok.le (impl_exprFold_le e)
    have leaf : e.args = [] → (⟨e.op, e.n, []⟩ : Exp) = e := by
      intro ha; obtain ⟨o, n, as⟩ := e; simp at ha; rw [ha]
    rcases expOk_cases h with ⟨_, ha, _⟩ | ⟨_, ha, _⟩ | ⟨h0, h0', _, a, b, hab, h1, h2⟩
    · rw [leaf ha]
      simp only [ha, List.length_nil, Int.natCast_zero, decide_true, cond_true]
      exact Ok.of ⟨h, Nat.le_refl _, Nat.le_refl _⟩
    · rw [leaf ha]
      simp only [ha, List.length_nil, Int.natCast_zero, decide_true, cond_true]
      exact Ok.of ⟨h, Nat.le_refl _, Nat.le_refl _⟩
    · have hn : ¬ ((e.args.length : Int) = 0) := by rw [hab]; simp
      simp only [hn, decide_false, cond_false, exp_eta]
      rw [hab, geti0, geti1]
      simp only [bnd_some]
      refine Ok.bnd (impl_exprFold_ok d a h1) fun r2 g2 => ?_
      refine Ok.bnd (impl_exprFold_ok d b h2) fun r4 g4 => ?_
      have hd0 : dep (d + 1) e = 1 + max (dep d a) (dep d b) := by simp [dep, hab]
      have hs0 : siz (d + 1) e = 1 + siz d a + siz d b := by simp [siz, hab]
      have node : expOk (d + 1) ⟨e.op, 0, [r2, r4]⟩ = true ∧ dep (d + 1) ⟨e.op, 0, [r2, r4]⟩ ≤ dep (d + 1) e ∧ siz (d + 1) ⟨e.op, 0, [r2, r4]⟩ ≤ siz (d + 1) e := by
        have n0 : e.op ≠ 0 := by omega
        have n1 : e.op ≠ 13 := by omega
        refine ⟨?_, ?_, ?_⟩
        · simp [expOk, n0, n1, h0, h0', g2.1, g4.1]
        · rw [hd0]; simp only [dep]; omega
        · rw [hs0]; simp only [siz]; omega
      refine Ok.bif (fun _ => ?_) (fun _ => Ok.of node)
      refine Ok.bif (fun hz => ?_) (fun _ => Ok.of node)
      have hy : 0 ≤ r4.n := by
        cases d with
        | zero => simp [expOk] at h2
        | succ d =>
          rcases expOk_cases g4.1 with h | h | h
          · exact h.2.2.1
          · exact h.2.2.1
          · omega
      refine Ok.bnd (impl_apply_ok _ _ _ hy) fun r5 _ => ?_
      refine Ok.bif (fun c1 => ?_) (fun _ => Ok.of node)
      refine Ok.bif (fun c2 => ?_) (fun _ => Ok.of node)
      rw [decide_eq_true_eq] at c1 c2
      refine Ok.of ⟨?_, ?_, ?_⟩
      · simp [expOk, c1, c2]
      · rw [show dep (d + 1) ⟨0, r5, []⟩ = 1 from rfl]; omega
      · rw [show siz (d + 1) ⟨0, r5, []⟩ = 1 from rfl]; omega

theorem laws_FnCompileExprFold_eq (a : List Int) (h : wfBs a) : laws_FnCompileExprFold a = some true := by
  apply laws_FnCompileExprFold_le
  apply Ok.some
  refine Ok.bif (fun _ => Ok.of rfl) (fun _ => ?_)
  refine Ok.bnd (DrawCompileExpr_ok h) fun r hr => ?_
  obtain ⟨e, t⟩ := r
  dsimp only at hr ⊢
  have hw : wfI t := by unfold wfI; omega
  have hlen := comp_len e t
  simp only [exp_eta, impl_CompileExpr_eq _ t hw, spec_CompileExpr_eq e t hw, bnd_some, laws_sameCode_refl (show ((comp e t).1.length : Int) ≤ 4294967296 by omega)]
  by_cases hc : expOk 5 e = true ∧ 4 ≤ t ∧ t + dep 5 e ≤ 12
  · have e1 : comp e t = (cod 5 e t, true) := by unfold comp; rw [if_pos hc]
    have hl := cod_len 5 e t hc.1
    have hF : Ok (impl_ExprFold e) fun r => r.2 = true ∧ expOk 5 r.1 = true ∧ dep 5 r.1 ≤ dep 5 e ∧ siz 5 r.1 ≤ siz 5 e := by
      apply Ok.le (impl_ExprFold_le e)
      simp only [exp_eta, impl_ExprValid_eq, hc.1, bnd_some, Bool.not_true, cond_false]
      refine Ok.bnd (impl_exprFold_ok 5 e hc.1) fun r2 g2 => Ok.of ⟨rfl, g2⟩
    rw [e1]
    simp only [Bool.not_true, cond_false, beq_self_eq_true]
    refine Ok.bnd hF fun r8 g => ?_
    have e2 : comp r8.1 t = (cod 5 r8.1 t, true) := by unfold comp; rw [if_pos ⟨g.2.1, hc.2.1, by omega⟩]
    have hl2 := cod_len 5 r8.1 t g.2.1
    rw [e2, g.1]
    have hle : ((cod 5 r8.1 t).length : Int) ≤ (cod 5 e t).length := by omega
    simp [hle]
    exact Ok.of rfl
  · have e1 : comp e t = ([], false) := by unfold comp; rw [if_neg hc]
    rw [e1]; simp; exact Ok.of rfl
end Go.TFnCompileExprFold
