/- The plain law: what the functions answer. -/
import Derived.Test.YtohpofejamdhfaaDFnRingSlotsE0
import Derived.Test.YtohpofejamdhfaaLkA
import Derived.Lib.ItoaLen
set_option linter.unusedVariables false
set_option linter.unusedSimpArgs false
namespace Go.TFnRingSlots
open Go Go.RowKit Go.Vs Go.Tv
theorem spec_l6In_eq (a b c : Int) : spec_l6In a b c = some (decide (b ≤ a ∧ a ≤ c)) := by
  apply spec_l6In_le
  by_cases h : b ≤ a <;> simp [h]

theorem spec_WordValid_eq (a : Int) : spec_WordValid a = some (decide (-2147483648 ≤ a ∧ a ≤ 2147483647)) := by
  apply spec_WordValid_le; simp [spec_l6In_eq]

theorem impl_WordValid_eq (a : Int) : impl_WordValid a = some (decide (-2147483648 ≤ a ∧ a ≤ 2147483647)) := by
  apply impl_WordValid_le
  by_cases h : -2147483648 ≤ a <;> simp [h]

/-- A reader of bytes: how far it may have come. -/
def Rd (b : List Int) (p m : Int) : Prop := (∀ x ∈ b, 0 ≤ x ∧ x ≤ 255) ∧ (b.length : Int) ≤ 2000 ∧ 0 ≤ p ∧ p ≤ m

theorem Rd.mono {b : List Int} {p m n : Int} (h : Rd b p m) (hm : m ≤ n) : Rd b p n := ⟨h.1, h.2.1, h.2.2.1, by have := h.2.2.2; omega⟩

theorem open_ok {a : List Int} (h : wfBs a) : Ok (spec_l6Open a) fun r => Rd r.1 r.2 0 := by
  apply Ok.le (spec_l6Open_le a)
  refine Ok.bif (fun hb => ?_) (fun hb => ?_)
  · simp only [decide_eq_true_eq] at hb
    have : cutL a 0 2000 = some (a.take 2000) := by
      unfold cutL
      rw [if_pos (by omega)]
      simp
    rw [this]
    refine Ok.of ⟨fun x hx => h x (List.mem_of_mem_take hx), ?_, by omega, by omega⟩
    simp only [List.length_take]; omega
  · simp only [decide_eq_false_iff_not] at hb
    exact Ok.of ⟨h, (by show (a.length : Int) ≤ 2000; omega), by omega, by omega⟩

theorem u8_get {b : List Int} (h : ∀ x ∈ b, 0 ≤ x ∧ x ≤ 255) {n : Int} (h0 : 0 ≤ n) (h1 : n < b.length) : Ok (geti b n) fun x => 0 ≤ x ∧ x ≤ 255 :=
  (Ok.geti h0 h1).mono fun x hx => h x hx.1

theorem pick_ok {b : List Int} {p m n : Int} (h : Rd b p m) (hm : m ≤ 1000000000) (hn : wfI n) :
    Ok (spec_l6Rd_pick n b p) fun r => Rd r.2.1 r.2.2 (m + 1) ∧ 0 ≤ r.1 ∧ (1 ≤ n → r.1 < n) ∧ (n < 1 → r.1 = 0) := by
  obtain ⟨h1, h2, h3, h4⟩ := h
  obtain ⟨n1, n2⟩ := hn
  apply Ok.le (spec_l6Rd_pick_le n b p)
  have e1 : wrap64 (p + 1) = p + 1 := wrap_id (by omega) (by omega)
  have e2 : wrap64 (p + 1 - 1) = p := by rw [show p + 1 - 1 = p by omega]; exact wrap_id (by omega) (by omega)
  rw [e1, e2]
  have hR : Rd b (p + 1) (m + 1) := ⟨h1, h2, by omega, by omega⟩
  refine Ok.bif (fun hb => ?_) (fun hb => ?_)
  · simp only [decide_eq_true_eq] at hb
    exact Ok.of ⟨hR, by omega, by omega, by omega⟩
  simp only [decide_eq_false_iff_not] at hb
  refine Ok.bif (fun hc => ?_) (fun hc => ?_)
  · exact Ok.of ⟨hR, by omega, by omega, by omega⟩
  simp only [decide_eq_false_iff_not] at hc
  refine Ok.bif (fun hd => ?_) (fun hd => ?_)
  · simp only [decide_eq_true_eq] at hd
    refine Ok.bnd (u8_get h1 h3 hd) fun x hx => ?_
    rw [wrap_id (by omega) (by omega), remI_pos (by omega)]
    have := tmod_range (y := n) hx.1 (by omega)
    exact Ok.of ⟨hR, this.1, fun _ => this.2, by omega⟩
  · simp only [decide_eq_false_iff_not] at hd
    have hl : 0 < (b.length : Int) := by omega
    rw [remI_pos (by omega), bnd_some]
    have t1 := tmod_range (x := p) h3 hl
    refine Ok.bnd (u8_get h1 t1.1 t1.2) fun x hx => ?_
    have e3 : wrap64 (p * 7) = p * 7 := wrap_id (by omega) (by omega)
    have e4 : wrap64 (p * 7 + 3) = p * 7 + 3 := wrap_id (by omega) (by omega)
    rw [e3, e4, remI_pos (by omega), bnd_some]
    have t2 := tmod_range (x := p * 7 + 3) (by omega) hl
    refine Ok.bnd (u8_get h1 t2.1 t2.2) fun y hy => ?_
    rw [quoI_pos (by omega), bnd_some]
    have q0 : 0 ≤ p.tdiv b.length ∧ p.tdiv b.length ≤ p := by
      rw [Int.tdiv_eq_ediv_of_nonneg h3]
      exact ⟨Int.ediv_nonneg h3 (by omega), Int.ediv_le_self _ h3⟩
    generalize hq : p.tdiv b.length = q at q0
    have hx2 : wrap64 x = x := wrap_id (by omega) (by omega)
    have hy2 : wrap64 y = y := wrap_id (by omega) (by omega)
    have hq2 : wrap64 q = q := wrap_id (by omega) (by omega)
    rw [hx2, hy2, hq2]
    have f1 : wrap64 (x * 131) = x * 131 := wrap_id (by omega) (by omega)
    have f2 : wrap64 (y * 1117) = y * 1117 := wrap_id (by omega) (by omega)
    have f3 : wrap64 (p * 29) = p * 29 := wrap_id (by omega) (by omega)
    have f4 : wrap64 (q * 53) = q * 53 := wrap_id (by omega) (by omega)
    rw [f1, f2, f3, f4]
    have f5 : wrap64 (x * 131 + y * 1117) = x * 131 + y * 1117 := wrap_id (by omega) (by omega)
    rw [f5]
    have f6 : wrap64 (x * 131 + y * 1117 + p * 29) = x * 131 + y * 1117 + p * 29 := wrap_id (by omega) (by omega)
    rw [f6]
    have f7 : wrap64 (x * 131 + y * 1117 + p * 29 + q * 53) = x * 131 + y * 1117 + p * 29 + q * 53 := wrap_id (by omega) (by omega)
    rw [f7]
    generalize hz : x * 131 + y * 1117 + p * 29 + q * 53 = z
    have hz0 : 0 ≤ z ∧ z < 1000000000000 := by omega
    have hd2 : 0 ≤ z.tdiv 64 ∧ z.tdiv 64 ≤ z := by
      rw [Int.tdiv_eq_ediv_of_nonneg hz0.1]
      omega
    rw [wrap_id (n := z.tdiv 64) (by omega) (by omega), remI_pos (by omega), bnd_some]
    have hxor := xor_nonneg (x := z) (y := z.tdiv 64) hz0.1 (by omega) hd2.1 (by omega)
    have t3 := tmod_range (y := n) hxor.1 (by omega)
    exact Ok.of ⟨hR, t3.1, fun _ => t3.2, by omega⟩

theorem spec_Wrap_eq (n : Int) (h : wfI n) : Ok (spec_Wrap n) fun r => -2147483648 ≤ r ∧ r ≤ 2147483647 := by
  apply Ok.le (spec_Wrap_le n)
  have hm : -4294967296 < n.tmod 4294967296 ∧ n.tmod 4294967296 < 4294967296 := by
    by_cases h0 : 0 ≤ n
    · have := tmod_range h0 (y := 4294967296) (by omega); omega
    · have e : n.tmod 4294967296 = -((-n).tmod 4294967296) := by rw [Int.neg_tmod]; omega
      have := tmod_range (x := -n) (y := 4294967296) (by omega) (by omega); omega
  generalize n.tmod 4294967296 = m at hm
  refine Ok.bif (fun hb => ?_) (fun hb => ?_)
  · simp only [decide_eq_true_eq] at hb
    rw [wrap_id (by omega) (by omega)]; exact Ok.of (by omega)
  simp only [decide_eq_false_iff_not] at hb
  refine Ok.bif (fun hc => ?_) (fun hc => ?_)
  · simp only [decide_eq_true_eq] at hc
    rw [wrap_id (by omega) (by omega)]; exact Ok.of (by omega)
  · simp only [decide_eq_false_iff_not] at hc
    exact Ok.of (by omega)

/-- A number that was picked names a place in a list. -/
theorem pick_geti {α : Type} {l : List α} {x n : Int} (h : 0 ≤ x ∧ (1 ≤ n → x < n) ∧ (n < 1 → x = 0)) (hn : 1 ≤ n) (hl : (l.length : Int) = n) : Ok (geti l x) fun y => y ∈ l :=
  (Ok.geti h.1 (by have := h.2.1 hn; omega)).mono fun y hy => hy.1

theorem wrap_wf (n : Int) : wfI (wrap64 n) := by unfold wfI wrap64; omega

theorem l91Word_ok {b : List Int} {p m : Int} (h : Rd b p m) (hm : m ≤ 999999990) : Ok (spec_l91Word b p) fun r => Rd r.2.1 r.2.2 (m + 5) ∧ (-2147483648 ≤ r.1 ∧ r.1 ≤ 2147483647) := by
  apply Ok.le (spec_l91Word_le b p)
  refine Ok.bnd (pick_ok h (by omega) (by decide)) fun r1 h1 => ?_
  refine Ok.bif (fun _ => ?_) (fun _ => ?_)
  · refine Ok.bnd (pick_ok h1.1 (by omega) (by decide)) fun r2 h2 => ?_
    refine Ok.bnd (pick_geti h2.2 (by omega) rfl) fun e he => ?_
    refine Ok.of ⟨h2.1.mono (by omega), ?_⟩
    simp only [List.mem_cons, List.not_mem_nil, or_false] at he
    dsimp only
    omega
  refine Ok.bif (fun _ => ?_) (fun _ => ?_)
  · refine Ok.bnd (pick_ok h1.1 (by omega) (by decide)) fun r2 h2 => ?_
    refine Ok.bnd (pick_ok h2.1 (by omega) (by decide)) fun r3 h3 => ?_
    refine Ok.bnd (pick_ok h3.1 (by omega) (by decide)) fun r4 h4 => ?_
    refine Ok.bnd (pick_ok h4.1 (by omega) (by decide)) fun r5 h5 => ?_
    refine Ok.bnd (spec_Wrap_eq _ (wrap_wf _)) fun r6 h6 => ?_
    exact Ok.of ⟨h5.1.mono (by omega), h6⟩
  refine Ok.bif (fun _ => ?_) (fun _ => ?_)
  · refine Ok.bnd (pick_ok h1.1 (by omega) (by decide)) fun r2 h2 => ?_
    have := h2.2.2.1 (by omega)
    rw [wrap_id (by omega) (by omega)]
    exact Ok.of ⟨h2.1.mono (by omega), by dsimp only; omega⟩
  · refine Ok.bnd (pick_ok h1.1 (by omega) (by decide)) fun r2 h2 => ?_
    have := h2.2.2.1 (by omega)
    exact Ok.of ⟨h2.1.mono (by omega), by dsimp only; omega⟩

theorem geti_some {α : Type} {l : List α} {i : Nat} (h : i < l.length) : geti l (i : Int) = some l[i] := by
  rw [geti_nat', List.getElem?_eq_getElem h]

theorem wrap_succ {i : Nat} (h : (i : Int) < 9223372036854775807) : wrap64 ((i : Int) + 1) = ((i + 1 : Nat) : Int) := by
  rw [wrap_id (by omega) (by omega)]; omega

theorem appL_some {α : Type} {x y : List α} (h : x.length + y.length ≤ 4294967296) : appL x y = some (x ++ y) := by unfold appL; rw [if_pos h]

def words (l : List Int) : Bool := l.all fun n => decide (-2147483648 ≤ n ∧ n ≤ 2147483647)

theorem areWords_l {l : List Int} (hl : (l.length : Int) ≤ 4294967296) : ∀ (d i : Nat), i + d = l.length → impl_areWords_l1 l l.length i = some (if words (l.drop i) then .inl () else .inr false)
  | 0, i, hd => by
    apply impl_areWords_l1_le
    have hi : ¬ ((i : Int) < l.length) := by omega
    rw [List.drop_eq_nil_of_le (by omega)]
    simp [hi, words]
  | d + 1, i, hd => by
    apply impl_areWords_l1_le
    have hi : i < l.length := by omega
    have hi' : (i : Int) < l.length := by omega
    have e1 : words (l.drop i) = (decide (-2147483648 ≤ l[i] ∧ l[i] ≤ 2147483647) && words (l.drop (i + 1))) := by unfold words; rw [List.drop_eq_getElem_cons hi, List.all_cons]
    rw [geti_some hi, wrap_succ (by omega), areWords_l hl d (i + 1) (by omega), e1]
    simp only [hi', decide_true, cond_true, bnd_some, impl_WordValid_eq]
    cases decide (-2147483648 ≤ l[i] ∧ l[i] ≤ 2147483647) <;> simp

theorem impl_areWords_eq {l : List Int} (hl : (l.length : Int) ≤ 4294967296) : impl_areWords l = some (words l) := by
  apply impl_areWords_le
  rw [show (0 : Int) = ((0 : Nat) : Int) by rfl, areWords_l hl l.length 0 (by omega), List.drop_zero]
  cases words l <;> simp [selm]

theorem l4Words_l {l : List Int} (hl : (l.length : Int) ≤ 4294967296) : ∀ (d i : Nat), i + d = l.length → spec_l4Words_l1 l i = some (if words (l.drop i) then .inl () else .inr false)
  | 0, i, hd => by
    apply spec_l4Words_l1_le
    have hi : ¬ ((i : Int) < l.length) := by omega
    rw [List.drop_eq_nil_of_le (by omega)]
    simp [hi, words]
  | d + 1, i, hd => by
    apply spec_l4Words_l1_le
    have hi : i < l.length := by omega
    have hi' : (i : Int) < l.length := by omega
    have e1 : words (l.drop i) = (decide (-2147483648 ≤ l[i] ∧ l[i] ≤ 2147483647) && words (l.drop (i + 1))) := by unfold words; rw [List.drop_eq_getElem_cons hi, List.all_cons]
    rw [geti_some hi, wrap_succ (by omega), l4Words_l hl d (i + 1) (by omega), e1]
    simp only [hi', decide_true, cond_true, bnd_some, spec_WordValid_eq]
    cases decide (-2147483648 ≤ l[i] ∧ l[i] ≤ 2147483647) <;> simp

theorem spec_l4Words_eq {l : List Int} (hl : (l.length : Int) ≤ 4294967296) (n : Int) : spec_l4Words l n = some (decide ((l.length : Int) = n) && words l) := by
  apply spec_l4Words_le
  rw [show (0 : Int) = ((0 : Nat) : Int) by rfl, l4Words_l hl l.length 0 (by omega), List.drop_zero]
  by_cases h : (l.length : Int) = n <;> cases words l <;> simp [selm, h]

theorem clone_eq {l : List Int} (h : l.length ≤ 4294967296) : slices_Clone___int_int_ l = some l := by
  apply slices_Clone___int_int__le
  rw [if_pos h]

theorem sameInts_l {a : List Int} (hl : (a.length : Int) ≤ 4294967296) : ∀ (d i : Nat), i + d = a.length → laws_sameInts_l1 a a i = some (.inl ())
  | 0, i, hd => by
    apply laws_sameInts_l1_le
    have hi : ¬ ((i : Int) < a.length) := by omega
    simp [hi]
  | d + 1, i, hd => by
    apply laws_sameInts_l1_le
    have hi : i < a.length := by omega
    have hi' : (i : Int) < a.length := by omega
    rw [geti_some hi, wrap_succ (by omega)]
    simp only [hi', decide_true, cond_true, bnd_some, Bool.not_true, cond_false]
    exact sameInts_l hl d (i + 1) (by omega)

theorem laws_sameInts_refl {a : List Int} (hl : (a.length : Int) ≤ 4294967296) : laws_sameInts a a = some true := by
  apply laws_sameInts_le
  rw [show (0 : Int) = ((0 : Nat) : Int) by rfl, sameInts_l hl a.length 0 (by omega)]
  simp [selm]

def wordB (v : Int) : Bool := decide (-2147483648 ≤ v ∧ v ≤ 2147483647)

theorem l92Items_l {n : Int} (hn : n ≤ 6) : ∀ (d : Nat) (i : Int) (f : Bool) (l : List Int) {b : List Int} {p m : Int}, i + d = n → 0 ≤ i → (l.length : Int) = i → Rd b p m → m + 5 * d ≤ 999990000 → Ok (spec_l92Items_l1 n f l i b p) fun r => Rd r.2.1 r.2.2 (m + 5 * d) ∧ (r.1.2.length : Int) ≤ 6
  | 0, i, f, l, b, p, m, hd, h0, hl, h, hm => by
    apply Ok.le (spec_l92Items_l1_le n f l i b p)
    have : ¬ (i < n) := by omega
    simp only [this, decide_false, cond_false]
    exact Ok.of ⟨h.mono (by omega), by simp only []; omega⟩
  | d + 1, i, f, l, b, p, m, hd, h0, hl, h, hm => by
    apply Ok.le (spec_l92Items_l1_le n f l i b p)
    have : i < n := by omega
    simp only [this, decide_true, cond_true]
    refine Ok.bnd (l91Word_ok h (by omega)) fun r1 h1 => ?_
    rw [appL_some (by simp; omega), bnd_some, wrap_id (by omega) (by omega)]
    exact (l92Items_l hn d (i + 1) true _ (by omega) (by omega) (by simp; omega) h1.1 (by omega)).mono fun r hr => ⟨hr.1.mono (by omega), hr.2⟩

theorem l92Items_ok {b : List Int} {p m n : Int} (h : Rd b p m) (hm : m ≤ 999980000) (hn : n ≤ 6) : Ok (spec_l92Items n b p) fun r => Rd r.2.1 r.2.2 (m + 30) ∧ (r.1.length : Int) ≤ 6 := by
  apply Ok.le (spec_l92Items_le n b p)
  by_cases h0 : 0 ≤ n
  · refine Ok.bnd (l92Items_l hn n.toNat 0 true [] (by omega) (by omega) (by simp) h (by omega)) fun r hr => ?_
    exact Ok.of ⟨hr.1.mono (by omega), hr.2⟩
  · have : Ok (spec_l92Items_l1 n true [] 0 b p) fun r => Rd r.2.1 r.2.2 (m + 30) ∧ (r.1.2.length : Int) ≤ 6 := by
      apply Ok.le (spec_l92Items_l1_le n true [] 0 b p)
      have : ¬ (0 < n) := by omega
      simp only [this, decide_false, cond_false]
      exact Ok.of ⟨h.mono (by omega), by simp⟩
    refine Ok.bnd this fun r hr => Ok.of hr

theorem l91Any_ok {b : List Int} {p m : Int} (h : Rd b p m) (hm : m ≤ 999999900) : Ok (spec_l91Any b p) fun r => Rd r.2.1 r.2.2 (m + 20) := by
  apply Ok.le (spec_l91Any_le b p)
  refine Ok.bnd (pick_ok h (by omega) (by decide)) fun r1 h1 => ?_
  refine Ok.bif (fun _ => ?_) (fun _ => ?_)
  · refine Ok.bnd (l91Word_ok h1.1 (by omega)) fun r2 h2 => ?_
    refine Ok.bnd (pick_ok h2.1 (by omega) (by decide)) fun r3 h3 => ?_
    refine Ok.bnd (pick_geti h3.2 (by omega) rfl) fun e he => ?_
    exact Ok.of (h3.1.mono (by omega))
  refine Ok.bif (fun _ => ?_) (fun _ => ?_)
  · refine Ok.bnd (pick_ok h1.1 (by omega) (by decide)) fun r3 h3 => ?_
    refine Ok.bnd (pick_geti h3.2 (by omega) rfl) fun e he => ?_
    exact Ok.of (h3.1.mono (by omega))
  · refine Ok.bnd (l91Word_ok h1.1 (by omega)) fun r2 h2 => ?_
    exact Ok.of (h2.1.mono (by omega))

def ringOk (r : Rg) : Bool := decide (1 ≤ r.room ∧ r.room ≤ 4) && decide (0 ≤ r.head ∧ r.head < r.room) && decide (0 ≤ r.len ∧ r.len ≤ r.room) && decide ((r.slots.length : Int) = 4) && words r.slots

theorem ringOk_facts {r : Rg} (h : ringOk r = true) : 1 ≤ r.room ∧ r.room ≤ 4 ∧ 0 ≤ r.head ∧ r.head < r.room ∧ 0 ≤ r.len ∧ r.len ≤ r.room ∧ r.slots.length = 4 ∧ words r.slots = true := by
  unfold ringOk at h
  simp only [Bool.and_eq_true, decide_eq_true_eq] at h
  exact ⟨h.1.1.1.1.1, h.1.1.1.1.2, h.1.1.1.2.1, h.1.1.1.2.2, h.1.1.2.1, h.1.1.2.2, by omega, h.2⟩

theorem impl_RingValid_eq {r : Rg} (h : r.slots.length ≤ 100) : impl_RingValid r = some (ringOk r) := by
  apply impl_RingValid_le
  rw [impl_areWords_eq (by omega)]
  unfold ringOk
  by_cases c1 : 1 ≤ r.room <;> by_cases c2 : r.room ≤ 4 <;> by_cases c3 : 0 ≤ r.head <;> by_cases c4 : r.head < r.room <;> by_cases c5 : 0 ≤ r.len <;> by_cases c6 : r.len ≤ r.room <;> by_cases c7 : (r.slots.length : Int) = 4 <;> simp [c1, c2, c3, c4, c5, c6, c7]

theorem spec_RingValid_eq {r : Rg} (h : r.slots.length ≤ 100) : spec_RingValid r = some (ringOk r) := by
  apply spec_RingValid_le
  simp only [spec_l6In_eq, spec_l4Words_eq (show (r.slots.length : Int) ≤ 4294967296 by omega), bnd_some]
  unfold ringOk
  by_cases c1 : 1 ≤ r.room ∧ r.room ≤ 4
  · rw [wrap_id (by omega) (by omega)]
    have e : (0 ≤ r.head ∧ r.head ≤ r.room - 1) = (0 ≤ r.head ∧ r.head < r.room) := propext (by omega)
    simp only [e]
    by_cases c3 : 0 ≤ r.head ∧ r.head < r.room <;> by_cases c5 : 0 ≤ r.len ∧ r.len ≤ r.room <;> simp [c1, c3, c5]
  · simp [c1]

def slotAt (r : Rg) (i : Int) : Int := r.slots.getD i.toNat 0

theorem geti_slot {r : Rg} (h : ringOk r = true) {i : Int} (h0 : 0 ≤ i) (h1 : i < r.room) : geti r.slots i = some (slotAt r i) := by
  have hf := ringOk_facts h
  have hi : i.toNat < r.slots.length := by omega
  unfold slotAt geti
  rw [if_pos h0, List.getD_eq_getElem?_getD, List.getElem?_eq_getElem hi]; rfl

def nextR (r : Rg) : Rg := ⟨r.room, (r.head + 1) % r.room, r.len - 1, r.slots⟩

def takeR (r : Rg) : Rg × Int × Bool := if ringOk r = true ∧ r.len ≠ 0 then (nextR r, slotAt r r.head, true) else (⟨0, 0, 0, []⟩, 0, false)

theorem impl_RingTake_eq {r : Rg} (h : r.slots.length ≤ 100) : impl_RingTake r = some (takeR r) := by
  apply impl_RingTake_le
  rw [impl_RingValid_eq h, bnd_some, clone_eq (by omega), bnd_some]
  unfold takeR
  cases hok : ringOk r
  · simp
  · have hf := ringOk_facts hok
    rw [geti_slot hok hf.2.2.1 hf.2.2.2.1, bnd_some, wrap_id (n := r.head + 1) (by omega) (by omega), wrap_id (n := r.len - 1) (by omega) (by omega), remI_pos (by omega), bnd_some, Int.tmod_eq_emod_of_nonneg (by omega)]
    by_cases h0 : r.len = 0 <;> simp [h0, nextR]

theorem laws_sameRing_refl {r : Rg} (h : r.slots.length ≤ 100) : laws_sameRing r r = some true := by
  apply laws_sameRing_le
  rw [laws_sameInts_refl (by omega)]; simp

theorem l92Ring_ok {b : List Int} {p m : Int} (h : Rd b p m) (hm : m ≤ 999970000) : Ok (spec_l92Ring b p) fun r => Rd r.2.1 r.2.2 (m + 100) ∧ (r.1.slots.length : Int) ≤ 6 := by
  apply Ok.le (spec_l92Ring_le b p)
  refine Ok.bnd (pick_ok h (by omega) (by decide)) fun r1 h1 => ?_
  have hk := h1.2.2.1 (by omega)
  rw [wrap_id (n := 1 + r1.1) (by omega) (by omega), wrap_id (n := 1 + r1.1 + 1) (by omega) (by omega)]
  refine Ok.bnd (pick_ok h1.1 (by omega) (by unfold wfI; omega)) fun r2 h2 => ?_
  refine Ok.bnd (pick_ok h2.1 (by omega) (by unfold wfI; omega)) fun r3 h3 => ?_
  refine Ok.bnd (l92Items_ok h3.1 (by omega) (by omega)) fun r4 h4 => ?_
  refine Ok.bnd (pick_ok h4.1 (by omega) (by decide)) fun r5 h5 => ?_
  refine Ok.bif (fun _ => Ok.of ⟨h5.1.mono (by omega), h4.2⟩) (fun _ => ?_)
  refine Ok.bif (fun _ => ?_) (fun _ => ?_)
  · refine Ok.bnd (pick_ok h5.1 (by omega) (by decide)) fun r6 h6 => ?_
    refine Ok.bnd (pick_geti h6.2 (by omega) rfl) fun e he => ?_
    exact Ok.of ⟨h6.1.mono (by omega), h4.2⟩
  refine Ok.bif (fun _ => ?_) (fun _ => Ok.of ⟨h5.1.mono (by omega), h4.2⟩)
  refine Ok.bnd (l92Items_ok h5.1 (by omega) (by omega)) fun r8 h8 => ?_
  exact Ok.of ⟨h8.1.mono (by omega), h8.2⟩

def opTs : List (List UInt8) := [[124], [94], [38], [61, 61], [60], [60, 60], [62, 62], [43], [45], [42], [47], [37]]

abbrev Tok := List UInt8

def opAt : List Tok → Nat → Tok → Nat
  | [], _, _ => 0
  | x :: r, n, t => if x = t then n else opAt r (n + 1) t

def opN (t : Tok) : Nat := opAt opTs 1 t

def levN (n : Nat) : Nat := [0, 1, 2, 3, 4, 5, 6, 6, 7, 7, 8, 8, 8].getD n 0

def nlev : List Tok → Nat
  | [] => 0
  | t :: _ => levN (opN t)

def lp : Tok := [40]

def rp : Tok := [41]

def numV (t : Tok) : Int := if 1 ≤ t.length ∧ t.length ≤ 5 then (match Lib.decFrom 0 t with | some n => (n : Int) | none => -1) else -1

def varV (t : Tok) : Int := match t with
  | [c] => if 97 ≤ c.toNat ∧ c.toNat ≤ 100 then (c.toNat : Int) - 97 else -1
  | _ => -1

def atom (t : Tok) : Option Exp := if 0 ≤ numV t then some ⟨0, numV t, []⟩ else if 0 ≤ varV t then some ⟨13, varV t, []⟩ else none

inductive J where
  | lev (k : Nat)
  | opd
  | loop (k : Nat) (e : Exp)

abbrev Out := Option (Exp × List Tok)

/-- By levels. -/
inductive P : J → List Tok → Out → Prop
  | nil : P .opd [] none
  | atom {t : Tok} {l : List Tok} {e : Exp} : t ≠ lp → atom t = some e → P .opd (t :: l) (some (e, l))
  | bad {t : Tok} {l : List Tok} : t ≠ lp → atom t = none → P .opd (t :: l) none
  | par {l r : List Tok} {e : Exp} : P (.lev 1) l (some (e, rp :: r)) → P .opd (lp :: l) (some (e, r))
  | parN {l : List Tok} : P (.lev 1) l none → P .opd (lp :: l) none
  | parE {l : List Tok} {e : Exp} : P (.lev 1) l (some (e, [])) → P .opd (lp :: l) none
  | parB {l r : List Tok} {t : Tok} {e : Exp} : P (.lev 1) l (some (e, t :: r)) → t ≠ rp → P .opd (lp :: l) none
  | top {k : Nat} {l : List Tok} {o : Out} : 8 < k → P .opd l o → P (.lev k) l o
  | levN {k : Nat} {l : List Tok} : k ≤ 8 → P (.lev (k + 1)) l none → P (.lev k) l none
  | levS {k : Nat} {l r : List Tok} {e : Exp} {o : Out} : k ≤ 8 → P (.lev (k + 1)) l (some (e, r)) → P (.loop k e) r o → P (.lev k) l o
  | stop {k : Nat} {e : Exp} {l : List Tok} : nlev l ≠ k → P (.loop k e) l (some (e, l))
  | step {k : Nat} {e b : Exp} {t : Tok} {l r : List Tok} {o : Out} : levN (opN t) = k → P (.lev (k + 1)) l (some (b, r)) → P (.loop k ⟨(opN t : Int), 0, [e, b]⟩) r o → P (.loop k e) (t :: l) o
  | stepN {k : Nat} {e : Exp} {t : Tok} {l : List Tok} : levN (opN t) = k → P (.lev (k + 1)) l none → P (.loop k e) (t :: l) none

theorem clone_p {l : List Int} (A : List Ent) (h : l.length ≤ 4294967296) : slices_Clone___int_int__p l A = some (⟨some A.length, l.length⟩, arPush A .int l) := by
  apply slices_Clone___int_int__p_le
  rw [if_pos h]

def fullR (r : Rg) (x : Int) : Rg := ⟨r.room, r.head, r.len + 1, r.slots.set ((r.head + r.len) % r.room).toNat x⟩

def ringPut (r : Rg) (x : Int) : Rg × Bool := if ringOk r = true ∧ wordB x = true ∧ r.len ≠ r.room then (fullR r x, true) else (⟨0, 0, 0, []⟩, false)

theorem impl_RingPut_eq {r : Rg} (h : r.slots.length ≤ 100) (x : Int) : impl_RingPut r x = some (ringPut r x) := by
  apply impl_RingPut_le
  rw [impl_RingValid_eq h, bnd_some, impl_WordValid_eq, bnd_some]
  unfold ringPut
  have e1 : decide (-2147483648 ≤ x ∧ x ≤ 2147483647) = wordB x := rfl
  rw [e1]
  cases hok : ringOk r
  · simp
  cases hw : wordB x
  · simp
  by_cases hl : r.len = r.room
  · simp [hl]
  · have hf := ringOk_facts hok
    have hm0 : 0 ≤ (r.head + r.len) % r.room := Int.emod_nonneg _ (by omega)
    have hm1 : (r.head + r.len) % r.room < r.room := Int.emod_lt_of_pos _ (by omega)
    have hi : ((r.head + r.len) % r.room).toNat < r.slots.length := by omega
    simp only [hl, Bool.not_true, cond_false, decide_false, ne_eq, not_false_eq_true, and_self, if_true]
    rw [clone_p _ (by omega), bnd_some, wrap_id (n := r.head + r.len) (by omega) (by omega), remI_pos (by omega), bnd_some, Int.tmod_eq_emod_of_nonneg (by omega)]
    dsimp only
    rw [idxN_eq hm0 (by omega), bnd_some, arRow_eq arGet_push (List.getElem?_eq_getElem hi), bnd_some, arView_int, arSet_get arGet_push, bnd_some, wrap_id (n := r.len + 1) (by omega) (by omega)]
    rfl

theorem spec_RingPut_eq {r : Rg} (h : r.slots.length ≤ 100) (x : Int) : spec_RingPut r x = some (ringPut r x) := by
  apply spec_RingPut_le
  rw [spec_RingValid_eq h, bnd_some, spec_WordValid_eq, bnd_some]
  unfold ringPut
  have e1 : decide (-2147483648 ≤ x ∧ x ≤ 2147483647) = wordB x := rfl
  rw [e1]
  cases hok : ringOk r
  · simp
  cases hw : wordB x
  · simp
  by_cases hl : r.len = r.room
  · simp [hl]
  · have hf := ringOk_facts hok
    have hm0 : 0 ≤ (r.head + r.len) % r.room := Int.emod_nonneg _ (by omega)
    have hm1 : (r.head + r.len) % r.room < r.room := Int.emod_lt_of_pos _ (by omega)
    have hi : ((r.head + r.len) % r.room).toNat < r.slots.length := by omega
    simp only [hl, Bool.not_true, cond_false, decide_false, ne_eq, not_false_eq_true, and_self, if_true]
    obtain ⟨B, hB, hN⟩ := ok_app (es := arPush ([] : List Ent) .int ([] : List Int)) (c := .int) (h := some (List.length ([] : List Ent))) (l := ([] : List Int)) (n := 0) (P := fun _ => True) (ys := r.slots) arGet_push (by omega) (fun _ _ => trivial)
    have hg : arGet B .int (some (List.length (arPush ([] : List Ent) .int ([] : List Int)))) = some r.slots := hN.get
    rw [hB, bnd_some, wrap_id (n := r.head + r.len) (by omega) (by omega), remI_pos (by omega), bnd_some, Int.tmod_eq_emod_of_nonneg (by omega)]
    rw [idxN_eq hm0 (by omega), bnd_some, arRow_eq hg (List.getElem?_eq_getElem hi), bnd_some, arView_int, arSet_get hg, bnd_some, wrap_id (n := r.len + 1) (by omega) (by omega)]
    rfl

theorem DrawRingPut_ok {a : List Int} (h : wfBs a) : Ok (spec_DrawRingPut a) fun r => (r.1.slots.length : Int) ≤ 6 := by
  apply Ok.le (spec_DrawRingPut_le a)
  refine Ok.bnd (open_ok h) fun r1 h1 => ?_
  refine Ok.bnd (l92Ring_ok h1 (by omega)) fun r2 h2 => ?_
  refine Ok.bnd (pick_ok h2.1 (by omega) (by decide)) fun r3 h3 => ?_
  refine Ok.bif (fun _ => ?_) (fun _ => ?_)
  · refine Ok.bnd (l91Any_ok h3.1 (by omega)) fun r4 h4 => ?_
    exact Ok.of h2.2
  · refine Ok.bnd (l91Word_ok h3.1 (by omega)) fun r4 h4 => ?_
    exact Ok.of h2.2

theorem fullR_ok {r : Rg} {x : Int} (h : ringOk r = true) (hw : wordB x = true) (h0 : r.len ≠ r.room) : ringOk (fullR r x) = true := by
  have hf := ringOk_facts h
  have hs : words (r.slots.set ((r.head + r.len) % r.room).toNat x) = true := by
    unfold words
    rw [List.all_eq_true]
    intro y hy
    rcases List.mem_or_eq_of_mem_set hy with hy | rfl
    · exact List.all_eq_true.1 hf.2.2.2.2.2.2.2 y hy
    · exact hw
  unfold ringOk fullR
  simp [hf.1, hf.2.1, hf.2.2.1, hf.2.2.2.1, hf.2.2.2.2.2.2.1, hs]
  omega

theorem slot_set {r : Rg} {x i : Int} (h : ringOk r = true) (h0 : 0 ≤ i) (h1 : i < r.room) : slotAt (fullR r x) i = if i = (r.head + r.len) % r.room then x else slotAt r i := by
  have hf := ringOk_facts h
  have hm0 : 0 ≤ (r.head + r.len) % r.room := Int.emod_nonneg _ (by omega)
  have hm1 : (r.head + r.len) % r.room < r.room := Int.emod_lt_of_pos _ (by omega)
  unfold slotAt fullR
  simp only [List.getD_eq_getElem?_getD, List.getElem?_set]
  by_cases hi : i = (r.head + r.len) % r.room
  · subst hi
    have : ((r.head + r.len) % r.room).toNat < r.slots.length := by omega
    simp [this]
  · have : ((r.head + r.len) % r.room).toNat ≠ i.toNat := by omega
    simp [hi, this]

theorem ringPut_small {r : Rg} (h : r.slots.length ≤ 100) (x : Int) : (ringPut r x).1.slots.length ≤ 100 := by
  unfold ringPut
  split
  · simp only [fullR, List.length_set]; exact h
  · simp

theorem slots_l {x : Int} {r o : Rg} {k : Nat} (hs : r.slots.length ≤ 100) (ho : o.slots = r.slots.set k x) : ∀ (d i : Nat), i + d = r.slots.length →
    laws_FnRingSlots_l1 x k i r.room r.head r.len r.slots o.room o.head o.len o.slots = some (.inl (x, k, r.room, r.head, r.len, r.slots, o.room, o.head, o.len, o.slots))
  | 0, i, hd => by
    apply laws_FnRingSlots_l1_le
    have hi : ¬ ((i : Int) < r.slots.length) := by omega
    simp [hi]
  | d + 1, i, hd => by
    apply laws_FnRingSlots_l1_le
    have hi : (i : Int) < r.slots.length := by omega
    have ih := slots_l hs ho d (i + 1) (by omega)
    simp only [hi, decide_true, cond_true]
    rw [wrap_succ (by omega), ih]
    by_cases hk : i = k
    · subst hk; simp
    · have hne : ¬ ((i : Int) = (k : Int)) := by omega
      have hne2 : ¬ (k = i) := fun hh => hk hh.symm
      rw [geti_nat', geti_nat', ho, List.getElem?_set_ne (by omega), List.getElem?_eq_getElem (by omega : i < r.slots.length)]
      simp [hne]

theorem laws_FnRingSlots_eq (a : List Int) (h : wfBs a) : laws_FnRingSlots a = some true := by
  apply laws_FnRingSlots_le
  apply Ok.some
  refine Ok.bif (fun _ => Ok.of rfl) (fun _ => ?_)
  refine Ok.bnd (DrawRingPut_ok h) fun r hb => ?_
  obtain ⟨r, x⟩ := r
  dsimp only at hb ⊢
  rw [impl_RingPut_eq (by omega), bnd_some, spec_RingPut_eq (by omega), bnd_some, laws_sameRing_refl (ringPut_small (by omega) x), bnd_some]
  simp only [beq_self_eq_true, Bool.not_true, cond_false]
  by_cases hok : ringOk r = true ∧ wordB x = true ∧ r.len ≠ r.room
  · have ht : ringPut r x = (fullR r x, true) := by unfold ringPut; rw [if_pos hok]
    have hf := ringOk_facts hok.1
    have hn := fullR_ok hok.1 hok.2.1 hok.2.2
    have hm0 : 0 ≤ (r.head + r.len) % r.room := Int.emod_nonneg _ (by omega)
    have hm1 : (r.head + r.len) % r.room < r.room := Int.emod_lt_of_pos _ (by omega)
    have hsm : (fullR r x).slots.length ≤ 100 := by simp only [fullR, List.length_set]; omega
    rw [ht]
    simp only [Bool.not_true, cond_false, cond_true, bnd_some]
    rw [wrap_id (n := r.head + r.len) (by omega) (by omega), remI_pos (by omega), bnd_some, Int.tmod_eq_emod_of_nonneg (by omega)]
    have hl := slots_l (x := x) (r := r) (o := fullR r x) (k := ((r.head + r.len) % r.room).toNat) (by omega) rfl r.slots.length 0 (by omega)
    rw [show ((((r.head + r.len) % r.room).toNat : Nat) : Int) = (r.head + r.len) % r.room by omega] at hl
    rw [show (0 : Int) = ((0 : Nat) : Int) by rfl, hl, bnd_some]
    have e : (⟨(fullR r x).room, (fullR r x).head, (fullR r x).len, (fullR r x).slots⟩ : Rg) = fullR r x := rfl
    simp only [selm, e]
    have hg : geti (fullR r x).slots ((r.head + r.len) % r.room) = some x := by
      rw [geti_slot hn hm0 (by show _ < r.room; exact hm1), slot_set hok.1 hm0 hm1, if_pos rfl]
    have hl0 : (fullR r x).len ≠ 0 := by simp only [fullR]; omega
    have htk : takeR (fullR r x) = (nextR (fullR r x), slotAt (fullR r x) (fullR r x).head, true) := by unfold takeR; rw [if_pos ⟨hn, hl0⟩]
    rw [impl_RingTake_eq hsm, htk, bnd_some, hg, bnd_some]
    have hs : laws_sameInts (nextR (fullR r x)).slots (fullR r x).slots = some true := laws_sameInts_refl (by simp only [nextR]; omega)
    simp only [hs, bnd_some, decide_true, cond_true]
    have : (fullR r x).head = r.head := rfl
    simp only [this, decide_true, cond_true]
    exact Ok.of rfl
  · have ht : ringPut r x = (⟨0, 0, 0, []⟩, false) := by unfold ringPut; rw [if_neg hok]
    rw [ht]
    have : laws_sameRing ⟨0, 0, 0, []⟩ ⟨0, 0, 0, []⟩ = some true := laws_sameRing_refl (by simp)
    simp [this]; exact Ok.of rfl
end Go.TFnRingSlots
