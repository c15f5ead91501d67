/- The plain law: what the functions answer. -/
import Derived.Test.YtohpofejamdhfaaDFnPutFullE0
import Derived.Test.YtohpofejamdhfaaLk
set_option linter.unusedVariables false
set_option linter.unusedSimpArgs false
namespace Go.TFnPutFull
open Go Go.RowKit Go.Vs Go.Tv
theorem spec_l6In_eq (a b c : Int) : spec_l6In a b c = some (decide (b ≤ a ∧ a ≤ c)) := by
  apply spec_l6In_le
  by_cases h : b ≤ a <;> simp [h]

theorem spec_WordValid_eq (a : Int) : spec_WordValid a = some (decide (-2147483648 ≤ a ∧ a ≤ 2147483647)) := by
  apply spec_WordValid_le; simp [spec_l6In_eq]

theorem impl_WordValid_eq (a : Int) : impl_WordValid a = some (decide (-2147483648 ≤ a ∧ a ≤ 2147483647)) := by
  apply impl_WordValid_le
  by_cases h : -2147483648 ≤ a <;> simp [h]

/-- A reader of bytes: how far it may have come. -/
def Rd (b : List Int) (p m : Int) : Prop := (∀ x ∈ b, 0 ≤ x ∧ x ≤ 255) ∧ (b.length : Int) ≤ 2000 ∧ 0 ≤ p ∧ p ≤ m

theorem Rd.mono {b : List Int} {p m n : Int} (h : Rd b p m) (hm : m ≤ n) : Rd b p n := ⟨h.1, h.2.1, h.2.2.1, by have := h.2.2.2; omega⟩

theorem open_ok {a : List Int} (h : wfBs a) : Ok (spec_l6Open a) fun r => Rd r.1 r.2 0 := by
  apply Ok.le (spec_l6Open_le a)
  refine Ok.bif (fun hb => ?_) (fun hb => ?_)
  · simp only [decide_eq_true_eq] at hb
    have : cutL a 0 2000 = some (a.take 2000) := by
      unfold cutL
      rw [if_pos (by omega)]
      simp
    rw [this]
    refine Ok.of ⟨fun x hx => h x (List.mem_of_mem_take hx), ?_, by omega, by omega⟩
    simp only [List.length_take]; omega
  · simp only [decide_eq_false_iff_not] at hb
    exact Ok.of ⟨h, (by show (a.length : Int) ≤ 2000; omega), by omega, by omega⟩

theorem u8_get {b : List Int} (h : ∀ x ∈ b, 0 ≤ x ∧ x ≤ 255) {n : Int} (h0 : 0 ≤ n) (h1 : n < b.length) : Ok (geti b n) fun x => 0 ≤ x ∧ x ≤ 255 :=
  (Ok.geti h0 h1).mono fun x hx => h x hx.1

theorem pick_ok {b : List Int} {p m n : Int} (h : Rd b p m) (hm : m ≤ 1000000000) (hn : wfI n) :
    Ok (spec_l6Rd_pick n b p) fun r => Rd r.2.1 r.2.2 (m + 1) ∧ 0 ≤ r.1 ∧ (1 ≤ n → r.1 < n) ∧ (n < 1 → r.1 = 0) := by
  obtain ⟨h1, h2, h3, h4⟩ := h
  obtain ⟨n1, n2⟩ := hn
  apply Ok.le (spec_l6Rd_pick_le n b p)
  have e1 : wrap64 (p + 1) = p + 1 := wrap_id (by omega) (by omega)
  have e2 : wrap64 (p + 1 - 1) = p := by rw [show p + 1 - 1 = p by omega]; exact wrap_id (by omega) (by omega)
  rw [e1, e2]
  have hR : Rd b (p + 1) (m + 1) := ⟨h1, h2, by omega, by omega⟩
  refine Ok.bif (fun hb => ?_) (fun hb => ?_)
  · simp only [decide_eq_true_eq] at hb
    exact Ok.of ⟨hR, by omega, by omega, by omega⟩
  simp only [decide_eq_false_iff_not] at hb
  refine Ok.bif (fun hc => ?_) (fun hc => ?_)
  · exact Ok.of ⟨hR, by omega, by omega, by omega⟩
  simp only [decide_eq_false_iff_not] at hc
  refine Ok.bif (fun hd => ?_) (fun hd => ?_)
  · simp only [decide_eq_true_eq] at hd
    refine Ok.bnd (u8_get h1 h3 hd) fun x hx => ?_
    rw [wrap_id (by omega) (by omega), remI_pos (by omega)]
    have := tmod_range (y := n) hx.1 (by omega)
    exact Ok.of ⟨hR, this.1, fun _ => this.2, by omega⟩
  · simp only [decide_eq_false_iff_not] at hd
    have hl : 0 < (b.length : Int) := by omega
    rw [remI_pos (by omega), bnd_some]
    have t1 := tmod_range (x := p) h3 hl
    refine Ok.bnd (u8_get h1 t1.1 t1.2) fun x hx => ?_
    have e3 : wrap64 (p * 7) = p * 7 := wrap_id (by omega) (by omega)
    have e4 : wrap64 (p * 7 + 3) = p * 7 + 3 := wrap_id (by omega) (by omega)
    rw [e3, e4, remI_pos (by omega), bnd_some]
    have t2 := tmod_range (x := p * 7 + 3) (by omega) hl
    refine Ok.bnd (u8_get h1 t2.1 t2.2) fun y hy => ?_
    rw [quoI_pos (by omega), bnd_some]
    have q0 : 0 ≤ p.tdiv b.length ∧ p.tdiv b.length ≤ p := by
      rw [Int.tdiv_eq_ediv_of_nonneg h3]
      exact ⟨Int.ediv_nonneg h3 (by omega), Int.ediv_le_self _ h3⟩
    generalize hq : p.tdiv b.length = q at q0
    have hx2 : wrap64 x = x := wrap_id (by omega) (by omega)
    have hy2 : wrap64 y = y := wrap_id (by omega) (by omega)
    have hq2 : wrap64 q = q := wrap_id (by omega) (by omega)
    rw [hx2, hy2, hq2]
    have f1 : wrap64 (x * 131) = x * 131 := wrap_id (by omega) (by omega)
    have f2 : wrap64 (y * 1117) = y * 1117 := wrap_id (by omega) (by omega)
    have f3 : wrap64 (p * 29) = p * 29 := wrap_id (by omega) (by omega)
    have f4 : wrap64 (q * 53) = q * 53 := wrap_id (by omega) (by omega)
    rw [f1, f2, f3, f4]
    have f5 : wrap64 (x * 131 + y * 1117) = x * 131 + y * 1117 := wrap_id (by omega) (by omega)
    rw [f5]
    have f6 : wrap64 (x * 131 + y * 1117 + p * 29) = x * 131 + y * 1117 + p * 29 := wrap_id (by omega) (by omega)
    rw [f6]
    have f7 : wrap64 (x * 131 + y * 1117 + p * 29 + q * 53) = x * 131 + y * 1117 + p * 29 + q * 53 := wrap_id (by omega) (by omega)
    rw [f7]
    generalize hz : x * 131 + y * 1117 + p * 29 + q * 53 = z
    have hz0 : 0 ≤ z ∧ z < 1000000000000 := by omega
    have hd2 : 0 ≤ z.tdiv 64 ∧ z.tdiv 64 ≤ z := by
      rw [Int.tdiv_eq_ediv_of_nonneg hz0.1]
      omega
    rw [wrap_id (n := z.tdiv 64) (by omega) (by omega), remI_pos (by omega), bnd_some]
    have hxor := xor_nonneg (x := z) (y := z.tdiv 64) hz0.1 (by omega) hd2.1 (by omega)
    have t3 := tmod_range (y := n) hxor.1 (by omega)
    exact Ok.of ⟨hR, t3.1, fun _ => t3.2, by omega⟩

theorem spec_Wrap_eq (n : Int) (h : wfI n) : Ok (spec_Wrap n) fun r => -2147483648 ≤ r ∧ r ≤ 2147483647 := by
  apply Ok.le (spec_Wrap_le n)
  have hm : -4294967296 < n.tmod 4294967296 ∧ n.tmod 4294967296 < 4294967296 := by
    by_cases h0 : 0 ≤ n
    · have := tmod_range h0 (y := 4294967296) (by omega); omega
    · have e : n.tmod 4294967296 = -((-n).tmod 4294967296) := by rw [Int.neg_tmod]; omega
      have := tmod_range (x := -n) (y := 4294967296) (by omega) (by omega); omega
  generalize n.tmod 4294967296 = m at hm
  refine Ok.bif (fun hb => ?_) (fun hb => ?_)
  · simp only [decide_eq_true_eq] at hb
    rw [wrap_id (by omega) (by omega)]; exact Ok.of (by omega)
  simp only [decide_eq_false_iff_not] at hb
  refine Ok.bif (fun hc => ?_) (fun hc => ?_)
  · simp only [decide_eq_true_eq] at hc
    rw [wrap_id (by omega) (by omega)]; exact Ok.of (by omega)
  · simp only [decide_eq_false_iff_not] at hc
    exact Ok.of (by omega)

/-- A number that was picked names a place in a list. -/
theorem pick_geti {α : Type} {l : List α} {x n : Int} (h : 0 ≤ x ∧ (1 ≤ n → x < n) ∧ (n < 1 → x = 0)) (hn : 1 ≤ n) (hl : (l.length : Int) = n) : Ok (geti l x) fun y => y ∈ l :=
  (Ok.geti h.1 (by have := h.2.1 hn; omega)).mono fun y hy => hy.1

theorem wrap_wf (n : Int) : wfI (wrap64 n) := by unfold wfI wrap64; omega

theorem l91Word_ok {b : List Int} {p m : Int} (h : Rd b p m) (hm : m ≤ 999999990) : Ok (spec_l91Word b p) fun r => Rd r.2.1 r.2.2 (m + 5) ∧ (-2147483648 ≤ r.1 ∧ r.1 ≤ 2147483647) := by
  apply Ok.le (spec_l91Word_le b p)
  refine Ok.bnd (pick_ok h (by omega) (by decide)) fun r1 h1 => ?_
  refine Ok.bif (fun _ => ?_) (fun _ => ?_)
  · refine Ok.bnd (pick_ok h1.1 (by omega) (by decide)) fun r2 h2 => ?_
    refine Ok.bnd (pick_geti h2.2 (by omega) rfl) fun e he => ?_
    refine Ok.of ⟨h2.1.mono (by omega), ?_⟩
    simp only [List.mem_cons, List.not_mem_nil, or_false] at he
    dsimp only
    omega
  refine Ok.bif (fun _ => ?_) (fun _ => ?_)
  · refine Ok.bnd (pick_ok h1.1 (by omega) (by decide)) fun r2 h2 => ?_
    refine Ok.bnd (pick_ok h2.1 (by omega) (by decide)) fun r3 h3 => ?_
    refine Ok.bnd (pick_ok h3.1 (by omega) (by decide)) fun r4 h4 => ?_
    refine Ok.bnd (pick_ok h4.1 (by omega) (by decide)) fun r5 h5 => ?_
    refine Ok.bnd (spec_Wrap_eq _ (wrap_wf _)) fun r6 h6 => ?_
    exact Ok.of ⟨h5.1.mono (by omega), h6⟩
  refine Ok.bif (fun _ => ?_) (fun _ => ?_)
  · refine Ok.bnd (pick_ok h1.1 (by omega) (by decide)) fun r2 h2 => ?_
    have := h2.2.2.1 (by omega)
    rw [wrap_id (by omega) (by omega)]
    exact Ok.of ⟨h2.1.mono (by omega), by dsimp only; omega⟩
  · refine Ok.bnd (pick_ok h1.1 (by omega) (by decide)) fun r2 h2 => ?_
    have := h2.2.2.1 (by omega)
    exact Ok.of ⟨h2.1.mono (by omega), by dsimp only; omega⟩

theorem geti_some {α : Type} {l : List α} {i : Nat} (h : i < l.length) : geti l (i : Int) = some l[i] := by
  rw [geti_nat', List.getElem?_eq_getElem h]

theorem wrap_succ {i : Nat} (h : (i : Int) < 9223372036854775807) : wrap64 ((i : Int) + 1) = ((i + 1 : Nat) : Int) := by
  rw [wrap_id (by omega) (by omega)]; omega

theorem appL_some {α : Type} {x y : List α} (h : x.length + y.length ≤ 4294967296) : appL x y = some (x ++ y) := by unfold appL; rw [if_pos h]

def words (l : List Int) : Bool := l.all fun n => decide (-2147483648 ≤ n ∧ n ≤ 2147483647)

theorem areWords_l {l : List Int} (hl : (l.length : Int) ≤ 4294967296) : ∀ (d i : Nat), i + d = l.length → impl_areWords_l1 l l.length i = some (if words (l.drop i) then .inl () else .inr false)
  | 0, i, hd => by
    apply impl_areWords_l1_le
    have hi : ¬ ((i : Int) < l.length) := by omega
    rw [List.drop_eq_nil_of_le (by omega)]
    simp [hi, words]
  | d + 1, i, hd => by
    apply impl_areWords_l1_le
    have hi : i < l.length := by omega
    have hi' : (i : Int) < l.length := by omega
    have e1 : words (l.drop i) = (decide (-2147483648 ≤ l[i] ∧ l[i] ≤ 2147483647) && words (l.drop (i + 1))) := by unfold words; rw [List.drop_eq_getElem_cons hi, List.all_cons]
    rw [geti_some hi, wrap_succ (by omega), areWords_l hl d (i + 1) (by omega), e1]
    simp only [hi', decide_true, cond_true, bnd_some, impl_WordValid_eq]
    cases decide (-2147483648 ≤ l[i] ∧ l[i] ≤ 2147483647) <;> simp

theorem impl_areWords_eq {l : List Int} (hl : (l.length : Int) ≤ 4294967296) : impl_areWords l = some (words l) := by
  apply impl_areWords_le
  rw [show (0 : Int) = ((0 : Nat) : Int) by rfl, areWords_l hl l.length 0 (by omega), List.drop_zero]
  cases words l <;> simp [selm]

theorem l4Words_l {l : List Int} (hl : (l.length : Int) ≤ 4294967296) : ∀ (d i : Nat), i + d = l.length → spec_l4Words_l1 l i = some (if words (l.drop i) then .inl () else .inr false)
  | 0, i, hd => by
    apply spec_l4Words_l1_le
    have hi : ¬ ((i : Int) < l.length) := by omega
    rw [List.drop_eq_nil_of_le (by omega)]
    simp [hi, words]
  | d + 1, i, hd => by
    apply spec_l4Words_l1_le
    have hi : i < l.length := by omega
    have hi' : (i : Int) < l.length := by omega
    have e1 : words (l.drop i) = (decide (-2147483648 ≤ l[i] ∧ l[i] ≤ 2147483647) && words (l.drop (i + 1))) := by unfold words; rw [List.drop_eq_getElem_cons hi, List.all_cons]
    rw [geti_some hi, wrap_succ (by omega), l4Words_l hl d (i + 1) (by omega), e1]
    simp only [hi', decide_true, cond_true, bnd_some, spec_WordValid_eq]
    cases decide (-2147483648 ≤ l[i] ∧ l[i] ≤ 2147483647) <;> simp

theorem spec_l4Words_eq {l : List Int} (hl : (l.length : Int) ≤ 4294967296) (n : Int) : spec_l4Words l n = some (decide ((l.length : Int) = n) && words l) := by
  apply spec_l4Words_le
  rw [show (0 : Int) = ((0 : Nat) : Int) by rfl, l4Words_l hl l.length 0 (by omega), List.drop_zero]
  by_cases h : (l.length : Int) = n <;> cases words l <;> simp [selm, h]

def mB (b : Bx) : Nat := b.items.length

def boxOk (b : Bx) : Bool := decide (1 ≤ b.room ∧ b.room ≤ 4) && decide ((b.items.length : Int) ≤ b.room) && words b.items

theorem impl_BoxValid_eq {b : Bx} (h : mB b ≤ 4294967296) : impl_BoxValid b = some (boxOk b) := by
  apply impl_BoxValid_le
  unfold mB at h
  rw [impl_areWords_eq (by omega)]
  unfold boxOk
  by_cases h1 : 1 ≤ b.room <;> by_cases h2 : b.room ≤ 4 <;> by_cases h3 : (b.items.length : Int) ≤ b.room <;> cases words b.items <;> simp [h1, h2, h3]

theorem spec_BoxValid_eq {b : Bx} (h : mB b ≤ 4294967296) : spec_BoxValid b = some (boxOk b) := by
  apply spec_BoxValid_le
  unfold mB at h
  rw [spec_l4Words_eq (by omega), spec_l6In_eq]
  unfold boxOk
  by_cases h1 : 1 ≤ b.room ∧ b.room ≤ 4 <;> by_cases h3 : (b.items.length : Int) ≤ b.room <;> cases words b.items <;> simp [h1, h3]

theorem clone_eq {l : List Int} (h : l.length ≤ 4294967296) : slices_Clone___int_int_ l = some l := by
  apply slices_Clone___int_int__le
  rw [if_pos h]

theorem sameInts_l {a : List Int} (hl : (a.length : Int) ≤ 4294967296) : ∀ (d i : Nat), i + d = a.length → laws_sameInts_l1 a a i = some (.inl ())
  | 0, i, hd => by
    apply laws_sameInts_l1_le
    have hi : ¬ ((i : Int) < a.length) := by omega
    simp [hi]
  | d + 1, i, hd => by
    apply laws_sameInts_l1_le
    have hi : i < a.length := by omega
    have hi' : (i : Int) < a.length := by omega
    rw [geti_some hi, wrap_succ (by omega)]
    simp only [hi', decide_true, cond_true, bnd_some, Bool.not_true, cond_false]
    exact sameInts_l hl d (i + 1) (by omega)

theorem laws_sameInts_refl {a : List Int} (hl : (a.length : Int) ≤ 4294967296) : laws_sameInts a a = some true := by
  apply laws_sameInts_le
  rw [show (0 : Int) = ((0 : Nat) : Int) by rfl, sameInts_l hl a.length 0 (by omega)]
  simp [selm]

theorem laws_sameBox_refl {b : Bx} (h : mB b ≤ 4294967296) : laws_sameBox b b = some true := by
  apply laws_sameBox_le
  unfold mB at h
  rw [laws_sameInts_refl (by omega)]; simp

def wordB (v : Int) : Bool := decide (-2147483648 ≤ v ∧ v ≤ 2147483647)

def putB (b : Bx) (v : Int) : Bx × Bool := if boxOk b && wordB v && decide ((b.items.length : Int) < b.room) then (⟨b.room, b.items ++ [v]⟩, true) else (⟨0, []⟩, false)

theorem boxOk_facts {b : Bx} (h : boxOk b = true) : 1 ≤ b.room ∧ b.room ≤ 4 ∧ (b.items.length : Int) ≤ b.room ∧ words b.items = true := by
  unfold boxOk at h
  simp only [Bool.and_eq_true, decide_eq_true_eq] at h
  exact ⟨h.1.1.1, h.1.1.2, h.1.2, h.2⟩

theorem boxOk_mk {b : Bx} (h1 : 1 ≤ b.room) (h2 : b.room ≤ 4) (h3 : (b.items.length : Int) ≤ b.room) (h4 : words b.items = true) : boxOk b = true := by
  unfold boxOk; simp [h1, h2, h3, h4]

theorem impl_BoxPut_eq {b : Bx} (h : mB b ≤ 4294960000) (v : Int) : impl_BoxPut b v = some (putB b v) := by
  apply impl_BoxPut_le
  rw [impl_BoxValid_eq (by omega), impl_WordValid_eq]
  unfold mB at h
  simp only [clone_eq (show b.items.length ≤ 4294967296 by omega), bnd_some, appL_some (show b.items.length + [v].length ≤ 4294967296 by simp; omega)]
  unfold putB
  cases hb : boxOk b
  · simp
  · have := boxOk_facts hb
    have e1 : decide (-2147483648 ≤ v ∧ v ≤ 2147483647) = wordB v := rfl
    rw [e1]
    by_cases hl : (b.items.length : Int) = b.room
    · have : ¬ ((b.items.length : Int) < b.room) := by omega
      cases wordB v <;> simp [hl, this]
    · have : (b.items.length : Int) < b.room := by omega
      cases wordB v <;> simp [hl, this]

theorem spec_BoxPut_eq {b : Bx} (h : mB b ≤ 4294960000) (v : Int) : spec_BoxPut b v = some (putB b v) := by
  apply spec_BoxPut_le
  rw [spec_BoxValid_eq (by omega), spec_WordValid_eq]
  unfold mB at h
  simp only [appL_some (show ([] : List Int).length + b.items.length ≤ 4294967296 by simp; omega), bnd_some, List.nil_append, appL_some (show b.items.length + [v].length ≤ 4294967296 by simp; omega)]
  unfold putB
  cases hb : boxOk b
  · simp
  · have := boxOk_facts hb
    have e1 : decide (-2147483648 ≤ v ∧ v ≤ 2147483647) = wordB v := rfl
    rw [e1]
    by_cases hl : b.room ≤ (b.items.length : Int)
    · have : ¬ ((b.items.length : Int) < b.room) := by omega
      cases wordB v <;> simp [hl, this]
    · have : (b.items.length : Int) < b.room := by omega
      cases wordB v <;> simp [hl, this]

theorem l92Items_l {n : Int} (hn : n ≤ 6) : ∀ (d : Nat) (i : Int) (f : Bool) (l : List Int) {b : List Int} {p m : Int}, i + d = n → 0 ≤ i → (l.length : Int) = i → Rd b p m → m + 5 * d ≤ 999990000 → Ok (spec_l92Items_l1 n f l i b p) fun r => Rd r.2.1 r.2.2 (m + 5 * d) ∧ (r.1.2.length : Int) ≤ 6
  | 0, i, f, l, b, p, m, hd, h0, hl, h, hm => by
    apply Ok.le (spec_l92Items_l1_le n f l i b p)
    have : ¬ (i < n) := by omega
    simp only [this, decide_false, cond_false]
    exact Ok.of ⟨h.mono (by omega), by simp only []; omega⟩
  | d + 1, i, f, l, b, p, m, hd, h0, hl, h, hm => by
    apply Ok.le (spec_l92Items_l1_le n f l i b p)
    have : i < n := by omega
    simp only [this, decide_true, cond_true]
    refine Ok.bnd (l91Word_ok h (by omega)) fun r1 h1 => ?_
    rw [appL_some (by simp; omega), bnd_some, wrap_id (by omega) (by omega)]
    exact (l92Items_l hn d (i + 1) true _ (by omega) (by omega) (by simp; omega) h1.1 (by omega)).mono fun r hr => ⟨hr.1.mono (by omega), hr.2⟩

theorem l92Items_ok {b : List Int} {p m n : Int} (h : Rd b p m) (hm : m ≤ 999980000) (hn : n ≤ 6) : Ok (spec_l92Items n b p) fun r => Rd r.2.1 r.2.2 (m + 30) ∧ (r.1.length : Int) ≤ 6 := by
  apply Ok.le (spec_l92Items_le n b p)
  by_cases h0 : 0 ≤ n
  · refine Ok.bnd (l92Items_l hn n.toNat 0 true [] (by omega) (by omega) (by simp) h (by omega)) fun r hr => ?_
    exact Ok.of ⟨hr.1.mono (by omega), hr.2⟩
  · have : Ok (spec_l92Items_l1 n true [] 0 b p) fun r => Rd r.2.1 r.2.2 (m + 30) ∧ (r.1.2.length : Int) ≤ 6 := by
      apply Ok.le (spec_l92Items_l1_le n true [] 0 b p)
      have : ¬ (0 < n) := by omega
      simp only [this, decide_false, cond_false]
      exact Ok.of ⟨h.mono (by omega), by simp⟩
    refine Ok.bnd this fun r hr => Ok.of hr

theorem l92Box_ok {b : List Int} {p m : Int} (h : Rd b p m) (hm : m ≤ 999970000) : Ok (spec_l92Box b p) fun r => Rd r.2.1 r.2.2 (m + 100) ∧ (r.1.items.length : Int) ≤ 6 := by
  apply Ok.le (spec_l92Box_le b p)
  refine Ok.bnd (pick_ok h (by omega) (by decide)) fun r1 h1 => ?_
  have hk := h1.2.2.1 (by omega)
  rw [wrap_id (n := 1 + r1.1) (by omega) (by omega), wrap_id (n := 1 + r1.1 + 1) (by omega) (by omega)]
  refine Ok.bnd (pick_ok h1.1 (by omega) (by unfold wfI; omega)) fun r2 h2 => ?_
  have hk2 := h2.2.2.1 (by omega)
  refine Ok.bnd (l92Items_ok h2.1 (by omega) (by omega)) fun r3 h3 => ?_
  refine Ok.bnd (pick_ok h3.1 (by omega) (by decide)) fun r4 h4 => ?_
  refine Ok.bif (fun _ => ?_) (fun _ => ?_)
  · refine Ok.bnd (pick_ok h4.1 (by omega) (by decide)) fun r5 h5 => ?_
    refine Ok.bnd (pick_geti h5.2 (by omega) rfl) fun e he => ?_
    exact Ok.of ⟨h5.1.mono (by omega), h3.2⟩
  refine Ok.bif (fun _ => ?_) (fun _ => ?_)
  · refine Ok.bnd (l92Items_ok h4.1 (by omega) (by omega)) fun r7 h7 => ?_
    exact Ok.of ⟨h7.1.mono (by omega), h7.2⟩
  refine Ok.bif (fun _ => ?_) (fun _ => ?_)
  · exact Ok.of ⟨h4.1.mono (by omega), by simp⟩
  · exact Ok.of ⟨h4.1.mono (by omega), h3.2⟩

theorem words_append (a b : List Int) : words (a ++ b) = (words a && words b) := by unfold words; rw [List.all_append]

theorem l91Any_ok {b : List Int} {p m : Int} (h : Rd b p m) (hm : m ≤ 999999900) : Ok (spec_l91Any b p) fun r => Rd r.2.1 r.2.2 (m + 20) := by
  apply Ok.le (spec_l91Any_le b p)
  refine Ok.bnd (pick_ok h (by omega) (by decide)) fun r1 h1 => ?_
  refine Ok.bif (fun _ => ?_) (fun _ => ?_)
  · refine Ok.bnd (l91Word_ok h1.1 (by omega)) fun r2 h2 => ?_
    refine Ok.bnd (pick_ok h2.1 (by omega) (by decide)) fun r3 h3 => ?_
    refine Ok.bnd (pick_geti h3.2 (by omega) rfl) fun e he => ?_
    exact Ok.of (h3.1.mono (by omega))
  refine Ok.bif (fun _ => ?_) (fun _ => ?_)
  · refine Ok.bnd (pick_ok h1.1 (by omega) (by decide)) fun r3 h3 => ?_
    refine Ok.bnd (pick_geti h3.2 (by omega) rfl) fun e he => ?_
    exact Ok.of (h3.1.mono (by omega))
  · refine Ok.bnd (l91Word_ok h1.1 (by omega)) fun r2 h2 => ?_
    exact Ok.of (h2.1.mono (by omega))

theorem DrawBoxPut_ok {a : List Int} (h : wfBs a) : Ok (spec_DrawBoxPut a) fun r => mB r.1 ≤ 6 := by
  apply Ok.le (spec_DrawBoxPut_le a)
  refine Ok.bnd (open_ok h) fun r1 h1 => ?_
  refine Ok.bnd (l92Box_ok h1 (by omega)) fun r2 h2 => ?_
  have hm : mB r2.1 ≤ 6 := by unfold mB; omega
  refine Ok.bnd (pick_ok h2.1 (by omega) (by decide)) fun r3 h3 => ?_
  refine Ok.bif (fun _ => ?_) (fun _ => ?_)
  · exact Ok.bnd (l91Any_ok h3.1 (by omega)) fun r4 _ => Ok.of hm
  · exact Ok.bnd (l91Word_ok h3.1 (by omega)) fun r4 _ => Ok.of hm

theorem putB_some {room x : Int} {items : List Int} (h : (putB ⟨room, items⟩ x).2 = true) : putB ⟨room, items⟩ x = (⟨room, items ++ [x]⟩, true) ∧ boxOk ⟨room, items⟩ = true ∧ wordB x = true ∧ (items.length : Int) < room := by
  unfold putB at h ⊢
  split
  · rename_i hc
    simp only [Bool.and_eq_true, decide_eq_true_eq] at hc
    exact ⟨rfl, hc.1.1, hc.1.2, hc.2⟩
  · rename_i hc
    rw [if_neg hc] at h; cases h

theorem boxOk_put {room x : Int} {items : List Int} (h1 : boxOk ⟨room, items⟩ = true) (h2 : wordB x = true) (h3 : (items.length : Int) < room) : boxOk ⟨room, items ++ [x]⟩ = true := by
  have hf := boxOk_facts h1
  refine boxOk_mk hf.1 hf.2.1 (by simp; omega) ?_
  simp only [words_append, hf.2.2.2, Bool.true_and]
  unfold words
  unfold wordB at h2
  simpa using h2

theorem sameBox_put {room x : Int} {items : List Int} (h : mB ⟨room, items⟩ ≤ 6) : laws_sameBox (putB ⟨room, items⟩ x).1 (putB ⟨room, items⟩ x).1 = some true := by
  apply laws_sameBox_refl
  unfold putB
  unfold mB at h ⊢
  simp only [] at h
  split <;> simp; omega

theorem putFull_l {room x : Int} (hx : wordB x = true) : ∀ (d : Nat) (items : List Int), boxOk ⟨room, items⟩ = true → (items.length : Int) + d = room → Ok (laws_FnPutFull_l1 x room items) fun y => ∃ it, y = .inl (x, room, it) ∧ (it.length : Int) = room
  | 0, items, h, hd => by
    apply Ok.le (laws_FnPutFull_l1_le x room items)
    have : ¬ ((items.length : Int) < room) := by omega
    simp only [this, decide_false, cond_false]
    exact Ok.of ⟨items, rfl, by omega⟩
  | d + 1, items, h, hd => by
    apply Ok.le (laws_FnPutFull_l1_le x room items)
    have hlt : (items.length : Int) < room := by omega
    have hf := boxOk_facts h
    have hf2 : room ≤ 4 := hf.2.1
    have hp : putB ⟨room, items⟩ x = (⟨room, items ++ [x]⟩, true) := by simp [putB, h, hx, hlt]
    have hl : wrap64 ((items.length : Int) + 1) = ((items ++ [x]).length : Int) := by rw [wrap_id (by omega) (by omega)]; simp
    simp only [hlt, decide_true, cond_true]
    rw [impl_BoxPut_eq (by unfold mB; simp only []; omega), hp, bnd_some, hl]
    simp only [Bool.not_true, cond_false, decide_true]
    exact putFull_l hx d (items ++ [x]) (boxOk_put h hx hlt) (by simp; omega)

theorem laws_FnPutFull_eq (a : List Int) (h : wfBs a) : laws_FnPutFull a = some true := by
  apply laws_FnPutFull_le
  apply Ok.some
  refine Ok.bif (fun _ => Ok.of rfl) (fun _ => ?_)
  refine Ok.bnd (DrawBoxPut_ok h) fun r hb => ?_
  obtain ⟨⟨room, items⟩, x⟩ := r
  simp only [] at hb
  rw [impl_BoxPut_eq (by simp only []; omega), spec_BoxPut_eq (by simp only []; omega), bnd_some, bnd_some]
  simp only [sameBox_put hb, bnd_some, beq_self_eq_true, Bool.not_true, cond_false, cond_true]
  cases hok : (putB ⟨room, items⟩ x).2
  · simp; exact Ok.of rfl
  · obtain ⟨e, h1, h2, h3⟩ := putB_some hok
    unfold mB at hb
    simp only [] at hb
    rw [e]
    simp only [Bool.not_true, cond_false]
    have hf := boxOk_facts h1
    refine Ok.bnd (putFull_l h2 (room - (items.length : Int) - 1).toNat _ (boxOk_put h1 h2 h3) (by simp; omega)) fun y hy => ?_
    obtain ⟨it, rfl, hl⟩ := hy
    simp only [selm]
    have hf2 : room ≤ 4 := hf.2.1
    rw [impl_BoxPut_eq (by unfold mB; simp only []; omega), bnd_some]
    have : (putB ⟨room, it⟩ x).2 = false := by
      unfold putB
      rw [if_neg (by simp; omega)]
    rw [this]
    exact Ok.of rfl
end Go.TFnPutFull
