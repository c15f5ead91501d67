/- The plain law: what the functions answer. -/
import Derived.Test.YtohpofejamdhfaaDFnExactRingBoxE0
import Derived.Test.YtohpofejamdhfaaLkA
import Derived.Test.YtohpofejamdhfaaTvRow5
set_option linter.unusedVariables false
set_option linter.unusedSimpArgs false
namespace Go.TFnExactRingBox
open Go Go.RowKit Go.Vs Go.Tv
theorem spec_l6In_eq (a b c : Int) : spec_l6In a b c = some (decide (b ≤ a ∧ a ≤ c)) := by
  apply spec_l6In_le
  by_cases h : b ≤ a <;> simp [h]

theorem spec_WordValid_eq (a : Int) : spec_WordValid a = some (decide (-2147483648 ≤ a ∧ a ≤ 2147483647)) := by
  apply spec_WordValid_le; simp [spec_l6In_eq]

theorem impl_WordValid_eq (a : Int) : impl_WordValid a = some (decide (-2147483648 ≤ a ∧ a ≤ 2147483647)) := by
  apply impl_WordValid_le
  by_cases h : -2147483648 ≤ a <;> simp [h]

/-- A reader of bytes: how far it may have come. -/
def Rd (b : List Int) (p m : Int) : Prop := (∀ x ∈ b, 0 ≤ x ∧ x ≤ 255) ∧ (b.length : Int) ≤ 2000 ∧ 0 ≤ p ∧ p ≤ m

theorem Rd.mono {b : List Int} {p m n : Int} (h : Rd b p m) (hm : m ≤ n) : Rd b p n := ⟨h.1, h.2.1, h.2.2.1, by have := h.2.2.2; omega⟩

theorem geti_some {α : Type} {l : List α} {i : Nat} (h : i < l.length) : geti l (i : Int) = some l[i] := by
  rw [geti_nat', List.getElem?_eq_getElem h]

theorem wrap_succ {i : Nat} (h : (i : Int) < 9223372036854775807) : wrap64 ((i : Int) + 1) = ((i + 1 : Nat) : Int) := by
  rw [wrap_id (by omega) (by omega)]; omega

theorem made_some {n : Nat} (h : (n : Int) ≤ 4294967296) : made (n : Int) = some n := by simp [made]; omega

/-- What a loop that fills a list has done. -/
theorem fill_step {α : Type} {a b : List α} {i : Nat} (hl : b.length = a.length) (hi : i < a.length) (h : b.take i = a.take i) : (b.set i a[i]).take (i + 1) = a.take (i + 1) := by
  rw [List.take_set]
  apply List.ext_getElem?
  intro j
  rw [List.getElem?_set]
  by_cases hj : i = j
  · subst hj
    simp [hl, hi]; omega
  · rw [if_neg hj]
    by_cases hlt : j < i
    · have := congrArg (fun l : List α => l[j]?) h
      simp only [List.getElem?_take] at this ⊢
      rw [if_pos hlt, if_pos hlt] at this
      rw [if_pos (by omega), if_pos (by omega)]; exact this
    · simp only [List.getElem?_take]
      rw [if_neg (by omega), if_neg (by omega)]

theorem appL_some {α : Type} {x y : List α} (h : x.length + y.length ≤ 4294967296) : appL x y = some (x ++ y) := by unfold appL; rw [if_pos h]

/-- What is left of a budget. -/
def left (n : Int) (m : Nat) : Int := if (m : Int) ≤ n then n - m else -1

theorem left_pos {n : Int} {m : Nat} (h : (m : Int) ≤ n) : left n m = n - m := by unfold left; rw [if_pos h]

theorem left_out {n : Int} {m : Nat} (h : n < (m : Int)) : left n m = -1 := by unfold left; rw [if_neg (by omega)]

theorem toIntS_l {a : List Int} (hl : (a.length : Int) ≤ 4294967296) : ∀ (d i : Nat) (b : List Int), i + d = a.length → b.length = a.length → b.take i = a.take i → laws_toIntS_l1 a i b = some a
  | 0, i, b, hd, hb, ht => by
    apply laws_toIntS_l1_le
    have hi : ¬ ((i : Int) < a.length) := by omega
    have : b = a := by rw [List.take_of_length_le (by omega), List.take_of_length_le (by omega)] at ht; exact ht
    simp [hi, this]
  | d + 1, i, b, hd, hb, ht => by
    apply laws_toIntS_l1_le
    have hi : i < a.length := by omega
    have hi' : (i : Int) < a.length := by omega
    rw [geti_some hi, geti_some (l := b) (by omega), wrap_succ (by omega)]
    simp only [hi', decide_true, cond_true, bnd_some, Int.toNat_natCast, List.getElem?_eq_getElem (show i < b.length by omega)]
    exact toIntS_l hl d (i + 1) _ (by omega) (by simpa using hb) (fill_step hb hi ht)

theorem laws_toIntS_eq {a : List Int} (hl : (a.length : Int) ≤ 4294967296) : laws_toIntS a = some a := by
  apply laws_toIntS_le
  rw [made_some hl, bnd_some, show (0 : Int) = ((0 : Nat) : Int) by rfl, toIntS_l hl a.length 0 _ (by omega) (by simp) (by simp)]
  rfl

theorem eqIntS_l {a : List Int} (hl : (a.length : Int) ≤ 4294967296) : ∀ (d i : Nat), i + d = a.length → laws_eqIntS_l1 a a i = some (.inl ())
  | 0, i, hd => by
    apply laws_eqIntS_l1_le
    have hi : ¬ ((i : Int) < a.length) := by omega
    simp [hi]
  | d + 1, i, hd => by
    apply laws_eqIntS_l1_le
    have hi : i < a.length := by omega
    have hi' : (i : Int) < a.length := by omega
    rw [geti_some hi, wrap_succ (by omega)]
    simp only [hi', decide_true, cond_true, bnd_some, Bool.not_true, cond_false]
    exact eqIntS_l hl d (i + 1) (by omega)

theorem laws_eqIntS_refl {a : List Int} (hl : (a.length : Int) ≤ 4294967296) : laws_eqIntS a a = some true := by
  apply laws_eqIntS_le
  rw [show (0 : Int) = ((0 : Nat) : Int) by rfl, eqIntS_l hl a.length 0 (by omega)]
  simp [selm]

def words (l : List Int) : Bool := l.all fun n => decide (-2147483648 ≤ n ∧ n ≤ 2147483647)

theorem areWords_l {l : List Int} (hl : (l.length : Int) ≤ 4294967296) : ∀ (d i : Nat), i + d = l.length → impl_areWords_l1 l l.length i = some (if words (l.drop i) then .inl () else .inr false)
  | 0, i, hd => by
    apply impl_areWords_l1_le
    have hi : ¬ ((i : Int) < l.length) := by omega
    rw [List.drop_eq_nil_of_le (by omega)]
    simp [hi, words]
  | d + 1, i, hd => by
    apply impl_areWords_l1_le
    have hi : i < l.length := by omega
    have hi' : (i : Int) < l.length := by omega
    have e1 : words (l.drop i) = (decide (-2147483648 ≤ l[i] ∧ l[i] ≤ 2147483647) && words (l.drop (i + 1))) := by unfold words; rw [List.drop_eq_getElem_cons hi, List.all_cons]
    rw [geti_some hi, wrap_succ (by omega), areWords_l hl d (i + 1) (by omega), e1]
    simp only [hi', decide_true, cond_true, bnd_some, impl_WordValid_eq]
    cases decide (-2147483648 ≤ l[i] ∧ l[i] ≤ 2147483647) <;> simp

theorem impl_areWords_eq {l : List Int} (hl : (l.length : Int) ≤ 4294967296) : impl_areWords l = some (words l) := by
  apply impl_areWords_le
  rw [show (0 : Int) = ((0 : Nat) : Int) by rfl, areWords_l hl l.length 0 (by omega), List.drop_zero]
  cases words l <;> simp [selm]

theorem l4Words_l {l : List Int} (hl : (l.length : Int) ≤ 4294967296) : ∀ (d i : Nat), i + d = l.length → spec_l4Words_l1 l i = some (if words (l.drop i) then .inl () else .inr false)
  | 0, i, hd => by
    apply spec_l4Words_l1_le
    have hi : ¬ ((i : Int) < l.length) := by omega
    rw [List.drop_eq_nil_of_le (by omega)]
    simp [hi, words]
  | d + 1, i, hd => by
    apply spec_l4Words_l1_le
    have hi : i < l.length := by omega
    have hi' : (i : Int) < l.length := by omega
    have e1 : words (l.drop i) = (decide (-2147483648 ≤ l[i] ∧ l[i] ≤ 2147483647) && words (l.drop (i + 1))) := by unfold words; rw [List.drop_eq_getElem_cons hi, List.all_cons]
    rw [geti_some hi, wrap_succ (by omega), l4Words_l hl d (i + 1) (by omega), e1]
    simp only [hi', decide_true, cond_true, bnd_some, spec_WordValid_eq]
    cases decide (-2147483648 ≤ l[i] ∧ l[i] ≤ 2147483647) <;> simp

theorem spec_l4Words_eq {l : List Int} (hl : (l.length : Int) ≤ 4294967296) (n : Int) : spec_l4Words l n = some (decide ((l.length : Int) = n) && words l) := by
  apply spec_l4Words_le
  rw [show (0 : Int) = ((0 : Nat) : Int) by rfl, l4Words_l hl l.length 0 (by omega), List.drop_zero]
  by_cases h : (l.length : Int) = n <;> cases words l <;> simp [selm, h]

def mB (b : Bx) : Nat := b.items.length

theorem laws_szIntS_eq {l : List Int} (hl : (l.length : Int) ≤ 9223372036854775807) {n : Int} (h0 : 0 ≤ n) (h1 : n ≤ 1048576) : laws_szIntS l n = some (left n l.length) := by
  apply laws_szIntS_le
  rw [wrap_id (by omega) (by omega)]
  by_cases h : (l.length : Int) ≤ n
  · rw [left_pos h]
    have : ¬ (n - (l.length : Int) < 0) := by omega
    simp only [this, decide_false, cond_false]
  · rw [left_out (by omega)]
    have : n - (l.length : Int) < 0 := by omega
    simp only [this, decide_true, cond_true]

theorem bx_eta (b : Bx) : (⟨b.room, b.items⟩ : Bx) = b := by cases b; rfl

theorem laws_eqBox_refl {b : Bx} (h : mB b ≤ 4294967296) : laws_eqBox b b = some true := by
  apply laws_eqBox_le
  unfold mB at h
  rw [laws_eqIntS_refl (by omega)]; simp

def ringOk (r : Rg) : Bool := decide (1 ≤ r.room ∧ r.room ≤ 4) && decide (0 ≤ r.head ∧ r.head < r.room) && decide (0 ≤ r.len ∧ r.len ≤ r.room) && decide ((r.slots.length : Int) = 4) && words r.slots

theorem ringOk_facts {r : Rg} (h : ringOk r = true) : 1 ≤ r.room ∧ r.room ≤ 4 ∧ 0 ≤ r.head ∧ r.head < r.room ∧ 0 ≤ r.len ∧ r.len ≤ r.room ∧ r.slots.length = 4 ∧ words r.slots = true := by
  unfold ringOk at h
  simp only [Bool.and_eq_true, decide_eq_true_eq] at h
  exact ⟨h.1.1.1.1.1, h.1.1.1.1.2, h.1.1.1.2.1, h.1.1.1.2.2, h.1.1.2.1, h.1.1.2.2, by omega, h.2⟩

theorem impl_RingValid_eq {r : Rg} (h : r.slots.length ≤ 100) : impl_RingValid r = some (ringOk r) := by
  apply impl_RingValid_le
  rw [impl_areWords_eq (by omega)]
  unfold ringOk
  by_cases c1 : 1 ≤ r.room <;> by_cases c2 : r.room ≤ 4 <;> by_cases c3 : 0 ≤ r.head <;> by_cases c4 : r.head < r.room <;> by_cases c5 : 0 ≤ r.len <;> by_cases c6 : r.len ≤ r.room <;> by_cases c7 : (r.slots.length : Int) = 4 <;> simp [c1, c2, c3, c4, c5, c6, c7]

theorem spec_RingValid_eq {r : Rg} (h : r.slots.length ≤ 100) : spec_RingValid r = some (ringOk r) := by
  apply spec_RingValid_le
  simp only [spec_l6In_eq, spec_l4Words_eq (show (r.slots.length : Int) ≤ 4294967296 by omega), bnd_some]
  unfold ringOk
  by_cases c1 : 1 ≤ r.room ∧ r.room ≤ 4
  · rw [wrap_id (by omega) (by omega)]
    have e : (0 ≤ r.head ∧ r.head ≤ r.room - 1) = (0 ≤ r.head ∧ r.head < r.room) := propext (by omega)
    simp only [e]
    by_cases c3 : 0 ≤ r.head ∧ r.head < r.room <;> by_cases c5 : 0 ≤ r.len ∧ r.len ≤ r.room <;> simp [c1, c3, c5]
  · simp [c1]

def slotAt (r : Rg) (i : Int) : Int := r.slots.getD i.toNat 0

theorem geti_slot {r : Rg} (h : ringOk r = true) {i : Int} (h0 : 0 ≤ i) (h1 : i < r.room) : geti r.slots i = some (slotAt r i) := by
  have hf := ringOk_facts h
  have hi : i.toNat < r.slots.length := by omega
  unfold slotAt geti
  rw [if_pos h0, List.getD_eq_getElem?_getD, List.getElem?_eq_getElem hi]; rfl

def ringItems (r : Rg) : List Int := (List.range r.len.toNat).map fun (i : Nat) => slotAt r ((r.head + i) % r.room)

theorem ringBox_l {r : Rg} (h : ringOk r = true) {b0 : Int} {f0 : Bool} {l0 : List Int} : ∀ (d i : Nat) (f : Bool), i + d = r.len.toNat →
    Ok (impl_RingBox_l1 r.len i r.room r.head r.len r.slots b0 f0 l0 r.room f ((List.range i).map fun (i : Nat) => slotAt r ((r.head + i) % r.room))) fun x => x.2.2.1 = r.room ∧ x.2.2.2.2 = ringItems r
  | 0, i, f, hd => by
    have hf := ringOk_facts h
    apply Ok.le (impl_RingBox_l1_le _ _ _ _ _ _ _ _ _ _ _ _)
    have hi : ¬ ((i : Int) < r.len) := by omega
    simp only [hi, decide_false, cond_false]
    refine Ok.of ⟨rfl, ?_⟩
    have : i = r.len.toNat := by omega
    subst this; rfl
  | d + 1, i, f, hd => by
    have hf := ringOk_facts h
    apply Ok.le (impl_RingBox_l1_le _ _ _ _ _ _ _ _ _ _ _ _)
    have hi : (i : Int) < r.len := by omega
    have hm0 : 0 ≤ (r.head + i) % r.room := Int.emod_nonneg _ (by omega)
    have hm1 : (r.head + i) % r.room < r.room := Int.emod_lt_of_pos _ (by omega)
    simp only [hi, decide_true, cond_true]
    rw [wrap_id (n := r.head + i) (by omega) (by omega), remI_pos (by omega), bnd_some, Int.tmod_eq_emod_of_nonneg (by omega), geti_slot h hm0 hm1, bnd_some, appL_some (by simp; omega), bnd_some, wrap_succ (by omega)]
    have e : (List.range i).map (fun (i : Nat) => slotAt r ((r.head + i) % r.room)) ++ [slotAt r ((r.head + i) % r.room)] = (List.range (i + 1)).map fun (i : Nat) => slotAt r ((r.head + i) % r.room) := by
      rw [List.range_succ, List.map_append]; rfl
    rw [e]
    exact ringBox_l h d (i + 1) true (by omega)

theorem impl_RingBox_eq {r : Rg} (hs : r.slots.length ≤ 100) (h : ringOk r = true) : impl_RingBox r = some (⟨r.room, ringItems r⟩, true) := by
  apply impl_RingBox_le
  rw [impl_RingValid_eq hs, h, bnd_some]
  simp only [Bool.not_true, cond_false]
  obtain ⟨x, e, h1, h2⟩ := ringBox_l h (b0 := 0) (f0 := false) (l0 := []) r.len.toNat 0 false (by omega)
  have e' : impl_RingBox_l1 r.len 0 r.room r.head r.len r.slots 0 false [] r.room false [] = some x := e
  rw [e', bnd_some, h1, h2]

abbrev Tok := List UInt8

def Suf (L l : List Tok) : Prop := ∃ p, L = p ++ l

theorem Suf.trans {L l r : List Tok} (h : Suf L l) (h2 : ∃ p, l = p ++ r) : Suf L r := by
  obtain ⟨p, rfl⟩ := h
  obtain ⟨q, rfl⟩ := h2
  exact ⟨p ++ q, by rw [List.append_assoc]⟩

theorem take_get {α : Type} {l : List α} {i : Nat} (hi : i < l.length) : l.take (i + 1) = l.take i ++ [l[i]] := by rw [List.take_add_one, List.getElem?_eq_getElem hi]; rfl

theorem toIntSp_l {a : List Int} {A : List Ent} {h : Hd} (hl : (a.length : Int) ≤ 4294967296) : ∀ (d i : Nat) (b : List Int) (B : List Ent), i + d = a.length → b.length = a.length → b.take i = a.take i → Made .int A b h B → Ok (laws_toIntS_p_l1 a h i B) fun r => r.1 = h ∧ Made .int A a h r.2 ∧ r.2.length = B.length
  | 0, i, b, B, hd, hb, ht, hm => by
    apply Ok.le (laws_toIntS_p_l1_le _ _ _ _)
    have hi : ¬ ((i : Int) < a.length) := by omega
    have : b = a := by rw [List.take_of_length_le (by omega), List.take_of_length_le (by omega)] at ht; exact ht
    subst this
    simp only [hi, decide_false, cond_false]
    exact Ok.of ⟨rfl, hm, rfl⟩
  | d + 1, i, b, B, hd, hb, ht, hm => by
    apply Ok.le (laws_toIntS_p_l1_le _ _ _ _)
    have hi : (i : Int) < a.length := by omega
    have hi' : i < a.length := by omega
    have hib : i < b.length := by omega
    have hn : (i : Int) < h.n := by rw [hm.cnt]; omega
    simp only [hi, decide_true, cond_true, geti_nat', List.getElem?_eq_getElem hi', bnd_some, wrap_succ (show (i : Int) < 9223372036854775807 by omega), idxN_eq (show 0 ≤ (i : Int) by omega) hn, Int.toNat_natCast, hm.row (List.getElem?_eq_getElem hib)]
    refine (toIntSp_l (h := h) hl d (i + 1) (b.set i a[i]) _ (by omega) (by simpa using hb) ?_ (hm.set flatC_int)).mono fun r hr => ⟨hr.1, hr.2.1, by rw [hr.2.2, length_set]⟩
    rw [take_get (by simpa using hib), take_get hi', List.take_set_of_le (by omega), ht]
    simp

theorem laws_toIntS_p_ok {a : List Int} (hl : (a.length : Int) ≤ 4294967296) (A : List Ent) : Ok (laws_toIntS_p a A) fun r => r.1.id = some A.length ∧ Made .int A a r.1 r.2 ∧ r.2.length = A.length + 1 := by
  apply Ok.le (laws_toIntS_p_le _ _)
  have hmd : made (a.length : Int) = some a.length := by unfold made; rw [if_pos (by omega)]; simp
  rw [hmd, bnd_some]
  have h0 : Made .int A (List.replicate a.length (zeroD .int)) ⟨some A.length, a.length⟩ (arPush A .int (List.replicate a.length (zeroD .int))) := by
    have := Made.push (A := A) (B := A) (c := .int) (l := List.replicate a.length (zeroD .int)) (Grow.refl A) flatC_int
    rwa [List.length_replicate] at this
  refine Ok.bnd (toIntSp_l (h := ⟨some A.length, a.length⟩) hl a.length 0 (List.replicate a.length (zeroD .int)) _ (by omega) (by simp) (by simp) h0) fun r hr => ?_
  exact Ok.of ⟨by rw [hr.1], by rw [hr.1]; exact hr.2.1, by rw [hr.2.2, length_push]⟩

/-- What a mark does to rows that a header stands for. -/
structure Marked (c : TC) (h : Hd) (A B : List Ent) (l : List (Den c)) : Prop where
  get : arGet B c h.id = some l
  ext : Ext (fun n => h.id = some n) A B
  len : B.length = A.length

theorem Marked.none {c : TC} {h : Hd} {A : List Ent} {l : List (Den c)} (hg : arGet A c h.id = some l) : Marked c h A A l := ⟨hg, Ext.refl _ _, rfl⟩

theorem Marked.set {c : TC} {h : Hd} {A B : List Ent} {l : List (Den c)} (hm : Marked c h A B l) {i : Nat} (hi : i < l.length) (x : Den c) : Marked c h A (arSet B c h.id i x) (l.set i x) := by
  obtain ⟨id, n⟩ := h
  cases id with
  | none =>
    have h0 := hm.get
    rw [arGet_none] at h0
    injection h0 with h0
    subst h0
    exact hm
  | some k => exact ⟨arSet_get hm.get, hm.ext.trans (arSet_ext fun n hn => hn), by rw [length_set]; exact hm.len⟩

theorem set_mid {α : Type} (d : List α) (e x : α) (r : List α) : (d ++ e :: r).set d.length x = d ++ x :: r := by
  rw [List.set_append_right _ _ (Nat.le_refl _)]; simp

theorem get_mid {α : Type} (d : List α) (e : α) (r : List α) : (d ++ e :: r)[d.length]? = some e := by
  rw [List.getElem?_append_right (Nat.le_refl _)]; simp

def mkI : Int → List Int → List Int
  | _, [] => []
  | k, _ :: r => k :: mkI (k + 1) r

theorem mkI_len : ∀ (k : Int) (l : List Int), (mkI k l).length = l.length
  | _, [] => rfl
  | k, _ :: r => by simp [mkI, mkI_len]

theorem markI_l {h : Hd} {A : List Ent} : ∀ (rest done : List Int) (k : Int) (B : List Ent), Marked .int h A B (done ++ rest) → h.n = done.length + rest.length → h.n ≤ 4294967296 → 0 ≤ k → k + rest.length ≤ 4611686018427387904 → Ok (laws_markIntS_p_l1 h k done.length B) fun r => r.1 = k + rest.length ∧ Marked .int h A r.2 (done ++ mkI k rest)
  | [], done, k, B, hm, hn, hb, h0, hk => by
    apply Ok.le (laws_markIntS_p_l1_le _ _ _ _)
    have hi : ¬ ((done.length : Int) < ((h.n : Nat) : Int)) := by simp only [List.length_nil] at hn; omega
    simp only [hi, decide_false, cond_false]
    exact Ok.of ⟨by simp, hm⟩
  | e :: rest, done, k, B, hm, hn, hb, h0, hk => by
    apply Ok.le (laws_markIntS_p_l1_le _ _ _ _)
    simp only [List.length_cons] at hn hk
    have hi : (done.length : Int) < ((h.n : Nat) : Int) := by omega
    simp only [hi, decide_true, cond_true, idxN_eq (show 0 ≤ (done.length : Int) by omega) hi, Int.toNat_natCast, bnd_some, arRow_eq hm.get (get_mid done e rest)]
    have h1 := hm.set (i := done.length) (by simp) k
    rw [set_mid] at h1
    rw [wrap_id (n := k + 1) (by omega) (by omega), wrap_succ (show (done.length : Int) < 9223372036854775807 by omega)]
    have ih := markI_l rest (done ++ [k]) (k + 1) _ (by rw [List.append_assoc]; exact h1) (by simp; omega) hb (by omega) (by omega)
    simp only [List.length_append, List.length_cons, List.length_nil, Nat.zero_add] at ih
    refine ih.mono fun r hr => ⟨by rw [hr.1]; simp; omega, ?_⟩
    have := hr.2
    rw [List.append_assoc] at this
    exact this

theorem laws_markIntS_p_ok {h : Hd} {A : List Ent} {l : List Int} {k : Int} (hg : arGet A .int h.id = some l) (hn : h.n = l.length) (hl : l.length ≤ 4294967296) (h0 : 0 ≤ k) (hk : k + l.length ≤ 4611686018427387904) : Ok (laws_markIntS_p h k A) fun r => r.1 = k + l.length ∧ Marked .int h A r.2 (mkI k l) := by
  apply Ok.le (laws_markIntS_p_le _ _ _)
  exact Ok.bnd (markI_l (h := h) l [] k A (Marked.none hg) (by simpa using hn) (by omega) h0 hk) fun r hr => Ok.of hr

theorem heldI_l {L : List Int} : ∀ (rest done : List Int) (k : Int), L = done ++ mkI k rest → L.length ≤ 4294967296 → 0 ≤ k → k + rest.length ≤ 4611686018427387904 → laws_heldIntS_l1 L k done.length = some (.inl (k + rest.length))
  | [], done, k, hL, hl, h0, hk => by
    subst hL
    apply laws_heldIntS_l1_le
    simp [mkI]
  | e :: rest, done, k, hL, hl, h0, hk => by
    apply laws_heldIntS_l1_le
    simp only [List.length_cons] at hk
    have hlen : L.length = done.length + (rest.length + 1) := by rw [hL]; simp [mkI_len]
    have hi : (done.length : Int) < (L.length : Int) := by omega
    have hget : L[done.length]? = some k := by rw [hL]; exact get_mid done k _
    have ih := heldI_l (L := L) rest (done ++ [k]) (k + 1) (by rw [List.append_assoc]; exact hL) hl (by omega) (by omega)
    simp only [List.length_append, List.length_cons, List.length_nil, Nat.zero_add] at ih
    simp only [hi, decide_true, cond_true, geti_nat', hget, bnd_some, Bool.not_true, cond_false]
    rw [wrap_id (n := k + 1) (by omega) (by omega), wrap_succ (show (done.length : Int) < 9223372036854775807 by omega), ih]
    simp; omega

theorem laws_heldIntS_eq {l : List Int} {k : Int} (hl : l.length ≤ 4294967296) (h0 : 0 ≤ k) (hk : k + l.length ≤ 4611686018427387904) : laws_heldIntS (mkI k l) k = some (k + l.length) := by
  apply laws_heldIntS_le
  have := heldI_l (L := mkI k l) l [] k rfl (by rw [mkI_len]; exact hl) h0 hk
  have e : laws_heldIntS_l1 (mkI k l) k 0 = some (.inl (k + l.length)) := this
  rw [e]; simp [selm]

theorem laws_szRing_eq {r : Rg} (hw : wfR r) : Ok (laws_szRing r 1048576) fun k => k < 0 ∨ (r.slots.length : Int) ≤ 1048576 := by
  apply Ok.le (laws_szRing_le _ _)
  rw [laws_szIntS_eq hw.2.2.2.1 (by omega) (by omega), bnd_some]
  refine Ok.bif (fun _ => Ok.of (.inl (by omega))) (fun h => ?_)
  simp only [decide_eq_false_iff_not] at h
  refine Ok.of (.inr ?_)
  unfold left at h
  split at h <;> omega

theorem rg_eta (r : Rg) : (⟨r.room, r.head, r.len, r.slots⟩ : Rg) = r := by cases r; rfl

theorem laws_toRing_eq {r : Rg} (h : (r.slots.length : Int) ≤ 4294967296) : laws_toRing r = some r := by
  apply laws_toRing_le
  rw [laws_toIntS_eq h, bnd_some, rg_eta]

theorem laws_toRing_p_ok {r : Rg} (h : (r.slots.length : Int) ≤ 4294967296) (A : List Ent) : Ok (laws_toRing_p r A) fun q => q.1.room = r.room ∧ q.1.head = r.head ∧ q.1.len = r.len ∧ q.1.slots.id = some A.length ∧ Made .int A r.slots q.1.slots q.2 ∧ q.2.length = A.length + 1 := by
  apply Ok.le (laws_toRing_p_le _ _)
  refine Ok.bnd (laws_toIntS_p_ok h A) fun q hq => ?_
  exact Ok.of ⟨rfl, rfl, rfl, hq.1, hq.2.1, hq.2.2⟩

theorem laws_eqRing_refl {r : Rg} (h : (r.slots.length : Int) ≤ 4294967296) : laws_eqRing r r = some true := by
  apply laws_eqRing_le
  rw [laws_eqIntS_refl h]; simp

theorem laws_eqBox_refl' {r : Bx} (h : (r.items.length : Int) ≤ 4294967296) : laws_eqBox r r = some true := laws_eqBox_refl (by unfold mB; omega)

theorem laws_heldBox_eq {r : Bx} {l : List Int} (hs : r.items = mkI 1 l) (h : (l.length : Int) ≤ 4294967296) : laws_heldBox r 1 = some (1 + (l.length : Int)) := by
  apply laws_heldBox_le
  rw [hs, laws_heldIntS_eq (by omega) (by omega) (by omega), bnd_some]
  have : ¬ ((1 : Int) + l.length < 0) := by omega
  simp [this]

theorem laws_markRing_p_ok {r : RgH} {A : List Ent} {l : List Int} (hg : arGet A .int r.slots.id = some l) (hn : r.slots.n = l.length) (hl : l.length ≤ 4294967296) : Ok (laws_markRing_p r 1 A) fun q => q.1 = 1 + l.length ∧ Marked .int r.slots A q.2 (mkI 1 l) := by
  apply Ok.le (laws_markRing_p_le _ _ _)
  exact Ok.bnd (laws_markIntS_p_ok hg hn hl (by omega) (by omega)) fun q hq => Ok.of hq

theorem laws_markBox_p_ok {r : BxH} {A : List Ent} {l : List Int} (hg : arGet A .int r.items.id = some l) (hn : r.items.n = l.length) (hl : l.length ≤ 4294967296) : Ok (laws_markBox_p r 1 A) fun q => q.1 = 1 + l.length ∧ Marked .int r.items A q.2 (mkI 1 l) := by
  apply Ok.le (laws_markBox_p_le _ _ _)
  exact Ok.bnd (laws_markIntS_p_ok hg hn hl (by omega) (by omega)) fun q hq => Ok.of hq

/-- The answers for rings of whatever length. -/
theorem impl_RingValid_big {r : Rg} (h : (r.slots.length : Int) ≤ 4294967296) : impl_RingValid r = some (ringOk r) := by
  apply impl_RingValid_le
  rw [impl_areWords_eq h, bnd_some]
  unfold ringOk
  by_cases h1 : 1 ≤ r.room <;> by_cases h2 : r.room ≤ 4 <;> by_cases h3 : 0 ≤ r.head <;> by_cases h4 : r.head < r.room <;> by_cases h5 : 0 ≤ r.len <;> by_cases h6 : r.len ≤ r.room <;> by_cases h7 : (r.slots.length : Int) = 4 <;> simp [h1, h2, h3, h4, h5, h6, h7]

theorem spec_RingValid_big {r : Rg} (h : (r.slots.length : Int) ≤ 4294967296) : spec_RingValid r = some (ringOk r) := by
  by_cases h4 : r.slots.length ≤ 100
  · exact spec_RingValid_eq h4
  · apply spec_RingValid_le
    have h0 : ringOk r = false := by
      cases hh : ringOk r
      · rfl
      · have := ringOk_facts hh; omega
    simp only [spec_l6In_eq, bnd_some]
    have hw : spec_l4Words r.slots 4 = some false := by
      rw [spec_l4Words_eq h]
      have : ¬ ((r.slots.length : Int) = 4) := by omega
      simp [this]
    rw [h0, hw, bnd_some]
    by_cases h1 : 1 ≤ r.room ∧ r.room ≤ 4 <;> by_cases h2 : 0 ≤ r.head ∧ r.head ≤ wrap64 (r.room - 1) <;> by_cases h3 : 0 ≤ r.len ∧ r.len ≤ r.room <;> simp [h1, h2, h3]

def boxR (r : Rg) : Bx × Bool := if ringOk r = true then (⟨r.room, ringItems r⟩, true) else (⟨0, []⟩, false)

theorem boxR_len (r : Rg) : (boxR r).1.items.length ≤ 4 := by
  unfold boxR
  split
  · rename_i h
    have hf := ringOk_facts h
    simp only [ringItems, List.length_map, List.length_range]; omega
  · simp

theorem impl_RingBox_big {r : Rg} (h : (r.slots.length : Int) ≤ 4294967296) : impl_RingBox r = some (boxR r) := by
  unfold boxR
  split
  · rename_i hk
    have hf := ringOk_facts hk
    exact impl_RingBox_eq (by omega) hk
  · rename_i hk
    simp only [Bool.not_eq_true] at hk
    apply impl_RingBox_le
    rw [impl_RingValid_big h, hk, bnd_some]; rfl

theorem specBox_l {r : Rg} (h : ringOk r = true) {b0 : Int} {f0 : Bool} {l0 : List Int} : ∀ (d i : Nat) (f : Bool), i + d = r.len.toNat →
    Ok (spec_RingBox_l1 i r.room r.head r.len r.slots b0 f0 l0 r.room f ((List.range i).map fun (i : Nat) => slotAt r ((r.head + i) % r.room))) fun x => x.2.2.1 = r.room ∧ x.2.2.2.2 = ringItems r
  | 0, i, f, hd => by
    have hf := ringOk_facts h
    apply Ok.le (spec_RingBox_l1_le _ _ _ _ _ _ _ _ _ _ _)
    have hi : ¬ ((i : Int) < r.len) := by omega
    simp only [hi, decide_false, cond_false]
    refine Ok.of ⟨rfl, ?_⟩
    have : i = r.len.toNat := by omega
    subst this; rfl
  | d + 1, i, f, hd => by
    have hf := ringOk_facts h
    apply Ok.le (spec_RingBox_l1_le _ _ _ _ _ _ _ _ _ _ _)
    have hi : (i : Int) < r.len := by omega
    have hm0 : 0 ≤ (r.head + i) % r.room := Int.emod_nonneg _ (by omega)
    have hm1 : (r.head + i) % r.room < r.room := Int.emod_lt_of_pos _ (by omega)
    simp only [hi, decide_true, cond_true]
    rw [wrap_id (n := r.head + i) (by omega) (by omega), remI_pos (by omega), bnd_some, Int.tmod_eq_emod_of_nonneg (by omega), geti_slot h hm0 hm1, bnd_some, appL_some (by simp; omega), bnd_some, wrap_succ (by omega)]
    have e : (List.range i).map (fun (i : Nat) => slotAt r ((r.head + i) % r.room)) ++ [slotAt r ((r.head + i) % r.room)] = (List.range (i + 1)).map fun (i : Nat) => slotAt r ((r.head + i) % r.room) := by
      rw [List.range_succ, List.map_append]; rfl
    rw [e]
    exact specBox_l h d (i + 1) true (by omega)

theorem spec_RingBox_big {r : Rg} (h : (r.slots.length : Int) ≤ 4294967296) : spec_RingBox r = some (boxR r) := by
  apply spec_RingBox_le
  rw [spec_RingValid_big h, bnd_some]
  unfold boxR
  cases hk : ringOk r
  · simp
  · obtain ⟨x, e, h1, h2⟩ := specBox_l hk (b0 := 0) (f0 := false) (l0 := []) r.len.toNat 0 false (by omega)
    have e' : spec_RingBox_l1 0 r.room r.head r.len r.slots 0 false [] r.room false ([] : List Int) = some x := e
    simp only [Bool.not_true, cond_false, e', bnd_some, h1, h2, if_true]

theorem boxp_l {r : Rg} (hk : ringOk r = true) {A : List Ent} {b0 : Int} {l0 : Hd} : ∀ (d i : Nat) (h : Hd) (B : List Ent), i + d = r.len.toNat → Made .int A ((List.range i).map fun (i : Nat) => slotAt r ((r.head + i) % r.room)) h B →
    Ok (impl_RingBox_p_l1 r.len i r.room r.head r.len r.slots b0 l0 r.room h B) fun x => x.2.2.1 = r.room ∧ Made .int A (ringItems r) x.2.2.2.1 x.2.2.2.2
  | 0, i, h, B, hd, hm => by
    have hf := ringOk_facts hk
    apply Ok.le (impl_RingBox_p_l1_le _ _ _ _ _ _ _ _ _ _ _)
    have hi : ¬ ((i : Int) < r.len) := by omega
    simp only [hi, decide_false, cond_false]
    have : i = r.len.toNat := by omega
    subst this
    exact Ok.of ⟨rfl, hm⟩
  | d + 1, i, h, B, hd, hm => by
    have hf := ringOk_facts hk
    apply Ok.le (impl_RingBox_p_l1_le _ _ _ _ _ _ _ _ _ _ _)
    have hi : (i : Int) < r.len := by omega
    have hm0 : 0 ≤ (r.head + i) % r.room := Int.emod_nonneg _ (by omega)
    have hm1 : (r.head + i) % r.room < r.room := Int.emod_lt_of_pos _ (by omega)
    simp only [hi, decide_true, cond_true]
    rw [wrap_id (n := r.head + i) (by omega) (by omega), remI_pos (by omega), bnd_some, Int.tmod_eq_emod_of_nonneg (by omega), geti_slot hk hm0 hm1, bnd_some, wrap_succ (by omega)]
    refine Ok.bnd (hm.app (ys := [slotAt r ((r.head + i) % r.room)]) flatC_int (by have := hm.cnt; simp at this ⊢; omega)) fun B' hB' => ?_
    have e : (List.range i).map (fun (i : Nat) => slotAt r ((r.head + i) % r.room)) ++ [slotAt r ((r.head + i) % r.room)] = (List.range (i + 1)).map fun (i : Nat) => slotAt r ((r.head + i) % r.room) := by
      rw [List.range_succ, List.map_append]; rfl
    rw [e] at hB'
    exact boxp_l hk d (i + 1) _ _ (by omega) hB'.1

theorem impl_RingBox_p_ok {r : Rg} (h : (r.slots.length : Int) ≤ 4294967296) (A : List Ent) : Ok (impl_RingBox_p r A) fun q => q.1.room = (boxR r).1.room ∧ Made .int A (boxR r).1.items q.1.items q.2.2 ∧ q.2.1 = (boxR r).2 := by
  apply Ok.le (impl_RingBox_p_le _ _)
  rw [impl_RingValid_big h, bnd_some]
  unfold boxR
  cases hk : ringOk r
  · simp only [Bool.not_false, cond_true]
    exact Ok.of ⟨rfl, Made.nil (Grow.refl A), rfl⟩
  · simp only [Bool.not_true, cond_false, if_true]
    have := boxp_l hk (A := A) (b0 := 0) (l0 := ⟨none, 0⟩) r.len.toNat 0 ⟨none, 0⟩ A (by omega) (Made.nil (Grow.refl A))
    have e' : Ok (impl_RingBox_p_l1 r.len 0 r.room r.head r.len r.slots 0 (⟨none, 0⟩ : Hd) r.room (⟨none, 0⟩ : Hd) A) fun x => x.2.2.1 = r.room ∧ Made .int A (ringItems r) x.2.2.2.1 x.2.2.2.2 := this
    exact Ok.bnd e' fun x hx => Ok.of ⟨hx.1, hx.2, rfl⟩

theorem laws_FnExactRingBox_eq (r : Rg) (hw : wfR r) : laws_FnExactRingBox r = some true := by
  apply laws_FnExactRingBox_le
  apply Ok.some
  refine Ok.bnd (laws_szRing_eq hw) fun r1 h1 => ?_
  refine Ok.bif (fun _ => Ok.of rfl) (fun hb => ?_)
  simp only [decide_eq_false_iff_not] at hb
  have hs : (r.slots.length : Int) ≤ 1048576 := by omega
  have hts := boxR_len r
  rw [laws_toRing_eq (by omega), bnd_some, spec_RingBox_big (by omega), bnd_some]
  refine Ok.bnd (laws_toRing_p_ok (by omega) []) fun r4 h4 => ?_
  obtain ⟨⟨x0, x1, x2, x3⟩, B4⟩ := r4
  obtain ⟨e0, e1, e2, h4i, h4m, h4l⟩ := h4
  dsimp only at e0 e1 e2 h4i h4m h4l ⊢
  subst e0 e1 e2
  rw [arView_int, h4m.get, bnd_some, rg_eta]
  refine Ok.bnd (impl_RingBox_p_ok (by omega) (Vs.blank B4)) fun r6 h6 => ?_
  obtain ⟨⟨y0, y3⟩, y5, B6⟩ := r6
  obtain ⟨f0, h6, f5⟩ := h6
  dsimp only at f0 h6 f5 ⊢
  subst f0 f5
  refine Ok.bnd h6.join fun B7 h7 => ?_
  have hx7 : arGet B7 .int x3.id = some r.slots := h7.grow.ext.getO h4m.get (fun _ _ h => h)
  have hne : ∀ n, y3.id = some n → ¬ x3.id = some n := by
    intro n hn hh
    have h8 := h7.id n hn
    rw [h4i] at hh
    injection hh with hh
    rw [h4l] at h8
    simp at h8 hh
    omega
  rw [arView_int, h7.get, bnd_some, bx_eta, laws_eqBox_refl' (by omega), bnd_some]
  simp only [bnd_some, Bool.not_true, cond_false, decide_true, beq_self_eq_true]
  rw [arView_int, hx7]
  simp only [bnd_some]
  rw [rg_eta, laws_eqRing_refl (by omega)]
  simp only [bnd_some, Bool.not_true, cond_false]
  refine Ok.bnd (laws_markRing_p_ok (r := ⟨r.room, r.head, r.len, x3⟩) hx7 h4m.cnt (by omega)) fun r13 h13 => ?_
  obtain ⟨h13v, h13⟩ := h13
  have e13 : ¬ r13.1 < 0 := by omega
  simp only [e13, decide_false, cond_false]
  have hg13 : arGet r13.2 .int y3.id = some (boxR r).1.items := h13.ext.getO h7.get hne
  rw [arView_int, hg13, bnd_some, bx_eta, laws_eqBox_refl' (by omega), bnd_some]
  simp only [bnd_some, Bool.not_true, cond_false]
  refine Ok.bnd (laws_markBox_p_ok (r := ⟨(boxR r).1.room, y3⟩) hg13 h7.cnt (by omega)) fun r16 h16 => ?_
  obtain ⟨h16v, h16⟩ := h16
  have e16 : ¬ ((1 : Int) + ((boxR r).1.items.length : Int) < 0) := by omega
  have hg16 : arGet r16.2 .int y3.id = some (mkI 1 (boxR r).1.items) := h16.get
  rw [arView_int, hg16, bnd_some, laws_heldBox_eq (l := (boxR r).1.items) rfl (by omega), bnd_some, h16v, impl_RingBox_big (by omega), bnd_some, laws_eqBox_refl' (by omega), bnd_some]
  simp only [e16, decide_false, cond_false, decide_true, Bool.not_true, bnd_some, beq_self_eq_true, laws_heldBox_eq (r := ⟨(boxR r).1.room, mkI 1 (boxR r).1.items⟩) (l := (boxR r).1.items) rfl (show ((boxR r).1.items.length : Int) ≤ 4294967296 by omega)]
  exact Ok.of rfl
end Go.TFnExactRingBox
