/- The plain law: what the functions answer. -/
import Derived.Test.YtbofepgnakbohaaDFnExactTraceOfE0
import Derived.Test.YtbofepgnakbohaaLkA
set_option linter.unusedVariables false
set_option linter.unusedSimpArgs false
namespace Go.TFnExactTraceOf
open Go Go.RowKit Go.Vs Go.Tv
/-- A reader of bytes: how far it may have come. -/
def Rd (b : List Int) (p m : Int) : Prop := (∀ x ∈ b, 0 ≤ x ∧ x ≤ 255) ∧ (b.length : Int) ≤ 2000 ∧ 0 ≤ p ∧ p ≤ m

theorem Rd.mono {b : List Int} {p m n : Int} (h : Rd b p m) (hm : m ≤ n) : Rd b p n := ⟨h.1, h.2.1, h.2.2.1, by have := h.2.2.2; omega⟩

theorem wrap_succ {i : Nat} (h : (i : Int) < 9223372036854775807) : wrap64 ((i : Int) + 1) = ((i + 1 : Nat) : Int) := by
  rw [wrap_id (by omega) (by omega)]; omega

theorem appL_some {α : Type} {x y : List α} (h : x.length + y.length ≤ 4294967296) : appL x y = some (x ++ y) := by unfold appL; rw [if_pos h]

abbrev Tok := List UInt8

def Suf (L l : List Tok) : Prop := ∃ p, L = p ++ l

theorem Suf.trans {L l r : List Tok} (h : Suf L l) (h2 : ∃ p, l = p ++ r) : Suf L r := by
  obtain ⟨p, rfl⟩ := h
  obtain ⟨q, rfl⟩ := h2
  exact ⟨p ++ q, by rw [List.append_assoc]⟩

theorem take_get {α : Type} {l : List α} {i : Nat} (hi : i < l.length) : l.take (i + 1) = l.take i ++ [l[i]] := by rw [List.take_add_one, List.getElem?_eq_getElem hi]; rfl

def ofs (t : Int) (l : List Evt) : List Evt := l.filter fun e => decide (e.task = t)

theorem ofs_take {t : Int} {l : List Evt} {i : Nat} (hi : i < l.length) : ofs t (l.take (i + 1)) = ofs t (l.take i) ++ (if l[i].task = t then [l[i]] else []) := by
  unfold ofs
  rw [take_get hi, List.filter_append]
  congr 1
  by_cases h : l[i].task = t <;> simp [h]

theorem ofs_len (t : Int) (l : List Evt) : (ofs t l).length ≤ l.length := List.length_filter_le _ _

theorem ofs_take_len (t : Int) (l : List Evt) (i : Nat) : (ofs t (l.take i)).length ≤ l.length := Nat.le_trans (ofs_len _ _) (by simp; omega)

theorem specOf_l {l : List Evt} {t : Int} (hl : l.length ≤ 4294960000) : ∀ (d i : Nat) (b : Bool), i + d = l.length → Ok (spec_TraceOf_l1 l t b (ofs t (l.take i)) i) fun r => r.2 = ofs t l
  | 0, i, b, hd => by
    apply Ok.le (spec_TraceOf_l1_le _ _ _ _ _)
    have hi : ¬ ((i : Int) < l.length) := by omega
    simp only [hi, decide_false, cond_false]
    exact Ok.of (by rw [List.take_of_length_le (by omega)])
  | d + 1, i, b, hd => by
    apply Ok.le (spec_TraceOf_l1_le _ _ _ _ _)
    have hi : (i : Int) < l.length := by omega
    have hi' : i < l.length := by omega
    have hlen := ofs_take_len t l i
    have ih := fun b => specOf_l (t := t) hl d (i + 1) b (by omega)
    rw [ofs_take hi'] at ih
    simp only [hi, decide_true, cond_true, geti_nat', List.getElem?_eq_getElem hi', bnd_some, wrap_succ (show (i : Int) < 9223372036854775807 by omega)]
    by_cases ht : l[i].task = t
    · simp only [ht, decide_true, cond_true, appL_some (show (ofs t (l.take i)).length + [l[i]].length ≤ 4294967296 by simp; omega), bnd_some]
      rw [if_pos ht] at ih
      exact ih true
    · simp only [ht, decide_false, cond_false]
      rw [if_neg ht, List.append_nil] at ih
      exact ih b

theorem spec_TraceOf_eq {l : List Evt} (hl : l.length ≤ 4294960000) (t : Int) : spec_TraceOf l t = some (ofs t l) := by
  apply spec_TraceOf_le
  obtain ⟨r, e, h⟩ := specOf_l (t := t) hl l.length 0 true (by omega)
  have e' : spec_TraceOf_l1 l t true ([] : List Evt) 0 = some r := e
  rw [e', bnd_some, h]

theorem implOf_l {l : List Evt} {t : Int} (hl : l.length ≤ 4294960000) : ∀ (d i : Nat) (b : Bool), i + d = l.length → Ok (impl_TraceOf_l1 t b (ofs t (l.take i)) l l.length i) fun r => r.2 = ofs t l
  | 0, i, b, hd => by
    apply Ok.le (impl_TraceOf_l1_le _ _ _ _ _ _)
    have hi : ¬ ((i : Int) < l.length) := by omega
    simp only [hi, decide_false, cond_false]
    exact Ok.of (by rw [List.take_of_length_le (by omega)])
  | d + 1, i, b, hd => by
    apply Ok.le (impl_TraceOf_l1_le _ _ _ _ _ _)
    have hi : (i : Int) < l.length := by omega
    have hi' : i < l.length := by omega
    have hlen := ofs_take_len t l i
    have ih := fun b => implOf_l (t := t) hl d (i + 1) b (by omega)
    rw [ofs_take hi'] at ih
    simp only [hi, decide_true, cond_true, geti_nat', List.getElem?_eq_getElem hi', bnd_some, wrap_succ (show (i : Int) < 9223372036854775807 by omega)]
    by_cases ht : l[i].task = t
    · simp only [ht, decide_true, cond_true, appL_some (show (ofs t (l.take i)).length + [l[i]].length ≤ 4294967296 by simp; omega), bnd_some]
      rw [if_pos ht] at ih
      exact ih true
    · simp only [ht, decide_false, cond_false]
      rw [if_neg ht, List.append_nil] at ih
      exact ih b

theorem impl_TraceOf_eq {l : List Evt} (hl : l.length ≤ 4294960000) (t : Int) : impl_TraceOf l t = some (ofs t l) := by
  apply impl_TraceOf_le
  obtain ⟨r, e, h⟩ := implOf_l (t := t) hl l.length 0 false (by omega)
  have e' : impl_TraceOf_l1 t false [] l l.length 0 = some r := e
  rw [e', bnd_some, h]

theorem implOfp_l {l : List Evt} {t : Int} {A : List Ent} (hl : l.length ≤ 4294960000) : ∀ (d i : Nat) (h : Hd) (B : List Ent), i + d = l.length → Made .event A (ofs t (l.take i)) h B → Ok (impl_TraceOf_p_l1 t h l l.length i B) fun r => Made .event A (ofs t l) r.1 r.2
  | 0, i, h, B, hd, hm => by
    apply Ok.le (impl_TraceOf_p_l1_le _ _ _ _ _ _)
    have hi : ¬ ((i : Int) < l.length) := by omega
    simp only [hi, decide_false, cond_false]
    rw [List.take_of_length_le (by omega)] at hm
    exact Ok.of hm
  | d + 1, i, h, B, hd, hm => by
    apply Ok.le (impl_TraceOf_p_l1_le _ _ _ _ _ _)
    have hi : (i : Int) < l.length := by omega
    have hi' : i < l.length := by omega
    have hlen := ofs_take_len t l i
    have ih := fun h B hm => implOfp_l (t := t) (A := A) hl d (i + 1) h B (by omega) hm
    rw [ofs_take hi'] at ih
    simp only [hi, decide_true, cond_true, geti_nat', List.getElem?_eq_getElem hi', bnd_some, wrap_succ (show (i : Int) < 9223372036854775807 by omega)]
    by_cases ht : l[i].task = t
    · rw [if_pos ht] at ih
      simp only [ht, decide_true, cond_true]
      refine Ok.bnd (hm.app (ys := [l[i]]) flatC_event (by have := hm.cnt; simp; omega)) fun B' hB' => ?_
      exact ih _ _ hB'.1
    · simp only [ht, decide_false, cond_false]
      rw [if_neg ht, List.append_nil] at ih
      exact ih h B hm

theorem impl_TraceOf_p_ok {l : List Evt} (hl : l.length ≤ 4294960000) (t : Int) (A : List Ent) : Ok (impl_TraceOf_p l t A) fun r => Made .event A (ofs t l) r.1 r.2 := by
  apply Ok.le (impl_TraceOf_p_le _ _ _)
  refine Ok.bnd (implOfp_l (t := t) (A := A) hl l.length 0 ⟨none, 0⟩ A (by omega) (Made.nil (Grow.refl A))) fun r hr => Ok.of hr

theorem laws_toEvent_eq (e : Evt) : laws_toEvent e = some e := by apply laws_toEvent_le; rfl

theorem toEventSp_l {a : List Evt} {A : List Ent} {h : Hd} (hl : (a.length : Int) ≤ 4294967296) : ∀ (d i : Nat) (b : List Evt) (B : List Ent), i + d = a.length → b.length = a.length → b.take i = a.take i → Made .event A b h B → Ok (laws_toEventS_p_l1 a h i B) fun r => r.1 = h ∧ Made .event A a h r.2 ∧ r.2.length = B.length
  | 0, i, b, B, hd, hb, ht, hm => by
    apply Ok.le (laws_toEventS_p_l1_le _ _ _ _)
    have hi : ¬ ((i : Int) < a.length) := by omega
    have : b = a := by rw [List.take_of_length_le (by omega), List.take_of_length_le (by omega)] at ht; exact ht
    subst this
    simp only [hi, decide_false, cond_false]
    exact Ok.of ⟨rfl, hm, rfl⟩
  | d + 1, i, b, B, hd, hb, ht, hm => by
    apply Ok.le (laws_toEventS_p_l1_le _ _ _ _)
    have hi : (i : Int) < a.length := by omega
    have hi' : i < a.length := by omega
    have hib : i < b.length := by omega
    have hn : (i : Int) < h.n := by rw [hm.cnt]; omega
    simp only [hi, decide_true, cond_true, geti_nat', List.getElem?_eq_getElem hi', bnd_some, laws_toEvent_eq, bnd_some, wrap_succ (show (i : Int) < 9223372036854775807 by omega), idxN_eq (show 0 ≤ (i : Int) by omega) hn, Int.toNat_natCast, hm.row (List.getElem?_eq_getElem hib)]
    refine (toEventSp_l (h := h) hl d (i + 1) (b.set i a[i]) _ (by omega) (by simpa using hb) ?_ (hm.set flatC_event)).mono fun r hr => ⟨hr.1, hr.2.1, by rw [hr.2.2, length_set]⟩
    rw [take_get (by simpa using hib), take_get hi', List.take_set_of_le (by omega), ht]
    simp

theorem laws_toEventS_p_ok {a : List Evt} (hl : (a.length : Int) ≤ 4294967296) (A : List Ent) : Ok (laws_toEventS_p a A) fun r => r.1.id = some A.length ∧ Made .event A a r.1 r.2 ∧ r.2.length = A.length + 1 := by
  apply Ok.le (laws_toEventS_p_le _ _)
  have hmd : made (a.length : Int) = some a.length := by unfold made; rw [if_pos (by omega)]; simp
  rw [hmd, bnd_some]
  have h0 : Made .event A (List.replicate a.length (zeroD .event)) ⟨some A.length, a.length⟩ (arPush A .event (List.replicate a.length (zeroD .event))) := by
    have := Made.push (A := A) (B := A) (c := .event) (l := List.replicate a.length (zeroD .event)) (Grow.refl A) flatC_event
    rwa [List.length_replicate] at this
  refine Ok.bnd (toEventSp_l (h := ⟨some A.length, a.length⟩) hl a.length 0 (List.replicate a.length (zeroD .event)) _ (by omega) (by simp) (by simp) h0) fun r hr => ?_
  exact Ok.of ⟨by rw [hr.1], by rw [hr.1]; exact hr.2.1, by rw [hr.2.2, length_push]⟩

/-- What a mark does to rows that a header stands for. -/
structure Marked (c : TC) (h : Hd) (A B : List Ent) (l : List (Den c)) : Prop where
  get : arGet B c h.id = some l
  ext : Ext (fun n => h.id = some n) A B
  len : B.length = A.length

theorem Marked.none {c : TC} {h : Hd} {A : List Ent} {l : List (Den c)} (hg : arGet A c h.id = some l) : Marked c h A A l := ⟨hg, Ext.refl _ _, rfl⟩

theorem Marked.set {c : TC} {h : Hd} {A B : List Ent} {l : List (Den c)} (hm : Marked c h A B l) {i : Nat} (hi : i < l.length) (x : Den c) : Marked c h A (arSet B c h.id i x) (l.set i x) := by
  obtain ⟨id, n⟩ := h
  cases id with
  | none =>
    have h0 := hm.get
    rw [arGet_none] at h0
    injection h0 with h0
    subst h0
    exact hm
  | some k => exact ⟨arSet_get hm.get, hm.ext.trans (arSet_ext fun n hn => hn), by rw [length_set]; exact hm.len⟩

theorem set_mid {α : Type} (d : List α) (e x : α) (r : List α) : (d ++ e :: r).set d.length x = d ++ x :: r := by
  rw [List.set_append_right _ _ (Nat.le_refl _)]; simp

theorem get_mid {α : Type} (d : List α) (e : α) (r : List α) : (d ++ e :: r)[d.length]? = some e := by
  rw [List.getElem?_append_right (Nat.le_refl _)]; simp

def mkE : Int → List Evt → List Evt
  | _, [] => []
  | k, _ :: r => ⟨k, k + 1, k + 2, k + 3⟩ :: mkE (k + 4) r

theorem mkE_len : ∀ (k : Int) (l : List Evt), (mkE k l).length = l.length
  | _, [] => rfl
  | k, _ :: r => by simp [mkE, mkE_len]

theorem markE_l {h : Hd} {A : List Ent} : ∀ (rest done : List Evt) (k : Int) (B : List Ent), Marked .event h A B (done ++ rest) → h.n = done.length + rest.length → h.n ≤ 4294967296 → 0 ≤ k → k + 4 * rest.length ≤ 4611686018427387904 → Ok (laws_markEventS_p_l1 h k done.length B) fun r => r.1 = k + 4 * rest.length ∧ Marked .event h A r.2 (done ++ mkE k rest)
  | [], done, k, B, hm, hn, hb, h0, hk => by
    apply Ok.le (laws_markEventS_p_l1_le _ _ _ _)
    have hi : ¬ ((done.length : Int) < ((h.n : Nat) : Int)) := by simp only [List.length_nil] at hn; omega
    simp only [hi, decide_false, cond_false]
    exact Ok.of ⟨by simp, hm⟩
  | e :: rest, done, k, B, hm, hn, hb, h0, hk => by
    apply Ok.le (laws_markEventS_p_l1_le _ _ _ _)
    simp only [List.length_cons] at hn hk
    have hi : (done.length : Int) < ((h.n : Nat) : Int) := by omega
    have h1 := hm.set (i := done.length) (by simp) (⟨k, e.kind, e.box, e.value⟩ : Evt)
    rw [set_mid] at h1
    have h2 := h1.set (i := done.length) (by simp) (⟨k, k + 1, e.box, e.value⟩ : Evt)
    rw [set_mid] at h2
    have h3 := h2.set (i := done.length) (by simp) (⟨k, k + 1, k + 2, e.value⟩ : Evt)
    rw [set_mid] at h3
    have h4 := h3.set (i := done.length) (by simp) (⟨k, k + 1, k + 2, k + 3⟩ : Evt)
    rw [set_mid] at h4
    simp only [hi, decide_true, cond_true, idxN_eq (show 0 ≤ (done.length : Int) by omega) hi, Int.toNat_natCast, bnd_some, arRow_eq hm.get (get_mid done e rest), wrap_id (n := k + 1) (by omega) (by omega), wrap_id (n := k + 2) (by omega) (by omega), wrap_id (n := k + 3) (by omega) (by omega), wrap_id (n := k + 4) (by omega) (by omega),
      arRow_eq h1.get (get_mid done _ rest), show k + 1 + 1 = k + 2 by omega, show k + 2 + 1 = k + 3 by omega, show k + 3 + 1 = k + 4 by omega, arRow_eq h2.get (get_mid done _ rest), arRow_eq h3.get (get_mid done _ rest), wrap_succ (show (done.length : Int) < 9223372036854775807 by omega)]
    have ih := markE_l rest (done ++ [⟨k, k + 1, k + 2, k + 3⟩]) (k + 4) _ (by rw [List.append_assoc]; exact h4) (by simp; omega) hb (by omega) (by omega)
    simp only [List.length_append, List.length_cons, List.length_nil, Nat.zero_add] at ih
    refine ih.mono fun r hr => ⟨by rw [hr.1]; simp; omega, ?_⟩
    have := hr.2
    rw [List.append_assoc] at this
    exact this

theorem laws_markEventS_p_ok {h : Hd} {A : List Ent} {l : List Evt} {k : Int} (hg : arGet A .event h.id = some l) (hn : h.n = l.length) (hl : l.length ≤ 4294967296) (h0 : 0 ≤ k) (hk : k + 4 * l.length ≤ 4611686018427387904) : Ok (laws_markEventS_p h k A) fun r => r.1 = k + 4 * l.length ∧ Marked .event h A r.2 (mkE k l) := by
  apply Ok.le (laws_markEventS_p_le _ _ _)
  exact Ok.bnd (markE_l (h := h) l [] k A (Marked.none hg) (by simpa using hn) (by omega) h0 hk) fun r hr => Ok.of hr

theorem heldE_l {L : List Evt} : ∀ (rest done : List Evt) (k : Int), L = done ++ mkE k rest → L.length ≤ 4294967296 → 0 ≤ k → k + 4 * rest.length ≤ 4611686018427387904 → laws_heldEventS_l1 L k done.length = some (.inl (k + 4 * rest.length))
  | [], done, k, hL, hl, h0, hk => by
    subst hL
    apply laws_heldEventS_l1_le
    simp [mkE]
  | e :: rest, done, k, hL, hl, h0, hk => by
    apply laws_heldEventS_l1_le
    simp only [List.length_cons] at hk
    have hlen : L.length = done.length + (rest.length + 1) := by rw [hL]; simp [mkE_len]
    have hi : (done.length : Int) < (L.length : Int) := by omega
    have hget : L[done.length]? = some ⟨k, k + 1, k + 2, k + 3⟩ := by rw [hL]; exact get_mid done _ _
    have ih := heldE_l (L := L) rest (done ++ [⟨k, k + 1, k + 2, k + 3⟩]) (k + 4) (by rw [List.append_assoc]; exact hL) hl (by omega) (by omega)
    simp only [List.length_append, List.length_cons, List.length_nil, Nat.zero_add] at ih
    simp only [hi, decide_true, cond_true, geti_nat', hget, bnd_some, Bool.not_true, cond_false, wrap_id (n := k + 1) (by omega) (by omega), wrap_id (n := k + 2) (by omega) (by omega), wrap_id (n := k + 3) (by omega) (by omega), wrap_id (n := k + 4) (by omega) (by omega),
      show k + 1 + 1 = k + 2 by omega, show k + 2 + 1 = k + 3 by omega, show k + 3 + 1 = k + 4 by omega, wrap_succ (show (done.length : Int) < 9223372036854775807 by omega)]
    rw [ih]
    simp; omega

theorem laws_heldEventS_eq {l : List Evt} {k : Int} (hl : l.length ≤ 4294967296) (h0 : 0 ≤ k) (hk : k + 4 * l.length ≤ 4611686018427387904) : laws_heldEventS (mkE k l) k = some (k + 4 * l.length) := by
  apply laws_heldEventS_le
  have := heldE_l (L := mkE k l) l [] k rfl (by rw [mkE_len]; exact hl) h0 hk
  have e : laws_heldEventS_l1 (mkE k l) k 0 = some (.inl (k + 4 * l.length)) := this
  rw [e]; simp [selm]

theorem laws_eqEvent_refl (e : Evt) : laws_eqEvent e e = some true := by apply laws_eqEvent_le; simp

theorem eqEventS_l {a : List Evt} (hl : (a.length : Int) ≤ 4294967296) : ∀ (d i : Nat), i + d = a.length → laws_eqEventS_l1 a a i = some (.inl ())
  | 0, i, hd => by
    apply laws_eqEventS_l1_le
    have hi : ¬ ((i : Int) < a.length) := by omega
    simp [hi]
  | d + 1, i, hd => by
    apply laws_eqEventS_l1_le
    have hi : (i : Int) < a.length := by omega
    have hi' : i < a.length := by omega
    have ih := eqEventS_l hl d (i + 1) (by omega)
    simp only [hi, decide_true, cond_true, geti_nat', List.getElem?_eq_getElem hi', bnd_some, laws_eqEvent_refl, Bool.not_true, cond_false, wrap_succ (show (i : Int) < 9223372036854775807 by omega)]
    exact ih

theorem laws_eqEventS_refl {a : List Evt} (hl : (a.length : Int) ≤ 4294967296) : laws_eqEventS a a = some true := by
  apply laws_eqEventS_le
  have e : laws_eqEventS_l1 a a 0 = some (.inl ()) := eqEventS_l hl a.length 0 (by omega)
  rw [e]; simp [selm]

theorem toEventS_l {a : List Evt} (hl : (a.length : Int) ≤ 4294967296) : ∀ (d i : Nat) (b : List Evt), i + d = a.length → b.length = a.length → b.take i = a.take i → laws_toEventS_l1 a i b = some a
  | 0, i, b, hd, hb, ht => by
    apply laws_toEventS_l1_le
    have hi : ¬ ((i : Int) < a.length) := by omega
    have : b = a := by rw [List.take_of_length_le (by omega), List.take_of_length_le (by omega)] at ht; exact ht
    simp [hi, this]
  | d + 1, i, b, hd, hb, ht => by
    apply laws_toEventS_l1_le
    have hi : (i : Int) < a.length := by omega
    have hi' : i < a.length := by omega
    have hib : i < b.length := by omega
    simp only [hi, decide_true, cond_true, geti_nat', List.getElem?_eq_getElem hi', List.getElem?_eq_getElem hib, bnd_some, laws_toEvent_eq, wrap_succ (show (i : Int) < 9223372036854775807 by omega), Int.toNat_natCast]
    refine toEventS_l hl d (i + 1) (b.set i a[i]) (by omega) (by simpa using hb) ?_
    rw [take_get (by simpa using hib), take_get hi', List.take_set_of_le (by omega), ht]
    simp

theorem laws_toEventS_eq {a : List Evt} (hl : (a.length : Int) ≤ 4294967296) : laws_toEventS a = some a := by
  apply laws_toEventS_le
  have hmd : made (a.length : Int) = some a.length := by unfold made; rw [if_pos (by omega)]; simp
  rw [hmd, bnd_some, show (0 : Int) = ((0 : Nat) : Int) by rfl, toEventS_l hl a.length 0 _ (by omega) (by simp) (by simp)]; rfl

theorem laws_szEventS_eq {a : List Evt} (hl : (a.length : Int) ≤ 9223372036854775807) : Ok (laws_szEventS a 1048576) fun r => r < 0 ∨ (a.length : Int) ≤ 1048576 := by
  apply Ok.le (laws_szEventS_le _ _)
  rw [wrap_id (by omega) (by omega)]
  refine Ok.bif (fun h => Ok.of (.inl (by omega))) (fun h => ?_)
  simp only [decide_eq_false_iff_not] at h
  exact Ok.of (.inr (by omega))

theorem laws_FnExactTraceOf_eq (a : List Evt) (hl : (a.length : Int) ≤ 9223372036854775807) (hw : ∀ e ∈ a, wfE e) (t : Int) (ht : wfI t) : laws_FnExactTraceOf a t = some true := by
  apply laws_FnExactTraceOf_le
  apply Ok.some
  refine Ok.bnd (laws_szEventS_eq hl) fun r1 h1 => ?_
  refine Ok.bif (fun _ => Ok.of rfl) (fun hb => ?_)
  simp only [decide_eq_false_iff_not] at hb
  have hs : (a.length : Int) ≤ 1048576 := by omega
  have hrl : ((ofs t a)).length ≤ a.length := ofs_len t a
  rw [laws_toEventS_eq (by omega), bnd_some, spec_TraceOf_eq (by omega), bnd_some]
  refine Ok.bnd (laws_toEventS_p_ok (by omega) []) fun r4 h4 => ?_
  obtain ⟨h4i, h4m, h4l⟩ := h4
  rw [arView_event, h4m.get, bnd_some]
  refine Ok.bnd (impl_TraceOf_p_ok (by omega) t (Vs.blank r4.2)) fun r6 h6 => ?_
  refine Ok.bnd h6.join fun B7 h7 => ?_
  have hx7 : arGet B7 .event r4.1.id = some a := h7.grow.ext.getO h4m.get (fun _ _ h => h)
  have hne : ∀ n, r6.1.id = some n → ¬ r4.1.id = some n := by
    intro n hn hh
    have h8 := h7.id n hn
    rw [h4i] at hh
    injection hh with hh
    rw [h4l] at h8
    simp at h8 hh
    omega
  rw [arView_event, h7.get, bnd_some, laws_eqEventS_refl (by omega), bnd_some]
  simp only [bnd_some, Bool.not_true, cond_false]
  rw [arView_event, hx7]
  simp only [bnd_some]
  rw [laws_eqEventS_refl (by omega)]
  simp only [bnd_some, Bool.not_true, cond_false]
  refine Ok.bnd (laws_markEventS_p_ok hx7 h4m.cnt (by omega) (by omega) (by omega)) fun r13 h13 => ?_
  obtain ⟨h13v, h13⟩ := h13
  have e13 : ¬ r13.1 < 0 := by omega
  simp only [e13, decide_false, cond_false]
  have hg13 : arGet r13.2 .event r6.1.id = some (ofs t a) := h13.ext.getO h7.get hne
  rw [arView_event, hg13, bnd_some, laws_eqEventS_refl (by omega), bnd_some]
  simp only [bnd_some, Bool.not_true, cond_false]
  refine Ok.bnd (laws_markEventS_p_ok hg13 h7.cnt (by omega) (by omega) (by omega)) fun r16 h16 => ?_
  obtain ⟨h16v, h16⟩ := h16
  have e16 : ¬ ((1 : Int) + 4 * (((ofs t a)).length : Int) < 0) := by omega
  rw [arView_event, h16.get, bnd_some, laws_heldEventS_eq (by omega) (by omega) (by omega), bnd_some, h16v, impl_TraceOf_eq (by omega), bnd_some, laws_eqEventS_refl (by omega), bnd_some]
  simp only [e16, decide_false, cond_false, decide_true, Bool.not_true, bnd_some, laws_heldEventS_eq (show ((ofs t a)).length ≤ 4294967296 by omega) (show (0 : Int) ≤ 1 by omega) (show (1 : Int) + 4 * (((ofs t a)).length : Int) ≤ 4611686018427387904 by omega)]
  exact Ok.of rfl
end Go.TFnExactTraceOf
