/- The plain law: what the functions answer. -/
import Derived.Test.YtbofepgnakbohaaDFnExactTraceSentE0
import Derived.Test.YtbofepgnakbohaaLkA
set_option linter.unusedVariables false
set_option linter.unusedSimpArgs false
namespace Go.TFnExactTraceSent
open Go Go.RowKit Go.Vs Go.Tv
theorem geti_some {α : Type} {l : List α} {i : Nat} (h : i < l.length) : geti l (i : Int) = some l[i] := by
  rw [geti_nat', List.getElem?_eq_getElem h]

theorem wrap_succ {i : Nat} (h : (i : Int) < 9223372036854775807) : wrap64 ((i : Int) + 1) = ((i + 1 : Nat) : Int) := by
  rw [wrap_id (by omega) (by omega)]; omega

theorem appL_some {α : Type} {x y : List α} (h : x.length + y.length ≤ 4294967296) : appL x y = some (x ++ y) := by unfold appL; rw [if_pos h]

theorem eqIntS_l {a : List Int} (hl : (a.length : Int) ≤ 4294967296) : ∀ (d i : Nat), i + d = a.length → laws_eqIntS_l1 a a i = some (.inl ())
  | 0, i, hd => by
    apply laws_eqIntS_l1_le
    have hi : ¬ ((i : Int) < a.length) := by omega
    simp [hi]
  | d + 1, i, hd => by
    apply laws_eqIntS_l1_le
    have hi : i < a.length := by omega
    have hi' : (i : Int) < a.length := by omega
    rw [geti_some hi, wrap_succ (by omega)]
    simp only [hi', decide_true, cond_true, bnd_some, Bool.not_true, cond_false]
    exact eqIntS_l hl d (i + 1) (by omega)

theorem laws_eqIntS_refl {a : List Int} (hl : (a.length : Int) ≤ 4294967296) : laws_eqIntS a a = some true := by
  apply laws_eqIntS_le
  rw [show (0 : Int) = ((0 : Nat) : Int) by rfl, eqIntS_l hl a.length 0 (by omega)]
  simp [selm]

def vals (pq : Evt → Bool) (l : List Evt) : List Int := (l.filter pq).map (·.value)

theorem vals_append (pq : Evt → Bool) (a b : List Evt) : vals pq (a ++ b) = vals pq a ++ vals pq b := by simp [vals]

theorem vals_len (pq : Evt → Bool) (l : List Evt) : (vals pq l).length ≤ l.length := by
  simp only [vals, List.length_map]; exact List.length_filter_le _ _

theorem take_get {α : Type} {l : List α} {i : Nat} (hi : i < l.length) : l.take (i + 1) = l.take i ++ [l[i]] := by rw [List.take_add_one, List.getElem?_eq_getElem hi]; rfl

theorem vals_take {pq : Evt → Bool} {l : List Evt} {i : Nat} (hi : i < l.length) : vals pq (l.take (i + 1)) = vals pq (l.take i) ++ (if pq l[i] = true then [l[i].value] else []) := by
  rw [take_get hi, vals_append]
  congr 1
  by_cases h : pq l[i] = true <;> simp [vals, h]

theorem vals_take_len (pq : Evt → Bool) (l : List Evt) (i : Nat) : (vals pq (l.take i)).length ≤ l.length := Nat.le_trans (vals_len _ _) (by simp; omega)

def pSent (b : Int) : Evt → Bool := fun e => decide (e.kind = 1) && decide (e.box = b)

theorem impl_TraceSent_1_eq (e : Evt) (b : Int) : impl_TraceSent_1 e b = some ((pSent b) e) := by
  apply impl_TraceSent_1_le
  unfold pSent
  by_cases h : e.kind = 1 <;> simp [h]

theorem valSent_l {l : List Evt} {b : Int} (hl : l.length ≤ 4294960000) : ∀ (d i : Nat) (f : Bool), i + d = l.length → Ok (impl_valuesOf_16100_l1_16100 b f (vals (pSent b) (l.take i)) l l.length i) fun r => r.2 = vals (pSent b) l
  | 0, i, f, hd => by
    apply Ok.le (impl_valuesOf_16100_l1_16100_le _ _ _ _ _ _)
    have hi : ¬ ((i : Int) < l.length) := by omega
    simp only [hi, decide_false, cond_false]
    exact Ok.of (by rw [List.take_of_length_le (by omega)])
  | d + 1, i, f, hd => by
    apply Ok.le (impl_valuesOf_16100_l1_16100_le _ _ _ _ _ _)
    have hi : (i : Int) < l.length := by omega
    have hi' : i < l.length := by omega
    have hlen := vals_take_len (pSent b) l i
    have ih := fun f => valSent_l (b := b) hl d (i + 1) f (by omega)
    rw [vals_take hi'] at ih
    simp only [hi, decide_true, cond_true, geti_nat', List.getElem?_eq_getElem hi', bnd_some, impl_TraceSent_1_eq, wrap_succ (show (i : Int) < 9223372036854775807 by omega)]
    by_cases ht : pSent b l[i] = true
    · simp only [ht, cond_true, appL_some (show (vals (pSent b) (l.take i)).length + [l[i].value].length ≤ 4294967296 by simp; omega), bnd_some]
      rw [if_pos ht] at ih
      exact ih true
    · simp only [Bool.not_eq_true] at ht
      simp only [ht, cond_false]
      rw [if_neg (by rw [ht]; simp), List.append_nil] at ih
      exact ih f

theorem impl_TraceSent_eq {l : List Evt} (hl : l.length ≤ 4294960000) (b : Int) : impl_TraceSent l b = some (vals (pSent b) l) := by
  apply impl_TraceSent_le
  have : impl_valuesOf_16100 l b = some (vals (pSent b) l) := by
    apply impl_valuesOf_16100_le
    obtain ⟨r, e, h⟩ := valSent_l (b := b) hl l.length 0 false (by omega)
    have e' : impl_valuesOf_16100_l1_16100 b false [] l l.length 0 = some r := e
    rw [e', bnd_some, h]
  rw [this, bnd_some]

theorem valSentp_l {l : List Evt} {b : Int} {A : List Ent} (hl : l.length ≤ 4294960000) : ∀ (d i : Nat) (h : Hd) (B : List Ent), i + d = l.length → Made .int A (vals (pSent b) (l.take i)) h B → Ok (impl_valuesOf_p_16100_l1_16100 b h l l.length i B) fun r => Made .int A (vals (pSent b) l) r.1 r.2
  | 0, i, h, B, hd, hm => by
    apply Ok.le (impl_valuesOf_p_16100_l1_16100_le _ _ _ _ _ _)
    have hi : ¬ ((i : Int) < l.length) := by omega
    simp only [hi, decide_false, cond_false]
    rw [List.take_of_length_le (by omega)] at hm
    exact Ok.of hm
  | d + 1, i, h, B, hd, hm => by
    apply Ok.le (impl_valuesOf_p_16100_l1_16100_le _ _ _ _ _ _)
    have hi : (i : Int) < l.length := by omega
    have hi' : i < l.length := by omega
    have hlen := vals_take_len (pSent b) l i
    have ih := fun h B hm => valSentp_l (b := b) (A := A) hl d (i + 1) h B (by omega) hm
    rw [vals_take hi'] at ih
    simp only [hi, decide_true, cond_true, geti_nat', List.getElem?_eq_getElem hi', bnd_some, impl_TraceSent_1_eq, wrap_succ (show (i : Int) < 9223372036854775807 by omega)]
    by_cases ht : pSent b l[i] = true
    · rw [if_pos ht] at ih
      simp only [ht, cond_true]
      refine Ok.bnd (hm.app (ys := [l[i].value]) flatC_int (by have := hm.cnt; simp; omega)) fun B' hB' => ?_
      exact ih _ _ hB'.1
    · simp only [Bool.not_eq_true] at ht
      simp only [ht, cond_false]
      rw [if_neg (by rw [ht]; simp), List.append_nil] at ih
      exact ih h B hm

theorem impl_TraceSent_p_ok {l : List Evt} (hl : l.length ≤ 4294960000) (b : Int) (A : List Ent) : Ok (impl_TraceSent_p l b A) fun r => Made .int A (vals (pSent b) l) r.1 r.2 := by
  apply Ok.le (impl_TraceSent_p_le _ _ _)
  have : Ok (impl_valuesOf_p_16100 l b A) fun r => Made .int A (vals (pSent b) l) r.1 r.2 := by
    apply Ok.le (impl_valuesOf_p_16100_le _ _ _)
    exact Ok.bnd (valSentp_l (b := b) (A := A) hl l.length 0 ⟨none, 0⟩ A (by omega) (Made.nil (Grow.refl A))) fun r hr => Ok.of hr
  exact Ok.bnd this fun r hr => Ok.of hr

def pKind (k b : Int) : Evt → Bool := fun e => decide (e.kind = k) && decide (e.box = b)

theorem specVals_l {l : List Evt} {k b : Int} (hl : l.length ≤ 4294960000) : ∀ (d i : Nat) (f : Bool), i + d = l.length → Ok (spec_l17Values_l1 l k b f (vals (pKind k b) (l.take i)) i) fun r => r.2 = vals (pKind k b) l
  | 0, i, f, hd => by
    apply Ok.le (spec_l17Values_l1_le _ _ _ _ _ _)
    have hi : ¬ ((i : Int) < l.length) := by omega
    simp only [hi, decide_false, cond_false]
    exact Ok.of (by rw [List.take_of_length_le (by omega)])
  | d + 1, i, f, hd => by
    apply Ok.le (spec_l17Values_l1_le _ _ _ _ _ _)
    have hi : (i : Int) < l.length := by omega
    have hi' : i < l.length := by omega
    have hlen := vals_take_len (pKind k b) l i
    have ih := fun f => specVals_l (k := k) (b := b) hl d (i + 1) f (by omega)
    rw [vals_take hi'] at ih
    simp only [hi, decide_true, cond_true, geti_nat', List.getElem?_eq_getElem hi', bnd_some, wrap_succ (show (i : Int) < 9223372036854775807 by omega)]
    by_cases ht : l[i].kind = k
    · by_cases hb : l[i].box = b
      · simp only [ht, hb, decide_true, cond_true, appL_some (show (vals (pKind k b) (l.take i)).length + [l[i].value].length ≤ 4294967296 by simp; omega), bnd_some]
        rw [if_pos (by simp [pKind, ht, hb])] at ih
        exact ih true
      · simp only [ht, hb, decide_true, cond_true, decide_false, cond_false]
        rw [if_neg (by simp [pKind, hb]), List.append_nil] at ih
        exact ih f
    · simp only [ht, decide_false, cond_false]
      rw [if_neg (by simp [pKind, ht]), List.append_nil] at ih
      exact ih f

theorem spec_l17Values_eq {l : List Evt} (hl : l.length ≤ 4294960000) (k b : Int) : spec_l17Values l k b = some (vals (pKind k b) l) := by
  apply spec_l17Values_le
  obtain ⟨r, e, h⟩ := specVals_l (k := k) (b := b) hl l.length 0 true (by omega)
  have e' : spec_l17Values_l1 l k b true ([] : List Int) 0 = some r := e
  rw [e', bnd_some, h]

theorem spec_TraceSent_eq {l : List Evt} (hl : l.length ≤ 4294960000) (b : Int) : spec_TraceSent l b = some (vals (pSent b) l) := by
  apply spec_TraceSent_le
  rw [spec_l17Values_eq hl, bnd_some]; rfl

theorem laws_toEvent_eq (e : Evt) : laws_toEvent e = some e := by apply laws_toEvent_le; rfl

theorem toEventSp_l {a : List Evt} {A : List Ent} {h : Hd} (hl : (a.length : Int) ≤ 4294967296) : ∀ (d i : Nat) (b : List Evt) (B : List Ent), i + d = a.length → b.length = a.length → b.take i = a.take i → Made .event A b h B → Ok (laws_toEventS_p_l1 a h i B) fun r => r.1 = h ∧ Made .event A a h r.2 ∧ r.2.length = B.length
  | 0, i, b, B, hd, hb, ht, hm => by
    apply Ok.le (laws_toEventS_p_l1_le _ _ _ _)
    have hi : ¬ ((i : Int) < a.length) := by omega
    have : b = a := by rw [List.take_of_length_le (by omega), List.take_of_length_le (by omega)] at ht; exact ht
    subst this
    simp only [hi, decide_false, cond_false]
    exact Ok.of ⟨rfl, hm, rfl⟩
  | d + 1, i, b, B, hd, hb, ht, hm => by
    apply Ok.le (laws_toEventS_p_l1_le _ _ _ _)
    have hi : (i : Int) < a.length := by omega
    have hi' : i < a.length := by omega
    have hib : i < b.length := by omega
    have hn : (i : Int) < h.n := by rw [hm.cnt]; omega
    simp only [hi, decide_true, cond_true, geti_nat', List.getElem?_eq_getElem hi', bnd_some, laws_toEvent_eq, bnd_some, wrap_succ (show (i : Int) < 9223372036854775807 by omega), idxN_eq (show 0 ≤ (i : Int) by omega) hn, Int.toNat_natCast, hm.row (List.getElem?_eq_getElem hib)]
    refine (toEventSp_l (h := h) hl d (i + 1) (b.set i a[i]) _ (by omega) (by simpa using hb) ?_ (hm.set flatC_event)).mono fun r hr => ⟨hr.1, hr.2.1, by rw [hr.2.2, length_set]⟩
    rw [take_get (by simpa using hib), take_get hi', List.take_set_of_le (by omega), ht]
    simp

theorem laws_toEventS_p_ok {a : List Evt} (hl : (a.length : Int) ≤ 4294967296) (A : List Ent) : Ok (laws_toEventS_p a A) fun r => r.1.id = some A.length ∧ Made .event A a r.1 r.2 ∧ r.2.length = A.length + 1 := by
  apply Ok.le (laws_toEventS_p_le _ _)
  have hmd : made (a.length : Int) = some a.length := by unfold made; rw [if_pos (by omega)]; simp
  rw [hmd, bnd_some]
  have h0 : Made .event A (List.replicate a.length (zeroD .event)) ⟨some A.length, a.length⟩ (arPush A .event (List.replicate a.length (zeroD .event))) := by
    have := Made.push (A := A) (B := A) (c := .event) (l := List.replicate a.length (zeroD .event)) (Grow.refl A) flatC_event
    rwa [List.length_replicate] at this
  refine Ok.bnd (toEventSp_l (h := ⟨some A.length, a.length⟩) hl a.length 0 (List.replicate a.length (zeroD .event)) _ (by omega) (by simp) (by simp) h0) fun r hr => ?_
  exact Ok.of ⟨by rw [hr.1], by rw [hr.1]; exact hr.2.1, by rw [hr.2.2, length_push]⟩

/-- What a mark does to rows that a header stands for. -/
structure Marked (c : TC) (h : Hd) (A B : List Ent) (l : List (Den c)) : Prop where
  get : arGet B c h.id = some l
  ext : Ext (fun n => h.id = some n) A B
  len : B.length = A.length

theorem Marked.none {c : TC} {h : Hd} {A : List Ent} {l : List (Den c)} (hg : arGet A c h.id = some l) : Marked c h A A l := ⟨hg, Ext.refl _ _, rfl⟩

theorem Marked.set {c : TC} {h : Hd} {A B : List Ent} {l : List (Den c)} (hm : Marked c h A B l) {i : Nat} (hi : i < l.length) (x : Den c) : Marked c h A (arSet B c h.id i x) (l.set i x) := by
  obtain ⟨id, n⟩ := h
  cases id with
  | none =>
    have h0 := hm.get
    rw [arGet_none] at h0
    injection h0 with h0
    subst h0
    exact hm
  | some k => exact ⟨arSet_get hm.get, hm.ext.trans (arSet_ext fun n hn => hn), by rw [length_set]; exact hm.len⟩

theorem set_mid {α : Type} (d : List α) (e x : α) (r : List α) : (d ++ e :: r).set d.length x = d ++ x :: r := by
  rw [List.set_append_right _ _ (Nat.le_refl _)]; simp

theorem get_mid {α : Type} (d : List α) (e : α) (r : List α) : (d ++ e :: r)[d.length]? = some e := by
  rw [List.getElem?_append_right (Nat.le_refl _)]; simp

def mkI : Int → List Int → List Int
  | _, [] => []
  | k, _ :: r => k :: mkI (k + 1) r

theorem mkI_len : ∀ (k : Int) (l : List Int), (mkI k l).length = l.length
  | _, [] => rfl
  | k, _ :: r => by simp [mkI, mkI_len]

theorem markI_l {h : Hd} {A : List Ent} : ∀ (rest done : List Int) (k : Int) (B : List Ent), Marked .int h A B (done ++ rest) → h.n = done.length + rest.length → h.n ≤ 4294967296 → 0 ≤ k → k + rest.length ≤ 4611686018427387904 → Ok (laws_markIntS_p_l1 h k done.length B) fun r => r.1 = k + rest.length ∧ Marked .int h A r.2 (done ++ mkI k rest)
  | [], done, k, B, hm, hn, hb, h0, hk => by
    apply Ok.le (laws_markIntS_p_l1_le _ _ _ _)
    have hi : ¬ ((done.length : Int) < ((h.n : Nat) : Int)) := by simp only [List.length_nil] at hn; omega
    simp only [hi, decide_false, cond_false]
    exact Ok.of ⟨by simp, hm⟩
  | e :: rest, done, k, B, hm, hn, hb, h0, hk => by
    apply Ok.le (laws_markIntS_p_l1_le _ _ _ _)
    simp only [List.length_cons] at hn hk
    have hi : (done.length : Int) < ((h.n : Nat) : Int) := by omega
    simp only [hi, decide_true, cond_true, idxN_eq (show 0 ≤ (done.length : Int) by omega) hi, Int.toNat_natCast, bnd_some, arRow_eq hm.get (get_mid done e rest)]
    have h1 := hm.set (i := done.length) (by simp) k
    rw [set_mid] at h1
    rw [wrap_id (n := k + 1) (by omega) (by omega), wrap_succ (show (done.length : Int) < 9223372036854775807 by omega)]
    have ih := markI_l rest (done ++ [k]) (k + 1) _ (by rw [List.append_assoc]; exact h1) (by simp; omega) hb (by omega) (by omega)
    simp only [List.length_append, List.length_cons, List.length_nil, Nat.zero_add] at ih
    refine ih.mono fun r hr => ⟨by rw [hr.1]; simp; omega, ?_⟩
    have := hr.2
    rw [List.append_assoc] at this
    exact this

theorem laws_markIntS_p_ok {h : Hd} {A : List Ent} {l : List Int} {k : Int} (hg : arGet A .int h.id = some l) (hn : h.n = l.length) (hl : l.length ≤ 4294967296) (h0 : 0 ≤ k) (hk : k + l.length ≤ 4611686018427387904) : Ok (laws_markIntS_p h k A) fun r => r.1 = k + l.length ∧ Marked .int h A r.2 (mkI k l) := by
  apply Ok.le (laws_markIntS_p_le _ _ _)
  exact Ok.bnd (markI_l (h := h) l [] k A (Marked.none hg) (by simpa using hn) (by omega) h0 hk) fun r hr => Ok.of hr

theorem heldI_l {L : List Int} : ∀ (rest done : List Int) (k : Int), L = done ++ mkI k rest → L.length ≤ 4294967296 → 0 ≤ k → k + rest.length ≤ 4611686018427387904 → laws_heldIntS_l1 L k done.length = some (.inl (k + rest.length))
  | [], done, k, hL, hl, h0, hk => by
    subst hL
    apply laws_heldIntS_l1_le
    simp [mkI]
  | e :: rest, done, k, hL, hl, h0, hk => by
    apply laws_heldIntS_l1_le
    simp only [List.length_cons] at hk
    have hlen : L.length = done.length + (rest.length + 1) := by rw [hL]; simp [mkI_len]
    have hi : (done.length : Int) < (L.length : Int) := by omega
    have hget : L[done.length]? = some k := by rw [hL]; exact get_mid done k _
    have ih := heldI_l (L := L) rest (done ++ [k]) (k + 1) (by rw [List.append_assoc]; exact hL) hl (by omega) (by omega)
    simp only [List.length_append, List.length_cons, List.length_nil, Nat.zero_add] at ih
    simp only [hi, decide_true, cond_true, geti_nat', hget, bnd_some, Bool.not_true, cond_false]
    rw [wrap_id (n := k + 1) (by omega) (by omega), wrap_succ (show (done.length : Int) < 9223372036854775807 by omega), ih]
    simp; omega

theorem laws_heldIntS_eq {l : List Int} {k : Int} (hl : l.length ≤ 4294967296) (h0 : 0 ≤ k) (hk : k + l.length ≤ 4611686018427387904) : laws_heldIntS (mkI k l) k = some (k + l.length) := by
  apply laws_heldIntS_le
  have := heldI_l (L := mkI k l) l [] k rfl (by rw [mkI_len]; exact hl) h0 hk
  have e : laws_heldIntS_l1 (mkI k l) k 0 = some (.inl (k + l.length)) := this
  rw [e]; simp [selm]

def mkE : Int → List Evt → List Evt
  | _, [] => []
  | k, _ :: r => ⟨k, k + 1, k + 2, k + 3⟩ :: mkE (k + 4) r

theorem markE_l {h : Hd} {A : List Ent} : ∀ (rest done : List Evt) (k : Int) (B : List Ent), Marked .event h A B (done ++ rest) → h.n = done.length + rest.length → h.n ≤ 4294967296 → 0 ≤ k → k + 4 * rest.length ≤ 4611686018427387904 → Ok (laws_markEventS_p_l1 h k done.length B) fun r => r.1 = k + 4 * rest.length ∧ Marked .event h A r.2 (done ++ mkE k rest)
  | [], done, k, B, hm, hn, hb, h0, hk => by
    apply Ok.le (laws_markEventS_p_l1_le _ _ _ _)
    have hi : ¬ ((done.length : Int) < ((h.n : Nat) : Int)) := by simp only [List.length_nil] at hn; omega
    simp only [hi, decide_false, cond_false]
    exact Ok.of ⟨by simp, hm⟩
  | e :: rest, done, k, B, hm, hn, hb, h0, hk => by
    apply Ok.le (laws_markEventS_p_l1_le _ _ _ _)
    simp only [List.length_cons] at hn hk
    have hi : (done.length : Int) < ((h.n : Nat) : Int) := by omega
    have h1 := hm.set (i := done.length) (by simp) (⟨k, e.kind, e.box, e.value⟩ : Evt)
    rw [set_mid] at h1
    have h2 := h1.set (i := done.length) (by simp) (⟨k, k + 1, e.box, e.value⟩ : Evt)
    rw [set_mid] at h2
    have h3 := h2.set (i := done.length) (by simp) (⟨k, k + 1, k + 2, e.value⟩ : Evt)
    rw [set_mid] at h3
    have h4 := h3.set (i := done.length) (by simp) (⟨k, k + 1, k + 2, k + 3⟩ : Evt)
    rw [set_mid] at h4
    simp only [hi, decide_true, cond_true, idxN_eq (show 0 ≤ (done.length : Int) by omega) hi, Int.toNat_natCast, bnd_some, arRow_eq hm.get (get_mid done e rest), wrap_id (n := k + 1) (by omega) (by omega), wrap_id (n := k + 2) (by omega) (by omega), wrap_id (n := k + 3) (by omega) (by omega), wrap_id (n := k + 4) (by omega) (by omega),
      arRow_eq h1.get (get_mid done _ rest), show k + 1 + 1 = k + 2 by omega, show k + 2 + 1 = k + 3 by omega, show k + 3 + 1 = k + 4 by omega, arRow_eq h2.get (get_mid done _ rest), arRow_eq h3.get (get_mid done _ rest), wrap_succ (show (done.length : Int) < 9223372036854775807 by omega)]
    have ih := markE_l rest (done ++ [⟨k, k + 1, k + 2, k + 3⟩]) (k + 4) _ (by rw [List.append_assoc]; exact h4) (by simp; omega) hb (by omega) (by omega)
    simp only [List.length_append, List.length_cons, List.length_nil, Nat.zero_add] at ih
    refine ih.mono fun r hr => ⟨by rw [hr.1]; simp; omega, ?_⟩
    have := hr.2
    rw [List.append_assoc] at this
    exact this

theorem laws_markEventS_p_ok {h : Hd} {A : List Ent} {l : List Evt} {k : Int} (hg : arGet A .event h.id = some l) (hn : h.n = l.length) (hl : l.length ≤ 4294967296) (h0 : 0 ≤ k) (hk : k + 4 * l.length ≤ 4611686018427387904) : Ok (laws_markEventS_p h k A) fun r => r.1 = k + 4 * l.length ∧ Marked .event h A r.2 (mkE k l) := by
  apply Ok.le (laws_markEventS_p_le _ _ _)
  exact Ok.bnd (markE_l (h := h) l [] k A (Marked.none hg) (by simpa using hn) (by omega) h0 hk) fun r hr => Ok.of hr

theorem laws_eqEvent_refl (e : Evt) : laws_eqEvent e e = some true := by apply laws_eqEvent_le; simp

theorem eqEventS_l {a : List Evt} (hl : (a.length : Int) ≤ 4294967296) : ∀ (d i : Nat), i + d = a.length → laws_eqEventS_l1 a a i = some (.inl ())
  | 0, i, hd => by
    apply laws_eqEventS_l1_le
    have hi : ¬ ((i : Int) < a.length) := by omega
    simp [hi]
  | d + 1, i, hd => by
    apply laws_eqEventS_l1_le
    have hi : (i : Int) < a.length := by omega
    have hi' : i < a.length := by omega
    have ih := eqEventS_l hl d (i + 1) (by omega)
    simp only [hi, decide_true, cond_true, geti_nat', List.getElem?_eq_getElem hi', bnd_some, laws_eqEvent_refl, Bool.not_true, cond_false, wrap_succ (show (i : Int) < 9223372036854775807 by omega)]
    exact ih

theorem laws_eqEventS_refl {a : List Evt} (hl : (a.length : Int) ≤ 4294967296) : laws_eqEventS a a = some true := by
  apply laws_eqEventS_le
  have e : laws_eqEventS_l1 a a 0 = some (.inl ()) := eqEventS_l hl a.length 0 (by omega)
  rw [e]; simp [selm]

theorem toEventS_l {a : List Evt} (hl : (a.length : Int) ≤ 4294967296) : ∀ (d i : Nat) (b : List Evt), i + d = a.length → b.length = a.length → b.take i = a.take i → laws_toEventS_l1 a i b = some a
  | 0, i, b, hd, hb, ht => by
    apply laws_toEventS_l1_le
    have hi : ¬ ((i : Int) < a.length) := by omega
    have : b = a := by rw [List.take_of_length_le (by omega), List.take_of_length_le (by omega)] at ht; exact ht
    simp [hi, this]
  | d + 1, i, b, hd, hb, ht => by
    apply laws_toEventS_l1_le
    have hi : (i : Int) < a.length := by omega
    have hi' : i < a.length := by omega
    have hib : i < b.length := by omega
    simp only [hi, decide_true, cond_true, geti_nat', List.getElem?_eq_getElem hi', List.getElem?_eq_getElem hib, bnd_some, laws_toEvent_eq, wrap_succ (show (i : Int) < 9223372036854775807 by omega), Int.toNat_natCast]
    refine toEventS_l hl d (i + 1) (b.set i a[i]) (by omega) (by simpa using hb) ?_
    rw [take_get (by simpa using hib), take_get hi', List.take_set_of_le (by omega), ht]
    simp

theorem laws_toEventS_eq {a : List Evt} (hl : (a.length : Int) ≤ 4294967296) : laws_toEventS a = some a := by
  apply laws_toEventS_le
  have hmd : made (a.length : Int) = some a.length := by unfold made; rw [if_pos (by omega)]; simp
  rw [hmd, bnd_some, show (0 : Int) = ((0 : Nat) : Int) by rfl, toEventS_l hl a.length 0 _ (by omega) (by simp) (by simp)]; rfl

theorem laws_szEventS_eq {a : List Evt} (hl : (a.length : Int) ≤ 9223372036854775807) : Ok (laws_szEventS a 1048576) fun r => r < 0 ∨ (a.length : Int) ≤ 1048576 := by
  apply Ok.le (laws_szEventS_le _ _)
  rw [wrap_id (by omega) (by omega)]
  refine Ok.bif (fun h => Ok.of (.inl (by omega))) (fun h => ?_)
  simp only [decide_eq_false_iff_not] at h
  exact Ok.of (.inr (by omega))

theorem laws_FnExactTraceSent_eq (a : List Evt) (hl : (a.length : Int) ≤ 9223372036854775807) (hw : ∀ e ∈ a, wfE e) (t : Int) (ht : wfI t) : laws_FnExactTraceSent a t = some true := by
  apply laws_FnExactTraceSent_le
  apply Ok.some
  refine Ok.bnd (laws_szEventS_eq hl) fun r1 h1 => ?_
  refine Ok.bif (fun _ => Ok.of rfl) (fun hb => ?_)
  simp only [decide_eq_false_iff_not] at hb
  have hs : (a.length : Int) ≤ 1048576 := by omega
  have hrl : ((vals (pSent t) a)).length ≤ a.length := vals_len (pSent t) a
  rw [laws_toEventS_eq (by omega), bnd_some, spec_TraceSent_eq (by omega), bnd_some]
  refine Ok.bnd (laws_toEventS_p_ok (by omega) []) fun r4 h4 => ?_
  obtain ⟨h4i, h4m, h4l⟩ := h4
  rw [arView_event, h4m.get, bnd_some]
  refine Ok.bnd (impl_TraceSent_p_ok (by omega) t (Vs.blank r4.2)) fun r6 h6 => ?_
  refine Ok.bnd h6.join fun B7 h7 => ?_
  have hx7 : arGet B7 .event r4.1.id = some a := h7.grow.ext.getO h4m.get (fun _ _ h => h)
  have hne : ∀ n, r6.1.id = some n → ¬ r4.1.id = some n := by
    intro n hn hh
    have h8 := h7.id n hn
    rw [h4i] at hh
    injection hh with hh
    rw [h4l] at h8
    simp at h8 hh
    omega
  rw [arView_int, h7.get, bnd_some, laws_eqIntS_refl (by omega), bnd_some]
  simp only [bnd_some, Bool.not_true, cond_false]
  rw [arView_event, hx7]
  simp only [bnd_some]
  rw [laws_eqEventS_refl (by omega)]
  simp only [bnd_some, Bool.not_true, cond_false]
  refine Ok.bnd (laws_markEventS_p_ok hx7 h4m.cnt (by omega) (by omega) (by omega)) fun r13 h13 => ?_
  obtain ⟨h13v, h13⟩ := h13
  have e13 : ¬ r13.1 < 0 := by omega
  simp only [e13, decide_false, cond_false]
  have hg13 : arGet r13.2 .int r6.1.id = some (vals (pSent t) a) := h13.ext.getO h7.get hne
  rw [arView_int, hg13, bnd_some, laws_eqIntS_refl (by omega), bnd_some]
  simp only [bnd_some, Bool.not_true, cond_false]
  refine Ok.bnd (laws_markIntS_p_ok hg13 h7.cnt (by omega) (by omega) (by omega)) fun r16 h16 => ?_
  obtain ⟨h16v, h16⟩ := h16
  have e16 : ¬ ((1 : Int) + (((vals (pSent t) a)).length : Int) < 0) := by omega
  rw [arView_int, h16.get, bnd_some, laws_heldIntS_eq (by omega) (by omega) (by omega), bnd_some, h16v, impl_TraceSent_eq (by omega), bnd_some, laws_eqIntS_refl (by omega), bnd_some]
  simp only [e16, decide_false, cond_false, decide_true, Bool.not_true, bnd_some, laws_heldIntS_eq (show ((vals (pSent t) a)).length ≤ 4294967296 by omega) (show (0 : Int) ≤ 1 by omega) (show (1 : Int) + (((vals (pSent t) a)).length : Int) ≤ 4611686018427387904 by omega)]
  exact Ok.of rfl
end Go.TFnExactTraceSent
