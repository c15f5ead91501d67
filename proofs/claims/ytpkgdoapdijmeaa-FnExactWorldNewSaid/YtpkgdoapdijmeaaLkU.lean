/- Trees of own slices. -/
import Derived.Test.YtpkgdoapdijmeaaLkA
set_option linter.unusedVariables false
namespace Go.Tv
open Go Go.RowKit Go.Vs
abbrev Pd := (c : TC) → Hd → List (Den c.seen) → List Nat → Prop
def RowF (f : Pd) : (c : TC) → Den c → Den c.seen → List Nat → Prop
 | .int, x, y, s => y = x ∧ s = []
 | .bool, x, y, s => y = x ∧ s = []
 | .intsH, x, y, s => f .int x y s
 | .stmsHH, x, y, s => f .stmH x y s
 | .expH, x, y, s => ∃ as, f .expH x.args as s ∧ y = ⟨x.op, x.n, as⟩
 | .stmH, x, y, s => ∃ as bd el s1 s2 s3, f .expH x.args as s1 ∧ f .stmH x.body bd s2 ∧ f .stmH x.els el s3 ∧ y = ⟨x.kind, x.var, x.box, ⟨x.eop, x.en, as⟩, bd, el⟩ ∧ s = s1 ++ (s2 ++ s3)
 | .bxH, x, y, s => ∃ l, f .int x.items l s ∧ y = ⟨x.room, l⟩
 | .tkH, x, y, s => ∃ l r s1 s2, f .int x.vars l s1 ∧ f .stmH x.rest r s2 ∧ y = ⟨l, r⟩ ∧ s = s1 ++ s2
 | .prgH, x, y, s => ∃ l r s1 s2, f .int x.rooms l s1 ∧ f .stmsHH x.tasks r s2 ∧ y = ⟨l, r⟩ ∧ s = s1 ++ s2
 | .wldH, x, y, s => ∃ l r o s1 s2 s3, f .tkH x.tasks l s1 ∧ f .bxH x.boxes r s2 ∧ f .int x.out o s3 ∧ y = ⟨l, r, x.turn, x.idle, o⟩ ∧ s = s1 ++ (s2 ++ s3)
 | .otcH, x, y, s => ∃ l r o s1 s2 s3, f .int x.out l s1 ∧ f .intsH x.items r s2 ∧ f .bool x.ended o s3 ∧ y = ⟨l, r, o, x.rest⟩ ∧ s = s1 ++ (s2 ++ s3)
 | _, _, _, _ => False
theorem RowF.imp {f g : Pd} {c : TC} {x : Den c} {y : Den c.seen} {s : List Nat} (h : RowF f c x y s) (hi : ∀ c h l t, f c h l t → (∀ n ∈ t, n ∈ s) → g c h l t) : RowF g c x y s := by
 cases c <;> simp only [RowF] at h ⊢ <;> first | exact h | skip
 case intsH => exact hi _ _ _ _ h (fun n hn => hn)
 case stmsHH => exact hi _ _ _ _ h (fun n hn => hn)
 case expH => obtain ⟨as, h1, h2⟩ := h; exact ⟨as, hi _ _ _ _ h1 (fun n hn => hn), h2⟩
 case bxH => obtain ⟨as, h1, h2⟩ := h; exact ⟨as, hi _ _ _ _ h1 (fun n hn => hn), h2⟩
 case tkH =>
  obtain ⟨l, r, s1, s2, h1, h2, h3, rfl⟩ := h
  exact ⟨l, r, s1, s2, hi _ _ _ _ h1 (fun n hn => by simp [hn]), hi _ _ _ _ h2 (fun n hn => by simp [hn]), h3, rfl⟩
 case prgH =>
  obtain ⟨l, r, s1, s2, h1, h2, h3, rfl⟩ := h
  exact ⟨l, r, s1, s2, hi _ _ _ _ h1 (fun n hn => by simp [hn]), hi _ _ _ _ h2 (fun n hn => by simp [hn]), h3, rfl⟩
 all_goals
  obtain ⟨l, r, o, s1, s2, s3, h1, h2, h3, h4, rfl⟩ := h
  exact ⟨l, r, o, s1, s2, s3, hi _ _ _ _ h1 (fun n hn => by simp [hn]), hi _ _ _ _ h2 (fun n hn => by simp [hn]), hi _ _ _ _ h3 (fun n hn => by simp [hn]), h4, rfl⟩
structure LsF (f : Pd) (A : List Ent) (c : TC) (h : Hd) (l : List (Den c.seen)) (rows : List (Den c)) (ss : List (List Nat)) : Prop where
 get : Qae A c h.id = some rows
 cnt : h.n = rows.length
 len : l.length = rows.length
 lens : ss.length = rows.length
 row : ∀ (j : Nat) x y s, rows[j]? = some x → l[j]? = some y → ss[j]? = some s → RowF f c x y s
def At (A : List Ent) : Nat → Pd
 | 0, _, _, _, _ => False
 | k + 1, c, h, l, ids => ∃ rows ss, LsF (At A k) A c h l rows ss ∧ ids = h.id.toList ++ ss.flatten
def Tr (A : List Ent) (c : TC) (h : Hd) (l : List (Den c.seen)) (ids : List Nat) : Prop := ∃ k, At A k c h l ids
def Rw (A : List Ent) (c : TC) (x : Den c) (y : Den c.seen) (s : List Nat) : Prop := RowF (Tr A) c x y s
abbrev Ls (A : List Ent) (c : TC) (h : Hd) (l : List (Den c.seen)) (rows : List (Den c)) (ss : List (List Nat)) : Prop := LsF (Tr A) A c h l rows ss
theorem LsF.imp {f g : Pd} {A : List Ent} {c : TC} {h : Hd} {l : List (Den c.seen)} {rows : List (Den c)} {ss : List (List Nat)} (hl : LsF f A c h l rows ss) (hi : ∀ c h l t, f c h l t → (∀ n ∈ t, n ∈ ss.flatten) → g c h l t) : LsF g A c h l rows ss :=
 ⟨hl.get, hl.cnt, hl.len, hl.lens, fun j x y s hx hy hs => (hl.row j x y s hx hy hs).imp fun c h l t ht hm => hi c h l t ht fun n hn => List.mem_flatten.2 ⟨s, List.mem_of_getElem? hs, hm n hn⟩⟩
theorem At.up {A : List Ent} : ∀ {k k' : Nat} {c : TC} {h : Hd} {l : List (Den c.seen)} {ids : List Nat}, k ≤ k' → At A k c h l ids → At A k' c h l ids
 | 0, k', _, _, _, _, _, h => h.elim
 | k + 1, 0, _, _, _, _, hk, _ => by omega
 | k + 1, k' + 1, c, h, l, ids, hk, ⟨rows, ss, h1, h2⟩ => ⟨rows, ss, h1.imp fun c h l t ht _ => At.up (by omega) ht, h2⟩
theorem Qvl {P : Nat → Nat → Prop} (hu : ∀ j k k', k ≤ k' → P j k → P j k') : ∀ n : Nat, (∀ j, j < n → ∃ k, P j k) → ∃ K, ∀ j, j < n → P j K
 | 0, _ => ⟨0, fun j hj => by omega⟩
 | n + 1, h => by
  obtain ⟨K, hK⟩ := Qvl hu n fun j hj => h j (by omega)
  obtain ⟨k, hk⟩ := h n (by omega)
  refine ⟨max K k, fun j hj => ?_⟩
  by_cases e : j = n
  ·subst e; exact hu _ _ _ (by omega) hk
  ·exact hu _ _ _ (by omega) (hK j (by omega))
theorem RowF.fin {A : List Ent} {c : TC} {x : Den c} {y : Den c.seen} {s : List Nat} (h : RowF (Tr A) c x y s) : ∃ k, RowF (At A k) c x y s := by
 cases c <;> simp only [RowF] at h ⊢ <;> first | exact ⟨0, h⟩ | exact h.elim | skip
 case intsH => obtain ⟨k, h⟩ := h; exact ⟨k, h⟩
 case stmsHH => obtain ⟨k, h⟩ := h; exact ⟨k, h⟩
 case expH => obtain ⟨as, ⟨k, h1⟩, h2⟩ := h; exact ⟨k, as, h1, h2⟩
 case bxH => obtain ⟨as, ⟨k, h1⟩, h2⟩ := h; exact ⟨k, as, h1, h2⟩
 case tkH =>
  obtain ⟨l, r, s1, s2, ⟨k1, h1⟩, ⟨k2, h2⟩, h3, h4⟩ := h
  exact ⟨max k1 k2, l, r, s1, s2, h1.up (by omega), h2.up (by omega), h3, h4⟩
 case prgH =>
  obtain ⟨l, r, s1, s2, ⟨k1, h1⟩, ⟨k2, h2⟩, h3, h4⟩ := h
  exact ⟨max k1 k2, l, r, s1, s2, h1.up (by omega), h2.up (by omega), h3, h4⟩
 all_goals
  obtain ⟨l, r, o, s1, s2, s3, ⟨k1, h1⟩, ⟨k2, h2⟩, ⟨k3, h3⟩, h4, h5⟩ := h
  exact ⟨max k1 (max k2 k3), l, r, o, s1, s2, s3, h1.up (by omega), h2.up (by omega), h3.up (by omega), h4, h5⟩
theorem Qlw {A : List Ent} {c : TC} {h : Hd} {l : List (Den c.seen)} {ids : List Nat} : Tr A c h l ids ↔ ∃ rows ss, Ls A c h l rows ss ∧ ids = h.id.toList ++ ss.flatten := by
 constructor
 ·rintro ⟨k, h⟩
  cases k with
  | zero => exact h.elim
  | succ k =>
   obtain ⟨rows, ss, h1, h2⟩ := h
   exact ⟨rows, ss, h1.imp fun c h l t ht _ => ⟨k, ht⟩, h2⟩
 ·rintro ⟨rows, ss, h1, h2⟩
  obtain ⟨K, hK⟩ := Qvl (P := fun j k => ∀ x y s, rows[j]? = some x → l[j]? = some y → ss[j]? = some s → RowF (At A k) c x y s) (fun j k k' hk hp x y s hx hy hs => (hp x y s hx hy hs).imp fun c h l t ht _ => ht.up hk) rows.length (fun j hj => by
   have hl := h1.len
   have hs := h1.lens
   obtain ⟨k, hk⟩ := (h1.row j rows[j] (l[j]'(by omega)) (ss[j]'(by omega)) (List.getElem?_eq_getElem _) (List.getElem?_eq_getElem _) (List.getElem?_eq_getElem _)).fin
   refine ⟨k, fun x y s hx hy hs => ?_⟩
   rw [List.getElem?_eq_getElem (by omega)] at hx hy hs
   injection hx with hx
   injection hy with hy
   injection hs with hs
   subst hx hy hs
   exact hk)
  exact ⟨K + 1, rows, ss, ⟨h1.get, h1.cnt, h1.len, h1.lens, fun j x y s hx hy hs => hK j (List.getElem?_eq_some_iff.1 hx).1 x y s hx hy hs⟩, h2⟩
theorem Ls.tr {A : List Ent} {c : TC} {h : Hd} {l : List (Den c.seen)} {rows : List (Den c)} {ss : List (List Nat)} (hl : Ls A c h l rows ss) : Tr A c h l (h.id.toList ++ ss.flatten) := Qlw.2 ⟨rows, ss, hl, rfl⟩
theorem Qnh {A B : List Ent} {c : TC} {h : Option Nat} {x : List (Den c)} (hs : ∀ n, h = some n → B[n]? = A[n]?) (hg : Qae A c h = some x) : Qae B c h = some x := by
 cases h with
 | none => rw [Qar] at hg ⊢; exact hg
 | some n => rw [Qhx (hs n rfl)]; exact hg
theorem At.frame {A B : List Ent} : ∀ {k : Nat} {c : TC} {h : Hd} {l : List (Den c.seen)} {ids : List Nat}, (∀ n ∈ ids, B[n]? = A[n]?) → At A k c h l ids → At B k c h l ids
 | 0, _, _, _, _, _, h => h.elim
 | k + 1, c, h, l, ids, hs, ⟨rows, ss, h1, h2⟩ => by
  refine ⟨rows, ss, ⟨Qnh (fun n hn => hs n (by rw [h2]; simp [hn])) h1.get, h1.cnt, h1.len, h1.lens, fun j x y s hx hy hs' => (h1.row j x y s hx hy hs').imp fun c h l t ht hm => At.frame (fun n hn => hs n ?_) ht⟩, h2⟩
  rw [h2]
  exact List.mem_append.2 (.inr (List.mem_flatten.2 ⟨s, List.mem_of_getElem? hs', hm n hn⟩))
theorem Tr.frame {A B : List Ent} {c : TC} {h : Hd} {l : List (Den c.seen)} {ids : List Nat} (ht : Tr A c h l ids) (hs : ∀ n ∈ ids, B[n]? = A[n]?) : Tr B c h l ids := by
 obtain ⟨k, ht⟩ := ht; exact ⟨k, ht.frame hs⟩
theorem Rw.frame {A B : List Ent} {c : TC} {x : Den c} {y : Den c.seen} {s : List Nat} (ht : Rw A c x y s) (hs : ∀ n ∈ s, B[n]? = A[n]?) : Rw B c x y s :=
 RowF.imp ht fun c h l t ht hm => ht.frame fun n hn => hs n (hm n hn)
theorem At.lt {A : List Ent} : ∀ {k : Nat} {c : TC} {h : Hd} {l : List (Den c.seen)} {ids : List Nat}, At A k c h l ids → ∀ n ∈ ids, n < A.length
 | 0, _, _, _, _, h => h.elim
 | k + 1, c, h, l, ids, ⟨rows, ss, h1, h2⟩ => by
  intro n hn
  rw [h2] at hn
  rcases List.mem_append.1 hn with hn | hn
  ·have h0 : h.id = some n := by simpa using hn
   have := h1.get
   rw [h0] at this
   exact Qjf this
  ·obtain ⟨s, hs, hn⟩ := List.mem_flatten.1 hn
   obtain ⟨j, hj⟩ := List.getElem?_of_mem hs
   have hlt := (List.getElem?_eq_some_iff.1 hj).1
   have hl := h1.len
   have hls := h1.lens
   have hr := h1.row j rows[j] (l[j]'(by omega)) s (List.getElem?_eq_getElem _) (List.getElem?_eq_getElem _) hj
   exact row_lt (fun c h l t ht => At.lt ht) hr n hn
where
 row_lt {f : Pd} {N : Nat} {c : TC} {x : Den c} {y : Den c.seen} {s : List Nat} (hf : ∀ c h l t, f c h l t → ∀ n ∈ t, n < N) (h : RowF f c x y s) : ∀ n ∈ s, n < N := by
  cases c <;> simp only [RowF] at h <;> first | exact h.elim | skip
  case int => rw [h.2]; simp
  case bool => rw [h.2]; simp
  case intsH => exact hf _ _ _ _ h
  case stmsHH => exact hf _ _ _ _ h
  case expH => obtain ⟨as, h1, h2⟩ := h; exact hf _ _ _ _ h1
  case bxH => obtain ⟨as, h1, h2⟩ := h; exact hf _ _ _ _ h1
  case tkH =>
   obtain ⟨l, r, s1, s2, h1, h2, h3, rfl⟩ := h
   intro n hn
   rcases List.mem_append.1 hn with hn | hn
   ·exact hf _ _ _ _ h1 n hn
   ·exact hf _ _ _ _ h2 n hn
  case prgH =>
   obtain ⟨l, r, s1, s2, h1, h2, h3, rfl⟩ := h
   intro n hn
   rcases List.mem_append.1 hn with hn | hn
   ·exact hf _ _ _ _ h1 n hn
   ·exact hf _ _ _ _ h2 n hn
  all_goals
   obtain ⟨l, r, o, s1, s2, s3, h1, h2, h3, h4, rfl⟩ := h
   intro n hn
   rcases List.mem_append.1 hn with hn | hn
   ·exact hf _ _ _ _ h1 n hn
   ·rcases List.mem_append.1 hn with hn | hn
    ·exact hf _ _ _ _ h2 n hn
    ·exact hf _ _ _ _ h3 n hn
theorem Tr.lt {A : List Ent} {c : TC} {h : Hd} {l : List (Den c.seen)} {ids : List Nat} (ht : Tr A c h l ids) : ∀ n ∈ ids, n < A.length := by
 obtain ⟨k, ht⟩ := ht; exact ht.lt
theorem Rw.lt {A : List Ent} {c : TC} {x : Den c} {y : Den c.seen} {s : List Nat} (ht : Rw A c x y s) : ∀ n ∈ s, n < A.length := At.lt.row_lt (fun c h l t ht => Tr.lt ht) ht
theorem Tr.cnt {A : List Ent} {c : TC} {h : Hd} {l : List (Den c.seen)} {ids : List Nat} (ht : Tr A c h l ids) : h.n = l.length := by
 obtain ⟨rows, ss, h1, _⟩ := Qlw.1 ht
 rw [h1.cnt, h1.len]
theorem Qsj {α β : Type} {f : α → Option β} : ∀ {l : List α} {r : List β}, r.length = l.length → (∀ (j : Nat) x y, l[j]? = some x → r[j]? = some y → f x = some y) → mapB f l = some r
 | [], r, hl, _ => by
  have : r = [] := List.eq_nil_of_length_eq_zero (by simpa using hl)
  subst this; rfl
 | x :: l, [], hl, _ => by simp at hl
 | x :: l, y :: r, hl, h => by
  simp only [mapB, h 0 x y rfl rfl, Qb, Qsj (f := f) (l := l) (r := r) (by simpa using hl) (fun j a b ha hb => h (j + 1) a b (by simpa using ha) (by simpa using hb))]
theorem RowF.view {f : Pd} {g : (c : TC) → Option Nat → Option (List (Den c.seen))} {c : TC} {x : Den c} {y : Den c.seen} {s : List Nat} (h : RowF f c x y s) (hg : ∀ c h l t, f c h l t → (∀ n ∈ t, n ∈ s) → t.length ≤ s.length → g c h.id = some l) : Qcm g c x = some y := by
 cases c <;> simp only [RowF] at h <;> first | exact h.elim | skip
 case int => rw [h.1]; rfl
 case bool => rw [h.1]; rfl
 case intsH => exact hg _ _ _ _ h (fun n hn => hn) (Nat.le_refl _)
 case stmsHH => exact hg _ _ _ _ h (fun n hn => hn) (Nat.le_refl _)
 case expH =>
  obtain ⟨as, h1, rfl⟩ := h
  simp only [Qcm, hg _ _ _ _ h1 (fun n hn => hn) (Nat.le_refl _), Qb]
 case bxH =>
  obtain ⟨as, h1, rfl⟩ := h
  simp only [Qcm, hg _ _ _ _ h1 (fun n hn => hn) (Nat.le_refl _), Qb]
 case tkH =>
  obtain ⟨l, r, s1, s2, h1, h2, rfl, rfl⟩ := h
  simp only [Qcm, hg _ _ _ _ h1 (fun n hn => by simp [hn]) (by simp), hg _ _ _ _ h2 (fun n hn => by simp [hn]) (by simp), Qb]
 case prgH =>
  obtain ⟨l, r, s1, s2, h1, h2, rfl, rfl⟩ := h
  simp only [Qcm, hg _ _ _ _ h1 (fun n hn => by simp [hn]) (by simp), hg _ _ _ _ h2 (fun n hn => by simp [hn]) (by simp), Qb]
 all_goals
  obtain ⟨l, r, o, s1, s2, s3, h1, h2, h3, rfl, rfl⟩ := h
  simp only [Qcm, hg _ _ _ _ h1 (fun n hn => by simp [hn]) (by simp), hg _ _ _ _ h2 (fun n hn => by simp [hn]) (by simp; omega), hg _ _ _ _ h3 (fun n hn => by simp [hn]) (by simp; omega), Qb]
theorem At.view {A : List Ent} : ∀ {k m : Nat} {c : TC} {h : Hd} {l : List (Den c.seen)} {ids : List Nat}, At A k c h l ids → ids.length < m → Qol A m c h.id = some l
 | 0, _, _, _, _, _, h, _ => h.elim
 | k + 1, 0, _, _, _, _, _, hm => by omega
 | k + 1, m + 1, c, h, l, ids, ⟨rows, ss, h1, h2⟩, hm => by
  simp only [Qol, h1.get, Qb]
  refine Qsj h1.len fun j x y hx hy => ?_
  have hlt := (List.getElem?_eq_some_iff.1 hx).1
  have hls := h1.lens
  refine (h1.row j x y (ss[j]'(by omega)) hx hy (List.getElem?_eq_getElem _)).view fun c' h' l' t ht _ hlen => At.view ht ?_
  have hid : h.id ≠ none := by
   intro h0
   have := h1.get
   rw [h0, Qar] at this
   injection this with this
   rw [← this] at hx; simp at hx
  have h3 : h.id.toList.length = 1 := by
   cases hh : h.id with
   | none => exact absurd hh hid
   | some n => rfl
  have h4 : (ss[j]'(by omega)).length ≤ ss.flatten.length := by
   have := List.Sublist.length_le (List.sublist_flatten_of_mem (List.getElem_mem (l := ss) (n := j) (by omega)))
   exact this
  rw [h2, Za, h3] at hm
  omega
theorem Qkw : ∀ (n : Nat) (l : List Nat), l.Nodup → (∀ x ∈ l, x < n) → l.length ≤ n
 | 0, [], _, _ => by simp
 | 0, x :: l, _, h => by have := h x (by simp); omega
 | n + 1, l, hn, h => by
  by_cases hm : n ∈ l
  ·have h1 := Qkw n (l.erase n) (hn.erase n) fun x hx => by
    have h2 := (List.Nodup.mem_erase_iff hn).1 hx
    have := h x h2.2
    have := h2.1
    omega
   rw [List.length_erase_of_mem hm] at h1; omega
  ·have := Qkw n l hn fun x hx => by
    have := h x hx
    have : x ≠ n := fun e => hm (e ▸ hx)
    omega
   omega
theorem Tr.view {A : List Ent} {c : TC} {h : Hd} {l : List (Den c.seen)} {ids : List Nat} (ht : Tr A c h l ids) (hn : ids.Nodup) : Qlz A c h.id = some l := by
 have hlt := Qkw A.length ids hn ht.lt
 obtain ⟨k, ht⟩ := ht
 exact ht.view (by omega)
end Go.Tv
namespace Go.Tv
open Go Go.RowKit Go.Vs
theorem flatC_expH : Qhc .expH := fun _ => rfl
theorem flatC_stmH : Qhc .stmH := fun _ => rfl
theorem flatC_bxH : Qhc .bxH := fun _ => rfl
theorem flatC_tkH : Qhc .tkH := fun _ => rfl
theorem Qzh : Qhc .stmsHH := fun _ => rfl
theorem Qko {ss : List (List Nat)} {j : Nat} {s' : List Nat} : ∀ n, n ∈ (ss.set j s').flatten → n ∈ s' ∨ ∃ i s, i ≠ j ∧ ss[i]? = some s ∧ n ∈ s := by
 intro n hn
 obtain ⟨s, hs, hn⟩ := List.mem_flatten.1 hn
 obtain ⟨i, hi⟩ := List.getElem?_of_mem hs
 by_cases hij : i = j
 ·subst hij
  rw [List.getElem?_set] at hi
  simp only [if_true] at hi
  split at hi
  ·injection hi with hi; subst hi; exact .inl hn
  ·cases hi
 ·rw [List.getElem?_set_ne (fun e => hij e.symm)] at hi
  exact .inr ⟨i, s, hij, hi, hn⟩
theorem Qee {ss : List (List Nat)} : ss.flatten.Nodup ↔ (∀ s ∈ ss, s.Nodup) ∧ ∀ (i j : Nat) s t, i ≠ j → ss[i]? = some s → ss[j]? = some t → ∀ n ∈ s, n ∉ t := by
 induction ss with
 | nil => simp
 | cons s ss ih =>
  rw [List.flatten_cons, List.nodup_append, ih]
  constructor
  ·rintro ⟨h1, ⟨h2, h3⟩, h4⟩
   refine ⟨fun t ht => ?_, fun i j t u hij hi hj n hn hu => ?_⟩
   ·rcases List.mem_cons.1 ht with rfl | ht
    ·exact h1
    ·exact h2 t ht
   ·cases i with
    | zero =>
     cases j with
     | zero => exact hij rfl
     | succ j =>
      simp at hi hj
      subst hi
      exact h4 n hn n (List.mem_flatten.2 ⟨u, List.mem_of_getElem? hj, hu⟩) rfl
    | succ i =>
     cases j with
     | zero =>
      simp at hi hj
      subst hj
      exact h4 n hu n (List.mem_flatten.2 ⟨t, List.mem_of_getElem? hi, hn⟩) rfl
     | succ j =>
      simp at hi hj
      exact h3 i j t u (by omega) hi hj n hn hu
  ·rintro ⟨h1, h2⟩
   refine ⟨h1 s (by simp), ⟨fun t ht => h1 t (by simp [ht]), fun i j t u hij hi hj => h2 (i + 1) (j + 1) t u (by omega) (by simpa using hi) (by simpa using hj)⟩, fun n hn m hm e => ?_⟩
   subst e
   obtain ⟨t, ht, hm⟩ := List.mem_flatten.1 hm
   obtain ⟨j, hj⟩ := List.getElem?_of_mem ht
   exact h2 0 (j + 1) s t (by omega) rfl (by simpa using hj) n hn hm
theorem Qcn {α : Type} {l : List α} {j : Nat} {x y : α} (h : (l.set j x)[j]? = some y) : y = x := by
 rw [List.getElem?_set] at h
 simp only [if_true] at h
 split at h
 ·injection h with h; exact h.symm
 ·cases h
theorem Ls.put {A B : List Ent} {c : TC} {h : Hd} {l : List (Den c.seen)} {rows : List (Den c)} {ss : List (List Nat)} (T : Ls A c h l rows ss) {j : Nat} {x : Den c} {y : Den c.seen} {s : List Nat} (hg : Qae B c h.id = some (rows.set j x)) (hR : Rw B c x y s) (hf : ∀ (i : Nat) t, i ≠ j → ss[i]? = some t → ∀ n ∈ t, B[n]? = A[n]?) :
  Ls B c h (l.set j y) (rows.set j x) (ss.set j s) := by
 refine ⟨hg, by simp [T.cnt], by simp [T.len], by simp [T.lens], fun i x' y' s' hx hy hs => ?_⟩
 by_cases hij : i = j
 ·subst hij
  rw [Qcn hx, Qcn hy, Qcn hs]
  exact hR
 ·rw [List.getElem?_set_ne (fun e => hij e.symm)] at hx hy hs
  exact Rw.frame (T.row i x' y' s' hx hy hs) (hf i s' hij hs)
theorem Qkr {α : Type} {l : List α} {x y : α} {j : Nat} (h : (l ++ [x])[j]? = some y) : (j < l.length ∧ l[j]? = some y) ∨ (j = l.length ∧ y = x) := by
 by_cases hj : j < l.length
 ·rw [List.getElem?_append_left hj] at h; exact .inl ⟨hj, h⟩
 ·rw [List.getElem?_append_right (by omega)] at h
  have h0 : j - l.length = 0 := by
   cases e : j - l.length with
   | zero => rfl
   | succ m => rw [e] at h; simp at h
  rw [h0] at h
  simp at h
  exact .inr ⟨by omega, h.symm⟩
theorem Ls.app {A B : List Ent} {c : TC} {h : Hd} {l : List (Den c.seen)} {rows : List (Den c)} {ss : List (List Nat)} (T : Ls A c h l rows ss) {i : Nat} {x : Den c} {y : Den c.seen} {s : List Nat} (hg : Qae B c (some i) = some (rows ++ [x])) (hR : Rw B c x y s) (hf : ∀ t ∈ ss, ∀ n ∈ t, B[n]? = A[n]?) :
  Ls B c ⟨some i, h.n + 1⟩ (l ++ [y]) (rows ++ [x]) (ss ++ [s]) := by
 have hl := T.len
 have hs := T.lens
 refine ⟨hg, by simp [T.cnt], by simp [T.len], by simp [T.lens], fun j x' y' s' hx hy hs' => ?_⟩
 rcases Qkr hx with ⟨h1, h2⟩ | ⟨h1, h2⟩
 ·rcases Qkr hy with ⟨_, h3⟩ | ⟨h3, _⟩
  ·rcases Qkr hs' with ⟨_, h4⟩ | ⟨h4, _⟩
   ·exact Rw.frame (T.row j x' y' s' h2 h3 h4) (hf s' (List.mem_of_getElem? h4))
   ·omega
  ·omega
 ·rcases Qkr hy with ⟨h3, _⟩ | ⟨_, h3⟩
  ·omega
  ·rcases Qkr hs' with ⟨h4, _⟩ | ⟨_, h4⟩
   ·omega
   ·subst h2 h3 h4; exact hR
structure Mk (A : List Ent) (c : TC) (l : List (Den c.seen)) (h : Hd) (B : List Ent) (ids : List Nat) : Prop where
 tr : Tr B c h l ids
 nd : ids.Nodup
 new : ∀ n ∈ ids, A.length ≤ n
 grow : Grow A B
structure MkR (A : List Ent) (c : TC) (x : Den c) (y : Den c.seen) (B : List Ent) (s : List Nat) : Prop where
 rw_ : Rw B c x y s
 nd : s.Nodup
 new : ∀ n ∈ s, A.length ≤ n
 grow : Grow A B
theorem Grow.len {A B : List Ent} (h : Grow A B) : A.length ≤ B.length := h.ext.len
theorem Grow.same {A B : List Ent} (h : Grow A B) {n : Nat} (hn : n < A.length) : B[n]? = A[n]? := h.ext.same n hn (fun h => h)
theorem Mk.base {A B D : List Ent} {c : TC} {l : List (Den c.seen)} {h : Hd} {ids : List Nat} (m : Mk B c l h D ids) (g : Grow A B) : Mk A c l h D ids := ⟨m.tr, m.nd, fun n hn => Nat.le_trans g.len (m.new n hn), g.trans m.grow⟩
theorem MkR.base {A B D : List Ent} {c : TC} {x : Den c} {y : Den c.seen} {ids : List Nat} (m : MkR B c x y D ids) (g : Grow A B) : MkR A c x y D ids := ⟨m.rw_, m.nd, fun n hn => Nat.le_trans g.len (m.new n hn), g.trans m.grow⟩
theorem Mk.keep {A B D : List Ent} {c : TC} {l : List (Den c.seen)} {h : Hd} {ids : List Nat} (m : Mk A c l h B ids) (g : Grow B D) : Mk A c l h D ids := ⟨m.tr.frame fun n hn => g.same (m.tr.lt n hn), m.nd, m.new, m.grow.trans g⟩
theorem MkR.keep {A B D : List Ent} {c : TC} {x : Den c} {y : Den c.seen} {ids : List Nat} (m : MkR A c x y B ids) (g : Grow B D) : MkR A c x y D ids := ⟨m.rw_.frame fun n hn => g.same (m.rw_.lt n hn), m.nd, m.new, m.grow.trans g⟩
theorem Mk.nil {A B : List Ent} (c : TC) (g : Grow A B) : Mk A c [] ⟨none, 0⟩ B [] := by
 refine ⟨Qlw.2 ⟨[], [], ⟨Qar, rfl, rfl, rfl, fun j x y s hx => by simp at hx⟩, rfl⟩, by simp, by simp, g⟩
theorem Mk.view {A B : List Ent} {c : TC} {l : List (Den c.seen)} {h : Hd} {ids : List Nat} (m : Mk A c l h B ids) : Qlz B c h.id = some l := m.tr.view m.nd
theorem Qfc {s t : List Nat} (h1 : s.Nodup) (h2 : t.Nodup) (h : ∀ n ∈ s, n ∉ t) : (s ++ t).Nodup := List.nodup_append.2 ⟨h1, h2, fun a ha b hb e => h a ha (e ▸ hb)⟩
theorem Mk.apart {A B : List Ent} {c : TC} {l : List (Den c.seen)} {h : Hd} {ids t : List Nat} (m : Mk A c l h B ids) (ht : ∀ n ∈ t, B.length ≤ n) : ∀ n ∈ ids, n ∉ t := fun n hn hm => by
 have h1 := m.tr.lt n hn
 have h2 := ht n hm
 omega
theorem MkR.exp {A B : List Ent} {as : List Exp} {h : Hd} {s : List Nat} (m : Mk A .expH as h B s) (op n : Int) : MkR A .expH ⟨op, n, h⟩ ⟨op, n, as⟩ B s := ⟨⟨as, m.tr, rfl⟩, m.nd, m.new, m.grow⟩
theorem MkR.bx {A B : List Ent} {l : List Int} {h : Hd} {s : List Nat} (m : Mk A .int l h B s) (r : Int) : MkR A .bxH ⟨r, h⟩ ⟨r, l⟩ B s := ⟨⟨l, m.tr, rfl⟩, m.nd, m.new, m.grow⟩
theorem MkR.ints {A B : List Ent} {l : List Int} {h : Hd} {s : List Nat} (m : Mk A .int l h B s) : MkR A .intsH h l B s := ⟨m.tr, m.nd, m.new, m.grow⟩
theorem MkR.stms {A B : List Ent} {l : List Stm} {h : Hd} {s : List Nat} (m : Mk A .stmH l h B s) : MkR A .stmsHH h l B s := ⟨m.tr, m.nd, m.new, m.grow⟩
theorem MkR.int {A B : List Ent} (x : Int) (g : Grow A B) : MkR A .int x x B [] := ⟨⟨rfl, rfl⟩, by simp, by simp, g⟩
theorem MkR.bool {A B : List Ent} (x : Bool) (g : Grow A B) : MkR A .bool x x B [] := ⟨⟨rfl, rfl⟩, by simp, by simp, g⟩
theorem MkR.stm {A B : List Ent} {as : List Exp} {bd el : List Stm} {h1 h2 h3 : Hd} {s1 s2 s3 : List Nat} (m1 : Mk A .expH as h1 B s1) (m2 : Mk A .stmH bd h2 B s2) (m3 : Mk A .stmH el h3 B s3) (d12 : ∀ n ∈ s1, n ∉ s2) (d13 : ∀ n ∈ s1, n ∉ s3) (d23 : ∀ n ∈ s2, n ∉ s3) (k v b o n : Int) :
  MkR A .stmH ⟨k, v, b, o, n, h1, h2, h3⟩ ⟨k, v, b, ⟨o, n, as⟩, bd, el⟩ B (s1 ++ (s2 ++ s3)) := by
 refine ⟨⟨as, bd, el, s1, s2, s3, m1.tr, m2.tr, m3.tr, rfl, rfl⟩, Qfc m1.nd (Qfc m2.nd m3.nd d23) (fun n hn hm => ?_), fun n hn => ?_, m1.grow⟩
 ·rcases List.mem_append.1 hm with hm | hm
  ·exact d12 n hn hm
  ·exact d13 n hn hm
 ·rcases List.mem_append.1 hn with hn | hn
  ·exact m1.new n hn
  ·rcases List.mem_append.1 hn with hn | hn
   ·exact m2.new n hn
   ·exact m3.new n hn
theorem MkR.tk {A B : List Ent} {l : List Int} {r : List Stm} {h1 h2 : Hd} {s1 s2 : List Nat} (m1 : Mk A .int l h1 B s1) (m2 : Mk A .stmH r h2 B s2) (d : ∀ n ∈ s1, n ∉ s2) : MkR A .tkH ⟨h1, h2⟩ ⟨l, r⟩ B (s1 ++ s2) := by
 refine ⟨⟨l, r, s1, s2, m1.tr, m2.tr, rfl, rfl⟩, Qfc m1.nd m2.nd d, fun n hn => ?_, m1.grow⟩
 rcases List.mem_append.1 hn with hn | hn
 ·exact m1.new n hn
 ·exact m2.new n hn
theorem MkR.prg {A B : List Ent} {l : List Int} {r : List (List Stm)} {h1 h2 : Hd} {s1 s2 : List Nat} (m1 : Mk A .int l h1 B s1) (m2 : Mk A .stmsHH r h2 B s2) (d : ∀ n ∈ s1, n ∉ s2) : MkR A .prgH ⟨h1, h2⟩ ⟨l, r⟩ B (s1 ++ s2) := by
 refine ⟨⟨l, r, s1, s2, m1.tr, m2.tr, rfl, rfl⟩, Qfc m1.nd m2.nd d, fun n hn => ?_, m1.grow⟩
 rcases List.mem_append.1 hn with hn | hn
 ·exact m1.new n hn
 ·exact m2.new n hn
theorem MkR.wld {A B : List Ent} {l : List Tk} {r : List Bx} {o : List Int} {h1 h2 h3 : Hd} {s1 s2 s3 : List Nat} (m1 : Mk A .tkH l h1 B s1) (m2 : Mk A .bxH r h2 B s2) (m3 : Mk A .int o h3 B s3) (d12 : ∀ n ∈ s1, n ∉ s2) (d13 : ∀ n ∈ s1, n ∉ s3) (d23 : ∀ n ∈ s2, n ∉ s3) (t i : Int) :
  MkR A .wldH ⟨h1, h2, t, i, h3⟩ ⟨l, r, t, i, o⟩ B (s1 ++ (s2 ++ s3)) := by
 refine ⟨⟨l, r, o, s1, s2, s3, m1.tr, m2.tr, m3.tr, rfl, rfl⟩, Qfc m1.nd (Qfc m2.nd m3.nd d23) (fun n hn hm => ?_), fun n hn => ?_, m1.grow⟩
 ·rcases List.mem_append.1 hm with hm | hm
  ·exact d12 n hn hm
  ·exact d13 n hn hm
 ·rcases List.mem_append.1 hn with hn | hn
  ·exact m1.new n hn
  ·rcases List.mem_append.1 hn with hn | hn
   ·exact m2.new n hn
   ·exact m3.new n hn
theorem MkR.otc {A B : List Ent} {l : List Int} {r : List (List Int)} {o : List Bool} {h1 h2 h3 : Hd} {s1 s2 s3 : List Nat} (m1 : Mk A .int l h1 B s1) (m2 : Mk A .intsH r h2 B s2) (m3 : Mk A .bool o h3 B s3) (d12 : ∀ n ∈ s1, n ∉ s2) (d13 : ∀ n ∈ s1, n ∉ s3) (d23 : ∀ n ∈ s2, n ∉ s3) (t : Bool) :
  MkR A .otcH ⟨h1, h2, h3, t⟩ ⟨l, r, o, t⟩ B (s1 ++ (s2 ++ s3)) := by
 refine ⟨⟨l, r, o, s1, s2, s3, m1.tr, m2.tr, m3.tr, rfl, rfl⟩, Qfc m1.nd (Qfc m2.nd m3.nd d23) (fun n hn hm => ?_), fun n hn => ?_, m1.grow⟩
 ·rcases List.mem_append.1 hm with hm | hm
  ·exact d12 n hn hm
  ·exact d13 n hn hm
 ·rcases List.mem_append.1 hn with hn | hn
  ·exact m1.new n hn
  ·rcases List.mem_append.1 hn with hn | hn
   ·exact m2.new n hn
   ·exact m3.new n hn
theorem Mk.parts {A B : List Ent} {c : TC} {l : List (Den c.seen)} {h : Hd} {ids : List Nat} (m : Mk A c l h B ids) : ∃ rows ss, Ls B c h l rows ss ∧ ids = h.id.toList ++ ss.flatten ∧ (∀ n, h.id = some n → A.length ≤ n ∧ n ∉ ss.flatten) ∧ ss.flatten.Nodup ∧ ∀ n ∈ ss.flatten, A.length ≤ n := by
 obtain ⟨rows, ss, h1, h2⟩ := Qlw.1 m.tr
 have hn := m.nd
 rw [h2, List.nodup_append] at hn
 refine ⟨rows, ss, h1, h2, fun n hn' => ⟨m.new n (by rw [h2]; simp [hn']), fun hm => hn.2.2 n (by simp [hn']) n hm rfl⟩, hn.2.1, fun n hm => m.new n (by rw [h2]; simp [hm])⟩
theorem Mk.put {A B D : List Ent} {c : TC} {l : List (Den c.seen)} {h : Hd} {ids : List Nat} (m : Mk A c l h B ids) (hf : Qhc c) {j : Nat} (hj : j < l.length) {x : Den c} {y : Den c.seen} {s : List Nat} (r : MkR B c x y D s) :
  (∃ z, Qju D c h.id j = some z) ∧ ∃ ids', Mk A c (l.set j y) h (Qdz D c h.id j x) ids' := by
 obtain ⟨rows, ss, T, hids, hid, hnd, hnew⟩ := m.parts
 have hlen := T.len
 have hls := T.lens
 have hlt := m.tr.lt
 obtain ⟨i0, hi0⟩ : ∃ i0, h.id = some i0 := by
  cases hh : h.id with
  | some n => exact ⟨n, rfl⟩
  | none =>
   have hg := T.get
   rw [hh, Qar] at hg
   injection hg with hg
   rw [← hg] at hlen; simp at hlen
   rw [hlen] at hj; simp at hj
 obtain ⟨i1, i2⟩ := hid i0 hi0
 have i3 : i0 < B.length := hlt i0 (by rw [hids]; simp [hi0])
 have hgD : Qae D c h.id = some rows := Qnh (fun n hn => r.grow.same (by rw [hi0] at hn; injection hn with hn; omega)) T.get
 refine ⟨⟨rows[j]'(by omega), by unfold Qju; rw [hgD]; exact List.getElem?_eq_getElem _⟩, ?_⟩
 have hset : ∀ n, n ≠ i0 → (Qdz D c h.id j x)[n]? = D[n]? := by
  intro n hn
  rw [hi0]
  show (D.set i0 _)[n]? = _
  rw [List.getElem?_set_ne (fun e => hn e.symm)]
 have hgS : Qae (Qdz D c h.id j x) c h.id = some (rows.set j x) := by rw [hi0] at hgD ⊢; exact Qet hgD
 have hR : Rw (Qdz D c h.id j x) c x y s := r.rw_.frame fun n hn => hset n fun e => by have := r.new n hn; omega
 have T2 := Ls.put T hgS hR (fun i t hi ht n hn => by
  have hm : n ∈ ss.flatten := List.mem_flatten.2 ⟨t, List.mem_of_getElem? ht, hn⟩
  rw [hset n (fun e => i2 (e ▸ hm))]
  exact r.grow.same (hlt n (by rw [hids]; simp only [Zu]; exact .inr hm)))
 refine ⟨_, T2.tr, ?_, fun n hn => ?_, ?_⟩
 ·rw [hi0]
  refine Qfc (by simp) ?_ (fun n hn hm => ?_)
  ·obtain ⟨q1, q2⟩ := Qee.1 hnd
   refine Qee.2 ⟨fun t ht => ?_, fun a b t u hab ha hb n hn hm => ?_⟩
   ·rcases List.mem_or_eq_of_mem_set ht with ht | rfl
    ·exact q1 t ht
    ·exact r.nd
   ·have old : ∀ {i : Nat} {t : List Nat}, ss[i]? = some t → ∀ n ∈ t, n < B.length := fun hi n hn => hlt n (by rw [hids]; simp only [Zu]; exact .inr (List.mem_flatten.2 ⟨_, List.mem_of_getElem? hi, hn⟩))
    by_cases haj : a = j
    ·subst haj
     rw [Qcn ha] at hn
     rw [List.getElem?_set_ne hab] at hb
     have h1 := r.new n hn
     have h2 := old hb n hm
     omega
    ·rw [List.getElem?_set_ne (fun e => haj e.symm)] at ha
     by_cases hbj : b = j
     ·subst hbj
      rw [Qcn hb] at hm
      have h1 := r.new n hm
      have h2 := old ha n hn
      omega
     ·rw [List.getElem?_set_ne (fun e => hbj e.symm)] at hb
      exact q2 a b t u hab ha hb n hn hm
  ·simp at hn
   subst hn
   rcases Qko n hm with h1 | ⟨i, t, h1, h2, h3⟩
   ·have := r.new n h1; omega
   ·exact i2 (List.mem_flatten.2 ⟨t, List.mem_of_getElem? h2, h3⟩)
 ·rcases List.mem_append.1 hn with hn | hn
  ·rw [hi0] at hn; simp at hn; omega
  ·rcases Qko n hn with h1 | ⟨i, t, h1, h2, h3⟩
   ·exact Nat.le_trans m.grow.len (r.new n h1)
   ·exact hnew n (List.mem_flatten.2 ⟨t, List.mem_of_getElem? h2, h3⟩)
 ·rw [hi0]
  have hg1 := m.grow.trans r.grow
  show Grow A (D.set i0 _)
  refine hg1.set i1 ?_
  rw [hi0] at hgD
  have := Qat hgD
  rw [this]
  show ((rows.map (Qd c)).set j (Qd c x)).all Qdu = true
  rw [← List.map_set, List.all_map, List.all_eq_true]
  exact fun x _ => hf x
theorem Mk.app {A B D : List Ent} {c : TC} {l : List (Den c.seen)} {h : Hd} {ids : List Nat} (m : Mk A c l h B ids) (hf : Qhc c) {x : Den c} {y : Den c.seen} {s : List Nat} (r : MkR B c x y D s) (hle : h.n + 1 ≤ 4294967296) :
  Ok (Qnf D c h.id h.n ([x] : List (Den c))) fun E => ∃ ids', Mk A c (l ++ [y]) ⟨some D.length, h.n + 1⟩ E ids' := by
 obtain ⟨rows, ss, T, hids, hid, hnd, hnew⟩ := m.parts
 have hlt := m.tr.lt
 have hgD : Qae D c h.id = some rows := Qnh (fun n hn => r.grow.same (hlt n (by rw [hids]; simp [hn]))) T.get
 refine ⟨_, Qng hgD hle, ?_⟩
 have hkl : (killO D h.id).length = D.length := Qak
 have hkeep : ∀ n, n < D.length → (∀ k, h.id = some k → n ≠ k) → (Qaj (killO D h.id) c (rows ++ [x]))[n]? = D[n]? := by
  intro n hn hk
  rw [Qfa (by rw [hkl]; exact hn)]
  cases hh : h.id with
  | none => rfl
  | some k =>
   show (D.set k none)[n]? = _
   rw [List.getElem?_set_ne (fun e => hk k hh e.symm)]
 have hg : Qae (Qaj (killO D h.id) c (rows ++ [x])) c (some D.length) = some (rows ++ [x]) := by
  have := Qcb (es := killO D h.id) (l := rows ++ [x])
  rw [hkl] at this; exact this
 have hlB := r.grow.len
 have hR : Rw (Qaj (killO D h.id) c (rows ++ [x])) c x y s := r.rw_.frame fun n hn => hkeep n (r.rw_.lt n hn) fun k hk e => by
  have h1 := r.new n hn
  have h2 := hlt k (by rw [hids]; simp [hk])
  omega
 have T2 := Ls.app T hg hR (fun t ht n hn => by
  have hm : n ∈ ss.flatten := List.mem_flatten.2 ⟨t, ht, hn⟩
  have hnl := hlt n (by rw [hids]; simp only [Zu]; exact .inr hm)
  rw [hkeep n (by omega) (fun k hk e => (hid k hk).2 (e ▸ hm))]
  exact r.grow.same hnl)
 refine ⟨_, T2.tr, ?_, fun n hn => ?_, ?_⟩
 ·refine Qfc (by simp) ?_ (fun n hn hm => ?_)
  ·rw [List.flatten_append]
   refine Qfc hnd (by simpa using r.nd) (fun n hn hm => ?_)
   simp at hm
   have h1 := r.new n hm
   have h2 := hlt n (by rw [hids]; simp only [Zu]; exact .inr hn)
   omega
  ·simp at hn
   subst hn
   rw [List.flatten_append] at hm
   rcases List.mem_append.1 hm with hm | hm
   ·have := hlt _ (by rw [hids]; simp only [Zu]; exact .inr hm)
    omega
   ·simp at hm
    have := r.rw_.lt _ hm
    omega
 ·have hA := m.grow.len
  rcases List.mem_append.1 hn with hn | hn
  ·simp at hn; omega
  ·rw [List.flatten_append] at hn
   rcases List.mem_append.1 hn with hn | hn
   ·exact hnew n hn
   ·simp at hn
    have := r.new n hn; omega
 ·exact ((m.grow.trans r.grow).killO fun n hn => (hid n hn).1).push hf
theorem Mk.zero {A : List Ent} {c : TC} (hf : Qhc c) {z : Den c.seen} (hz : ∀ B, Rw B c (Qhw c) z []) (n : Nat) : ∃ ids, Mk A c (List.replicate n z) ⟨some A.length, n⟩ (Qaj A c (List.replicate n (Qhw c))) ids := by
 have T : Ls (Qaj A c (List.replicate n (Qhw c))) c ⟨some A.length, n⟩ (List.replicate n z) (List.replicate n (Qhw c)) (List.replicate n []) := by
  refine ⟨Qcb, by simp, by simp, by simp, fun j x y s hx hy hs => ?_⟩
  rw [List.getElem?_replicate] at hx hy hs
  split at hx
  ·rename_i hj
   rw [if_pos hj] at hy hs
   injection hx with hx
   injection hy with hy
   injection hs with hs
   subst hx hy hs
   exact hz _
  ·cases hx
 refine ⟨_, T.tr, ?_, fun m hm => ?_, (Grow.refl A).push hf⟩
 ·simp
 ·simp at hm; omega
theorem Tr.none (A : List Ent) (c : TC) : Tr A c ⟨none, 0⟩ [] [] := Qlw.2 ⟨[], [], ⟨Qar, rfl, rfl, rfl, fun j x y s hx => by simp at hx⟩, rfl⟩
theorem zero_exp (B : List Ent) : Rw B .expH (Qhw .expH) ⟨0, 0, []⟩ [] := ⟨[], Tr.none _ _, rfl⟩
theorem zero_stm (B : List Ent) : Rw B .stmH (Qhw .stmH) ⟨0, 0, 0, ⟨0, 0, []⟩, [], []⟩ [] := ⟨[], [], [], [], [], [], Tr.none _ _, Tr.none _ _, Tr.none _ _, rfl, rfl⟩
theorem zero_stms (B : List Ent) : Rw B .stmsHH (Qhw .stmsHH) [] [] := Tr.none _ _
theorem zero_int (B : List Ent) : Rw B .int (Qhw .int) (0 : Int) [] := ⟨rfl, rfl⟩
theorem Made.toMk {A B : List Ent} {l : List Int} {h : Hd} (m : Made .int A l h B) : Mk A .int l h B h.id.toList := by
 refine ⟨?_, by cases h.id <;> simp, fun n hn => m.id n (by simpa using hn), m.grow⟩
 have T : Ls B .int h l l (List.replicate l.length []) := ⟨m.get, m.cnt, rfl, by simp, fun j x y s hx hy hs => by
  rw [hx] at hy
  injection hy with hy
  rw [List.getElem?_replicate] at hs
  split at hs
  ·injection hs with hs; exact ⟨hy.symm, hs.symm⟩
  ·cases hs⟩
 have := T.tr
 simpa using this
theorem Quu {A : List Ent} : (Vs.Qdq A).length = A.length := by simp [Vs.Qdq]
theorem join_ok {A B : List Ent} (g : Grow (Vs.Qdq A) B) : Ok (Qly A B) fun E => Grow A E ∧ E.length = B.length ∧ ∀ n : Nat, A.length ≤ n → E[n]? = B[n]? := g.join
theorem MkR.join {A B E : List Ent} {c : TC} {x : Den c} {y : Den c.seen} {s : List Nat} (m : MkR (Vs.Qdq A) c x y B s) (hg : Grow A E) (hs : ∀ n : Nat, A.length ≤ n → E[n]? = B[n]?) : MkR A c x y E s := by
 have hnew : ∀ n ∈ s, A.length ≤ n := fun n hn => by have := m.new n hn; rw [Quu] at this; exact this
 exact ⟨m.rw_.frame fun n hn => hs n (hnew n hn), m.nd, hnew, hg⟩
structure Only (ids : List Nat) (A B : List Ent) : Prop where
 len : B.length = A.length
 same : ∀ n, n ∉ ids → B[n]? = A[n]?
theorem Only.refl (ids : List Nat) (A : List Ent) : Only ids A A := ⟨rfl, fun _ _ => rfl⟩
theorem Only.trans {ids : List Nat} {A B D : List Ent} (h : Only ids A B) (k : Only ids B D) : Only ids A D := ⟨k.len.trans h.len, fun n hn => (k.same n hn).trans (h.same n hn)⟩
theorem Only.mono {s ids : List Nat} {A B : List Ent} (h : Only s A B) (hm : ∀ n ∈ s, n ∈ ids) : Only ids A B := ⟨h.len, fun n hn => h.same n fun hs => hn (hm n hs)⟩
theorem Tr.only {A B : List Ent} {c : TC} {h : Hd} {l : List (Den c.seen)} {ids t : List Nat} (m : Tr A c h l ids) (o : Only t A B) (hd : ∀ n ∈ ids, n ∉ t) : Tr B c h l ids := m.frame fun n hn => o.same n (hd n hn)
theorem Rw.only {A B : List Ent} {c : TC} {x : Den c} {y : Den c.seen} {s t : List Nat} (m : Rw A c x y s) (o : Only t A B) (hd : ∀ n ∈ s, n ∉ t) : Rw B c x y s := m.frame fun n hn => o.same n (hd n hn)
theorem set_only {A : List Ent} {c : TC} {i : Nat} {j : Nat} {x : Den c} {ids : List Nat} (hi : i ∈ ids) : Only ids A (Qdz A c (some i) j x) := by
 refine ⟨length_set, fun n hn => ?_⟩
 show (A.set i _)[n]? = _
 rw [List.getElem?_set_ne (show i ≠ n from fun e => hn (by rw [← e]; exact hi))]
theorem arSet_set {A : List Ent} {c : TC} {i j : Nat} {x y : Den c} {rows : List (Den c)} (hg : Qae A c (some i) = some rows) : Qdz (Qdz A c (some i) j x) c (some i) j y = Qdz A c (some i) j y := by
 have h1 := Qat hg
 have h2 := Qat (Qet (i := j) (x := x) hg)
 unfold Qdz at h2 ⊢
 rw [h2]
 simp only [setO, h1, Option.getD_some, List.set_set]
 simp only [List.map_set, List.set_set]
theorem arRow_set {A : List Ent} {c : TC} {i j : Nat} {x : Den c} {rows : List (Den c)} (hg : Qae A c (some i) = some rows) (hj : j < rows.length) : Qju (Qdz A c (some i) j x) c (some i) j = some x := Qni (Qet hg) (by rw [List.getElem?_set_self hj])
structure Mid (A : List Ent) (c : TC) (h : Hd) (l : List (Den c.seen)) (ids : List Nat) (j : Nat) (y : Den c.seen) where
 i : Nat
 x : Den c
 s : List Nat
 rows : List (Den c)
 hid : h.id = some i
 get : Qae A c (some i) = some rows
 at_ : rows[j]? = some x
 row : Rw A c x y s
 ins : ∀ n ∈ s, n ∈ ids
 iin : i ∈ ids
 out : i ∉ s
 nds : s.Nodup
 back : ∀ {B : List Ent} {x' : Den c} {y' : Den c.seen}, Qae B c (some i) = some (rows.set j x') → Rw B c x' y' s → Only (i :: s) A B → Tr B c h (l.set j y') ids
theorem Tr.mid {A : List Ent} {c : TC} {h : Hd} {l : List (Den c.seen)} {ids : List Nat} (T0 : Tr A c h l ids) (hn : ids.Nodup) {j : Nat} {y : Den c.seen} (hj : l[j]? = some y) : Nonempty (Mid A c h l ids j y) := by
 obtain ⟨rows, ss, T, hids⟩ := Qlw.1 T0
 have hlen := T.len
 have hls := T.lens
 have hlt := (List.getElem?_eq_some_iff.1 hj).1
 rw [hids, List.nodup_append] at hn
 obtain ⟨_, hn2, hn3⟩ := hn
 obtain ⟨q1, q2⟩ := Qee.1 hn2
 obtain ⟨i0, hi0⟩ : ∃ i0, h.id = some i0 := by
  cases hh : h.id with
  | some n => exact ⟨n, rfl⟩
  | none =>
   have hg := T.get
   rw [hh, Qar] at hg
   injection hg with hg
   rw [← hg] at hlen; simp at hlen
   rw [hlen] at hlt; simp at hlt
 have hs : ss[j]? = some (ss[j]'(by omega)) := List.getElem?_eq_getElem _
 have hx : rows[j]? = some (rows[j]'(by omega)) := List.getElem?_eq_getElem _
 have hin : ∀ n ∈ ss[j]'(by omega), n ∈ ss.flatten := fun n hn => List.mem_flatten.2 ⟨_, List.mem_of_getElem? hs, hn⟩
 have hnot : i0 ∉ ss.flatten := fun hm => hn3 i0 (by rw [hi0]; simp) i0 hm rfl
 refine ⟨⟨i0, rows[j]'(by omega), ss[j]'(by omega), rows, hi0, by rw [← hi0]; exact T.get, hx, T.row j _ _ _ hx hj hs, fun n hn => by rw [hids]; exact List.mem_append.2 (.inr (hin n hn)), by rw [hids, hi0]; simp, fun hm => hnot (hin _ hm), q1 _ (List.mem_of_getElem? hs), ?_⟩⟩
 intro B x' y' hg hR ho
 have T2 := Ls.put T (j := j) (x := x') (y := y') (s := ss[j]'(by omega)) (by rw [hi0]; exact hg) hR (fun a t ha ht n hn => ho.same n fun hm => by
  rcases List.mem_cons.1 hm with rfl | hm
  ·exact hnot (List.mem_flatten.2 ⟨t, List.mem_of_getElem? ht, hn⟩)
  ·exact q2 a j t _ ha ht hs n hn hm)
 have e : ss.set j (ss[j]'(by omega)) = ss := List.set_getElem_self _
 have := T2.tr
 rw [e, ← hids] at this
 exact this
end Go.Tv