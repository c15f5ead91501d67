/- Operations that name different things may change places. -/
import Derived.Test.YthedbdlbibkpiaaGreatDoorVs19
set_option linter.unusedVariables false
namespace Go.Vs
open Go Go.RowKit

section
variable {s s' : S} {G : Nat → List AV} {call : Call}

def K.takes (k : K) : List Nat := k.opnds.filterMap fun | .take t => some t | _ => none
theorem takes_eq (o : AOp) : o.takes = o.k.takes := rfl

/-- What a step leaves as it is. -/
structure Keep (T : List Nat) (m : Bool) (s s' : S) : Prop where
  t : ∀ t, t ∉ T → s'.t t = s.t t
  b : m = false → s'.b = s.b ∧ s'.seen = s.seen

theorem Keep.refl (T : List Nat) (m : Bool) (s : S) : Keep T m s s := ⟨fun _ _ => rfl, fun _ => ⟨rfl, rfl⟩⟩
theorem Keep.of_t {T : List Nat} {s s' : S} (h : s'.t = s.t) : Keep T true s s' := ⟨fun _ _ => by rw [h], fun h => by cases h⟩
theorem Keep.drop {x : Opnd} {T : List Nat} {m : Bool} (h : ∀ t, x = .take t → t ∈ T) (s : S) : Keep T m s (s.drop x) := by
  refine ⟨fun u hu => ?_, fun _ => drop_b s x⟩
  cases x with
  | take t =>
    have : u ≠ t := fun e => hu (by rw [e]; exact h t rfl)
    simp [S.drop, upd, this]
  | _ => rfl
theorem dropAll_t : ∀ {xs : List Opnd} {s : S} {t : Nat}, (.take t ∉ xs) → (dropAll s xs).t t = s.t t
  | [], _, _, _ => rfl
  | x :: xs, s, t, h => by
    have h1 := dropAll_t (xs := xs) (s := s.drop x) (t := t) (fun hm => h (by simp [hm]))
    rw [show dropAll s (x :: xs) = dropAll (s.drop x) xs from rfl, h1]
    have : x ≠ .take t := fun e => h (by simp [e])
    cases x with
    | take u =>
      have : t ≠ u := fun e => this (by rw [e])
      simp [S.drop, upd, this]
    | _ => rfl
theorem newB_t {b : Nat} {c : BC} (h : s.newB b c = some s') : s'.t = s.t := by
  unfold S.newB at h
  split at h
  · cases h
  · injection h with h; subst h; rfl
theorem giveBack_t : ∀ {ls : List Nat} {bv : List BC} {s s' : S}, giveBack s ls bv = some s' → s'.t = s.t
  | [], [], _, _, h => by simp only [giveBack, Option.some.injEq] at h; rw [h]
  | [], _ :: _, _, _, h => by simp [giveBack] at h
  | _ :: _, [], _, _, h => by simp [giveBack] at h
  | b :: ls, c :: bv, s, s', h => by simp only [giveBack] at h; rw [giveBack_t h]; rfl
theorem callF_t {g site : Nat} {cs : List AV} {v : AV} (h : callF call s g site cs = some (v, s')) : s'.t = s.t := by
  simp only [callF] at h
  obtain ⟨⟨tv, bv, ls⟩, _, h⟩ := bnd_is.1 h
  obtain ⟨⟨oc, outs, bv'⟩, _, h⟩ := bnd_is.1 h
  obtain ⟨s1, h1, h⟩ := bnd_is.1 h
  dsimp only at h
  split at h
  · obtain ⟨s2, h2, h⟩ := bnd_is.1 h
    simp only [Option.some.injEq, Prod.mk.injEq] at h
    obtain ⟨_, rfl⟩ := h
    rw [newB_t h2, giveBack_t h1]
  · split at h
    · cases h
    · simp only [Option.some.injEq, Prod.mk.injEq] at h
      obtain ⟨_, rfl⟩ := h
      rw [giveBack_t h1]
  · cases h
theorem capture_t : ∀ {vs out : List AV} {s s' : S}, capture s vs = some (out, s') → s'.t = s.t
  | [], _, _, _, h => by simp only [capture, Option.some.injEq, Prod.mk.injEq] at h; rw [h.2]
  | c :: vs, out, s, s', h => by
    cases c with
    | bp b off =>
      simp only [capture] at h
      split at h
      · split at h
        · obtain ⟨⟨o1, s1⟩, h1, h⟩ := bnd_is.1 h
          simp only [Option.some.injEq, Prod.mk.injEq] at h
          obtain ⟨_, rfl⟩ := h
          rw [capture_t h1]
        · cases h
      · cases h
    | undef | int | bool | str | con | sl | agg | rp | fn | tup =>
      simp only [capture, AV.isP, Bool.false_eq_true, if_false] at h
      obtain ⟨⟨o1, s1⟩, h1, h⟩ := bnd_is.1 h
      simp only [Option.some.injEq, Prod.mk.injEq] at h
      obtain ⟨_, rfl⟩ := h
      rw [capture_t h1]
    | bs | be | np => simp [capture, AV.isP] at h
theorem loadP_keep {n : Nat} {agg take : Bool} {p v : AV} (h : loadP n agg take s p = some (v, s')) : s'.t = s.t ∧ (take = false → s' = s) := by
  cases p <;> simp only [loadP] at h <;> first | (cases h; done) | skip
  case bp b off =>
    split at h
    · cases take with
      | true =>
        simp only [if_true] at h
        split at h
        · cases h
        · split at h
          · obtain ⟨c, _, h⟩ := bnd_is.1 h
            split at h
            · cases h
            · simp only [Option.some.injEq, Prod.mk.injEq] at h
              obtain ⟨_, rfl⟩ := h
              exact ⟨rfl, fun h => by cases h⟩
          · cases h
      | false =>
        simp only [Bool.false_eq_true, if_false] at h
        obtain ⟨c, _, h⟩ := bnd_is.1 h
        simp only [Option.some.injEq, Prod.mk.injEq] at h
        obtain ⟨_, rfl⟩ := h
        exact ⟨rfl, fun _ => rfl⟩
    · cases h
  case be b i off =>
    split at h
    · obtain ⟨c, _, h⟩ := bnd_is.1 h
      split at h
      · cases h
      · obtain ⟨d, _, h⟩ := bnd_is.1 h
        simp only [Option.some.injEq, Prod.mk.injEq] at h
        obtain ⟨_, rfl⟩ := h
        exact ⟨rfl, fun _ => rfl⟩
    · cases h
  case rp cs off =>
    split at h
    · cases h
    · obtain ⟨d, _, h⟩ := bnd_is.1 h
      simp only [Option.some.injEq, Prod.mk.injEq] at h
      obtain ⟨_, rfl⟩ := h
      exact ⟨rfl, fun _ => rfl⟩
theorem storeP_t {n : Nat} {p v : AV} (h : storeP n s p v = some s') : s'.t = s.t := by
  simp only [storeP] at h
  split at h
  rotate_left
  · cases h
  cases p <;> simp only [] at h <;> first | (cases h; done) | skip
  case bp b off =>
    split at h
    · obtain ⟨c, _, h⟩ := bnd_is.1 h
      injection h with h; subst h; rfl
    · cases h
  case be b i off =>
    split at h
    · obtain ⟨c, _, h⟩ := bnd_is.1 h
      obtain ⟨d, _, h⟩ := bnd_is.1 h
      injection h with h; subst h; rfl
    · cases h
theorem convK_keep {c : CK} {x v : AV} (h : convK s c x = some (v, s')) : s'.t = s.t ∧ ((∀ b, c ≠ .strBytes b) → s' = s) := by
  unfold convK at h
  split at h
  · simp only [Option.some.injEq, Prod.mk.injEq] at h; exact ⟨by rw [h.2], fun _ => h.2.symm⟩
  · simp only [Option.some.injEq, Prod.mk.injEq] at h; exact ⟨by rw [h.2], fun _ => h.2.symm⟩
  · obtain ⟨l, _, h⟩ := bnd_is.1 h
    simp only [Option.some.injEq, Prod.mk.injEq] at h; exact ⟨by rw [h.2], fun _ => h.2.symm⟩
  · split at h
    · obtain ⟨l, _, h⟩ := bnd_is.1 h
      simp only [Option.some.injEq, Prod.mk.injEq] at h; exact ⟨by rw [h.2], fun _ => h.2.symm⟩
    · cases h
  · obtain ⟨s1, h1, h⟩ := bnd_is.1 h
    simp only [Option.some.injEq, Prod.mk.injEq] at h
    obtain ⟨_, rfl⟩ := h
    exact ⟨newB_t h1, fun hh => absurd rfl (hh _)⟩
  · split at h
    · simp only [Option.some.injEq, Prod.mk.injEq] at h; exact ⟨by rw [h.2], fun _ => h.2.symm⟩
    · cases h
  · cases h

theorem mem_takes {k : K} {x : Opnd} (h : x ∈ k.opnds) : ∀ t, x = .take t → t ∈ k.takes := by
  intro t e
  subst e
  exact List.mem_filterMap.2 ⟨_, h, rfl⟩

theorem evalK_keep {k : K} {v : AV} (h : evalK call G s k = some (v, s')) : Keep k.takes k.mods s s' := by
  have here : ∀ {x : AV} {s1 : S}, Keep k.takes k.mods s s1 → some (x, s1) = some (v, s') → Keep k.takes k.mods s s' := by
    intro x s1 hk hh
    simp only [Option.some.injEq, Prod.mk.injEq] at hh
    rw [← hh.2]; exact hk
  have pure : ∀ {α : Type} {x : Option α} {f : α → AV}, (bnd x fun a => some (f a, s)) = some (v, s') → Keep k.takes k.mods s s' := by
    intro α x f hh
    obtain ⟨a, _, hh⟩ := bnd_is.1 hh
    exact here (Keep.refl _ _ _) hh
  cases k <;> simp only [evalK] at h
  case mv x => exact here (Keep.drop (mem_takes (k := .mv x) (by simp [K.opnds])) s) h
  case pick c x y =>
    split at h
    rotate_left
    · cases h
    split at h
    · exact here (Keep.drop (mem_takes (k := .pick c x y) (by simp [K.opnds])) s) h
    · exact here (Keep.drop (mem_takes (k := .pick c x y) (by simp [K.opnds])) s) h
  case alloc b z =>
    obtain ⟨s1, h1, h2⟩ := bnd_is.1 h
    exact here (Keep.of_t (newB_t h1)) h2
  case box b x =>
    split at h
    · obtain ⟨s1, h1, h2⟩ := bnd_is.1 h
      exact here (Keep.of_t (newB_t h1)) h2
    · cases h
  case build z ps => exact pure h
  case buildS m' sz ps =>
    split at h
    · exact here (Keep.refl _ _ _) h
    · cases h
  case load n agg take x =>
    obtain ⟨h1, h2⟩ := loadP_keep h
    exact ⟨fun _ _ => by rw [h1], fun hm => by rw [h2 hm]; exact ⟨rfl, rfl⟩⟩
  case store n x y =>
    obtain ⟨s1, h1, h2⟩ := bnd_is.1 h
    have hd := Keep.drop (T := K.takes (.store n x y)) (m := true) (mem_takes (k := .store n x y) (by simp [K.opnds]) : ∀ t, y = .take t → _) s
    refine here ⟨fun t ht => ?_, fun hm => by cases hm⟩ h2
    rw [storeP_t h1]; exact hd.t t ht
  case nilck x =>
    split at h
    · split at h
      · exact here (Keep.refl _ _ _) h
      · cases h
    · split at h
      · exact here (Keep.refl _ _ _) h
      · cases h
    · exact here (Keep.refl _ _ _) h
    · exact here (Keep.refl _ _ _) h
    · cases h
  case bin op x y => exact pure h
  case eqb neq x y =>
    split at h
    · exact here (Keep.refl _ _ _) h
    · cases h
  case eqs neq n x y =>
    split at h
    · split at h
      · exact pure h
      · cases h
    · cases h
  case un op x => exact pure h
  case conv c x =>
    obtain ⟨h1, h2⟩ := convK_keep h
    refine ⟨fun _ _ => by rw [h1], fun hm => ?_⟩
    rw [h2 (fun b e => by subst e; cases hm)]; exact ⟨rfl, rfl⟩
  case mkfn g caps =>
    obtain ⟨⟨o1, s1⟩, h1, h2⟩ := bnd_is.1 h
    exact here (Keep.of_t (capture_t h1)) h2
  case mksl b sz z n c =>
    split at h
    · split at h
      · obtain ⟨s1, h1, h2⟩ := bnd_is.1 h
        exact here (Keep.of_t (newB_t h1)) h2
      · cases h
    · cases h
  case mkz sz z n c =>
    split at h
    · split at h
      · exact here (Keep.refl _ _ _) h
      · cases h
    · cases h
  case slc sz x lo hi mx =>
    split at h
    · cases h
    · obtain ⟨a1, _, h⟩ := bnd_is.1 h
      obtain ⟨a2, _, h⟩ := bnd_is.1 h
      obtain ⟨a3, _, h⟩ := bnd_is.1 h
      exact pure h
  case slcS x lo hi =>
    obtain ⟨a1, _, h⟩ := bnd_is.1 h
    obtain ⟨a2, _, h⟩ := bnd_is.1 h
    exact pure h
  case fadr off x =>
    split at h
    · split at h
      · exact here (Keep.refl _ _ _) h
      · cases h
    · split at h
      · exact here (Keep.refl _ _ _) h
      · cases h
    · exact here (Keep.refl _ _ _) h
    · cases h
  case fld off n agg x =>
    split at h
    · exact pure h
    · cases h
  case iadr sz x i =>
    split at h
    · split at h
      · obtain ⟨a1, _, h⟩ := bnd_is.1 h
        exact pure h
      · cases h
    · split at h
      · split at h
        · obtain ⟨a1, _, h⟩ := bnd_is.1 h
          split at h
          · exact here (Keep.refl _ _ _) h
          · cases h
        · cases h
      · cases h
    · cases h
  case iadrA sz len x i =>
    split at h
    · split at h
      · obtain ⟨a1, _, h⟩ := bnd_is.1 h
        split at h
        · exact here (Keep.refl _ _ _) h
        · cases h
      · cases h
    · obtain ⟨a1, _, h⟩ := bnd_is.1 h
      split at h
      · exact here (Keep.refl _ _ _) h
      · cases h
    · cases h
  case idxS x i =>
    split at h
    · obtain ⟨a1, _, h⟩ := bnd_is.1 h
      exact pure h
    · cases h
  case idxA sz len n agg x i =>
    split at h
    · obtain ⟨a1, _, h⟩ := bnd_is.1 h
      split at h
      · exact pure h
      · cases h
    · cases h
  case len x =>
    split at h
    · exact here (Keep.refl _ _ _) h
    · split at h
      · exact here (Keep.refl _ _ _) h
      · cases h
    · cases h
  case lenS x =>
    split at h
    · exact here (Keep.refl _ _ _) h
    · cases h
  case app sz x y =>
    split at h
    · split at h
      · exact here (Keep.drop (mem_takes (k := .app sz x y) (by simp [K.opnds])) s) h
      · cases h
    · cases h
  case ext i x =>
    split at h
    · obtain ⟨a1, _, h⟩ := bnd_is.1 h
      split at h
      · cases h
      · exact here (Keep.refl _ _ _) h
    · cases h
  case call g site args =>
    split at h
    · refine ⟨fun t ht => ?_, fun hm => by cases hm⟩
      rw [callF_t h]
      exact dropAll_t fun hm => ht (mem_takes (k := .call g site args) hm t rfl)
    · cases h
  case callv f args =>
    split at h
    rotate_left
    · cases h
    split at h
    · refine ⟨fun t ht => ?_, fun hm => by cases hm⟩
      rw [callF_t h]
      exact dropAll_t fun hm => ht (mem_takes (k := .callv f args) (List.mem_cons_of_mem _ hm) t rfl)
    · cases h
  case mx args =>
    obtain ⟨l, _, h⟩ := bnd_is.1 h
    split at h
    · cases h
    · exact here (Keep.refl _ _ _) h
  case mn args =>
    obtain ⟨l, _, h⟩ := bnd_is.1 h
    split at h
    · cases h
    · exact here (Keep.refl _ _ _) h

/-! ### A step on the whole state from one on what it names -/
theorem mask_vw (s : S) (R B : List Nat) : Vw R B s (s.mask R B) s := by
  refine ⟨fun t ht => ?_, fun b hb => ?_, fun b hb => ?_, fun _ _ => rfl, fun _ _ => ⟨rfl, rfl⟩⟩
  · simp [S.mask, ht]
  · simp [S.mask, hb]
  · simp [S.mask, hb]

theorem mem_reads {o : AOp} {x : Opnd} (h : x ∈ o.k.opnds) : x.inn o.reads := by
  cases x <;> simp only [Opnd.inn, AOp.reads, List.mem_filterMap]
  · exact ⟨_, h, rfl⟩
  · exact ⟨_, h, rfl⟩
theorem takes_reads {o : AOp} {t : Nat} (h : t ∈ o.takes) : t ∈ o.reads := by
  simp only [AOp.takes, List.mem_filterMap] at h
  obtain ⟨x, h1, h2⟩ := h
  cases x <;> simp at h2
  subst h2
  exact mem_reads h1

theorem evalK_mask {o : AOp} {m' : S} {v : AV} (h : evalK call G (s.mask o.reads o.fp) o.k = some (v, m')) : evalK call G s o.k = some (v, s.merge o m') := by
  obtain ⟨s', h1, h2⟩ := (mask_vw s o.reads o.fp).evalK (fun x hx => mem_reads hx) h
  have hkeep := evalK_keep h
  have : s' = s.merge o m' := by
    have ht : s'.t = (s.merge o m').t := by
      funext t
      simp only [S.merge]
      by_cases htk : t ∈ o.takes
      · simp only [htk, List.contains_iff_mem, if_true]
        exact (h2.t t (takes_reads htk)).symm
      · simp only [htk, List.contains_iff_mem, if_false]
        by_cases hr : t ∈ o.reads
        · rw [← h2.t t hr, hkeep.t t htk]
          simp [S.mask, hr]
        · exact h2.ft t hr
    have hb : ∀ b, s'.b b = (s.merge o m').b b ∧ s'.seen b = (s.merge o m').seen b := by
      intro b
      simp only [S.merge]
      by_cases hf : b ∈ o.fp
      · rw [← (h2.b b hf).1, ← (h2.b b hf).2]
        cases hm : o.k.mods with
        | true => simp [hf]
        | false =>
          obtain ⟨k1, k2⟩ := hkeep.b hm
          simp only [Bool.false_and, Bool.false_eq_true, if_false, k1, k2]
          simp [S.mask, hf]
      · simp only [hf, List.contains_iff_mem, Bool.and_eq_true, and_false, if_false]
        exact h2.fb b hf
    have hb1 : s'.b = (s.merge o m').b := funext fun b => (hb b).1
    have hb2 : s'.seen = (s.merge o m').seen := funext fun b => (hb b).2
    cases s'
    simp only at ht hb1 hb2
    rw [ht, hb1, hb2]
  rw [← this]; exact h1

theorem stepD_stepA {o : AOp} (h : stepD call G s o = some s') : stepA call G s o = some s' := by
  simp only [stepD] at h
  obtain ⟨w, h1, h⟩ := bnd_is.1 h
  simp only [stepA, h1, bnd_some]
  cases w with
  | false => simpa using h
  | true =>
    simp only [if_true] at h ⊢
    obtain ⟨⟨v, m'⟩, h2, h⟩ := bnd_is.1 h
    rw [evalK_mask h2]
    exact h

/-! ### Two steps change places -/
def AOp.gt (o : AOp) : List Nat := match o.g with | some (t, _) => [t] | none => []
def AOp.wr (o : AOp) : List Nat := o.d.toList ++ o.takes
def apart (xs ys : List Nat) : Bool := xs.all fun x => !ys.contains x
theorem apart_spec {xs ys : List Nat} (h : apart xs ys = true) : ∀ x, x ∈ xs → x ∉ ys := by
  intro x hx
  simp only [apart, List.all_eq_true] at h
  simpa using h x hx
def comm (x y : AOp) : Bool := apart x.wr (y.reads ++ y.gt ++ y.wr) && apart y.wr (x.reads ++ x.gt) && (!(x.k.mods || y.k.mods) || apart x.fp y.fp)

/-- What a step does, seen apart from the state it is done to. -/
def eff (call : Call) (G : Nat → List AV) (s : S) (o : AOp) : Option (Option (AV × S)) :=
  bnd (wantedA s o.g) fun w => if w then bnd (evalK call G (s.mask o.reads o.fp) o.k) fun r => some (some r) else some none
def done (s : S) (o : AOp) : Option (AV × S) → S
  | some r => (s.merge o r.2).put o.d r.1
  | none => s.put o.d (.tup [])
theorem stepD_eff (s : S) (o : AOp) : stepD call G s o = bnd (eff call G s o) fun r => some (done s o r) := by
  simp only [stepD, eff, bnd_bnd]
  congr 1
  funext w
  cases w
  · simp [done]
  · simp only [if_true, bnd_bnd]
    rfl

theorem put_t (s : S) (d : Option Nat) (v : AV) (t : Nat) : (s.put d v).t t = if d = some t then v else s.t t := by
  cases d with
  | none => simp [S.put]
  | some d =>
    simp only [S.put, upd_at, Option.some.injEq]
    by_cases h : t = d
    · simp [h]
    · simp [h, Ne.symm h]
theorem put_b (s : S) (d : Option Nat) (v : AV) : (s.put d v).b = s.b ∧ (s.put d v).seen = s.seen := by cases d <;> exact ⟨rfl, rfl⟩

def dval : Option (AV × S) → AV
  | some r => r.1
  | none => .tup []
theorem done_t (s : S) (o : AOp) (r : Option (AV × S)) (t : Nat) : (done s o r).t t = if o.d = some t then dval r else (match r with | some r => if o.takes.contains t then r.2.t t else s.t t | none => s.t t) := by
  cases r with
  | none => simp only [done, put_t, dval]
  | some r => simp only [done, put_t, dval, S.merge]
theorem done_b (s : S) (o : AOp) (r : Option (AV × S)) (b : Nat) : (done s o r).b b = (match r with | some r => if o.k.mods && o.fp.contains b then r.2.b b else s.b b | none => s.b b) ∧ (done s o r).seen b = (match r with | some r => if o.k.mods && o.fp.contains b then r.2.seen b else s.seen b | none => s.seen b) := by
  cases r with
  | none => exact ⟨by simp only [done, (put_b _ _ _).1], by simp only [done, (put_b _ _ _).2]⟩
  | some r => exact ⟨by simp only [done, (put_b _ _ _).1, S.merge], by simp only [done, (put_b _ _ _).2, S.merge]⟩
theorem done_t_ne {o : AOp} {t : Nat} (h : t ∉ o.wr) (s : S) (r : Option (AV × S)) : (done s o r).t t = s.t t := by
  rw [done_t]
  simp only [AOp.wr, List.mem_append, Option.mem_toList] at h
  have h1 : o.d ≠ some t := fun e => h (.inl e)
  have h2 : t ∉ o.takes := fun e => h (.inr e)
  rw [if_neg h1]
  cases r <;> simp [h2]
theorem done_b_ne {o : AOp} {b : Nat} (h : o.k.mods = false ∨ b ∉ o.fp) (s : S) (r : Option (AV × S)) : (done s o r).b b = s.b b ∧ (done s o r).seen b = s.seen b := by
  obtain ⟨h1, h2⟩ := done_b s o r b
  rw [h1, h2]
  cases r with
  | none => exact ⟨rfl, rfl⟩
  | some r => rcases h with h | h <;> simp [h]

theorem eff_same {s1 s2 : S} {o : AOp} (ht : ∀ t, t ∈ o.reads ++ o.gt → s1.t t = s2.t t) (hb : ∀ b, b ∈ o.fp → s1.b b = s2.b b ∧ s1.seen b = s2.seen b) : eff call G s1 o = eff call G s2 o := by
  have hm : s1.mask o.reads o.fp = s2.mask o.reads o.fp := by
    have e1 : (s1.mask o.reads o.fp).t = (s2.mask o.reads o.fp).t := by
      funext t
      simp only [S.mask]
      split
      · rename_i h; exact ht t (by simp at h ⊢; exact .inl h)
      · rfl
    have e2 : (s1.mask o.reads o.fp).b = (s2.mask o.reads o.fp).b := by
      funext b
      simp only [S.mask]
      split
      · rename_i h; exact (hb b (by simpa using h)).1
      · rfl
    have e3 : (s1.mask o.reads o.fp).seen = (s2.mask o.reads o.fp).seen := by
      funext b
      simp only [S.mask]
      split
      · rename_i h; exact (hb b (by simpa using h)).2
      · rfl
    simp only [S.mask] at e1 e2 e3 ⊢
    rw [e1, e2, e3]
  have hw : wantedA s1 o.g = wantedA s2 o.g := by
    cases hg : o.g with
    | none => rfl
    | some x =>
      obtain ⟨t, want⟩ := x
      simp only [wantedA]
      rw [ht t (by simp [AOp.gt, hg])]
  simp only [eff, hm, hw]

theorem comm_step {x y : AOp} {s s1 s2 : S} (hc : comm x y = true) (h1 : stepD call G s x = some s1) (h2 : stepD call G s1 y = some s2) :
    ∃ s1', stepD call G s y = some s1' ∧ stepD call G s1' x = some s2 := by
  simp only [comm, Bool.and_eq_true, Bool.or_eq_true, Bool.not_eq_true', Bool.or_eq_false_iff] at hc
  obtain ⟨⟨c1, c2⟩, c3⟩ := hc
  have d1 := apart_spec c1
  have d2 := apart_spec c2
  have d3 : ∀ b, (x.k.mods = false ∨ b ∉ x.fp) ∨ b ∉ y.fp := by
    intro b
    rcases c3 with ⟨c3, _⟩ | c3
    · exact .inl (.inl c3)
    · by_cases hb : b ∈ x.fp
      · exact .inr (apart_spec c3 b hb)
      · exact .inl (.inr hb)
  have d4 : ∀ b, (y.k.mods = false ∨ b ∉ y.fp) ∨ b ∉ x.fp := by
    intro b
    rcases c3 with ⟨_, c3⟩ | c3
    · exact .inl (.inl c3)
    · by_cases hb : b ∈ x.fp
      · exact .inl (.inr (apart_spec c3 b hb))
      · exact .inr hb
  rw [stepD_eff] at h1 h2
  obtain ⟨r, e1, h1⟩ := bnd_is.1 h1
  obtain ⟨q, e2, h2⟩ := bnd_is.1 h2
  injection h1 with h1
  injection h2 with h2
  subst h1 h2
  have e2' : eff call G s y = some q := by
    rw [← e2]
    refine eff_same (fun t ht => ?_) (fun b hb => ?_)
    · refine (done_t_ne (fun hm => d1 t hm ?_) s r).symm
      simp only [List.mem_append] at ht ⊢
      rcases ht with ht | ht
      · exact .inl (.inl ht)
      · exact .inl (.inr ht)
    · have := done_b_ne (o := x) (b := b) ((d3 b).resolve_right (by simpa using hb)) s r
      exact ⟨this.1.symm, this.2.symm⟩
  have e1' : eff call G (done s y q) x = some r := by
    rw [← e1]
    refine eff_same (fun t ht => ?_) (fun b hb => ?_)
    · exact done_t_ne (fun hm => d2 t hm ht) s q
    · exact done_b_ne (o := y) (b := b) ((d4 b).resolve_right (by simpa using hb)) s q
  refine ⟨done s y q, by rw [stepD_eff, e2']; rfl, ?_⟩
  rw [stepD_eff, e1']
  simp only [bnd_some, Option.some.injEq]
  have ht : (done (done s y q) x r).t = (done (done s x r) y q).t := by
    funext t
    by_cases hx : t ∈ x.wr
    · have hy : t ∉ y.wr := fun hm => d1 t hx (by simp only [List.mem_append]; exact .inr hm)
      rw [done_t_ne hy, done_t _ x, done_t s x, done_t_ne hy]
    · rw [done_t_ne hx, done_t s y, done_t _ y, done_t_ne hx]
  have hb : ∀ b, (done (done s y q) x r).b b = (done (done s x r) y q).b b ∧ (done (done s y q) x r).seen b = (done (done s x r) y q).seen b := by
    intro b
    by_cases hx : x.k.mods = false ∨ b ∉ x.fp
    · rw [(done_b_ne hx _ _).1, (done_b_ne hx _ _).2, (done_b _ y _ _).1, (done_b _ y _ _).2, (done_b _ y _ _).1, (done_b _ y _ _).2, (done_b_ne hx _ _).1, (done_b_ne hx _ _).2]
      exact ⟨rfl, rfl⟩
    · have hy : y.k.mods = false ∨ b ∉ y.fp := by
        rcases d3 b with h | h
        · exact absurd h hx
        · exact .inr h
      rw [(done_b_ne hy _ _).1, (done_b_ne hy _ _).2, (done_b _ x _ _).1, (done_b _ x _ _).2, (done_b _ x _ _).1, (done_b _ x _ _).2, (done_b_ne hy _ _).1, (done_b_ne hy _ _).2]
      exact ⟨rfl, rfl⟩
  have hb1 : (done (done s y q) x r).b = (done (done s x r) y q).b := funext fun b => (hb b).1
  have hb2 : (done (done s y q) x r).seen = (done (done s x r) y q).seen := funext fun b => (hb b).2
  generalize done (done s y q) x r = u1 at *
  generalize done (done s x r) y q = u2 at *
  cases u1
  cases u2
  simp only at ht hb1 hb2
  rw [ht, hb1, hb2]

/-- One of many steps is done first. -/
theorem opsD_pull : ∀ {xs ys : List AOp} {y : AOp} {s s' : S}, (∀ x, x ∈ xs → comm x y = true) → opsD call G (xs ++ y :: ys) s = some s' → ∃ s1, stepD call G s y = some s1 ∧ opsD call G (xs ++ ys) s1 = some s'
  | [], ys, y, s, s', _, h => by
    simp only [List.nil_append, opsD] at h ⊢
    obtain ⟨s1, h1, h2⟩ := bnd_is.1 h
    exact ⟨s1, h1, h2⟩
  | x :: xs, ys, y, s, s', hc, h => by
    simp only [List.cons_append, opsD] at h ⊢
    obtain ⟨s1, h1, h2⟩ := bnd_is.1 h
    obtain ⟨s2, h3, h4⟩ := opsD_pull (fun z hz => hc z (List.mem_cons_of_mem _ hz)) h2
    obtain ⟨s1', h5, h6⟩ := comm_step (hc x (by simp)) h1 h3
    exact ⟨s1', h5, by rw [h6]; exact h4⟩
end
end Go.Vs
