/- Operations see what they name alone, and those that name different things may change places. -/
import Derived.Test.YthedbdlbibkpiaaGreatDoorVs18
set_option linter.unusedVariables false
namespace Go.Vs
open Go Go.RowKit

/-- A view m of the state s: some temporaries, some variables. s0: the state that was there at first. -/
structure Vw (R B : List Nat) (s0 m s : S) : Prop where
  t : ∀ t, t ∈ R → m.t t = s.t t
  b : ∀ b, b ∈ B → m.b b = s.b b ∧ m.seen b = s.seen b
  nb : ∀ b, b ∉ B → m.b b = none ∧ m.seen b = true
  ft : ∀ t, t ∉ R → s.t t = s0.t t
  fb : ∀ b, b ∉ B → s.b b = s0.b b ∧ s.seen b = s0.seen b

def Opnd.inn (R : List Nat) : Opnd → Prop
  | .tmp t | .take t => t ∈ R
  | _ => True

section
variable {R B : List Nat} {s0 m m' s s' : S} {G : Nat → List AV} {call : Call}

theorem Vw.get (h : Vw R B s0 m s) {x : Opnd} (hx : x.inn R) : m.get G x = s.get G x := by
  cases x <;> simp only [S.get] <;> rw [h.t _ hx]
theorem Vw.getA (h : Vw R B s0 m s) {x : Opnd} (hx : x.inn R) : m.getA G x = s.getA G x := by
  cases x <;> simp only [S.getA] <;> rw [h.t _ hx]
theorem Vw.gets (h : Vw R B s0 m s) {xs : List Opnd} (hx : ∀ x ∈ xs, x.inn R) : xs.map (m.get G) = xs.map (s.get G) := List.map_congr_left fun x hm => h.get (hx x hm)
theorem Vw.args (h : Vw R B s0 m s) {xs : List Opnd} (hx : ∀ x ∈ xs, x.inn R) : argsOf G m xs = argsOf G s xs := List.map_congr_left fun x hm => h.getA (hx x hm)
theorem Vw.box (h : Vw R B s0 m s) {b : Nat} {c : BC} (hb : m.b b = some c) : b ∈ B ∧ s.b b = some c := by
  by_cases hm : b ∈ B
  · exact ⟨hm, by rw [← (h.b b hm).1]; exact hb⟩
  · rw [(h.nb b hm).1] at hb; cases hb
theorem Vw.isSome (h : Vw R B s0 m s) {b : Nat} (hb : (m.b b).isSome = true) : (s.b b).isSome = true := by
  obtain ⟨c, hc⟩ := Option.isSome_iff_exists.1 hb
  rw [(h.box hc).2]; rfl
theorem Vw.drop (h : Vw R B s0 m s) {x : Opnd} (hx : x.inn R) : Vw R B s0 (m.drop x) (s.drop x) := by
  cases x with
  | take t =>
    refine ⟨fun u hu => ?_, h.b, h.nb, fun u hu => ?_, h.fb⟩
    · simp only [S.drop, upd_at, h.t _ hx, h.t _ hu]
    · have : u ≠ t := fun e => hu (by rw [e]; exact hx)
      simp only [S.drop, upd_at, this, if_false]; exact h.ft u hu
  | _ => exact h
theorem Vw.dropAll : ∀ {xs : List Opnd} {m s : S}, Vw R B s0 m s → (∀ x ∈ xs, x.inn R) → Vw R B s0 (dropAll m xs) (dropAll s xs)
  | [], _, _, h, _ => h
  | x :: xs, _, _, h, hx => Vw.dropAll (xs := xs) (h.drop (hx x (by simp))) (fun y hy => hx y (by simp [hy]))
theorem Vw.setB (h : Vw R B s0 m s) {b : Nat} (hb : b ∈ B) (c : BC) : Vw R B s0 (m.setB b c) (s.setB b c) := by
  refine ⟨h.t, fun b' hb' => ?_, fun b' hb' => ?_, h.ft, fun b' hb' => ?_⟩
  · simp only [S.setB, upd_at]
    split
    · exact ⟨rfl, (h.b b' hb').2⟩
    · exact h.b b' hb'
  · have : b' ≠ b := fun e => hb' (by rw [e]; exact hb)
    simp only [S.setB, upd_at, this, if_false]; exact h.nb b' hb'
  · have : b' ≠ b := fun e => hb' (by rw [e]; exact hb)
    simp only [S.setB, upd_at, this, if_false]; exact h.fb b' hb'
theorem Vw.shut (h : Vw R B s0 m s) {b : Nat} (hb : b ∈ B) : Vw R B s0 { m with b := upd m.b b none } { s with b := upd s.b b none } := by
  refine ⟨h.t, fun b' hb' => ?_, fun b' hb' => ?_, h.ft, fun b' hb' => ?_⟩
  · simp only [upd_at]
    split
    · exact ⟨rfl, (h.b b' hb').2⟩
    · exact h.b b' hb'
  · have : b' ≠ b := fun e => hb' (by rw [e]; exact hb)
    simp only [upd_at, this, if_false]; exact h.nb b' hb'
  · have : b' ≠ b := fun e => hb' (by rw [e]; exact hb)
    simp only [upd_at, this, if_false]; exact h.fb b' hb'
theorem Vw.newB (h : Vw R B s0 m s) {b : Nat} {c : BC} (hn : m.newB b c = some m') : ∃ s', s.newB b c = some s' ∧ Vw R B s0 m' s' := by
  unfold S.newB at hn
  split at hn
  · cases hn
  · rename_i hc
    have hb : b ∈ B := by
      by_cases hm : b ∈ B
      · exact hm
      · exact absurd (Or.inr (h.nb b hm).2) hc
    rw [(h.b b hb).2] at hc
    injection hn with hn
    subst hn
    refine ⟨{ s with b := upd s.b b (some c), seen := upd s.seen b true }, by simp [S.newB, hc], h.t, fun b' hb' => ?_, fun b' hb' => ?_, h.ft, fun b' hb' => ?_⟩
    · simp only [upd_at]
      split
      · exact ⟨rfl, rfl⟩
      · exact h.b b' hb'
    · have : b' ≠ b := fun e => hb' (by rw [e]; exact hb)
      simp only [upd_at, this, if_false]; exact h.nb b' hb'
    · have : b' ≠ b := fun e => hb' (by rw [e]; exact hb)
      simp only [upd_at, this, if_false]; exact h.fb b' hb'

theorem Vw.lend (h : Vw R B s0 m s) : ∀ {cs : List AV} {j : Nat} {r : List AV × List BC × List Nat}, lend m cs j = some r → lend s cs j = some r ∧ ∀ b ∈ r.2.2, b ∈ B
  | [], j, r, hl => by
    simp only [Go.Vs.lend, Option.some.injEq] at hl
    subst hl
    exact ⟨rfl, by simp⟩
  | c :: cs, j, r, hl => by
    have plain : (bnd (Go.Vs.lend m cs j) fun (x : List AV × List BC × List Nat) => some (c :: x.1, x.2.1, x.2.2)) = some r → (bnd (Go.Vs.lend s cs j) fun (x : List AV × List BC × List Nat) => some (c :: x.1, x.2.1, x.2.2)) = some r ∧ ∀ b ∈ r.2.2, b ∈ B := by
      intro hb
      obtain ⟨q, h1, h2⟩ := bnd_is.1 hb
      obtain ⟨h3, h4⟩ := Vw.lend h h1
      rw [h3]
      refine ⟨h2, ?_⟩
      injection h2 with h2
      subst h2
      exact h4
    cases c with
    | bp b off =>
      simp only [Go.Vs.lend] at hl ⊢
      split at hl
      rotate_left
      · cases hl
      rename_i hc
      rw [if_pos hc]
      split at hl
      rotate_left
      · cases hl
      rename_i cs' hb
      obtain ⟨hbB, hsb⟩ := h.box hb
      rw [hsb]
      obtain ⟨q, h1, h2⟩ := bnd_is.1 hl
      obtain ⟨h3, h4⟩ := Vw.lend h h1
      simp only [h3, bnd_some]
      split at h2
      · cases h2
      · rename_i hn
        rw [if_neg hn]
        refine ⟨h2, ?_⟩
        injection h2 with h2
        subst h2
        intro b' hb'
        rcases List.mem_cons.1 hb' with rfl | hb'
        · exact hbB
        · exact h4 b' hb'
    | undef | int | bool | str | con | sl | agg | rp | fn | tup =>
      simp only [Go.Vs.lend, AV.isP, Bool.false_eq_true, if_false] at hl ⊢
      exact plain hl
    | bs | be | np => simp [Go.Vs.lend, AV.isP] at hl

theorem Vw.giveBack : ∀ {ls : List Nat} {bv : List BC} {m s m' : S}, Vw R B s0 m s → (∀ b ∈ ls, b ∈ B) → giveBack m ls bv = some m' → ∃ s', giveBack s ls bv = some s' ∧ Vw R B s0 m' s'
  | [], [], m, s, m', h, _, hg => by
    simp only [Go.Vs.giveBack, Option.some.injEq] at hg
    subst hg
    exact ⟨s, rfl, h⟩
  | [], _ :: _, _, _, _, _, _, hg => by simp [Go.Vs.giveBack] at hg
  | _ :: _, [], _, _, _, _, _, hg => by simp [Go.Vs.giveBack] at hg
  | b :: ls, c :: bv, m, s, m', h, hb, hg => by
    simp only [Go.Vs.giveBack] at hg ⊢
    exact Vw.giveBack (h.setB (hb b (by simp)) c) (fun b' hb' => hb b' (by simp [hb'])) hg

theorem Vw.callF (h : Vw R B s0 m s) {g site : Nat} {cs : List AV} {v : AV} (hc : callF call m g site cs = some (v, m')) : ∃ s', callF call s g site cs = some (v, s') ∧ Vw R B s0 m' s' := by
  simp only [Go.Vs.callF] at hc ⊢
  obtain ⟨⟨tv, bv, ls⟩, h1, hc⟩ := bnd_is.1 hc
  obtain ⟨h2, h3⟩ := h.lend h1
  rw [h2]
  simp only [bnd_some]
  obtain ⟨⟨oc, outs, bv'⟩, h4, hc⟩ := bnd_is.1 hc
  rw [h4]
  simp only [bnd_some]
  obtain ⟨m1, h5, hc⟩ := bnd_is.1 hc
  obtain ⟨s1, h6, h7⟩ := h.giveBack h3 h5
  rw [h6]
  dsimp only at hc
  simp only [bnd_some]
  split at hc
  · obtain ⟨m2, h8, hc⟩ := bnd_is.1 hc
    obtain ⟨s2, h9, h10⟩ := h7.newB h8
    simp only [h9, Option.some.injEq, Prod.mk.injEq, bnd_some] at hc ⊢
    obtain ⟨rfl, rfl⟩ := hc
    exact ⟨s2, ⟨rfl, rfl⟩, h10⟩
  · split at hc
    · cases hc
    · rename_i hp
      simp only [if_neg hp]
      simp only [Option.some.injEq, Prod.mk.injEq] at hc ⊢
      obtain ⟨rfl, rfl⟩ := hc
      exact ⟨s1, ⟨rfl, rfl⟩, h7⟩
  · cases hc

theorem Vw.capture : ∀ {vs out : List AV} {m s m' : S}, Vw R B s0 m s → capture m vs = some (out, m') → ∃ s', capture s vs = some (out, s') ∧ Vw R B s0 m' s'
  | [], out, m, s, m', h, hc => by
    simp only [Go.Vs.capture, Option.some.injEq, Prod.mk.injEq] at hc ⊢
    obtain ⟨rfl, rfl⟩ := hc
    exact ⟨s, ⟨rfl, rfl⟩, h⟩
  | c :: vs, out, m, s, m', h, hc => by
    have plain : ∀ d : AV, (bnd (Go.Vs.capture m vs) fun (x : List AV × S) => some (d :: x.1, x.2)) = some (out, m') → ∃ s', (bnd (Go.Vs.capture s vs) fun (x : List AV × S) => some (d :: x.1, x.2)) = some (out, s') ∧ Vw R B s0 m' s' := by
      intro d hb
      obtain ⟨⟨o1, m1⟩, h1, h2⟩ := bnd_is.1 hb
      obtain ⟨s1, h3, h4⟩ := Vw.capture h h1
      rw [h3]
      simp only [bnd_some, Option.some.injEq, Prod.mk.injEq] at h2 ⊢
      obtain ⟨rfl, rfl⟩ := h2
      exact ⟨s1, ⟨rfl, rfl⟩, h4⟩
    cases c with
    | bp b off =>
      simp only [Go.Vs.capture] at hc ⊢
      split at hc
      rotate_left
      · cases hc
      rename_i h0
      rw [if_pos h0]
      split at hc
      rotate_left
      · cases hc
      rename_i cs hb
      obtain ⟨hbB, hsb⟩ := h.box hb
      rw [hsb]
      obtain ⟨⟨o1, m1⟩, h1, h2⟩ := bnd_is.1 hc
      obtain ⟨s1, h3, h4⟩ := Vw.capture (h.shut hbB) h1
      rw [h3]
      simp only [bnd_some, Option.some.injEq, Prod.mk.injEq] at h2 ⊢
      obtain ⟨rfl, rfl⟩ := h2
      exact ⟨s1, ⟨rfl, rfl⟩, h4⟩
    | undef | int | bool | str | con | sl | agg | rp | fn | tup =>
      simp only [Go.Vs.capture, AV.isP, Bool.false_eq_true, if_false] at hc ⊢
      exact plain _ hc
    | bs | be | np => simp [Go.Vs.capture, AV.isP] at hc

theorem Vw.loadP (h : Vw R B s0 m s) {n : Nat} {agg take : Bool} {p v : AV} (hl : loadP n agg take m p = some (v, m')) : ∃ s', loadP n agg take s p = some (v, s') ∧ Vw R B s0 m' s' := by
  cases p <;> first | (simp [Go.Vs.loadP] at hl; done) | skip
  case bp b off =>
    simp only [Go.Vs.loadP] at hl ⊢
    split at hl
    rotate_left
    · cases hl
    rename_i cs hb
    obtain ⟨hbB, hsb⟩ := h.box hb
    rw [hsb]
    simp only []
    cases take with
    | true =>
      simp only [if_true] at hl ⊢
      split at hl
      · cases hl
      · rename_i ha
        rw [if_neg ha]
        split at hl
        · rename_i hn
          rw [if_pos hn]
          obtain ⟨c, h1, h2⟩ := bnd_is.1 hl
          rw [h1]
          simp only [bnd_some]
          split at h2
          · cases h2
          · rename_i hp
            rw [if_neg hp]
            simp only [Option.some.injEq, Prod.mk.injEq] at h2 ⊢
            obtain ⟨rfl, rfl⟩ := h2
            exact ⟨_, ⟨rfl, rfl⟩, h.setB hbB _⟩
        · cases hl
    | false =>
      simp only [Bool.false_eq_true, if_false] at hl ⊢
      obtain ⟨c, h1, h2⟩ := bnd_is.1 hl
      rw [h1]
      simp only [bnd_some, Option.some.injEq, Prod.mk.injEq] at h2 ⊢
      obtain ⟨rfl, rfl⟩ := h2
      exact ⟨_, ⟨rfl, rfl⟩, h⟩
  case be b i off =>
    simp only [Go.Vs.loadP] at hl ⊢
    split at hl
    rotate_left
    · cases hl
    rename_i sz xs hb
    obtain ⟨hbB, hsb⟩ := h.box hb
    rw [hsb]
    simp only []
    obtain ⟨c, h1, h2⟩ := bnd_is.1 hl
    rw [h1]
    simp only [bnd_some]
    split at h2
    · cases h2
    · rename_i ht
      rw [if_neg ht]
      obtain ⟨d, h3, h4⟩ := bnd_is.1 h2
      rw [h3]
      simp only [bnd_some, Option.some.injEq, Prod.mk.injEq] at h4 ⊢
      obtain ⟨rfl, rfl⟩ := h4
      exact ⟨_, ⟨rfl, rfl⟩, h⟩
  case rp cs off =>
    simp only [Go.Vs.loadP] at hl ⊢
    split at hl
    · cases hl
    · rename_i ht
      rw [if_neg ht]
      obtain ⟨d, h3, h4⟩ := bnd_is.1 hl
      rw [h3]
      simp only [bnd_some, Option.some.injEq, Prod.mk.injEq] at h4 ⊢
      obtain ⟨rfl, rfl⟩ := h4
      exact ⟨_, ⟨rfl, rfl⟩, h⟩

theorem Vw.storeP (h : Vw R B s0 m s) {n : Nat} {p v : AV} (hl : storeP n m p v = some m') : ∃ s', storeP n s p v = some s' ∧ Vw R B s0 m' s' := by
  simp only [Go.Vs.storeP] at hl ⊢
  split at hl
  rotate_left
  · cases hl
  rename_i hc
  rw [if_pos hc]
  cases p <;> first | (simp at hl; done) | skip
  case bp b off =>
    simp only [] at hl ⊢
    split at hl
    rotate_left
    · cases hl
    rename_i cs hb
    obtain ⟨hbB, hsb⟩ := h.box hb
    rw [hsb]
    simp only []
    obtain ⟨c, h1, h2⟩ := bnd_is.1 hl
    rw [h1]
    simp only [bnd_some, Option.some.injEq] at h2 ⊢
    subst h2
    exact ⟨_, rfl, h.setB hbB _⟩
  case be b i off =>
    simp only [] at hl ⊢
    split at hl
    rotate_left
    · cases hl
    rename_i sz xs hb
    obtain ⟨hbB, hsb⟩ := h.box hb
    rw [hsb]
    simp only []
    obtain ⟨c, h1, h2⟩ := bnd_is.1 hl
    rw [h1]
    simp only [bnd_some]
    obtain ⟨d, h3, h4⟩ := bnd_is.1 h2
    rw [h3]
    simp only [bnd_some, Option.some.injEq] at h4 ⊢
    subst h4
    exact ⟨_, rfl, h.setB hbB _⟩

theorem Vw.convK (h : Vw R B s0 m s) {c : CK} {x v : AV} (hl : convK m c x = some (v, m')) : ∃ s', convK s c x = some (v, s') ∧ Vw R B s0 m' s' := by
  unfold Go.Vs.convK at hl
  split at hl
  · simp only [Option.some.injEq, Prod.mk.injEq] at hl
    obtain ⟨rfl, rfl⟩ := hl
    exact ⟨s, rfl, h⟩
  · simp only [Option.some.injEq, Prod.mk.injEq] at hl
    obtain ⟨rfl, rfl⟩ := hl
    exact ⟨s, rfl, h⟩
  · obtain ⟨l, h1, h2⟩ := bnd_is.1 hl
    simp only [Option.some.injEq, Prod.mk.injEq] at h2
    obtain ⟨rfl, rfl⟩ := h2
    exact ⟨s, by simp [Go.Vs.convK, h1], h⟩
  · split at hl
    · rename_i xs hb
      obtain ⟨_, hsb⟩ := h.box hb
      obtain ⟨l, h1, h2⟩ := bnd_is.1 hl
      simp only [Option.some.injEq, Prod.mk.injEq] at h2
      obtain ⟨rfl, rfl⟩ := h2
      exact ⟨s, by simp [Go.Vs.convK, hsb, h1], h⟩
    · cases hl
  · obtain ⟨m1, h1, h2⟩ := bnd_is.1 hl
    simp only [Option.some.injEq, Prod.mk.injEq] at h2
    obtain ⟨rfl, rfl⟩ := h2
    obtain ⟨s1, h3, h4⟩ := h.newB h1
    exact ⟨s1, by simp [Go.Vs.convK, h3], h4⟩
  · split at hl
    · rename_i hc
      simp only [Option.some.injEq, Prod.mk.injEq] at hl
      obtain ⟨rfl, rfl⟩ := hl
      exact ⟨s, by simp [Go.Vs.convK, hc], h⟩
    · cases hl
  · cases hl

/-- A step that only reads. -/
theorem Vw.pure (h : Vw R B s0 m s) {α : Type} {x : Option α} {f : α → AV} {v : AV} (hl : (bnd x fun a => some (f a, m)) = some (v, m')) : ∃ s', (bnd x fun a => some (f a, s)) = some (v, s') ∧ Vw R B s0 m' s' := by
  obtain ⟨a, h1, h2⟩ := bnd_is.1 hl
  simp only [Option.some.injEq, Prod.mk.injEq] at h2
  obtain ⟨rfl, rfl⟩ := h2
  exact ⟨s, by simp [h1], h⟩
theorem Vw.here (h : Vw R B s0 m s) {x v : AV} (hl : some (x, m) = some (v, m')) : ∃ s', some (x, s) = some (v, s') ∧ Vw R B s0 m' s' := by
  simp only [Option.some.injEq, Prod.mk.injEq] at hl
  obtain ⟨rfl, rfl⟩ := hl
  exact ⟨s, rfl, h⟩

theorem Vw.natO (h : Vw R B s0 m s) {z : Option Opnd} (hz : ∀ x ∈ z.toList, x.inn R) : natO G m z = natO G s z := by
  cases z with
  | none => rfl
  | some x => simp only [Go.Vs.natO, h.get (hz x (by simp))]

theorem Vw.evalK (h : Vw R B s0 m s) {k : K} (hk : ∀ x ∈ k.opnds, x.inn R) {v : AV} (hl : evalK call G m k = some (v, m')) : ∃ s', evalK call G s k = some (v, s') ∧ Vw R B s0 m' s' := by
  cases k <;> simp only [Go.Vs.evalK] at hl ⊢ <;> simp only [K.opnds, List.mem_cons, List.not_mem_nil, or_false, forall_eq_or_imp, forall_eq] at hk
  case mv x =>
    rw [h.get hk] at hl
    exact (h.drop hk).here hl
  case pick c x y =>
    rw [h.get hk.1] at hl
    split at hl
    rotate_left
    · cases hl
    split at hl
    · rename_i hb; rw [hb, if_pos rfl]; rw [h.get hk.2.1] at hl; exact (h.drop hk.2.1).here hl
    · rename_i hb; rw [if_neg hb]; rw [h.get hk.2.2] at hl; exact (h.drop hk.2.2).here hl
  case alloc b z =>
    obtain ⟨m1, h1, h2⟩ := bnd_is.1 hl
    obtain ⟨s1, h3, h4⟩ := h.newB h1
    rw [h3]
    exact h4.here h2
  case box b x =>
    rw [h.get hk] at hl
    split at hl
    rotate_left
    · cases hl
    rename_i hc
    rw [if_pos hc]
    obtain ⟨m1, h1, h2⟩ := bnd_is.1 hl
    obtain ⟨s1, h3, h4⟩ := h.newB h1
    rw [h3]
    exact h4.here h2
  case build z ps =>
    have : (ps.map fun p => (p.1, p.2.1, m.get G p.2.2)) = ps.map fun p => (p.1, p.2.1, s.get G p.2.2) := List.map_congr_left fun p hp => by rw [h.get (hk _ (List.mem_map_of_mem hp))]
    rw [this] at hl
    exact h.pure hl
  case buildS m' sz ps =>
    have : ∀ p ∈ ps, m.get G p = s.get G p := fun p hp => h.get (hk p hp)
    have e1 : (ps.all fun p => (m.get G p).cells.length == sz && (m.get G p).cells.all AV.one) = (ps.all fun p => (s.get G p).cells.length == sz && (s.get G p).cells.all AV.one) := by
      rw [Bool.eq_iff_iff, List.all_eq_true, List.all_eq_true]
      constructor <;> intro hh p hp <;> have := hh p hp <;> simp_all
    have e2 : (ps.map fun p => (m.get G p).cells.map AV.share) = (ps.map fun p => (s.get G p).cells.map AV.share) := List.map_congr_left fun p hp => by rw [this p hp]
    rw [e1, e2] at hl
    split at hl
    · rename_i hc; rw [if_pos hc]; exact h.here hl
    · cases hl
  case load n agg take x =>
    rw [h.get hk] at hl
    exact h.loadP hl
  case store n x y =>
    rw [h.get hk.1, h.get hk.2] at hl
    obtain ⟨m1, h1, h2⟩ := bnd_is.1 hl
    obtain ⟨s1, h3, h4⟩ := (h.drop hk.2).storeP h1
    rw [h3]
    exact h4.here h2
  case nilck x =>
    rw [h.get hk] at hl
    split at hl
    · split at hl
      · rename_i hb; rw [if_pos (h.isSome hb)]; exact h.here hl
      · cases hl
    · split at hl
      · rename_i hb; rw [if_pos (h.isSome hb)]; exact h.here hl
      · cases hl
    · exact h.here hl
    · exact h.here hl
    · cases hl
  case bin op x y => rw [h.get hk.1, h.get hk.2] at hl; exact h.pure hl
  case eqb neq x y =>
    rw [h.get hk.1, h.get hk.2] at hl
    split at hl
    · exact h.here hl
    · cases hl
  case eqs neq n x y =>
    rw [h.get hk.1, h.get hk.2] at hl
    split at hl
    · split at hl
      · rename_i hc; rw [if_pos hc]; exact h.pure hl
      · cases hl
    · cases hl
  case un op x => rw [h.get hk] at hl; exact h.pure hl
  case conv c x => rw [h.get hk] at hl; exact h.convK hl
  case mkfn g caps =>
    rw [h.gets hk] at hl
    obtain ⟨⟨o1, m1⟩, h1, h2⟩ := bnd_is.1 hl
    obtain ⟨s1, h3, h4⟩ := h.capture h1
    rw [h3]
    exact h4.here h2
  case mksl b sz z n c =>
    rw [h.get hk.1, h.get hk.2] at hl
    split at hl
    · split at hl
      · rename_i hc
        rw [if_pos hc]
        obtain ⟨m1, h1, h2⟩ := bnd_is.1 hl
        obtain ⟨s1, h3, h4⟩ := h.newB h1
        rw [h3]
        exact h4.here h2
      · cases hl
    · cases hl
  case mkz sz z n c =>
    rw [h.get hk.1, h.get hk.2] at hl
    split at hl
    · split at hl
      · rename_i hc
        rw [if_pos hc]
        exact h.here hl
      · cases hl
    · cases hl
  case slc sz x lo hi mx =>
    rw [h.natO (fun y hy => hk.2 y (by simp at hy ⊢; exact .inl hy)), h.natO (fun y hy => hk.2 y (by simp at hy ⊢; exact .inr (.inl hy))), h.natO (fun y hy => hk.2 y (by simp at hy ⊢; exact .inr (.inr hy))), h.get hk.1] at hl
    split at hl
    · cases hl
    · rename_i hc
      rw [if_neg hc]
      obtain ⟨a1, h1, hl⟩ := bnd_is.1 hl
      obtain ⟨a2, h2, hl⟩ := bnd_is.1 hl
      obtain ⟨a3, h3, hl⟩ := bnd_is.1 hl
      rw [h1, h2, h3]
      exact h.pure hl
  case slcS x lo hi =>
    rw [h.natO (fun y hy => hk.2 y (by simp at hy ⊢; exact .inl hy)), h.natO (fun y hy => hk.2 y (by simp at hy ⊢; exact .inr hy)), h.get hk.1] at hl
    obtain ⟨a1, h1, hl⟩ := bnd_is.1 hl
    obtain ⟨a2, h2, hl⟩ := bnd_is.1 hl
    rw [h1, h2]
    exact h.pure hl
  case fadr off x =>
    rw [h.get hk] at hl
    split at hl
    · split at hl
      · rename_i hb; rw [if_pos (h.isSome hb)]; exact h.here hl
      · cases hl
    · split at hl
      · rename_i hb; rw [if_pos (h.isSome hb)]; exact h.here hl
      · cases hl
    · exact h.here hl
    · cases hl
  case fld off n agg x =>
    rw [h.get hk] at hl
    split at hl
    · exact h.pure hl
    · cases hl
  case iadr sz x i =>
    rw [h.get hk.1, h.get hk.2] at hl
    split at hl
    · split at hl
      · rename_i hc
        rw [if_pos hc]
        obtain ⟨a1, h1, hl⟩ := bnd_is.1 hl
        rw [h1]
        exact h.pure hl
      · cases hl
    · split at hl
      · rename_i hb
        rw [(h.box hb).2]
        simp only []
        split at hl
        · rename_i hc
          rw [if_pos hc]
          obtain ⟨a1, h1, hl⟩ := bnd_is.1 hl
          rw [h1]
          simp only [bnd_some]
          split at hl
          · rename_i hi; rw [if_pos hi]; exact h.here hl
          · cases hl
        · cases hl
      · cases hl
    · cases hl
  case iadrA sz len x i =>
    rw [h.get hk.1, h.get hk.2] at hl
    split at hl
    · split at hl
      · rename_i hb
        rw [if_pos (h.isSome hb)]
        obtain ⟨a1, h1, hl⟩ := bnd_is.1 hl
        rw [h1]
        simp only [bnd_some]
        split at hl
        · rename_i hi; rw [if_pos hi]; exact h.here hl
        · cases hl
      · cases hl
    · obtain ⟨a1, h1, hl⟩ := bnd_is.1 hl
      rw [h1]
      simp only [bnd_some]
      split at hl
      · rename_i hi; rw [if_pos hi]; exact h.here hl
      · cases hl
    · cases hl
  case idxS x i =>
    rw [h.get hk.1, h.get hk.2] at hl
    split at hl
    · obtain ⟨a1, h1, hl⟩ := bnd_is.1 hl
      rw [h1]
      exact h.pure hl
    · cases hl
  case idxA sz len n agg x i =>
    rw [h.get hk.1, h.get hk.2] at hl
    split at hl
    · obtain ⟨a1, h1, hl⟩ := bnd_is.1 hl
      rw [h1]
      simp only [bnd_some]
      split at hl
      · rename_i hi; rw [if_pos hi]; exact h.pure hl
      · cases hl
    · cases hl
  case len x =>
    rw [h.get hk] at hl
    split at hl
    · exact h.here hl
    · split at hl
      · rename_i hb
        rw [(h.box hb).2]
        exact h.here hl
      · cases hl
    · cases hl
  case lenS x =>
    rw [h.get hk] at hl
    split at hl
    · exact h.here hl
    · cases hl
  case app sz x y =>
    rw [h.get hk.1, h.get hk.2] at hl
    split at hl
    · split at hl
      · rename_i hc; rw [if_pos hc]; exact (h.drop hk.1).here hl
      · cases hl
    · cases hl
  case ext i x =>
    rw [h.get hk] at hl
    split at hl
    · obtain ⟨a1, h1, hl⟩ := bnd_is.1 hl
      rw [h1]
      simp only [bnd_some]
      split at hl
      · cases hl
      · rename_i hi; rw [if_neg hi]; exact h.here hl
    · cases hl
  case call g site args =>
    split at hl
    rotate_left
    · cases hl
    rename_i ht
    rw [if_pos ht]
    rw [h.args hk] at hl
    exact (h.dropAll hk).callF hl
  case callv f args =>
    rw [h.get hk.1] at hl
    split at hl
    rotate_left
    · cases hl
    split at hl
    rotate_left
    · cases hl
    rename_i ht
    rw [if_pos ht]
    rw [h.args hk.2] at hl
    exact (h.dropAll hk.2).callF hl
  case mx args =>
    rw [h.gets hk] at hl
    obtain ⟨l, h1, hl⟩ := bnd_is.1 hl
    rw [h1]
    simp only [bnd_some]
    split at hl
    · cases hl
    · exact h.here hl
  case mn args =>
    rw [h.gets hk] at hl
    obtain ⟨l, h1, hl⟩ := bnd_is.1 hl
    rw [h1]
    simp only [bnd_some]
    split at hl
    · cases hl
    · exact h.here hl
end
end Go.Vs
