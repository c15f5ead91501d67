/- What comes back from a function. -/
import Derived.Test.YthedbdlbibkpiaaGreatDoorVs16
set_option linter.unusedVariables false
namespace Go.Vs
open Go Go.RowKit

section
variable {C : Ctx} {e : Env} {σ σ' : Mem} {bm bm' : Nat → Option Nat} {s s1 sc : S} {a ac : Act} {w w' : World} {call : Call} {cs : List AV} {vs : List Value} {tv : List AV} {bv bv' : List BC} {ls : List Nat} {n : Nat}

/-- The frame's own state behind a call. -/
structure Back (C : Ctx) (e : Env) (σ' : Mem) (bm : Nat → Option Nat) (bm' : Nat → Option Nat) (s s1 sc : S) (a ac : Act) (w w' : World) (E : Env) (n : Nat) : Prop where
  rel : RelX C.fid e σ' bm s1 a w'
  own : ∀ B, E.own B → e.own B
  /-- a place of the callee's is none of the frame's -/
  box : ∀ b B, bm b = some B → E.own B → ∃ k, bm' k = some B ∧ sc.b k ≠ none
  tip : ∀ p sz B, tipAt s1 p = some sz → tipBlk (valAt a w' bm p) = some B → E.own B → ∃ q, tipAt sc q = some sz ∧ tipBlk (valAt ac w' bm' q) = some B
  old : ∀ b B, bm b = some B → B < w.heap.size

theorem back_of (h : RelX C.fid e σ bm s a w) (ha : ArgsOk C e σ bm s a w cs vs) (hl : lend s cs 0 = some (tv, bv, ls)) (hx : RelX C.fid { calleeEnv σ bm s a w cs vs ls with n := n } σ' bm' sc ac w')
    (hb : ∀ (j : Nat) (c : BC), bv'[j]? = some c → sc.b j = some c) (hn : bv'.length = bv.length) (hg : giveBack s ls bv' = some s1) :
    Back C e σ' bm bm' s s1 sc a ac w w' (calleeEnv σ bm s a w cs vs ls) n := by
  obtain ⟨l1, l2, l3, l4, l5⟩ := lend_spec hl
  obtain ⟨g1, g2, g3, g4, g5⟩ := giveBack_spec hg l4
  generalize hE : calleeEnv σ bm s a w cs vs ls = E at *
  have Ew : E.w0 = w := by rw [← hE]; rfl
  have Eσ : E.σ0 = σ := by rw [← hE]; rfl
  have Ep : ∀ k, E.pbm k = (ls[k]?).bind bm := fun k => by rw [← hE]; rfl
  have El : ∀ B, E.lent B ↔ ((∃ k b : Nat, ls[k]? = some b ∧ bm b = some B) ∨ (∃ (i : Nat) (c : AV) (v : Value) (sz : Nat), cs[i]? = some c ∧ vs[i]? = some v ∧ AV.tipSz c = some sz ∧ tipBlk v = some B) ∨
    (∃ k b i sz : Nat, ls[k]? = some b ∧ tipAt s (.c b i) = some sz ∧ tipBlk (valAt a w bm (.c b i)) = some B)) := fun B => by rw [← hE]; rfl
  -- the blocks that were not lent
  have hold : ∀ B, B < w.heap.size → ¬ E.lent B → w'.heap[B]? = w.heap[B]? ∧ σ' B = σ B := by
    intro B h1 h2
    have q1 := hx.old B (by show B < E.w0.heap.size; rw [Ew]; exact h1) h2
    have q2 := hx.oldσ B (by show B < E.w0.heap.size; rw [Ew]; exact h1) h2
    exact ⟨by rw [q1]; show E.w0.heap[B]? = _; rw [Ew], by rw [q2]; show E.σ0 B = _; rw [Eσ]⟩
  have hleσ : σ.le σ' := by have := hx.leσ; rw [show ({ E with n := n } : Env).σ0 = σ from Eσ] at this; exact this
  have hgrown : w.heap.size ≤ w'.heap.size := by have := hx.grown; rw [show ({ E with n := n } : Env).w0 = w from Ew] at this; exact this
  -- own tips
  have htipown : ∀ {sz : Nat} {v : Value} {B : Nat}, TipOk e σ bm w sz v → tipBlk v = some B → B < w.heap.size ∧ e.own B ∧ ∀ b, bm b ≠ some B := by
    intro sz v B hv hB
    obtain ⟨A, m, cap, rfl, h2⟩ := hv
    rcases h2 with rfl | ⟨B', o, arr, t, mk, k1, k2, k3, k4, k5, k6, k7⟩
    · cases A <;> simp [tipBlk] at hB
    · subst k1
      have : B' = B := by
        simp only [tipBlk] at hB
        split at hB
        · cases hB
        · injection hB
      subst this
      exact ⟨lt_of_heap k2, k6, k7⟩
  have hboxown : ∀ {b B : Nat}, bm b = some B → e.own B ∧ ∃ c, s.b b = some c := by
    intro b B hB
    cases hs : s.b b with
    | none => rw [h.dead b hs] at hB; cases hB
    | some c =>
      obtain ⟨B', k1, _, k3, _⟩ := h.boxes b c hs
      rw [hB] at k1; injection k1 with k1; subst k1
      exact ⟨k3, c, rfl⟩
  have hlentown : ∀ B, E.lent B → e.own B ∧ B < w.heap.size := by
    intro B hB
    rcases (El B).1 hB with ⟨k, b, _, h2⟩ | ⟨i, c, v, sz, h1, h2, h3, h4⟩ | ⟨k, b, i, sz, h1, h2, h3⟩
    · exact ⟨(hboxown h2).1, bm_lt h h2⟩
    · have := htipown (ha.tip i c v sz h1 h2 h3) h4; exact ⟨this.2.1, this.1⟩
    · have := htipown (h.tip _ _ h2) h3; exact ⟨this.2.1, this.1⟩
  have hown : ∀ B, E.own B → e.own B := by
    intro B hB
    rcases hB with h1 | h1
    · rw [Ew] at h1; exact .inl (Nat.le_trans h.grown h1)
    · exact (hlentown B h1).1
  -- the lent variables
  have hin : ∀ b, (∃ k : Nat, ls[k]? = some b) ∨ ∀ k : Nat, ls[k]? ≠ some b := by
    intro b
    by_cases hm : b ∈ ls
    · exact .inl (List.getElem?_of_mem hm)
    · exact .inr fun k hk => hm (List.mem_of_getElem? hk)
  have hlent : ∀ (k b : Nat), ls[k]? = some b → ∃ c B, bv'[k]? = some c ∧ s1.b b = some c ∧ sc.b k = some c ∧ bm b = some B ∧ bm' k = some B ∧ BoxOk C.fid σ' w' B c ∧ (∀ i, σ' B i = none) ∧ e.own B := by
    intro k b hk
    obtain ⟨_, cs', q1, q2⟩ := l3 k b hk
    obtain ⟨B, r1, _, r3, _⟩ := h.boxes b _ q1
    have hlt : k < bv'.length := by rw [← g1]; exact (List.getElem?_eq_some_iff.1 hk).1
    have hc := List.getElem?_eq_getElem hlt
    have hsc := hb k _ hc
    obtain ⟨B', t1, t2, _, t4⟩ := hx.boxes k _ hsc
    have hp : E.pbm k = some B := by rw [Ep, hk]; exact r1
    have : B' = B := hx.par k B B' (by have := (l3 k b hk).1; omega) hp t1
    subst this
    exact ⟨bv'[k], B', hc, g5 k b _ hk hc, hsc, r1, t1, t2, t4, r3⟩
  -- a variable or a tip that was not lent is not the callee's
  have hboxout : ∀ b B, bm b = some B → (∀ k : Nat, ls[k]? ≠ some b) → ¬ E.own B := by
    intro b B hB hno ho
    rcases ho with h1 | h1
    · rw [Ew] at h1; have := bm_lt h hB; omega
    · rcases (El B).1 h1 with ⟨k, b', q1, q2⟩ | ⟨i, c, v, sz, q1, q2, q3, q4⟩ | ⟨k, b', i, sz, q1, q2, q3⟩
      · have := h.inj b b' B hB q2; subst this; exact hno k q1
      · exact (htipown (ha.tip i c v sz q1 q2 q3) q4).2.2 b hB
      · exact (htipown (h.tip _ _ q2) q3).2.2 b hB
  have htipout : ∀ p sz B, tipAt s p = some sz → tipBlk (valAt a w bm p) = some B → (∀ (k b i : Nat), ls[k]? = some b → p ≠ .c b i) → ¬ E.own B := by
    intro p sz B hp hB hno ho
    obtain ⟨t1, t2, t3⟩ := htipown (h.tip p sz hp) hB
    rcases ho with h1 | h1
    · rw [Ew] at h1; omega
    · rcases (El B).1 h1 with ⟨k, b', q1, q2⟩ | ⟨i, c, v, sz', q1, q2, q3, q4⟩ | ⟨k, b', i, sz', q1, q2, q3⟩
      · exact t3 b' q2
      · exact ha.apart i c v sz' q1 q2 q3 p sz B hp q4 hB
      · have := h.dist p _ sz sz' B hp q2 hB q3
        exact hno k b' i q1 this
  -- where tips are now
  have hcases : ∀ p sz, tipAt s1 p = some sz → (tipAt s p = some sz ∧ valAt a w' bm p = valAt a w bm p ∧ (∀ (k b i : Nat), ls[k]? = some b → p ≠ .c b i)) ∨ (∃ k b i : Nat, ls[k]? = some b ∧ p = .c b i ∧ tipAt sc (.c k i) = some sz ∧ valAt a w' bm p = valAt ac w' bm' (.c k i)) := by
    intro p sz hp
    cases p with
    | t t =>
      left
      refine ⟨by simp only [tipAt, g2] at hp; exact hp, rfl, fun _ _ _ _ e => by cases e⟩
    | c b i =>
      rcases hin b with ⟨k, hk⟩ | hno
      · right
        obtain ⟨c, B, q1, q2, q3, q4, q5, _⟩ := hlent k b hk
        refine ⟨k, b, i, hk, rfl, ?_, by simp [valAt, q4, q5]⟩
        simp only [tipAt, q2] at hp
        simp only [tipAt, q3]; exact hp
      · left
        have hs : tipAt s (.c b i) = some sz := by simp only [tipAt, g4 b hno] at hp; exact hp
        refine ⟨hs, ?_, fun k b' i' hk e => by injection e with e1 e2; subst e1; exact hno k hk⟩
        simp only [tipAt] at hs
        split at hs
        · rename_i cs' hb'
          obtain ⟨B, r1, _⟩ := h.boxes b _ hb'
          have := hold B (bm_lt h r1) (fun hh => hboxout b B r1 hno (.inr hh))
          simp only [valAt, r1, Option.bind_some, cell_eq this.1]
        · cases hs
  have htip : ∀ p sz, tipAt s1 p = some sz → TipOk e σ' bm w' sz (valAt a w' bm p) := by
    intro p sz hp
    rcases hcases p sz hp with ⟨q1, q2, q3⟩ | ⟨k, b, i, q1, q2, q3, q4⟩
    · rw [q2]
      have := h.tip p sz q1
      obtain ⟨A, m, cap, e1, e2⟩ := this
      refine ⟨A, m, cap, e1, ?_⟩
      by_cases hc : cap = 0
      · exact .inl hc
      · rcases e2 with e2 | ⟨B, o, arr, t, mk, k1, k2, k3, k4, k5, k6, k7⟩
        · exact .inl e2
        · have hblk : tipBlk (valAt a w bm p) = some B := by rw [e1, k1]; simp [tipBlk, hc]
          have hno := htipout p sz B q1 hblk q3
          have := hold B (lt_of_heap k2) (fun hh => hno (.inr hh))
          exact .inr ⟨B, o, arr, t, mk, k1, this.1.trans k2, k3, k4, fun i hi => by rw [this.2]; exact k5 i hi, k6, k7⟩
    · rw [q4]
      obtain ⟨A, m, cap, e1, e2⟩ := hx.tip _ _ q3
      refine ⟨A, m, cap, e1, e2.imp id ?_⟩
      rintro ⟨B, o, arr, t, mk, k1, k2, k3, k4, k5, k6, k7⟩
      refine ⟨B, o, arr, t, mk, k1, k2, k3, k4, k5, hown B k6, fun b' hb' => ?_⟩
      rcases hin b' with ⟨k', hk'⟩ | hno
      · obtain ⟨c, B', _, _, _, r4, r5, _⟩ := hlent k' b' hk'
        rw [hb'] at r4
        injection r4 with r4
        subst r4
        exact k7 k' r5
      · exact hboxout b' B hb' hno k6
  have hrel : RelX C.fid e σ' bm s1 a w' := by
    refine { defers := h.defers, size := h.size, tmps := fun t => ?_, boxes := fun b c hb1 => ?_, dead := fun b hb1 => ?_, inj := h.inj, par := h.par, newb := h.newb, seenB := fun b hb1 => ?_, seenT := fun t b hb1 => ?_, mem := hx.mem, one := hx.one,
             old := fun B h1 h2 => ?_, oldσ := fun B h1 h2 => ?_, leσ := Mem.le_trans h.leσ hleσ, grown := Nat.le_trans h.grown hgrown, os := ?_, tape := ?_, output := ?_, tip := htip, dist := fun p q sz sz' B hp hq h1 h2 => ?_ }
    · rw [g2]
      have ht := h.tmps t
      have hne : ∀ b B, bm b = some B → (∀ sz xs, s.b b ≠ some (.rows sz xs)) ∨ s1.b b = s.b b := by
        intro b B hB
        rcases hin b with ⟨k, hk⟩ | hno
        · left
          obtain ⟨_, cs', q1, _⟩ := l3 k b hk
          intro sz xs hh
          rw [q1] at hh; cases hh
        · exact .inr (g4 b hno)
      revert ht
      cases s.t t <;> intro ht <;> first | exact RepP.mono ht hleσ | exact ht | skip
      · rename_i b
        intro B hB
        obtain ⟨sz, xs, cap, r1, r2, r3⟩ := ht B hB
        rcases hne b B hB with hh | hh
        · exact absurd r1 (hh sz xs)
        · exact ⟨sz, xs, cap, hh.trans r1, r2, r3⟩
      · rename_i b i off
        intro B hB
        obtain ⟨sz, xs, r1, r3⟩ := ht B hB
        rcases hne b B hB with hh | hh
        · exact absurd r1 (hh sz xs)
        · exact ⟨sz, xs, hh.trans r1, r3⟩
    · rcases hin b with ⟨k, hk⟩ | hno
      · obtain ⟨c', B, _, r2, _, r4, _, r6, r7, r8⟩ := hlent k b hk
        rw [hb1] at r2
        injection r2 with r2
        subst r2
        exact ⟨B, r4, r6, r8, r7⟩
      · rw [g4 b hno] at hb1
        obtain ⟨B, r1, r2, r3, r4⟩ := h.boxes b c hb1
        have := hold B (bm_lt h r1) (fun hh => hboxout b B r1 hno (.inr hh))
        exact ⟨B, r1, BoxOk_mono r2 hleσ this.1, r3, fun i => by rw [this.2]; exact r4 i⟩
    · rcases hin b with ⟨k, hk⟩ | hno
      · obtain ⟨c', B, _, r2, _⟩ := hlent k b hk
        rw [hb1] at r2; cases r2
      · rw [g4 b hno] at hb1; exact h.dead b hb1
    · rw [g3]
      rcases hin b with ⟨k, hk⟩ | hno
      · obtain ⟨_, cs', q1, _⟩ := l3 k b hk
        exact h.seenB b (by rw [q1]; simp)
      · rw [g4 b hno] at hb1; exact h.seenB b hb1
    · rw [g3]; rw [g2] at hb1; exact h.seenT t b hb1
    · have hlt : B < w.heap.size := Nat.lt_of_lt_of_le h1 h.grown
      have hnl : ¬ E.lent B := by
        intro hh
        rcases (hlentown B hh).1 with k | k
        · omega
        · exact h2 k
      rw [(hold B hlt hnl).1]; exact h.old B h1 h2
    · have hlt : B < w.heap.size := Nat.lt_of_lt_of_le h1 h.grown
      have hnl : ¬ E.lent B := by
        intro hh
        rcases (hlentown B hh).1 with k | k
        · omega
        · exact h2 k
      rw [(hold B hlt hnl).2]; exact h.oldσ B h1 h2
    · have := hx.os; rw [show ({ E with n := n } : Env).w0 = w from Ew] at this; exact this.trans h.os
    · have := hx.tape; rw [show ({ E with n := n } : Env).w0 = w from Ew] at this; exact this.trans h.tape
    · have := hx.output; rw [show ({ E with n := n } : Env).w0 = w from Ew] at this; exact this.trans h.output
    · have cown : ∀ {k i sz B : Nat}, tipAt sc (.c k i) = some sz → tipBlk (valAt ac w' bm' (.c k i)) = some B → E.own B := by
        intro k i sz B ht hB
        obtain ⟨A, m, cap, e1, e2⟩ := hx.tip _ _ ht
        rw [e1] at hB
        rcases e2 with rfl | ⟨B', o, arr, t, mk, k1, k2, k3, k4, k5, k6, k7⟩
        · cases A <;> simp [tipBlk] at hB
        · subst k1
          simp only [tipBlk] at hB
          split at hB
          · cases hB
          · injection hB with hB; subst hB; exact k6
      rcases hcases p sz hp with ⟨p1, p2, p3⟩ | ⟨k, b, i, p1, p2, p3, p4⟩ <;> rcases hcases q sz' hq with ⟨q1, q2, q3⟩ | ⟨k', b', i', q1, q2, q3, q4⟩
      · rw [p2] at h1
        rw [q2] at h2
        exact h.dist p q sz sz' B p1 q1 h1 h2
      · rw [p2] at h1
        rw [q4] at h2
        exact absurd (cown q3 h2) (htipout p sz B p1 h1 p3)
      · rw [p4] at h1
        rw [q2] at h2
        exact absurd (cown p3 h1) (htipout q sz' B q1 h2 q3)
      · rw [p4] at h1
        rw [q4] at h2
        have := hx.dist _ _ sz sz' B p3 q3 h1 h2
        injection this with e1 e2
        subst e1 e2
        rw [p1] at q1
        injection q1 with q1
        rw [p2, q2, q1]
  refine { rel := hrel, own := hown, box := fun b B hB ho => ?_, tip := fun p sz B hp hB ho => ?_, old := fun b B hB => bm_lt h hB }
  · rcases hin b with ⟨k, hk⟩ | hno
    · obtain ⟨c, B', _, _, r3, r4, r5, _⟩ := hlent k b hk
      rw [hB] at r4
      injection r4 with r4
      subst r4
      exact ⟨k, r5, by simp [r3]⟩
    · exact absurd ho (hboxout b B hB hno)
  · rcases hcases p sz hp with ⟨p1, p2, p3⟩ | ⟨k, b, i, p1, p2, p3, p4⟩
    · rw [p2] at hB
      exact absurd ho (htipout p sz B p1 hB p3)
    · exact ⟨_, p3, p4 ▸ hB⟩
end
end Go.Vs
