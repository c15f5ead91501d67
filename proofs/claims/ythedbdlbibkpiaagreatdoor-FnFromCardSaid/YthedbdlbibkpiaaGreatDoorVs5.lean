/- Operands; what is ready to be put; new variables; what is sealed. -/
import Derived.Test.YthedbdlbibkpiaaGreatDoorVs4
set_option linter.unusedVariables false
namespace Go.Vs
open Go Go.RowKit

def okO (C : Ctx) : Opnd → Operand → Bool
  | .tmp t, .tmp u => t == u
  | .take t, .tmp u => t == u
  | .const c, .const v => okC c v
  | .func g, .func f => C.fid g == f
  | .glob i, .global g => C.gm i == g
  | _, _ => false

theorem okC_tip : ∀ {c : AV} {v : Value}, okC c v = true → c.tipSz = none
  | .sl m sz xs, v, h => by cases m <;> first | rfl | (cases v <;> simp [okC] at h)
  | .undef, _, _ | .int _ _, _, _ | .bool _, _, _ | .str _, _, _ | .con _, _, _ | .agg _, _, _ | .rp _ _, _, _ | .fn _ _, _, _ | .tup _, _, _ | .bp _ _, _, _ | .bs _, _, _ | .be _ _ _, _, _ | .np _, _, _ => rfl
theorem okC_isP : ∀ {c : AV} {v : Value}, okC c v = true → c.isP = false
  | .sl m sz xs, v, h => rfl
  | .undef, _, _ | .int _ _, _, _ | .bool _, _, _ | .str _, _, _ | .con _, _, _ | .agg _, _, _ | .rp _ _, _, _ | .fn _ _, _, _ | .tup _, _, _ => rfl
  | .bp _ _, v, h => by cases v <;> simp [okC] at h
  | .bs _, v, h => by cases v <;> simp [okC] at h
  | .be _ _ _, v, h => by cases v <;> simp [okC] at h
  | .np _, v, h => by cases v <;> simp [okC] at h

section
variable {C : Ctx} {e : Env} {σ τ : Mem} {bm : Nat → Option Nat} {s s' : S} {a : Act} {w w' : World}

theorem get_rep (hG : GOk C σ) (h : RelX C.fid e σ bm s a w) {x : Opnd} {y : Operand} (ho : okO C x y = true) : RepT C.fid σ bm s.b (s.get C.G x) (a.eval y) := by
  cases x with
  | tmp t =>
    cases y <;> simp [okO] at ho
    subst ho
    exact RepT_dem (h.tmps _)
  | take t =>
    cases y <;> simp [okO] at ho
    subst ho
    exact h.tmps _
  | const c =>
    cases y <;> simp [okO] at ho
    exact RepT_P (okC_rep ho)
  | func g =>
    cases y <;> simp [okO] at ho
    subst ho
    exact ⟨#[], rfl, rfl, by simp [RepL]⟩
  | glob i =>
    cases y <;> simp [okO] at ho
    subst ho
    exact ⟨C.gm i, 0, by simp [Act.eval], by simpa using hG i⟩
theorem get_seen (h : RelX C.fid e σ bm s a w) {x : Opnd} {y : Operand} (ho : okO C x y = true) {b : Nat} (hb : (s.get C.G x).ref = some b) : s.seen b = true := by
  cases x with
  | tmp t => exact h.seenT t b (by rw [← dem_ref]; exact hb)
  | take t => exact h.seenT t b hb
  | const c =>
    cases y <;> simp [okO] at ho
    rw [S.get, ref_none (okC_isP ho)] at hb; cases hb
  | func g => cases hb
  | glob i => cases hb

/-- A value and a world: all stands, and the value may be put. -/
def Ready (C : Ctx) (e : Env) (s : S) (c : AV) (v : Value) (a : Act) (w : World) : Prop :=
  ∃ σ bm, RelX C.fid e σ bm s a w ∧ RepT C.fid σ bm s.b c v ∧ (∀ b, c.ref = some b → s.seen b = true) ∧
    ∀ sz, c.tipSz = some sz → TipOk e σ bm w sz v ∧ ∀ p sz' B, tipAt s p = some sz' → tipBlk v = some B → tipBlk (valAt a w bm p) ≠ some B

theorem Ready.put {c : AV} {v : Value} (h : Ready C e s c v a w) (d : Option Nat) (hd : ∀ t, d = some t → t < e.n) : Rel C.fid e (s.put d c) (a.put d v) w := by
  obtain ⟨σ, bm, h1, h2, h3, h4⟩ := h
  exact ⟨σ, bm, h1.put d hd h2 h3 h4⟩

theorem Ready.plain (h : RelX C.fid e σ bm s a w) {c : AV} {v : Value} (hr : RepP C.fid σ c v) (ht : c.tipSz = none) : Ready C e s c v a w := by
  refine ⟨σ, bm, h, RepT_P hr, fun b hb => ?_, fun sz hs => by rw [ht] at hs; cases hs⟩
  cases c <;> first | (simp [AV.ref] at hb; done) | (simp [RepP] at hr; done)

theorem Ready.get (hG : GOk C σ) (h : RelX C.fid e σ bm s a w) {x : Opnd} {y : Operand} (ho : okO C x y = true) : Ready C e (s.drop x) (s.get C.G x) (a.eval y) a w := by
  have hr := get_rep hG h ho
  have hb : (s.drop x).b = s.b := by cases x <;> rfl
  have hs : (s.drop x).seen = s.seen := by cases x <;> rfl
  refine ⟨σ, bm, h.drop x, by rw [hb]; exact hr, fun b hb' => by rw [hs]; exact get_seen h ho hb', fun sz hsz => ?_⟩
  cases x with
  | tmp t => rw [S.get, dem_tip] at hsz; cases hsz
  | const c => cases y <;> simp [okO] at ho; rw [S.get, okC_tip ho] at hsz; cases hsz
  | func g => cases hsz
  | glob i => cases hsz
  | take t =>
    cases y <;> simp [okO] at ho
    subst ho
    have h1 := h.tip (.t t) sz hsz
    refine ⟨h1, fun p sz' B hp hB hB' => ?_⟩
    have hp' : tipAt s p = some sz' ∧ p ≠ .t t := by
      cases p with
      | t u =>
        simp only [tipAt, S.drop, upd_at] at hp
        by_cases hu : u = t
        · subst hu; simp [dem_tip] at hp
        · simp [hu] at hp; exact ⟨hp, fun e => hu (by injection e)⟩
      | c b i => exact ⟨hp, fun e => by cases e⟩
    exact hp'.2 (h.dist p (.t t) sz' sz B hp'.1 hsz hB' hB)

/-- Nothing but the drawn orders has turned. -/
theorem Ready.drawn {c : AV} {v : Value} (h : Ready C e s c v a w) (n : Nat) : Ready C e s c v a { w with drawn := n } := by
  obtain ⟨σ, bm, h1, h2, h3, h4⟩ := h
  exact ⟨σ, bm, h1.drawn n, h2, h3, h4⟩

/-! ### A new variable -/
theorem RelX.addBox (h : RelX C.fid e σ bm s a w) {b : Nat} {c : BC} (hs : s.newB b c = some s') {B : Nat} (hB : BoxOk C.fid σ w B c) (hown : e.w0.heap.size ≤ B) (hσ : ∀ i, σ B i = none)
    (hfresh : ∀ b', bm b' ≠ some B) (htf : ∀ p sz, tipAt s p = some sz → tipBlk (valAt a w bm p) ≠ some B) (hnt : ∀ i sz, tipAt { s with b := upd s.b b (some c) } (.c b i) ≠ some sz) :
    RelX C.fid e σ (upd bm b (some B)) s' a w ∧ s'.seen b = true ∧ s'.b b = some c ∧ (∀ b', b' ≠ b → s'.b b' = s.b b') ∧ s'.t = s.t := by
  unfold S.newB at hs
  split at hs
  · cases hs
  · rename_i hn
    injection hs with hs
    subst hs
    have hn1 : 100 ≤ b := by omega
    have hn2 : s.seen b = false := by
      cases hh : s.seen b with
      | false => rfl
      | true => exact absurd (Or.inr hh) hn
    have hdead : s.b b = none := by
      cases hh : s.b b with
      | none => rfl
      | some c' => have := h.seenB b (by simp [hh]); rw [hn2] at this; cases this
    have hne : ∀ t b', (s.t t).ref = some b' → b' ≠ b := by
      intro t b' hr e
      subst e
      have := h.seenT t _ hr
      rw [hn2] at this; cases this
    have hbm : ∀ b' B', upd bm b (some B) b' = some B' → (b' = b ∧ B' = B) ∨ (b' ≠ b ∧ bm b' = some B') := by
      intro b' B' hh
      by_cases hb : b' = b
      · subst hb; simp [upd] at hh; exact .inl ⟨rfl, hh.symm⟩
      · rw [upd_ne _ _ hb] at hh; exact .inr ⟨hb, hh⟩
    have hat : ∀ p sz, tipAt { s with b := upd s.b b (some c), seen := upd s.seen b true } p = some sz → tipAt s p = some sz ∧ valAt a w (upd bm b (some B)) p = valAt a w bm p := by
      intro p sz hp
      cases p with
      | t t => exact ⟨hp, rfl⟩
      | c b' i =>
        by_cases hb : b' = b
        · subst hb; exact absurd hp (hnt i sz)
        · refine ⟨?_, by simp [valAt, upd_ne _ _ hb]⟩
          simp only [tipAt, upd_ne _ _ hb] at hp ⊢
          exact hp
    refine ⟨{ defers := h.defers, size := h.size, tmps := fun t => ?_, boxes := fun b' c' hb' => ?_, dead := fun b' hb' => ?_, inj := fun b1 b2 B' h1 h2 => ?_, par := fun j B1 B2 hj h1 h2 => ?_, newb := fun b' B' hb' h1 => by
                rcases hbm b' B' h1 with ⟨_, rfl⟩ | ⟨_, k2⟩
                · exact hown
                · exact h.newb b' B' hb' k2,
              seenB := fun b' hb' => ?_, seenT := fun t b' hb' => ?_, mem := h.mem, one := h.one, old := h.old, oldσ := h.oldσ, leσ := h.leσ, grown := h.grown, os := h.os, tape := h.tape, output := h.output,
              tip := fun p sz hp => ?_, dist := fun p q sz sz' B' hp hq h1 h2 => ?_ }, by simp [upd], by simp [upd], fun b' hb' => by simp [upd, hb'], rfl⟩
    · have ht := h.tmps t
      have hr := hne t
      revert ht hr
      show RepT C.fid σ bm s.b (s.t t) _ → _ → RepT C.fid σ (upd bm b (some B)) (upd s.b b (some c)) (s.t t) _
      cases s.t t <;> intro ht hr <;> first
        | exact ht
        | (intro B' hB'
           rw [upd_ne _ _ (hr _ rfl)] at hB'
           first | exact ht B' hB' | (rw [upd_ne _ _ (hr _ rfl)]; exact ht B' hB'))
    · by_cases hb : b' = b
      · subst hb
        simp [upd] at hb'
        subst hb'
        exact ⟨B, by simp [upd], hB, .inl hown, hσ⟩
      · simp only [upd_ne _ _ hb] at hb'
        obtain ⟨B', k1, k2⟩ := h.boxes b' c' hb'
        exact ⟨B', by rw [upd_ne _ _ hb]; exact k1, k2⟩
    · by_cases hb : b' = b
      · subst hb; simp [upd] at hb'
      · simp only [upd_ne _ _ hb] at hb'
        rw [upd_ne _ _ hb]; exact h.dead b' hb'
    · rcases hbm b1 B' h1 with ⟨rfl, rfl⟩ | ⟨k1, k2⟩
      · rcases hbm b2 _ h2 with ⟨rfl, _⟩ | ⟨k3, k4⟩
        · rfl
        · exact absurd k4 (hfresh b2)
      · rcases hbm b2 B' h2 with ⟨rfl, rfl⟩ | ⟨k3, k4⟩
        · exact absurd k2 (hfresh b1)
        · exact h.inj b1 b2 B' k2 k4
    · rcases hbm j B2 h2 with ⟨rfl, _⟩ | ⟨_, k2⟩
      · omega
      · exact h.par j B1 B2 hj h1 k2
    · by_cases hb : b' = b
      · subst hb; simp [upd]
      · simp only [upd_ne _ _ hb] at hb' ⊢
        exact h.seenB b' hb'
    · by_cases hb : b' = b
      · subst hb; simp [upd]
      · simp only [upd_ne _ _ hb]
        exact h.seenT t b' hb'
    · obtain ⟨k1, k2⟩ := hat p sz hp
      rw [k2]
      obtain ⟨A, n, cap, h3, h4⟩ := h.tip p sz k1
      refine ⟨A, n, cap, h3, ?_⟩
      by_cases hc : cap = 0
      · exact .inl hc
      · rcases h4 with h4 | ⟨B', o, vs, t, m, j1, j2, j3, j4, j5, j6, j7⟩
        · exact .inl h4
        · refine .inr ⟨B', o, vs, t, m, j1, j2, j3, j4, j5, j6, fun b' hb' => ?_⟩
          rcases hbm b' B' hb' with ⟨rfl, rfl⟩ | ⟨_, k4⟩
          · refine htf p sz k1 ?_
            rw [h3, j1]; simp [tipBlk, hc]
          · exact j7 b' k4
    · obtain ⟨k1, k2⟩ := hat p sz hp
      obtain ⟨k3, k4⟩ := hat q sz' hq
      rw [k2] at h1
      rw [k4] at h2
      exact h.dist p q sz sz' B' k1 k3 h1 h2

theorem tipBlk_lt (h : RelX C.fid e σ bm s a w) {p : Pos} {sz B : Nat} (hp : tipAt s p = some sz) (hB : tipBlk (valAt a w bm p) = some B) : B < w.heap.size := by
  obtain ⟨A, n, cap, h1, h2⟩ := h.tip p sz hp
  rw [h1] at hB
  rcases h2 with h2 | ⟨B', o, vs, t, m, j1, j2, _⟩
  · subst h2; cases A <;> simp [tipBlk] at hB
  · subst j1
    simp only [tipBlk] at hB
    split at hB
    · cases hB
    · injection hB with hB; subst hB; exact lt_of_heap j2
theorem bm_lt (h : RelX C.fid e σ bm s a w) {b B : Nat} (hb : bm b = some B) : B < w.heap.size := by
  cases hh : s.b b with
  | none => rw [h.dead b hh] at hb; cases hb
  | some c =>
    obtain ⟨B', k1, k2, _⟩ := h.boxes b c hh
    rw [hb] at k1
    injection k1 with k1
    subst k1
    cases c <;> (obtain ⟨vs, t, m, k, _⟩ := k2; exact lt_of_heap k)

/-- The heap grows by a block. -/
theorem RelX.push (h : RelX C.fid e σ bm s a w) (o : Obj) : RelX C.fid e σ bm s a { w with heap := w.heap.push o } := by
  refine h.world (Mem.le_refl σ) h.one (fun _ _ _ => rfl) (fun B i v hv => ?_) (fun B hB => ?_) (by simp) rfl rfl rfl
  · have hlt := Mem.le_of_world h B i v hv
    have := h.mem B i v hv
    rw [← this]
    exact cell_eq (by simp only []; rw [Array.getElem?_push_lt hlt, Array.getElem?_eq_getElem hlt])
  · simp only []; rw [Array.getElem?_push_lt hB, Array.getElem?_eq_getElem hB]

/-- A new variable with plain contents, in a new block. -/
theorem RelX.fresh (h : RelX C.fid e σ bm s a w) {b : Nat} {c : BC} (hs : s.newB b c = some s') {vs : Array Value} {t : TypeId} {m : Nat × Nat} (hm : BoxFz vs m)
    (hc : match c with | .var cs => vs.size = cs.length ∧ RepL C.fid σ cs (fun i => vs[i]?) | .rows sz xs => xs.length * sz ≤ vs.size ∧ RepR C.fid σ sz xs (fun i => vs[i]?))
    (hnt : ∀ i sz, tipAt { s with b := upd s.b b (some c) } (.c b i) ≠ some sz) :
    RelX C.fid e σ (upd bm b (some w.heap.size)) s' a { w with heap := w.heap.push (.cells vs t m) } ∧ s'.seen b = true ∧ s'.b b = some c ∧ (∀ b', b' ≠ b → s'.b b' = s.b b') ∧ s'.t = s.t := by
  have h1 := h.push (.cells vs t m)
  refine h1.addBox hs (B := w.heap.size) ?_ h.grown (fun i => ?_) (fun b' hb' => ?_) (fun p sz hp hB => ?_) hnt
  · cases c with
    | var cs => exact ⟨vs, t, m, by simp, hm, hc.1, hc.2⟩
    | rows sz xs => exact ⟨vs, t, m, by simp, hm, hc.1, hc.2⟩
  · cases hh : σ w.heap.size i with
    | none => rfl
    | some v => exact absurd (Mem.le_of_world h _ _ _ hh) (Nat.lt_irrefl _)
  · exact absurd (bm_lt h hb') (Nat.lt_irrefl _)
  · have := tipBlk_lt h1 hp hB
    cases p with
    | t u => exact absurd (tipBlk_lt h hp hB) (Nat.lt_irrefl _)
    | c b' i =>
      have hv : valAt a { w with heap := w.heap.push (.cells vs t m) } bm (.c b' i) = valAt a w bm (.c b' i) := by
        simp only [valAt]
        cases hbb : bm b' with
        | none => rfl
        | some B' =>
          have hlt := bm_lt h hbb
          simp only [Option.bind_some]
          rw [cell_eq (w := w) (by simp only []; rw [Array.getElem?_push_lt hlt, Array.getElem?_eq_getElem hlt])]
      rw [hv] at hB
      exact absurd (tipBlk_lt h hp hB) (Nat.lt_irrefl _)

/-- A variable is given up: what it holds is read-only from then on. -/
theorem RelX.shut_ (h : RelX C.fid e σ bm s a w) {b : Nat} {c : BC} (hb : s.b b = some c) {B : Nat} (hB : bm b = some B) :
    RelX C.fid e (fun B' i => if B' = B then w.cell? ⟨B, i, none⟩ else σ B' i) (upd bm b none) { s with b := upd s.b b none } a w := by
  obtain ⟨B0, k1, kbox, kown, kσ⟩ := h.boxes b c hb
  have : B0 = B := by rw [hB] at k1; injection k1 with k1; exact k1.symm
  subst this
  have hle : σ.le (fun B' i => if B' = B0 then w.cell? ⟨B0, i, none⟩ else σ B' i) := by
    intro B' i v hv
    by_cases hh : B' = B0
    · subst hh; rw [kσ i] at hv; cases hv
    · simp [hh, hv]
  have hbm : ∀ b' B', upd bm b none b' = some B' → b' ≠ b ∧ bm b' = some B' := by
    intro b' B' hh
    by_cases hb' : b' = b
    · subst hb'; simp [upd] at hh
    · rw [upd_ne _ _ hb'] at hh; exact ⟨hb', hh⟩
  have hat : ∀ p sz, tipAt { s with b := upd s.b b none } p = some sz → tipAt s p = some sz ∧ valAt a w (upd bm b none) p = valAt a w bm p := by
    intro p sz hp
    cases p with
    | t t => exact ⟨hp, rfl⟩
    | c b' i =>
      by_cases hb' : b' = b
      · subst hb'; simp [tipAt, upd] at hp
      · refine ⟨?_, by simp [valAt, upd_ne _ _ hb']⟩
        simp only [tipAt, upd_ne _ _ hb'] at hp ⊢
        exact hp
  refine { defers := h.defers, size := h.size, tmps := fun t => ?_, boxes := fun b' c' hb' => ?_, dead := fun b' hb' => ?_, inj := fun b1 b2 B' h1 h2 => h.inj b1 b2 B' (hbm _ _ h1).2 (hbm _ _ h2).2,
           par := fun j B1 B2 hj h1 h2 => h.par j B1 B2 hj h1 (hbm _ _ h2).2, newb := fun b' B' hb' h1 => h.newb b' B' hb' (hbm _ _ h1).2, seenB := fun b' hb' => ?_, seenT := h.seenT, mem := fun B' i v hv => ?_, one := fun B' i v hv => ?_, old := h.old, oldσ := fun B' h1 h2 => ?_, leσ := Mem.le_trans h.leσ hle, grown := h.grown,
           os := h.os, tape := h.tape, output := h.output, tip := fun p sz hp => ?_, dist := fun p q sz sz' B' hp hq h1 h2 => ?_ }
  · have ht := h.tmps t
    revert ht
    show RepT C.fid σ bm s.b (s.t t) _ → RepT C.fid _ (upd bm b none) (upd s.b b none) (s.t t) _
    cases s.t t <;> intro ht <;> first
      | exact RepP.mono ht hle
      | (intro B' hB'
         obtain ⟨j1, j2⟩ := hbm _ _ hB'
         first | exact ht B' j2 | (rw [upd_ne _ _ j1]; exact ht B' j2))
  · have hb2 : b' ≠ b := by
      intro hh; subst hh; simp [upd] at hb'
    simp only [upd_ne _ _ hb2] at hb'
    obtain ⟨B', j1, j2, j3, j4⟩ := h.boxes b' c' hb'
    have hne : B' ≠ B0 := fun hh => hb2 (h.inj b' b B' j1 (by rw [hh]; exact hB))
    exact ⟨B', by rw [upd_ne _ _ hb2]; exact j1, BoxOk_mono j2 hle rfl, j3, fun i => by simp [hne, j4 i]⟩
  · by_cases hb2 : b' = b
    · subst hb2; simp [upd]
    · simp only [upd_ne _ _ hb2] at hb'
      rw [upd_ne _ _ hb2]; exact h.dead b' hb'
  · by_cases hb2 : b' = b
    · subst hb2; simp [upd] at hb'
    · simp only [upd_ne _ _ hb2] at hb'
      exact h.seenB b' hb'
  · by_cases hh : B' = B0
    · subst hh; simpa using hv
    · simp [hh] at hv; exact h.mem B' i v hv
  · by_cases hh : B' = B0
    · subst hh
      simp only [if_true] at hv
      cases c <;> (obtain ⟨vs, t, m, j1, j2, _⟩ := kbox; rw [cell_of j1] at hv; exact j2.2.get hv)
    · simp [hh] at hv; exact h.one B' i v hv
  · have hne : B' ≠ B0 := by
      intro hh; subst hh
      rcases kown with k | k
      · omega
      · exact h2 k
    funext i
    simp [hne, h.oldσ B' h1 h2]
  · obtain ⟨j1, j2⟩ := hat p sz hp
    rw [j2]
    obtain ⟨A, n, cap, h3, h4⟩ := h.tip p sz j1
    refine ⟨A, n, cap, h3, h4.imp id ?_⟩
    rintro ⟨B', o, vs, t, m, l1, l2, l3, l4, l5, l6, l7⟩
    have hne : B' ≠ B0 := fun hh => l7 b (by rw [hh]; exact hB)
    exact ⟨B', o, vs, t, m, l1, l2, l3, l4, fun i hi => by simp [hne, l5 i hi], l6, fun b' hb' => l7 b' (hbm _ _ hb').2⟩
  · obtain ⟨j1, j2⟩ := hat p sz hp
    obtain ⟨j3, j4⟩ := hat q sz' hq
    rw [j2] at h1
    rw [j4] at h2
    exact h.dist p q sz sz' B' j1 j3 h1 h2
end
end Go.Vs
