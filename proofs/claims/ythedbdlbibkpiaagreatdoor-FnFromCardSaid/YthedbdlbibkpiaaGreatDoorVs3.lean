/- How a state of the plain machine stands to the machine's own: temporaries, variables in memory, sealed memory. -/
import Derived.Test.YthedbdlbibkpiaaGreatDoorVs2
set_option linter.unusedVariables false
namespace Go.Vs
open Go Go.RowKit

structure Env where
  w0 : World
  σ0 : Mem
  lent : Nat → Prop
  pbm : Nat → Option Nat
  n : Nat

def Env.own (e : Env) (B : Nat) : Prop := e.w0.heap.size ≤ B ∨ e.lent B

def NoFrz (vs : Array Value) (m : Nat × Nat) : Prop := ∀ i, i < vs.size → ¬ (m.1 ≤ i ∧ i < m.2)

def Ones (vs : Array Value) : Prop := ∀ v ∈ vs.toList, v.oneCell' = true
def BoxFz (vs : Array Value) (m : Nat × Nat) : Prop := NoFrz vs m ∧ Ones vs
theorem Ones.get {vs : Array Value} (h : Ones vs) {i : Nat} {v : Value} (hv : vs[i]? = some v) : v.oneCell' = true :=
  h v (by have := Array.mem_of_getElem? hv; simpa using this)

def BoxOk (fid : Nat → Nat) (σ : Mem) (w : World) (B : Nat) : BC → Prop
  | .var cs => ∃ vs t m, w.heap[B]? = some (.cells vs t m) ∧ BoxFz vs m ∧ vs.size = cs.length ∧ RepL fid σ cs (fun i => vs[i]?)
  | .rows sz xs => ∃ vs t m, w.heap[B]? = some (.cells vs t m) ∧ BoxFz vs m ∧ xs.length * sz ≤ vs.size ∧ RepR fid σ sz xs (fun i => vs[i]?)

def RepT (fid : Nat → Nat) (σ : Mem) (bm : Nat → Option Nat) (sb : Nat → Option BC) : AV → Value → Prop
  | .bp b off, v => ∀ B, bm b = some B → v = .pointer (some ⟨B, off, none⟩)
  | .bs b, v => ∀ B, bm b = some B → ∃ sz xs cap, sb b = some (.rows sz xs) ∧ xs.length ≤ cap ∧ v = .slice (some ⟨B, 0, none⟩) xs.length cap
  | .be b i off, v => ∀ B, bm b = some B → ∃ sz xs, sb b = some (.rows sz xs) ∧ v = .pointer (some ⟨B, i * sz + off, none⟩)
  | c, v => RepP fid σ c v

def TipOk (e : Env) (σ : Mem) (bm : Nat → Option Nat) (w : World) (sz : Nat) (v : Value) : Prop :=
  ∃ a n cap, v = .slice a n cap ∧ (cap = 0 ∨ ∃ B o vs t m, a = some ⟨B, o, none⟩ ∧ w.heap[B]? = some (.cells vs t m) ∧ NoFrz vs m ∧ o + cap * sz ≤ vs.size ∧ (∀ i, o + n * sz ≤ i → σ B i = none) ∧ e.own B ∧ ∀ b, bm b ≠ some B)

def tipBlk : Value → Option Nat
  | .slice (some a) _ cap => if cap = 0 then none else some a.block
  | _ => none

inductive Pos where
  | t (t : Nat)
  | c (b i : Nat)

def AV.tipSz : AV → Option Nat
  | .sl .tip sz _ => some sz
  | _ => none
def tipAt (s : S) : Pos → Option Nat
  | .t t => (s.t t).tipSz
  | .c b i => match s.b b with
    | some (.var cs) => (cs[i]?).bind AV.tipSz
    | _ => none
def valAt (a : Act) (w : World) (bm : Nat → Option Nat) : Pos → Value
  | .t t => a.tmps.getD t undef
  | .c b i => ((bm b).bind fun B => w.cell? ⟨B, i, none⟩).getD undef

/-- Which of the frame's variables it points to. -/
def AV.ref : AV → Option Nat
  | .bp b _ | .bs b | .be b _ _ => some b
  | _ => none

structure RelX (fid : Nat → Nat) (e : Env) (σ : Mem) (bm : Nat → Option Nat) (s : S) (a : Act) (w : World) : Prop where
  defers : a.defers = []
  size : a.tmps.size = e.n
  tmps : ∀ t, RepT fid σ bm s.b (s.t t) (a.tmps.getD t undef)
  boxes : ∀ b c, s.b b = some c → ∃ B, bm b = some B ∧ BoxOk fid σ w B c ∧ e.own B ∧ ∀ i, σ B i = none
  dead : ∀ b, s.b b = none → bm b = none
  inj : ∀ b b' B, bm b = some B → bm b' = some B → b = b'
  par : ∀ j B B', j < 100 → e.pbm j = some B → bm j = some B' → B' = B
  newb : ∀ b B, 100 ≤ b → bm b = some B → e.w0.heap.size ≤ B
  seenB : ∀ b, s.b b ≠ none → s.seen b = true
  seenT : ∀ t b, (s.t t).ref = some b → s.seen b = true
  mem : ∀ B i v, σ B i = some v → w.cell? ⟨B, i, none⟩ = some v
  one : ∀ B i v, σ B i = some v → v.oneCell' = true
  old : ∀ B, B < e.w0.heap.size → ¬ e.lent B → w.heap[B]? = e.w0.heap[B]?
  oldσ : ∀ B, B < e.w0.heap.size → ¬ e.lent B → σ B = e.σ0 B
  leσ : e.σ0.le σ
  grown : e.w0.heap.size ≤ w.heap.size
  os : w.os = e.w0.os
  tape : w.tape = e.w0.tape
  output : w.output = e.w0.output
  tip : ∀ p sz, tipAt s p = some sz → TipOk e σ bm w sz (valAt a w bm p)
  dist : ∀ p q sz sz' B, tipAt s p = some sz → tipAt s q = some sz' → tipBlk (valAt a w bm p) = some B → tipBlk (valAt a w bm q) = some B → p = q

def Rel (fid : Nat → Nat) (e : Env) (s : S) (a : Act) (w : World) : Prop := ∃ σ bm, RelX fid e σ bm s a w

section
variable {fid : Nat → Nat} {e : Env} {σ τ : Mem} {bm bm' : Nat → Option Nat} {s s' : S} {a : Act} {w w' : World}

theorem RepT_of {sb : Nat → Option BC} {c : AV} {v : Value} (h : c.isP = false) : RepT fid σ bm sb c v ↔ RepP fid σ c v := by
  cases c <;> simp_all [AV.isP, RepT]
theorem RepT_P {sb : Nat → Option BC} {c : AV} {v : Value} (h : RepP fid σ c v) : RepT fid σ bm sb c v := by
  cases c <;> simp_all [RepT, RepP]
theorem ref_none {c : AV} (h : c.isP = false) : c.ref = none := by
  cases c <;> simp_all [AV.isP, AV.ref]
theorem RepT_dem {sb : Nat → Option BC} {c : AV} {v : Value} (h : RepT fid σ bm sb c v) : RepT fid σ bm sb c.dem v := by
  cases c with
  | sl m sz xs => exact RepT_P (RepP_dem (by simpa [RepT] using h))
  | _ => exact h
theorem dem_tip (c : AV) : c.dem.tipSz = none := by
  cases c with
  | sl m sz xs => cases m <;> rfl
  | _ => rfl
theorem dem_ref (c : AV) : c.dem.ref = c.ref := by
  cases c with
  | sl m sz xs => cases m <;> rfl
  | _ => rfl
theorem dem_isP (c : AV) : c.dem.isP = c.isP := by
  cases c with
  | sl m sz xs => cases m <;> rfl
  | _ => rfl
theorem share_tip (c : AV) : c.share.tipSz = none := by cases c <;> rfl
theorem share_isP (c : AV) : c.share.isP = c.isP := by cases c <;> rfl
theorem RepT_mono {sb : Nat → Option BC} {c : AV} {v : Value} (h : RepT fid σ bm sb c v) (hl : σ.le τ) : RepT fid τ bm sb c v := by
  cases c <;> first | exact h | exact RepP.mono h hl
theorem BoxOk_mono {B : Nat} {c : BC} (h : BoxOk fid σ w B c) (hl : σ.le τ) (hw : w'.heap[B]? = w.heap[B]?) : BoxOk fid τ w' B c := by
  cases c with
  | var cs =>
    obtain ⟨vs, t, m, h1, h2, h3, h4⟩ := h
    exact ⟨vs, t, m, hw.trans h1, h2, h3, RepL_mono hl cs _ _ (fun _ _ h => h) h4⟩
  | rows sz xs =>
    obtain ⟨vs, t, m, h1, h2, h3, h4⟩ := h
    exact ⟨vs, t, m, hw.trans h1, h2, h3, RepR_mono hl xs _ _ (fun _ _ h => h) h4⟩

theorem cell_eq {B i : Nat} (h : w'.heap[B]? = w.heap[B]?) : w'.cell? ⟨B, i, none⟩ = w.cell? ⟨B, i, none⟩ := by
  simp only [World.cell?, h]
theorem cell_of {B i : Nat} {vs : Array Value} {t : TypeId} {m : Nat × Nat} (h : w.heap[B]? = some (.cells vs t m)) : w.cell? ⟨B, i, none⟩ = vs[i]? := by
  simp [World.cell?, h]
theorem frozen_of {B i : Nat} {vs : Array Value} {t : TypeId} {m : Nat × Nat} (h : w.heap[B]? = some (.cells vs t m)) (hn : NoFrz vs m) (hi : i < vs.size) : w.frozen? ⟨B, i, none⟩ = false := by
  obtain ⟨lo, hi'⟩ := m
  have := hn i hi
  simp only [World.frozen?, h]
  simp at this ⊢
  intro h1
  exact this h1
theorem lt_of_heap {B : Nat} {o : Obj} (h : w.heap[B]? = some o) : B < w.heap.size := (Array.getElem?_eq_some_iff.1 h).1

/-- The world moves on, nothing of the frame's own being touched. -/
theorem RelX.world (h : RelX fid e σ bm s a w) (hl : σ.le τ) (hone : ∀ B i v, τ B i = some v → v.oneCell' = true) (hτ : ∀ B i, B < w.heap.size → τ B i = σ B i)
    (hmem : ∀ B i v, τ B i = some v → w'.cell? ⟨B, i, none⟩ = some v)
    (hkeep : ∀ B, B < w.heap.size → w'.heap[B]? = w.heap[B]?) (hgrown : w.heap.size ≤ w'.heap.size)
    (hos : w'.os = w.os) (htape : w'.tape = w.tape) (hout : w'.output = w.output) : RelX fid e τ bm s a w' := by
  have hval : ∀ p sz, tipAt s p = some sz → valAt a w' bm p = valAt a w bm p := by
    intro p sz hp
    cases p with
    | t t => rfl
    | c b i =>
      simp only [tipAt] at hp
      split at hp
      · rename_i cs hb
        obtain ⟨B, hB, ⟨vs, t, m, h1, _⟩, _⟩ := h.boxes b _ hb
        simp only [valAt, hB, Option.bind_some, cell_eq (hkeep B (lt_of_heap h1))]
      · cases hp
  refine { defers := h.defers, size := h.size, tmps := fun t => RepT_mono (h.tmps t) hl, boxes := fun b c hb => ?_, dead := h.dead, inj := h.inj, par := h.par, newb := h.newb,
           seenB := h.seenB, seenT := h.seenT, mem := hmem, one := hone, old := fun B h1 h2 => ?_, oldσ := fun B h1 h2 => ?_, leσ := Mem.le_trans h.leσ hl, grown := Nat.le_trans h.grown hgrown,
           os := hos.trans h.os, tape := htape.trans h.tape, output := hout.trans h.output, tip := fun p sz hp => ?_, dist := fun p q sz sz' B hp hq h1 h2 => ?_ }
  · obtain ⟨B, h1, h2, h3, h4⟩ := h.boxes b c hb
    have hlt : B < w.heap.size := by
      cases c <;> (obtain ⟨vs, t, m, k, _⟩ := h2; exact lt_of_heap k)
    exact ⟨B, h1, BoxOk_mono h2 hl (hkeep B hlt), h3, fun i => by rw [hτ B i hlt]; exact h4 i⟩
  · rw [hkeep B (Nat.lt_of_lt_of_le h1 h.grown)]; exact h.old B h1 h2
  · funext i
    rw [hτ B i (Nat.lt_of_lt_of_le h1 h.grown), h.oldσ B h1 h2]
  · rw [hval p sz hp]
    obtain ⟨A, n, cap, h1, h2⟩ := h.tip p sz hp
    refine ⟨A, n, cap, h1, h2.imp id ?_⟩
    rintro ⟨B, o, vs, t, m, k1, k2, k3, k4, k5, k6, k7⟩
    exact ⟨B, o, vs, t, m, k1, (hkeep B (lt_of_heap k2)).trans k2, k3, k4, fun i hi => by rw [hτ B i (lt_of_heap k2)]; exact k5 i hi, k6, k7⟩
  · rw [hval p sz hp] at h1
    rw [hval q sz' hq] at h2
    exact h.dist p q sz sz' B hp hq h1 h2

theorem Mem.le_of_world (h : RelX fid e σ bm s a w) : ∀ B i v, σ B i = some v → B < w.heap.size := by
  intro B i v hv
  exact World.block_lt_of_cell? w _ (h.mem B i v hv)

/-- An order has been drawn. -/
theorem RelX.drawn (h : RelX fid e σ bm s a w) (n : Nat) : RelX fid e σ bm s a { w with drawn := n } :=
  h.world (Mem.le_refl σ) h.one (fun _ _ _ => rfl) (fun B i v hv => h.mem B i v hv) (fun _ _ => rfl) (Nat.le_refl _) rfl rfl rfl

/-- What is known less: temporaries forgotten or copied without their rights, variables given up. -/
structure Less (s s' : S) : Prop where
  t : ∀ t, s'.t t = s.t t ∨ s'.t t = (s.t t).dem ∨ s'.t t = .undef
  b : ∀ b, s'.b b = s.b b ∨ s'.b b = none
  keepBs : ∀ t b, (s'.t t).ref = some b → s'.b b = none ∨ s'.b b = s.b b
  seenB : ∀ b, s'.b b ≠ none → s'.seen b = true
  seenT : ∀ t b, (s'.t t).ref = some b → s'.seen b = true

theorem RelX.less (h : RelX fid e σ bm s a w) (hl : Less s s') : RelX fid e σ (fun b => if (s'.b b).isSome then bm b else none) s' a w := by
  have hbm : ∀ b B, (if (s'.b b).isSome then bm b else none) = some B → (s'.b b).isSome = true ∧ s'.b b = s.b b ∧ bm b = some B := by
    intro b B hb
    split at hb
    · rename_i hs
      rcases hl.b b with h1 | h1
      · exact ⟨hs, h1, hb⟩
      · rw [h1] at hs; cases hs
    · cases hb
  have htip : ∀ p sz, tipAt s' p = some sz → tipAt s p = some sz ∧ valAt a w (fun b => if (s'.b b).isSome then bm b else none) p = valAt a w bm p := by
    intro p sz hp
    cases p with
    | t t =>
      refine ⟨?_, rfl⟩
      simp only [tipAt] at hp ⊢
      rcases hl.t t with h1 | h1 | h1
      · rw [← h1]; exact hp
      · rw [h1, dem_tip] at hp; cases hp
      · rw [h1] at hp; cases hp
    | c b i =>
      simp only [tipAt] at hp ⊢
      split at hp
      · rename_i cs hb
        rcases hl.b b with h1 | h1
        · rw [hb] at h1
          simp only [← h1]
          exact ⟨hp, by simp [valAt, hb]⟩
        · rw [h1] at hb; cases hb
      · cases hp
  refine { defers := h.defers, size := h.size, tmps := fun t => ?_, boxes := fun b c hb => ?_, dead := fun b hb => by simp [hb], inj := fun b b' B h1 h2 => h.inj b b' B (hbm b B h1).2.2 (hbm b' B h2).2.2,
           par := fun j B B' hj h1 h2 => h.par j B B' hj h1 (hbm j B' h2).2.2, newb := fun b B hb h1 => h.newb b B hb (hbm b B h1).2.2, seenB := hl.seenB, seenT := hl.seenT, mem := h.mem, one := h.one, old := h.old, oldσ := h.oldσ, leσ := h.leσ, grown := h.grown,
           os := h.os, tape := h.tape, output := h.output, tip := fun p sz hp => ?_, dist := fun p q sz sz' B hp hq h1 h2 => ?_ }
  · have base : ∀ c, (c = s.t t ∨ c = (s.t t).dem) → RepT fid σ (fun b => if (s'.b b).isSome then bm b else none) s'.b c (a.tmps.getD t undef) := by
      intro c hc
      have hr : RepT fid σ bm s.b c (a.tmps.getD t undef) := by
        rcases hc with rfl | rfl
        · exact h.tmps t
        · exact RepT_dem (h.tmps t)
      cases c <;> first
        | exact hr
        | (intro B hB; exact hr B (hbm _ B hB).2.2)
        | (intro B hB; obtain ⟨_, h1, h2⟩ := hbm _ B hB; rw [h1]; exact hr B h2)
    rcases hl.t t with h1 | h1 | h1
    · rw [h1]; exact base _ (.inl rfl)
    · rw [h1]; exact base _ (.inr rfl)
    · rw [h1]; simp [RepT, RepP]
  · rcases hl.b b with h1 | h1
    · obtain ⟨B, k1, k2, k3, k4⟩ := h.boxes b c (h1 ▸ hb)
      exact ⟨B, by simp [hb, k1], k2, k3, k4⟩
    · rw [h1] at hb; cases hb
  · obtain ⟨h1, h2⟩ := htip p sz hp
    rw [h2]
    obtain ⟨A, n, cap, h3, h4⟩ := h.tip p sz h1
    refine ⟨A, n, cap, h3, h4.imp id ?_⟩
    rintro ⟨B, o, vs, t, m, k1, k2, k3, k4, k5, k6, k7⟩
    exact ⟨B, o, vs, t, m, k1, k2, k3, k4, k5, k6, fun b hb => k7 b (hbm b B hb).2.2⟩
  · obtain ⟨k1, k2⟩ := htip p sz hp
    obtain ⟨k3, k4⟩ := htip q sz' hq
    rw [k2] at h1
    rw [k4] at h2
    exact h.dist p q sz sz' B k1 k3 h1 h2

/-- A source whose value was taken is a reader from then on. -/
theorem RelX.drop (h : RelX fid e σ bm s a w) (x : Opnd) : RelX fid e σ bm (s.drop x) a w := by
  cases x with
  | take t =>
    have hb : (s.drop (.take t)).b = s.b := rfl
    have ht : ∀ u, (s.drop (.take t)).t u = s.t u ∨ (s.drop (.take t)).t u = (s.t u).dem := by
      intro u
      simp only [S.drop, upd_at]
      by_cases hu : u = t
      · subst hu; simp
      · simp [hu]
    have htip : ∀ p sz, tipAt (s.drop (.take t)) p = some sz → tipAt s p = some sz := by
      intro p sz hp
      cases p with
      | t u =>
        simp only [tipAt] at hp ⊢
        rcases ht u with h1 | h1
        · rw [← h1]; exact hp
        · rw [h1, dem_tip] at hp; cases hp
      | c b i => exact hp
    exact { h with
      tmps := fun u => by rcases ht u with h1 | h1 <;> rw [h1] <;> first | exact h.tmps u | exact RepT_dem (h.tmps u)
      seenT := fun u b hr => by rcases ht u with h1 | h1 <;> rw [h1] at hr <;> first | exact h.seenT u b hr | exact h.seenT u b (by rw [← dem_ref]; exact hr)
      tip := fun p sz hp => h.tip p sz (htip p sz hp)
      dist := fun p q sz sz' B hp hq => h.dist p q sz sz' B (htip p sz hp) (htip q sz' hq) }
  | _ => exact h

theorem getD_put {a : Act} {d : Nat} {v : Value} (hd : d < a.tmps.size) (t : Nat) : (a.put (some d) v).tmps.getD t undef = if t = d then v else a.tmps.getD t undef := by
  simp only [Act.put, Array.getD_eq_getD_getElem?, Array.getElem?_setIfInBounds]
  by_cases h : t = d
  · subst h; simp [hd]
  · simp [h, Ne.symm h]

/-- A value is put into a temporary. A value that may be appended to in place comes with the right to. -/
theorem RelX.put (h : RelX fid e σ bm s a w) (d : Option Nat) (hd : ∀ t, d = some t → t < e.n) {c : AV} {v : Value} (hr : RepT fid σ bm s.b c v) (hs : ∀ b, c.ref = some b → s.seen b = true)
    (ht : ∀ sz, c.tipSz = some sz → TipOk e σ bm w sz v ∧ ∀ p sz' B, tipAt s p = some sz' → tipBlk v = some B → tipBlk (valAt a w bm p) ≠ some B) : RelX fid e σ bm (s.put d c) (a.put d v) w := by
  cases d with
  | none => exact h
  | some d =>
    have hlt : d < a.tmps.size := by rw [h.size]; exact hd d rfl
    have hT : ∀ u, (s.put (some d) c).t u = if u = d then c else s.t u := fun u => rfl
    have hval : ∀ p, valAt (a.put (some d) v) w bm p = match p with | .t u => if u = d then v else valAt a w bm (.t u) | p => valAt a w bm p := by
      intro p
      cases p with
      | t u => exact getD_put hlt u
      | c b i => rfl
    have hat : ∀ p sz, tipAt (s.put (some d) c) p = some sz → (p = .t d ∧ c.tipSz = some sz) ∨ (p ≠ .t d ∧ tipAt s p = some sz) := by
      intro p sz hp
      cases p with
      | t u =>
        simp only [tipAt, hT] at hp
        by_cases hu : u = d
        · subst hu; simp at hp; exact .inl ⟨rfl, hp⟩
        · simp [hu] at hp; exact .inr ⟨fun e => hu (by injection e), hp⟩
      | c b i => exact .inr ⟨(fun e => by cases e), hp⟩
    have hv2 : ∀ p, p ≠ .t d → valAt (a.put (some d) v) w bm p = valAt a w bm p := by
      intro p hp
      rw [hval]
      cases p with
      | t u =>
        have : u ≠ d := fun e => hp (by rw [e])
        simp [this]
      | c b i => rfl
    have hv1 : valAt (a.put (some d) v) w bm (.t d) = v := by rw [hval]; simp
    refine { defers := h.defers, size := ?_, tmps := fun t => ?_, boxes := h.boxes, dead := h.dead, inj := h.inj, par := h.par, newb := h.newb, seenB := h.seenB, seenT := fun t b hb => ?_, mem := h.mem, one := h.one, old := h.old, oldσ := h.oldσ, leσ := h.leσ, grown := h.grown,
             os := h.os, tape := h.tape, output := h.output, tip := fun p sz hp => ?_, dist := fun p q sz sz' B hp hq h1 h2 => ?_ }
    · simp [Act.put, h.size]
    · rw [getD_put hlt t, hT]
      split
      · exact hr
      · exact h.tmps t
    · rw [hT] at hb
      split at hb
      · exact hs b hb
      · exact h.seenT t b hb
    · rcases hat p sz hp with ⟨rfl, hc⟩ | ⟨hp1, hp2⟩
      · rw [hv1]; exact (ht sz hc).1
      · rw [hv2 p hp1]; exact h.tip p sz hp2
    · rcases hat p sz hp with ⟨rfl, hc⟩ | ⟨hp1, hp2⟩
      · rcases hat q sz' hq with ⟨rfl, hc'⟩ | ⟨hq1, hq2⟩
        · rfl
        · rw [hv1] at h1
          rw [hv2 q hq1] at h2
          exact absurd h2 ((ht sz hc).2 q sz' B hq2 h1)
      · rcases hat q sz' hq with ⟨rfl, hc'⟩ | ⟨hq1, hq2⟩
        · rw [hv1] at h2
          rw [hv2 p hp1] at h1
          exact absurd h1 ((ht sz' hc').2 p sz B hp2 h2)
        · rw [hv2 p hp1] at h1
          rw [hv2 q hq1] at h2
          exact h.dist p q sz sz' B hp2 hq2 h1 h2

/-- A plain value. -/
theorem RelX.putP (h : RelX fid e σ bm s a w) (d : Option Nat) (hd : ∀ t, d = some t → t < e.n) {c : AV} {v : Value} (hr : RepP fid σ c v) (ht : c.tipSz = none) : RelX fid e σ bm (s.put d c) (a.put d v) w := by
  refine h.put d hd (RepT_P hr) (fun b hb => ?_) (fun sz hsz => by rw [ht] at hsz; cases hsz)
  cases c <;> first | (simp [AV.ref] at hb; done) | (simp [RepP] at hr; done)

end
end Go.Vs
