/- Operands; what is ready to be put; new variables; what is sealed. -/
import Derived.Test.YtbgodlimjjgogaaDoorVs4
import Derived.Deep.MidRow
import Derived.Laws.StructEq
set_option linter.unusedVariables false
namespace Go.Vs
open Go Go.RowKit
def okO (C : Ctx) : Opnd → Operand → Bool
 | .tmp t, .tmp u => t == u
 | .take t, .tmp u => t == u
 | .const c, .const v => okC c v
 | .func g, .func f => C.fid g == f
 | .glob i, .global g => C.gm i == g
 | _, _ => false
theorem Qih : ∀ {c : AV} {v : Value}, okC c v = true → c.tipSz = none
 | .sl m sz xs, v, h => by cases m <;> first | rfl | (cases v <;> simp [okC] at h)
 | .undef, _, _ | .int _ _, _, _ | .bool _, _, _ | .str _, _, _ | .con _, _, _ | .agg _, _, _ | .rp _ _, _, _ | .fn _ _, _, _ | .tup _, _, _ | .bp _ _, _, _ | .bs _, _, _ | .be _ _ _, _, _ | .np _, _, _ | .tr _ _ _, _, _ | .trp _ _ _ _, _, _ => rfl
theorem okC_isP : ∀ {c : AV} {v : Value}, okC c v = true → c.isP = false
 | .sl m sz xs, v, h => rfl
 | .undef, _, _ | .int _ _, _, _ | .bool _, _, _ | .str _, _, _ | .con _, _, _ | .agg _, _, _ | .rp _ _, _, _ | .fn _ _, _, _ | .tup _, _, _ | .tr _ _ _, _, _ | .trp _ _ _ _, _, _ => rfl
 | .bp _ _, v, h => by cases v <;> simp [okC] at h
 | .bs _, v, h => by cases v <;> simp [okC] at h
 | .be _ _ _, v, h => by cases v <;> simp [okC] at h
 | .np _, v, h => by cases v <;> simp [okC] at h
section
variable {C : Ctx} {e : Env} {σ τ : Mem} {bm : Nat → Option Nat} {s s' : S} {a : Act} {w w' : World}
theorem Qc (hG : GOk C σ) (h : RelX C.fid e σ bm s a w) {x : Opnd} {y : Operand} (ho : okO C x y = true) : RepT C.fid σ bm s.b (s.get C.G x) (a.eval y) := by
 cases x with
 | tmp t =>
  cases y <;> simp [okO] at ho
  subst ho
  exact Qnd (h.tmps _)
 | take t =>
  cases y <;> simp [okO] at ho
  subst ho
  exact h.tmps _
 | const c =>
  cases y <;> simp [okO] at ho
  exact Qew (Qkv ho)
 | func g =>
  cases y <;> simp [okO] at ho
  subst ho
  exact ⟨#[], rfl, rfl, by simp [RepL]⟩
 | glob i =>
  cases y <;> simp [okO] at ho
  subst ho
  exact ⟨C.gm i, 0, by simp [Act.eval], by simpa using hG.rep i⟩
theorem Qhb (h : RelX C.fid e σ bm s a w) {x : Opnd} {y : Operand} (ho : okO C x y = true) {b : Nat} (hb : (s.get C.G x).ref = some b) : s.seen b = true := by
 cases x with
 | tmp t => exact h.seenT t b (by rw [← Qvg]; exact hb)
 | take t => exact h.seenT t b hb
 | const c =>
  cases y <;> simp [okO] at ho
  rw [S.get, Qcw (okC_isP ho)] at hb; cases hb
 | func g => cases hb
 | glob i => cases hb
def Qp (C : Ctx) (e : Env) (s : S) (c : AV) (v : Value) (a : Act) (w : World) : Prop :=
 ∃ σ bm, RelX C.fid e σ bm s a w ∧ RepT C.fid σ bm s.b c v ∧ (∀ b, c.ref = some b → s.seen b = true) ∧
  ∀ sz, c.tipSz = some sz → Qdq e σ bm w sz v ∧ ∀ p sz' B, Qd s p = some sz' → Qf v = some B → Qf (Qg a w bm p) ≠ some B
theorem Qp.put {c : AV} {v : Value} (h : Qp C e s c v a w) (d : Option Nat) (hd : ∀ t, d = some t → t < e.n) : Rel C.fid e (s.put d c) (a.put d v) w := by
 obtain ⟨σ, bm, h1, h2, h3, h4⟩ := h
 exact ⟨σ, bm, h1.put d hd h2 h3 h4⟩
theorem Qp.plain (h : RelX C.fid e σ bm s a w) {c : AV} {v : Value} (hr : RepP C.fid σ c v) (ht : c.tipSz = none) : Qp C e s c v a w := by
 refine ⟨σ, bm, h, Qew hr, fun b hb => ?_, fun sz hs => by rw [ht] at hs; cases hs⟩
 cases c <;> first | (simp [AV.ref] at hb; done) | (simp [RepP] at hr; done)
theorem Qp.get (hG : GOk C σ) (h : RelX C.fid e σ bm s a w) {x : Opnd} {y : Operand} (ho : okO C x y = true) : Qp C e (s.drop x) (s.get C.G x) (a.eval y) a w := by
 have hr := Qc hG h ho
 have hb : (s.drop x).b = s.b := by cases x <;> rfl
 have hs : (s.drop x).seen = s.seen := by cases x <;> rfl
 refine ⟨σ, bm, h.drop x, by rw [hb]; exact hr, fun b hb' => by rw [hs]; exact Qhb h ho hb', fun sz hsz => ?_⟩
 cases x with
 | tmp t => rw [S.get, Qbn] at hsz; cases hsz
 | const c => cases y <;> simp [okO] at ho; rw [S.get, Qih ho] at hsz; cases hsz
 | func g => cases hsz
 | glob i => cases hsz
 | take t =>
  cases y <;> simp [okO] at ho
  subst ho
  have h1 := h.tip (.t t) sz hsz
  refine ⟨h1, fun p sz' B hp hB hB' => ?_⟩
  have hp' : Qd s p = some sz' ∧ p ≠ .t t := by
   cases p with
   | t u =>
    simp only [Qd, S.drop, Qae] at hp
    by_cases hu : u = t
    ·subst hu; simp [Qbn] at hp
    ·simp [hu] at hp; exact ⟨hp, fun e => hu (by injection e)⟩
   | c b i => exact ⟨hp, fun e => by cases e⟩
  exact hp'.2 (h.dist p (.t t) sz' sz B hp'.1 hsz hB' hB)
theorem Qp.drawn {c : AV} {v : Value} (h : Qp C e s c v a w) (n : Nat) : Qp C e s c v a { w with drawn := n } := by
 obtain ⟨σ, bm, h1, h2, h3, h4⟩ := h
 exact ⟨σ, bm, h1.drawn n, h2, h3, h4⟩
theorem RelX.addBox (h : RelX C.fid e σ bm s a w) {b : Nat} {c : BC} (hs : s.newB b c = some s') {B : Nat} (hB : Qsv C.fid σ w B c) (hown : e.w0.heap.size ≤ B) (hσ : ∀ i, σ B i = none)
    (hfresh : ∀ b', bm b' ≠ some B) (htf : ∀ p sz, Qd s p = some sz → Qf (Qg a w bm p) ≠ some B) (hnt : ∀ i sz, Qd { s with b := upd s.b b (some c) } (.c b i) ≠ some sz) :
    RelX C.fid e σ (upd bm b (some B)) s' a w ∧ s'.seen b = true ∧ s'.b b = some c ∧ (∀ b', b' ≠ b → s'.b b' = s.b b') ∧ s'.t = s.t := by
  unfold S.newB at hs
  split at hs
  · cases hs
  · rename_i hn
    injection hs with hs
    subst hs
    have hn1 : 100 ≤ b := by omega
    have hn2 : s.seen b = false := by
      cases hh : s.seen b with
      | false => rfl
      | true => exact absurd (Or.inr hh) hn
    have hdead : s.b b = none := by
      cases hh : s.b b with
      | none => rfl
      | some c' => have := h.seenB b (by simp [hh]); rw [hn2] at this; cases this
    have hne : ∀ t b', (s.t t).ref = some b' → b' ≠ b := by
      intro t b' hr e
      subst e
      have := h.seenT t _ hr
      rw [hn2] at this; cases this
    have hbm : ∀ b' B', upd bm b (some B) b' = some B' → (b' = b ∧ B' = B) ∨ (b' ≠ b ∧ bm b' = some B') := by
      intro b' B' hh
      by_cases hb : b' = b
      · subst hb; simp [upd] at hh; exact .inl ⟨rfl, hh.symm⟩
      · rw [Qab _ _ hb] at hh; exact .inr ⟨hb, hh⟩
    have hat : ∀ p sz, Qd { s with b := upd s.b b (some c), seen := upd s.seen b true } p = some sz → Qd s p = some sz ∧ Qg a w (upd bm b (some B)) p = Qg a w bm p := by
      intro p sz hp
      cases p with
      | t t => exact ⟨hp, rfl⟩
      | c b' i =>
        by_cases hb : b' = b
        · subst hb; exact absurd hp (hnt i sz)
        · refine ⟨?_, by simp [Qg, Qab _ _ hb]⟩
          simp only [Qd, Qab _ _ hb] at hp ⊢
          exact hp
    refine ⟨{ defers := h.defers, hds := h.hds, size := h.size, tmps := fun t => ?_, boxes := fun b' c' hb' har => ?_, dead := fun b' hb' => ?_, ar := fun b' es hb' => by
                by_cases hb : b' = b
                · subst hb
                  simp [upd] at hb'
                  subst hb'
                  exact hB.elim
                · simp only [Qab _ _ hb] at hb'
                  rw [Qab _ _ hb]; exact h.ar b' es hb',
              inj := fun b1 b2 B' h1 h2 => ?_, par := fun j B1 B2 hj h1 h2 => ?_, newb := fun b' B' hb' h1 => by
                rcases hbm b' B' h1 with ⟨_, rfl⟩ | ⟨_, k2⟩
                · exact Nat.le_trans e.hbase hown
                · exact h.newb b' B' hb' k2,
              seenB := fun b' hb' => ?_, seenT := fun t b' hb' => ?_, mem := h.mem, one := h.one, old := h.old, oldσ := h.oldσ, leσ := h.leσ, grown := h.grown, os := h.os, tape := h.tape, output := h.output,
              tip := fun p sz hp => ?_, dist := fun p q sz sz' B' hp hq h1 h2 => ?_ }, by simp [upd], by simp [upd], fun b' hb' => by simp [upd, hb'], rfl⟩
    · have ht := h.tmps t
      have hr := hne t
      revert ht hr
      show RepT C.fid σ bm s.b (s.t t) _ → _ → RepT C.fid σ (upd bm b (some B)) (upd s.b b (some c)) (s.t t) _
      cases s.t t <;> intro ht hr <;> first
        | exact ht
        | (intro B' hB'
           rw [Qab _ _ (hr _ rfl)] at hB'
           first | exact ht B' hB' | (rw [Qab _ _ (hr _ rfl)]; exact ht B' hB'))
    · by_cases hb : b' = b
      · subst hb
        simp [upd] at hb'
        subst hb'
        exact ⟨B, by simp [upd], hB, .inl hown, hσ⟩
      · simp only [Qab _ _ hb] at hb'
        obtain ⟨B', k1, k2⟩ := h.boxes b' c' hb' har
        exact ⟨B', by rw [Qab _ _ hb]; exact k1, k2⟩
    · by_cases hb : b' = b
      · subst hb; simp [upd] at hb'
      · simp only [Qab _ _ hb] at hb'
        rw [Qab _ _ hb]; exact h.dead b' hb'
    · rcases hbm b1 B' h1 with ⟨rfl, rfl⟩ | ⟨k1, k2⟩
      · rcases hbm b2 _ h2 with ⟨rfl, _⟩ | ⟨k3, k4⟩
        · rfl
        · exact absurd k4 (hfresh b2)
      · rcases hbm b2 B' h2 with ⟨rfl, rfl⟩ | ⟨k3, k4⟩
        · exact absurd k2 (hfresh b1)
        · exact h.inj b1 b2 B' k2 k4
    · rcases hbm j B2 h2 with ⟨rfl, _⟩ | ⟨_, k2⟩
      · omega
      · exact h.par j B1 B2 hj h1 k2
    · by_cases hb : b' = b
      · subst hb; simp [upd]
      · simp only [Qab _ _ hb] at hb' ⊢
        exact h.seenB b' hb'
    · by_cases hb : b' = b
      · subst hb; simp [upd]
      · simp only [Qab _ _ hb]
        exact h.seenT t b' hb'
    · obtain ⟨k1, k2⟩ := hat p sz hp
      rw [k2]
      obtain ⟨A, n, cap, h3, h4⟩ := h.tip p sz k1
      refine ⟨A, n, cap, h3, ?_⟩
      by_cases hc : cap = 0
      · exact .inl hc
      · rcases h4 with h4 | ⟨B', o, vs, t, m, j1, j2, j3, j4, j5, j6, j7⟩
        · exact .inl h4
        · refine .inr ⟨B', o, vs, t, m, j1, j2, j3, j4, j5, j6, fun b' hb' => ?_⟩
          rcases hbm b' B' hb' with ⟨rfl, rfl⟩ | ⟨_, k4⟩
          · refine htf p sz k1 ?_
            rw [h3, j1]; simp [Qf, hc]
          · exact j7 b' k4
    · obtain ⟨k1, k2⟩ := hat p sz hp
      obtain ⟨k3, k4⟩ := hat q sz' hq
      rw [k2] at h1
      rw [k4] at h2
      exact h.dist p q sz sz' B' k1 k3 h1 h2
theorem Qdz (h : RelX C.fid e σ bm s a w) {p : Pos} {sz B : Nat} (hp : Qd s p = some sz) (hB : Qf (Qg a w bm p) = some B) : B < w.heap.size := by
 obtain ⟨A, n, cap, h1, h2⟩ := h.tip p sz hp
 rw [h1] at hB
 rcases h2 with h2 | ⟨B', o, vs, t, m, j1, j2, _⟩
 ·subst h2; cases A <;> simp [Qf] at hB
 ·subst j1
  simp only [Qf] at hB
  split at hB
  ·cases hB
  ·injection hB with hB; subst hB; exact Qar j2
theorem Qhx (h : RelX C.fid e σ bm s a w) {b B : Nat} (hb : bm b = some B) : B < w.heap.size := by
 cases hh : s.b b with
 | none => rw [h.dead b hh] at hb; cases hb
 | some c =>
  obtain ⟨B', k1, k2, _⟩ := h.boxes b c hh (h.nar hh hb)
  rw [hb] at k1
  injection k1 with k1
  subst k1
  cases c <;> first | exact k2.elim | (obtain ⟨vs, t, m, k, _⟩ := k2; exact Qar k)
theorem RelX.push (h : RelX C.fid e σ bm s a w) (o : Obj) : RelX C.fid e σ bm s a { w with heap := w.heap.push o } := by
 refine h.world (Mem.le_refl σ) h.one (fun _ _ _ => rfl) (fun B i v hv => ?_) (fun B hB => ?_) (by simp) rfl rfl rfl
 ·have hlt := Mem.le_of_world h B i v hv
  have := h.mem B i v hv
  rw [← this]
  exact Qbc (by simp only []; rw [Array.getElem?_push_lt hlt, Array.getElem?_eq_getElem hlt])
 ·simp only []; rw [Array.getElem?_push_lt hB, Array.getElem?_eq_getElem hB]
theorem RelX.fresh (h : RelX C.fid e σ bm s a w) {b : Nat} {c : BC} (hs : s.newB b c = some s') {vs : Array Value} {t : TypeId} {m : Nat × Nat} (hm : BoxFz vs m)
  (hc : match c with | .var cs => vs.size = cs.length ∧ RepL C.fid σ cs (fun i => vs[i]?) | .rows sz xs => xs.length * sz ≤ vs.size ∧ RepR C.fid σ sz xs (fun i => vs[i]?) | .ar _ => False)
  (hnt : ∀ i sz, Qd { s with b := upd s.b b (some c) } (.c b i) ≠ some sz) :
  RelX C.fid e σ (upd bm b (some w.heap.size)) s' a { w with heap := w.heap.push (.cells vs t m) } ∧ s'.seen b = true ∧ s'.b b = some c ∧ (∀ b', b' ≠ b → s'.b b' = s.b b') ∧ s'.t = s.t := by
 have h1 := h.push (.cells vs t m)
 refine h1.addBox hs (B := w.heap.size) ?_ h.grown (fun i => ?_) (fun b' hb' => ?_) (fun p sz hp hB => ?_) hnt
 ·cases c with
  | var cs => exact ⟨vs, t, m, by simp, hm, hc.1, hc.2⟩
  | rows sz xs => exact ⟨vs, t, m, by simp, hm, hc.1, hc.2⟩
  | ar es => exact hc.elim
 ·cases hh : σ w.heap.size i with
  | none => rfl
  | some v => exact absurd (Mem.le_of_world h _ _ _ hh) (Nat.lt_irrefl _)
 ·exact absurd (Qhx h hb') (Nat.lt_irrefl _)
 ·have := Qdz h1 hp hB
  cases p with
  | t u => exact absurd (Qdz h hp hB) (Nat.lt_irrefl _)
  | c b' i =>
   have hv : Qg a { w with heap := w.heap.push (.cells vs t m) } bm (.c b' i) = Qg a w bm (.c b' i) := by
    simp only [Qg]
    cases hbb : bm b' with
    | none => rfl
    | some B' =>
     have hlt := Qhx h hbb
     simp only [Option.bind_some]
     rw [Qbc (w := w) (by simp only []; rw [Array.getElem?_push_lt hlt, Array.getElem?_eq_getElem hlt])]
   rw [hv] at hB
   exact absurd (Qdz h hp hB) (Nat.lt_irrefl _)
theorem RelX.shut_ (h : RelX C.fid e σ bm s a w) {b : Nat} {c : BC} (hb : s.b b = some c) {B : Nat} (hB : bm b = some B) :
    RelX C.fid e { σ with c := fun B' i => if B' = B then w.cell? ⟨B, i, none⟩ else σ B' i } (upd bm b none) { s with b := upd s.b b none } a w := by
  obtain ⟨B0, k1, kbox, kown, kσ⟩ := h.boxes b c hb (h.nar hb hB)
  have : B0 = B := by rw [hB] at k1; injection k1 with k1; exact k1.symm
  subst this
  have hle : σ.le { σ with c := fun B' i => if B' = B0 then w.cell? ⟨B0, i, none⟩ else σ B' i } := by
    refine Mem.le_c ?_
    intro B' i v hv
    by_cases hh : B' = B0
    · subst hh; rw [kσ i] at hv; cases hv
    · simp [hh, hv]
  have hbm : ∀ b' B', upd bm b none b' = some B' → b' ≠ b ∧ bm b' = some B' := by
    intro b' B' hh
    by_cases hb' : b' = b
    · subst hb'; simp [upd] at hh
    · rw [Qab _ _ hb'] at hh; exact ⟨hb', hh⟩
  have hat : ∀ p sz, Qd { s with b := upd s.b b none } p = some sz → Qd s p = some sz ∧ Qg a w (upd bm b none) p = Qg a w bm p := by
    intro p sz hp
    cases p with
    | t t => exact ⟨hp, rfl⟩
    | c b' i =>
      by_cases hb' : b' = b
      · subst hb'; simp [Qd, upd] at hp
      · refine ⟨?_, by simp [Qg, Qab _ _ hb']⟩
        simp only [Qd, Qab _ _ hb'] at hp ⊢
        exact hp
  refine { defers := h.defers, hds := h.hds, size := h.size, tmps := fun t => ?_, boxes := fun b' c' hb' har => ?_, dead := fun b' hb' => ?_, ar := fun b' es hb' => by
             by_cases hb2 : b' = b
             · subst hb2; simp [upd] at hb'
             · simp only [Qab _ _ hb2] at hb'
               rw [Qab _ _ hb2]; exact h.ar b' es hb',
           inj := fun b1 b2 B' h1 h2 => h.inj b1 b2 B' (hbm _ _ h1).2 (hbm _ _ h2).2,
           par := fun j B1 B2 hj h1 h2 => h.par j B1 B2 hj h1 (hbm _ _ h2).2, newb := fun b' B' hb' h1 => h.newb b' B' hb' (hbm _ _ h1).2, seenB := fun b' hb' => ?_, seenT := h.seenT, mem := fun B' i v hv => ?_, one := fun B' i v hv => ?_, old := h.old, oldσ := fun B' h1 h2 => ?_, leσ := Mem.le_trans h.leσ hle, grown := h.grown,
           os := h.os, tape := h.tape, output := h.output, tip := fun p sz hp => ?_, dist := fun p q sz sz' B' hp hq h1 h2 => ?_ }
  · have ht := h.tmps t
    revert ht
    show RepT C.fid σ bm s.b (s.t t) _ → RepT C.fid _ (upd bm b none) (upd s.b b none) (s.t t) _
    cases s.t t <;> intro ht <;> first
      | exact RepP.mono ht hle
      | (intro B' hB'
         obtain ⟨j1, j2⟩ := hbm _ _ hB'
         first | exact ht B' j2 | (rw [Qab _ _ j1]; exact ht B' j2))
  · have hb2 : b' ≠ b := by
      intro hh; subst hh; simp [upd] at hb'
    simp only [Qab _ _ hb2] at hb'
    obtain ⟨B', j1, j2, j3, j4⟩ := h.boxes b' c' hb' har
    have hne : B' ≠ B0 := fun hh => hb2 (h.inj b' b B' j1 (by rw [hh]; exact hB))
    exact ⟨B', by rw [Qab _ _ hb2]; exact j1, Qcx j2 hle rfl, j3, fun i => by simp [hne, j4 i]⟩
  · by_cases hb2 : b' = b
    · subst hb2; simp [upd]
    · simp only [Qab _ _ hb2] at hb'
      rw [Qab _ _ hb2]; exact h.dead b' hb'
  · by_cases hb2 : b' = b
    · subst hb2; simp [upd] at hb'
    · simp only [Qab _ _ hb2] at hb'
      exact h.seenB b' hb'
  · by_cases hh : B' = B0
    · subst hh; simpa using hv
    · simp [hh] at hv; exact h.mem B' i v hv
  · by_cases hh : B' = B0
    · subst hh
      simp only [if_true] at hv
      cases c <;> first | exact kbox.elim | (obtain ⟨vs, t, m, j1, j2, _⟩ := kbox; rw [Qag j1] at hv; exact j2.2.get hv)
    · simp [hh] at hv; exact h.one B' i v hv
  · have hne : B' ≠ B0 := by
      intro hh; subst hh
      rcases kown with k | k
      · omega
      · exact h2 k
    funext i
    simp [hne, h.oldσ B' h1 h2]
  · obtain ⟨j1, j2⟩ := hat p sz hp
    rw [j2]
    obtain ⟨A, n, cap, h3, h4⟩ := h.tip p sz j1
    refine ⟨A, n, cap, h3, h4.imp id ?_⟩
    rintro ⟨B', o, vs, t, m, l1, l2, l3, l4, l5, l6, l7⟩
    have hne : B' ≠ B0 := fun hh => l7 b (by rw [hh]; exact hB)
    exact ⟨B', o, vs, t, m, l1, l2, l3, l4, fun i hi => by simp [hne, l5 i hi], l6, fun b' hb' => l7 b' (hbm _ _ hb').2⟩
  · obtain ⟨j1, j2⟩ := hat p sz hp
    obtain ⟨j3, j4⟩ := hat q sz' hq
    rw [j2] at h1
    rw [j4] at h2
    exact h.dist p q sz sz' B' j1 j3 h1 h2
end
end Go.Vs
namespace Go.Vs
open Go Go.RowKit
def Qaa : Array Value → Nat → List Value → Array Value
 | vs, _, [] => vs
 | vs, o, x :: r => Qaa (vs.setIfInBounds o x) (o + 1) r
theorem Qq : ∀ (news : List Value) (vs : Array Value) (o : Nat), (Qaa vs o news).size = vs.size
 | [], _, _ => rfl
 | x :: r, vs, o => by rw [Qaa, Qq r]; simp
theorem Qw : ∀ (news : List Value) (vs : Array Value) (o i : Nat), (i < o ∨ o + news.length ≤ i) → (Qaa vs o news)[i]? = vs[i]?
 | [], _, _, _, _ => rfl
 | x :: r, vs, o, i, h => by
  rw [Qaa, Qw r _ _ _ (by simp at h; omega)]
  rw [Array.getElem?_setIfInBounds_ne (by simp at h; omega)]
theorem Qau : ∀ (news : List Value) (vs : Array Value) (o j : Nat), o + news.length ≤ vs.size → j < news.length → (Qaa vs o news)[o + j]? = news[j]?
 | [], _, _, _, _, hj => by simp at hj
 | x :: r, vs, o, 0, h, hj => by
  rw [Qaa, Qw r _ _ _ (by omega)]
  simp at h
  simp [show o < vs.size by omega]
 | x :: r, vs, o, j + 1, h, hj => by
  simp at h hj
  rw [Qaa, show o + (j + 1) = o + 1 + j by omega, Qau r _ _ j (by simp; omega) hj]
  simp
theorem Qep : ∀ {news : List Value} {vs : Array Value} {o : Nat}, Ones vs → (∀ v ∈ news, v.oneCell' = true) → Ones (Qaa vs o news)
 | [], _, _, h, _ => h
 | x :: r, vs, o, h, hn => by
  rw [Qaa]
  refine Qep (fun v hv => ?_) (fun v hv => hn v (List.mem_cons_of_mem _ hv))
  rw [Array.toList_setIfInBounds] at hv
  rcases List.mem_or_eq_of_mem_set hv with h1 | h1
  ·exact h v h1
  ·rw [h1]; exact hn x (List.mem_cons_self ..)
theorem Qbh (B : Nat) : ∀ (news : List Value) (o : Nat) (w : World) (vs : Array Value) (t : TypeId) (m : Nat × Nat), w.heap[B]? = some (.cells vs t m) →
  (w.setCells B o news).heap[B]? = some (.cells (Qaa vs o news) t m)
 | [], _, _, _, _, _, h => h
 | x :: r, o, w, vs, t, m, h => by
  have h1 : (w.setCell ⟨B, o, none⟩ x).heap[B]? = some (.cells (vs.setIfInBounds o x) t m) := by
   simp [World.setCell, Array.getElem?_modify, h]
  rw [World.setCells, Qaa]
  exact Qbh B r (o + 1) _ _ t m h1
theorem Qr (B B' : Nat) (hne : B' ≠ B) : ∀ (news : List Value) (o : Nat) (w : World), (w.setCells B o news).heap[B']? = w.heap[B']?
 | [], _, _ => rfl
 | x :: r, o, w => by
  rw [World.setCells, Qr B B' hne r]
  simp [World.setCell, Array.getElem?_modify, Ne.symm hne]
theorem Qbi (B : Nat) : ∀ (news : List Value) (o : Nat) (w : World), (w.setCells B o news).heap.size = w.heap.size ∧ (w.setCells B o news).os = w.os ∧ (w.setCells B o news).tape = w.tape ∧ (w.setCells B o news).output = w.output
 | [], _, _ => ⟨rfl, rfl, rfl, rfl⟩
 | x :: r, o, w => by
  rw [World.setCells]
  obtain ⟨h1, h2, h3, h4⟩ := Qbi B r (o + 1) (w.setCell ⟨B, o, none⟩ x)
  exact ⟨by rw [h1]; simp [World.setCell], h2, h3, h4⟩
section
variable {C : Ctx} {e : Env} {σ τ : Mem} {bm : Nat → Option Nat} {s s' : S} {a : Act} {w w' : World}
def Qwm : BC → BC → Prop
 | .var _, .var _ => True
 | .rows sz xs, .rows sz' xs' => sz = sz' ∧ xs.length = xs'.length
 | _, _ => False
theorem RelX.setBox (h : RelX C.fid e σ bm s a w) {b : Nat} {c c' : BC} (hb : s.b b = some c) {B : Nat} (hB : bm b = some B) (hsh : Qwm c c')
    (hother : ∀ B', B' ≠ B → w'.heap[B']? = w.heap[B']?) (hsize : w'.heap.size = w.heap.size) (hos : w'.os = w.os) (htape : w'.tape = w.tape) (hout : w'.output = w.output)
    (hbox : Qsv C.fid σ w' B c') (i0 : Nat) (v0 : Value)
    (htip : ∀ i sz, Qd (s.setB b c') (.c b i) = some sz → (i ≠ i0 ∧ Qd s (.c b i) = some sz ∧ Qg a w' bm (.c b i) = Qg a w bm (.c b i)) ∨
      (i = i0 ∧ Qg a w' bm (.c b i) = v0 ∧ Qdq e σ bm w sz v0 ∧ ∀ p sz' B', Qd s p = some sz' → Qf v0 = some B' → Qf (Qg a w bm p) ≠ some B')) :
    RelX C.fid e σ bm (s.setB b c') a w' := by
  obtain ⟨B0, k1, kbox, kown, kσ⟩ := h.boxes b c hb (h.nar hb hB)
  have : B0 = B := by rw [hB] at k1; injection k1 with k1; exact k1.symm
  subst this
  have hval : ∀ p sz, Qd (s.setB b c') p = some sz → (∀ i, p ≠ .c b i) → Qd s p = some sz ∧ Qg a w' bm p = Qg a w bm p := by
    intro p sz hp hne
    cases p with
    | t t => exact ⟨hp, rfl⟩
    | c b' i =>
      have hb' : b' ≠ b := fun hh => hne i (by rw [hh])
      have hb2 : (s.setB b c').b b' = s.b b' := by simp [S.setB, Qab _ _ hb']
      simp only [Qd, hb2] at hp ⊢
      refine ⟨hp, ?_⟩
      cases hs : s.b b' with
      | none => rw [hs] at hp; cases hp
      | some c2 =>
        cases c2 with
        | rows _ _ => rw [hs] at hp; cases hp
        | ar _ => rw [hs] at hp; cases hp
        | var cs2 =>
        obtain ⟨B', j1, _⟩ := h.boxes b' _ hs rfl
        have hne2 : B' ≠ B0 := fun hh => hb' (h.inj b' b B' j1 (by rw [hh]; exact hB))
        simp only [Qg, j1, Option.bind_some, Qbc (hother B' hne2)]
  have htipok : ∀ sz v, Qdq e σ bm w sz v → Qdq e σ bm w' sz v := by
    intro sz v hv
    obtain ⟨A, n, cap, h1, h2⟩ := hv
    refine ⟨A, n, cap, h1, h2.imp id ?_⟩
    rintro ⟨B', o, vs, t, m, l1, l2, l3, l4, l5, l6, l7⟩
    exact ⟨B', o, vs, t, m, l1, (hother B' (fun hh => l7 b (by rw [hh]; exact hB))).trans l2, l3, l4, l5, l6, l7⟩
  have hcase : ∀ p sz, Qd (s.setB b c') p = some sz → (Qd s p = some sz ∧ Qg a w' bm p = Qg a w bm p) ∨ (p = .c b i0 ∧ Qg a w' bm p = v0 ∧ Qdq e σ bm w sz v0 ∧ ∀ p sz' B', Qd s p = some sz' → Qf v0 = some B' → Qf (Qg a w bm p) ≠ some B') := by
    intro p sz hp
    by_cases hq : ∃ i, p = .c b i
    · obtain ⟨i, rfl⟩ := hq
      rcases htip i sz hp with ⟨_, h1, h2⟩ | ⟨rfl, h1, h2, h3⟩
      · exact .inl ⟨h1, h2⟩
      · exact .inr ⟨rfl, h1, h2, h3⟩
    · exact .inl (hval p sz hp (fun i hh => hq ⟨i, hh⟩))
  refine { defers := h.defers, hds := h.hds, size := h.size, tmps := fun t => ?_, boxes := fun b' c2 hb' har => ?_, dead := fun b' hb' => ?_, ar := fun b' es hb' => by
             by_cases hbb : b' = b
             · subst hbb
               simp [S.setB, upd] at hb'
               subst hb'
               exact hbox.elim
             · simp only [S.setB, Qab _ _ hbb] at hb'
               exact h.ar b' es hb',
           inj := h.inj, par := h.par, newb := h.newb, seenB := fun b' hb' => ?_, seenT := h.seenT, mem := fun B' i v hv => ?_, one := h.one,
           old := fun B' h1 h2 => ?_, oldσ := h.oldσ, leσ := h.leσ, grown := by rw [hsize]; exact h.grown, os := hos.trans h.os, tape := htape.trans h.tape, output := hout.trans h.output,
           tip := fun p sz hp => ?_, dist := fun p q sz sz' B' hp hq h1 h2 => ?_ }
  · have ht := h.tmps t
    have hsb : ∀ b', (s.setB b c').b b' = if b' = b then some c' else s.b b' := fun b' => rfl
    revert ht
    show RepT C.fid σ bm s.b (s.t t) _ → RepT C.fid σ bm (s.setB b c').b (s.t t) _
    cases s.t t <;> intro ht <;> first | exact ht | skip
    · rename_i b'
      intro B' hB'
      obtain ⟨sz, xs, cap, j1, j2, j3⟩ := ht B' hB'
      by_cases hbb : b' = b
      · subst hbb
        rw [hb] at j1
        injection j1 with j1
        subst j1
        cases c' with
        | var _ | ar _ => exact hsh.elim
        | rows sz' xs' =>
          refine ⟨sz', xs', cap, by simp [hsb], by rw [← hsh.2]; exact j2, by rw [← hsh.2]; exact j3⟩
      · exact ⟨sz, xs, cap, by rw [hsb, if_neg hbb]; exact j1, j2, j3⟩
    · rename_i b' i off
      intro B' hB'
      obtain ⟨sz, xs, j1, j3⟩ := ht B' hB'
      by_cases hbb : b' = b
      · subst hbb
        rw [hb] at j1
        injection j1 with j1
        subst j1
        cases c' with
        | var _ | ar _ => exact hsh.elim
        | rows sz' xs' => exact ⟨sz', xs', by simp [hsb], by rw [← hsh.1]; exact j3⟩
      · exact ⟨sz, xs, by rw [hsb, if_neg hbb]; exact j1, j3⟩
  · by_cases hbb : b' = b
    · subst hbb
      simp [S.setB, upd] at hb'
      subst hb'
      exact ⟨B0, hB, hbox, kown, kσ⟩
    · simp only [S.setB, Qab _ _ hbb] at hb'
      obtain ⟨B', j1, j2, j3, j4⟩ := h.boxes b' c2 hb' har
      have hne : B' ≠ B0 := fun hh => hbb (h.inj b' b B' j1 (by rw [hh]; exact hB))
      exact ⟨B', j1, Qcx j2 (Mem.le_refl σ) (hother B' hne), j3, j4⟩
  · by_cases hbb : b' = b
    · subst hbb; simp [S.setB, upd] at hb'
    · simp only [S.setB, Qab _ _ hbb] at hb'
      exact h.dead b' hb'
  · by_cases hbb : b' = b
    · subst hbb; exact h.seenB b' (by simp [hb])
    · simp only [S.setB, Qab _ _ hbb] at hb' ⊢
      exact h.seenB b' hb'
  · have hne : B' ≠ B0 := by
      intro hh; subst hh; rw [kσ i] at hv; cases hv
    rw [Qbc (hother B' hne)]; exact h.mem B' i v hv
  · have hne : B' ≠ B0 := by
      intro hh; subst hh
      rcases kown with k | k
      · omega
      · exact h2 k
    rw [hother B' hne]; exact h.old B' h1 h2
  · rcases hcase p sz hp with ⟨h1, h2⟩ | ⟨_, h1, h2, _⟩
    · rw [h2]; exact htipok sz _ (h.tip p sz h1)
    · rw [h1]; exact htipok sz _ h2
  · rcases hcase p sz hp with ⟨p1, p2⟩ | ⟨p0, p1, _, p3⟩ <;> rcases hcase q sz' hq with ⟨q1, q2⟩ | ⟨q0, q1, _, q3⟩
    · rw [p2] at h1
      rw [q2] at h2
      exact h.dist p q sz sz' B' p1 q1 h1 h2
    · rw [p2] at h1
      rw [q1] at h2
      exact absurd h1 (q3 p sz B' p1 h2)
    · rw [p1] at h1
      rw [q2] at h2
      exact absurd h2 (p3 q sz' B' q1 h1)
    · rw [p0, q0]
theorem Qdt {fid : Nat → Nat} {c : AV} {v : Value} (h : RepP fid σ c v) (ho : (c.cells.all AV.one) = true) :
  v.cells.size = c.cells.length ∧ RepL fid σ c.cells (fun i => v.cells[i]?) ∧ ∀ x ∈ v.cells.toList, x.oneCell' = true := by
 have one : ∀ (c : AV) (v : Value), RepP fid σ c v → c.one = true → v.oneCell' = true ∧ v.cells = #[v] := by
  intro c v hc h1
  cases c <;> first | (simp [AV.one] at h1; done) | skip
  all_goals (simp only [RepP] at hc)
  case int => subst hc; exact ⟨rfl, rfl⟩
  case bool => subst hc; exact ⟨rfl, rfl⟩
  case str => subst hc; exact ⟨rfl, rfl⟩
  case con c => subst hc; cases c <;> exact ⟨rfl, rfl⟩
  case sl => obtain ⟨a, n, cap, rfl, _⟩ := hc; exact ⟨rfl, rfl⟩
  case rp => obtain ⟨a, n, rfl, _⟩ := hc; exact ⟨rfl, rfl⟩
  case fn => obtain ⟨a, rfl, _⟩ := hc; exact ⟨rfl, rfl⟩
  case tr id _ _ => cases id with
   | none => obtain ⟨_, a, rfl⟩ := hc; exact ⟨rfl, rfl⟩
   | some id => obtain ⟨_, a, cap, rfl, _⟩ := hc; exact ⟨rfl, rfl⟩
 by_cases hag : ∃ cs, c = .agg cs
 ·obtain ⟨cs, rfl⟩ := hag
  simp only [RepP] at h
  obtain ⟨vs, rfl, h1, h2⟩ := h
  refine ⟨h1, h2, fun x hx => ?_⟩
  obtain ⟨i, hi⟩ := List.getElem?_of_mem hx
  have hi' : i < cs.length := by
   have := (List.getElem?_eq_some_iff.1 hi).1
   simp [Value.cells] at this; omega
  obtain ⟨u, hu, hr⟩ := (Qi.1 h2) i _ (List.getElem?_eq_getElem hi')
  have : u = x := by
   simp [Value.cells] at hi
   rw [hi] at hu; injection hu with hu; exact hu.symm
  subst this
  refine (one _ _ hr ?_).1
  simp only [AV.cells, List.all_eq_true] at ho
  exact ho _ (List.getElem_mem hi')
 ·have hc : c.cells = [c] := by
   cases c <;> first | rfl | exact absurd ⟨_, rfl⟩ hag
  rw [hc] at ho ⊢
  simp at ho
  obtain ⟨h1, h2⟩ := one c v h ho
  rw [h2]
  exact ⟨rfl, ⟨⟨v, rfl, h⟩, by simp [RepL]⟩, by simpa using h1⟩
theorem Qfu (c : AV) : c.scells.length = c.cells.length := by cases c <;> simp [AV.scells, AV.cells]
theorem Que {fid : Nat → Nat} {c : AV} {f : Nat → Option Value} (h : RepL fid σ c.cells f) : RepL fid σ c.scells f := by
 cases c <;> first | exact h | exact Qba (fun c v hr => Qcl hr) h
theorem Quf {c : AV} {i sz : Nat} (h : (c.scells[i]?).bind AV.tipSz = some sz) : i = 0 ∧ c.tipSz = some sz := by
  cases c <;> first
    | (simp only [AV.scells] at h
       cases i with
       | zero => simp at h; exact ⟨rfl, h⟩
       | succ i => simp at h)
    | skip
  rename_i cs
  simp only [AV.scells, List.getElem?_map] at h
  cases hc : cs[i]? with
  | none => rw [hc] at h; simp at h
  | some c => rw [hc] at h; simp [Qbn] at h
end
end Go.Vs
namespace Go.Vs
open Go Go.RowKit
def tsz (P : Program) (t : TypeId) : Option Nat := (P.info? t).map (·.size)
def rowT (P : Program) (t : TypeId) : Option Bool := (P.underlying t).map fun d => match d with | .struct _ | .array _ _ => true | _ => false
def Qde (P : Program) (zero : List AV) (t : TypeId) : Bool :=
 match P.info? t with
 | some i => match i.zero with | some z => okCs zero z.cells.toList && z.cells.toList.all (·.oneCell') | none => false
 | none => false
theorem Qch {P : Program} {zero : List AV} {t : TypeId} (h : Qde P zero t = true) : ∃ i z, P.info? t = some i ∧ i.zero = some z ∧ okCs zero z.cells.toList = true ∧ Ones z.cells := by
 unfold Qde at h
 split at h
 ·rename_i i hi
  split at h
  ·rename_i z hz
   simp only [Zw, List.all_eq_true] at h
   exact ⟨i, z, hi, hz, h.1, h.2⟩
  ·cases h
 ·cases h
theorem Qza {P : Program} {t : TypeId} {i : TypeInfo} {z : Value} (h1 : P.info? t = some i) (h2 : i.zero = some z) (w : World) : (zeroValue t).run P w = .ok z w := by
 simp [zeroValue, typeInfo, h1, h2]
theorem Qcm {P : Program} {t : TypeId} {n : Nat} (h : tsz P t = some n) (w : World) : (sizeOf t).run P w = .ok n w := by
 unfold tsz at h
 cases hi : P.info? t with
 | none => rw [hi] at h; cases h
 | some i => rw [hi] at h; simp at h; simp [sizeOf, typeInfo, hi, h]
theorem Qhj {P : Program} {t : TypeId} {r : Bool} (h : rowT P t = some r) (w : World) : (isAgg t).run P w = .ok r w ∧ ∃ d, P.underlying t = some d := by
 unfold rowT at h
 cases hd : P.underlying t with
 | none => rw [hd] at h; cases h
 | some d =>
  rw [hd] at h
  simp only [Option.map_some, Zi] at h
  refine ⟨?_, d, rfl⟩
  unfold isAgg
  rw [Sem.run_bind, run_underlying hd w]
  simp only [Result.andThen_ok]
  subst h
  cases d <;> rfl
def Qap (C : Ctx) (e : Env) (s : S) (c : AV) (a : Act) (r : Result Next) : Prop :=
 (∃ v w', r = .ok (.value v) w' ∧ Qp C e s c v a w') ∨ (∃ w', r = .ok .skip w' ∧ Qp C e s c undef a w')
section
variable {C : Ctx} {e : Env} {σ τ : Mem} {bm : Nat → Option Nat} {s s' : S} {a : Act} {w w' : World} {call : Call} {o : Oper} {c : AV}
theorem op_mv (hG : GOk C σ) (h : RelX C.fid e σ bm s a w) {x : Opnd} {y : Operand} (ho : o.op = .move y ∨ o.op = .assign y) (hx : okO C x y = true)
  (hev : evalK call C.G s (.mv x) = some (c, s')) : Qap C e s' c a ((execOp a.eval o).run C.P w) := by
 simp only [evalK, Zi, Zm] at hev
 obtain ⟨rfl, rfl⟩ := hev
 refine .inl ⟨a.eval y, w, ?_, Qp.get hG h hx⟩
 rcases ho with ho | ho <;> simp [execOp, ho]
theorem op_pick (hG : GOk C σ) (h : RelX C.fid e σ bm s a w) {x1 x2 x3 : Opnd} {y1 y2 y3 : Operand} (ho : o.op = .pick y1 y2 y3) (h1 : okO C x1 y1 = true) (h2 : okO C x2 y2 = true) (h3 : okO C x3 y3 = true)
  (hev : evalK call C.G s (.pick x1 x2 x3) = some (c, s')) : Qap C e s' c a ((execOp a.eval o).run C.P w) := by
 simp only [evalK] at hev
 have hr := Qc hG h h1
 split at hev
 ·rename_i b hb
  rw [hb] at hr
  simp only [RepT, RepP] at hr
  cases b
  ·simp only [Bool.false_eq_true, if_false, Zi, Zm] at hev
   obtain ⟨rfl, rfl⟩ := hev
   exact .inl ⟨a.eval y3, w, by simp [execOp, ho, asBool, hr], Qp.get hG h h3⟩
  ·simp only [if_true, Zi, Zm] at hev
   obtain ⟨rfl, rfl⟩ := hev
   exact .inl ⟨a.eval y2, w, by simp [execOp, ho, asBool, hr], Qp.get hG h h2⟩
 ·cases hev
theorem Qmm (vs : Array Value) : Qum vs (0, 0) := fun i _ h => by simp at h
theorem Qyd (h : RelX C.fid e σ bm s a w) {b : Nat} {zero : List AV} {t : TypeId} (ho : o.op = .alloc t) (hz : Qde C.P zero t = true)
  (hev : evalK call C.G s (.alloc b zero) = some (c, s')) : Qap C e s' c a ((execOp a.eval o).run C.P w) := by
 obtain ⟨i, z, h1, h2, h3, hones⟩ := Qch hz
 simp only [evalK] at hev
 cases hn : s.newB b (.var zero) with
 | none => rw [hn] at hev; cases hev
 | some s1 =>
  rw [hn] at hev
  simp only [Qb, Zi, Zm] at hev
  obtain ⟨rfl, rfl⟩ := hev
  have hlen := Qdn h3
  obtain ⟨k1, k2, k3, _⟩ := h.fresh hn (vs := z.cells) (t := t) (m := (0, 0)) ⟨Qmm _, hones⟩ ⟨by simpa using hlen.symm, by simpa using Qdo (fid := C.fid) (σ := σ) h3⟩ (by
   intro j sz hh
   simp only [Qd, Qal] at hh
   cases hc : zero[j]? with
   | none => rw [hc] at hh; cases hh
   | some c =>
    rw [hc] at hh
    simp only [Option.bind_some] at hh
    have : ∀ (cs : List AV) (vs : List Value) (j : Nat) (c : AV), okCs cs vs = true → cs[j]? = some c → c.tipSz = none := by
     intro cs
     induction cs with
     | nil => intro vs j c _ hc; simp at hc
     | cons c0 cs ih =>
      intro vs j c hok hc
      cases vs with
      | nil => simp [okCs] at hok
      | cons v vs =>
       simp only [okCs, Zw] at hok
       cases j with
       | zero => simp at hc; subst hc; exact Qih hok.1
       | succ j => exact ih vs j c hok.2 (by simpa using hc)
    rw [this _ _ _ _ h3 hc] at hh; cases hh)
  refine .inl ⟨.pointer (some ⟨w.heap.size, 0, none⟩), _, ?_, _, _, k1, ?_, fun b' hb' => ?_, fun sz hsz => by cases hsz⟩
  ·simp [execOp, ho, Instr.alloc, Qza h1 h2, newVar, newRow]
  ·intro B hB
   simp [upd] at hB
   subst hB; rfl
  ·injection hb' with hb'; subst hb'; exact k2
theorem Qbs : ∀ {c : AV}, (c.cells.all AV.one) = true → c.isP = false
 | .bp _ _, h | .bs _, h | .be _ _ _, h | .np _, h => by simp [AV.cells, AV.one] at h
 | .undef, _ | .int _ _, _ | .bool _, _ | .str _, _ | .con _, _ | .sl _ _ _, _ | .agg _, _ | .rp _ _, _ | .fn _ _, _ | .tup _, _ | .tr _ _ _, _ | .trp _ _ _ _, _ => rfl
theorem op_box (hG : GOk C σ) (h : RelX C.fid e σ bm s a w) {b : Nat} {x : Opnd} {y : Operand} {t : TypeId} (ho : o.op = .box t y) (hx : okO C x y = true)
  (hev : evalK call C.G s (.box b x) = some (c, s')) : Qap C e s' c a ((execOp a.eval o).run C.P w) := by
 simp only [evalK] at hev
 split at hev
 ·rename_i hone
  cases hn : s.newB b (.var ((s.get C.G x).cells.map AV.dem)) with
  | none => rw [hn] at hev; cases hev
  | some s1 =>
   rw [hn] at hev
   simp only [Qb, Zi, Zm] at hev
   obtain ⟨rfl, rfl⟩ := hev
   have hr := (Qu (Qbs hone)).1 (Qc hG h hx)
   obtain ⟨c1, c2, c3⟩ := Qdt hr hone
   obtain ⟨k1, k2, k3, _⟩ := h.fresh hn (vs := (a.eval y).cells) (t := t) (m := (0, 0)) ⟨Qmm _, c3⟩ ⟨by simpa using c1, Qba (fun _ _ hr => Qcl hr) c2⟩ (by
    intro j sz hh
    simp only [Qd, Qal, List.getElem?_map] at hh
    cases hc : ((s.get C.G x).cells)[j]? with
    | none => rw [hc] at hh; cases hh
    | some c => rw [hc] at hh; simp [Qbn] at hh)
   refine .inl ⟨.pointer (some ⟨w.heap.size, 0, none⟩), _, ?_, _, _, k1, ?_, fun b' hb' => ?_, fun sz hsz => by cases hsz⟩
   ·simp [execOp, ho, Instr.box, newVar, newRow]
   ·intro B hB
    simp [upd] at hB
    subst hB; rfl
   ·injection hb' with hb'; subst hb'; exact k2
 ·cases hev
def Qjp (fid : Nat → Nat) (σ : Mem) (w : World) (cs : List AV) (off : Nat) (v : Value) : Prop :=
 ∃ B o, v = .pointer (some ⟨B, o + off, none⟩) ∧ ∀ i c, cs[i]? = some c → ∃ x, w.cell? ⟨B, o + i, none⟩ = some x ∧ RepP fid σ c x
theorem Qjz (h : RelX C.fid e σ bm s a w) {b off : Nat} {cs : List AV} {v : Value} (hr : RepT C.fid σ bm s.b (.bp b off) v) (hb : s.b b = some (.var cs)) : Qjp C.fid σ w cs off v := by
 obtain ⟨B, h1, ⟨vs, t, m, h2, h3, h4, h5⟩, _⟩ := h.boxes b _ hb rfl
 refine ⟨B, 0, by rw [hr B h1]; simp, fun i c hc => ?_⟩
 obtain ⟨x, k1, k2⟩ := (Qi.1 h5) i c hc
 exact ⟨x, by rw [Qag h2]; simpa using k1, k2⟩
theorem Qox (h : RelX C.fid e σ bm s a w) {b i off sz : Nat} {xs : List (List AV)} {cs : List AV} {v : Value} (hr : RepT C.fid σ bm s.b (.be b i off) v) (hb : s.b b = some (.rows sz xs)) (hi : xs[i]? = some cs) :
  Qjp C.fid σ w cs off v := by
 obtain ⟨B, h1, ⟨vs, t, m, h2, h3, h4, h5⟩, _⟩ := h.boxes b _ hb rfl
 obtain ⟨sz', xs', j1, j2⟩ := hr B h1
 rw [hb] at j1
 injection j1 with j1
 injection j1 with j1 j3
 subst j1 j3
 refine ⟨B, i * sz, j2, fun j c hc => ?_⟩
 obtain ⟨x, k1, k2⟩ := (Qi.1 ((Qn.1 h5) i cs hi).2) j c hc
 exact ⟨x, by rw [Qag h2]; exact k1, k2⟩
theorem Qoy (h : RelX C.fid e σ bm s a w) {off : Nat} {cs : List AV} {v : Value} (hr : RepT C.fid σ bm s.b (.rp cs off) v) : Qjp C.fid σ w cs off v := by
 obtain ⟨B, o, h1, h2⟩ := hr
 refine ⟨B, o, h1, fun i c hc => ?_⟩
 obtain ⟨x, k1, k2⟩ := (Qi.1 h2) i c hc
 exact ⟨x, h.mem _ _ _ k1, k2⟩
theorem Qoe {n off : Nat} {agg : Bool} {cs : List AV} {v : Value} {t : TypeId} (hb : Qjp C.fid σ w cs off v) (hp : part n agg cs off = some c) (hn : tsz C.P t = some n) (hr : rowT C.P t = some agg) :
  ∃ x, (Instr.loadAt t v).run C.P w = .ok x w ∧ RepP C.fid σ c x ∧ c.tipSz = none := by
 obtain ⟨B, o, rfl, hc⟩ := hb
 obtain ⟨hagg, d, hd⟩ := Qhj hr w
 unfold part at hp
 cases agg with
 | true =>
  simp only [if_true] at hp
  split at hp
  ·rename_i hle
   injection hp with hp
   subst hp
   have hex : ∃ vs : List Value, vs.length = n ∧ ∀ i, i < n → ∃ c x, cs[off + i]? = some c ∧ vs[i]? = some x ∧ w.cell? ⟨B, o + off + i, none⟩ = some x ∧ RepP C.fid σ c x := by
    clear hn
    induction n with
    | zero => exact ⟨[], rfl, fun i hi => by omega⟩
    | succ n ih =>
     obtain ⟨vs, h1, h2⟩ := ih (by omega)
     have hlt : off + n < cs.length := by omega
     obtain ⟨x, k1, k2⟩ := hc (off + n) _ (List.getElem?_eq_getElem hlt)
     refine ⟨vs ++ [x], by simp [h1], fun i hi => ?_⟩
     by_cases hin : i < n
     ·obtain ⟨c, y, j1, j2, j3⟩ := h2 i hin
      exact ⟨c, y, j1, by rw [List.getElem?_append_left (by omega)]; exact j2, j3⟩
     ·have : i = n := by omega
      subst this
      exact ⟨_, x, List.getElem?_eq_getElem hlt, by rw [List.getElem?_append_right (by omega)]; simp [h1], by rw [Nat.add_assoc]; exact k1, k2⟩
   obtain ⟨vs, hl, hv⟩ := hex
   refine ⟨.agg vs.toArray, ?_, ⟨vs.toArray, rfl, ?_, ?_⟩, rfl⟩
   ·have hrange : w.rangeAt B (o + off) vs := by
     intro j x hx
     have hj : j < n := by have := (List.getElem?_eq_some_iff.1 hx).1; omega
     obtain ⟨c, y, _, j2, j3, _⟩ := hv j hj
     rw [hx] at j2
     injection j2 with j2
     subst j2; exact j3
    have hl2 : (loadCells ⟨B, o + off, none⟩ vs.length).run C.P w = .ok vs.toArray w :=
     run_loadCells_list (P := C.P) w ⟨B, o + off, none⟩ vs (fun j v hv => by rw [Addr.add_mid]; exact hrange j v hv)
    rw [hl] at hl2
    simp [Instr.loadAt, Instr.sureAddr, loadVar, hagg, Qcm hn, hl2]
   ·simp [hl]; omega
   ·rw [Qi]
    intro i c hi
    rw [List.getElem?_map] at hi
    have hin : i < n := by
     cases hh : ((cs.drop off).take n)[i]? with
     | none => rw [hh] at hi; cases hi
     | some c0 => have := (List.getElem?_eq_some_iff.1 hh).1; simp at this; omega
    obtain ⟨c0, x, j1, j2, _, j4⟩ := hv i hin
    have : ((cs.drop off).take n)[i]? = some c0 := by rw [List.getElem?_take, if_pos hin, List.getElem?_drop]; exact j1
    rw [this] at hi
    simp at hi
    subst hi
    exact ⟨x, by simpa using j2, Qcl j4⟩
  ·cases hp
 | false =>
  simp only [Bool.false_eq_true, if_false] at hp
  split at hp
  ·rename_i h1
   cases hcc : cs[off]? with
   | none => rw [hcc] at hp; cases hp
   | some c0 =>
    rw [hcc] at hp
    simp at hp
    subst hp
    obtain ⟨x, k1, k2⟩ := hc off c0 hcc
    exact ⟨x, by simp [Instr.loadAt, Instr.sureAddr, loadVar, hagg, k1], Qcl k2, Qbn _⟩
  ·cases hp
theorem Qze (h : RelX C.fid e σ bm s a w) {b off : Nat} {cs : List AV} {c : AV} (hb : s.b b = some (.var cs)) (hc : cs[off]? = some c) :
  RelX C.fid e σ bm (s.setB b (.var (cs.set off c.dem))) a w ∧ ∀ sz, c.tipSz = some sz → Qd s (.c b off) = some sz ∧ ∀ p sz', Qd (s.setB b (.var (cs.set off c.dem))) p = some sz' → Qd s p = some sz' ∧ p ≠ .c b off := by
 obtain ⟨B, h1, ⟨vs, t, m, h2, h3, h4, h5⟩, h6⟩ := h.boxes b _ hb rfl
 have hlt : off < cs.length := (List.getElem?_eq_some_iff.1 hc).1
 have hat : ∀ p sz', Qd (s.setB b (.var (cs.set off c.dem))) p = some sz' → Qd s p = some sz' ∧ p ≠ .c b off := by
  intro p sz' hp
  cases p with
  | t t => exact ⟨hp, fun hh => by cases hh⟩
  | c b' i =>
   by_cases hbb : b' = b
   ·subst hbb
    simp only [Qd, S.setB, Qal, List.getElem?_set] at hp
    simp only [Qd, hb]
    by_cases hi : off = i
    ·subst hi; simp [hlt, Qbn] at hp
    ·simp only [hi, if_false] at hp
     exact ⟨hp, fun hh => by injection hh with _ hh; exact hi hh.symm⟩
   ·simp only [Qd, S.setB, Qab _ _ hbb] at hp ⊢
    exact ⟨hp, fun hh => by injection hh with hh; exact hbb hh⟩
 refine ⟨h.setBox (w' := w) hb h1 trivial (fun _ _ => rfl) rfl rfl rfl rfl ?_ off undef (fun i sz hh => .inl ?_), fun sz hsz => ⟨by simp [Qd, hb, hc, hsz], hat⟩⟩
 ·refine ⟨vs, t, m, h2, h3, by simp [h4], ?_⟩
  rw [Qi] at h5 ⊢
  intro i d hd
  rw [List.getElem?_set] at hd
  by_cases hi : off = i
  ·subst hi
   simp [hlt] at hd
   subst hd
   obtain ⟨x, k1, k2⟩ := h5 off c hc
   exact ⟨x, k1, Qcl k2⟩
  ·simp only [hi, if_false] at hd
   exact h5 i d hd
 ·obtain ⟨j1, j2⟩ := hat _ sz hh
  exact ⟨fun e => j2 (by rw [e]), j1, rfl⟩
theorem op_load (hG : GOk C σ) (h : RelX C.fid e σ bm s a w) {n : Nat} {agg take : Bool} {x : Opnd} {y : Operand} {t : TypeId} (ho : o.op = .load t y) (hx : okO C x y = true) (hn : tsz C.P t = some n) (hr : rowT C.P t = some agg)
  (hev : evalK call C.G s (.load n agg take x) = some (c, s')) : Qap C e s' c a ((execOp a.eval o).run C.P w) := by
 simp only [evalK] at hev
 have hrep := Qc hG h hx
 have plain : ∀ {cs : List AV} {off : Nat}, Qjp C.fid σ w cs off (a.eval y) → bnd (part n agg cs off) (fun v => some (v, s)) = some (c, s') → Qap C e s' c a ((execOp a.eval o).run C.P w) := by
  intro cs off hb hp
  cases hpp : part n agg cs off with
  | none => rw [hpp] at hp; cases hp
  | some v =>
   rw [hpp] at hp
   simp only [Qb, Zi, Zm] at hp
   obtain ⟨rfl, rfl⟩ := hp
   obtain ⟨y', k1, k2, k3⟩ := Qoe hb hpp hn hr
   exact .inl ⟨y', w, by simp [execOp, ho, k1], Qp.plain h k2 k3⟩
 unfold loadP at hev
 split at hev
 ·rename_i b off hget
  rw [hget] at hrep
  split at hev
  ·rename_i cs hb
   split at hev
   ·split at hev
    ·cases hev
    ·rename_i hagg
     split at hev
     ·rename_i h1
      cases hcc : cs[off]? with
      | none => rw [hcc] at hev; cases hev
      | some c0 =>
       rw [hcc] at hev
       simp only [Qb] at hev
       split at hev
       ·cases hev
       ·rename_i hisP
        simp only [Zi, Zm] at hev
        obtain ⟨rfl, rfl⟩ := hev
        obtain ⟨k1, k2⟩ := Qze h hb hcc
        obtain ⟨B, o', hv, hcells⟩ := Qjz h hrep hb
        obtain ⟨y', j1, j2⟩ := hcells off c0 hcc
        obtain ⟨B', hB', _⟩ := h.boxes b _ hb rfl
        have hp0 := hrep B' hB'
        have heq : o' = 0 ∧ B = B' := by
         rw [hv] at hp0
         injection hp0 with hp0
         injection hp0 with hp0
         injection hp0 with q1 q2
         exact ⟨by omega, q1⟩
        obtain ⟨rfl, rfl⟩ := heq
        simp only [Bool.not_eq_true] at hagg
        subst hagg
        obtain ⟨hagg, _⟩ := Qhj hr w
        have hrun : (Instr.loadAt t (a.eval y)).run C.P w = .ok y' w := by
         rw [hv]
         simp at j1
         simp [Instr.loadAt, Instr.sureAddr, loadVar, hagg, j1]
        refine .inl ⟨y', w, by simp [execOp, ho, hrun], σ, bm, k1, Qew j2, fun b' hb' => ?_, fun sz hsz => ?_⟩
        ·rw [Qcw (by simpa using hisP)] at hb'; cases hb'
        ·obtain ⟨m1, m2⟩ := k2 sz hsz
         have hval : Qg a w bm (.c b off) = y' := by
          simp at j1
          simp [Qg, hB', j1]
         refine ⟨by rw [← hval]; exact h.tip _ _ m1, fun p sz' B'' hp h1 h2 => ?_⟩
         obtain ⟨m3, m4⟩ := m2 p sz' hp
         exact m4 (h.dist p (.c b off) sz' sz B'' m3 m1 h2 (by rw [hval]; exact h1))
     ·cases hev
   ·exact plain (Qjz h hrep hb) hev
  ·cases hev
 ·rename_i b i off hget
  rw [hget] at hrep
  split at hev
  ·rename_i sz xs hb
   cases hxx : xs[i]? with
   | none => rw [hxx] at hev; cases hev
   | some cs =>
    rw [hxx] at hev
    simp only [Qb] at hev
    split at hev
    ·cases hev
    ·exact plain (Qox h hrep hb hxx) hev
  ·cases hev
 ·rename_i cs off hget
  rw [hget] at hrep
  split at hev
  ·cases hev
  ·exact plain (Qoy h hrep) hev
 ·cases hev
end
end Go.Vs
namespace Go.Vs
open Go Go.RowKit
section
variable {C : Ctx} {e : Env} {σ τ : Mem} {bm : Nat → Option Nat} {s s' : S} {a : Act} {w w' : World} {call : Call} {o : Oper} {c : AV}
theorem Qjk {cs vs r : List AV} {off : Nat} (h : over cs off vs = some r) : r.length = cs.length ∧ off + vs.length ≤ cs.length := by
 unfold over at h
 split at h
 ·rename_i hle
  injection h with h
  subst h
  simp; omega
 ·cases h
theorem Qjj {cs vs r : List AV} {off : Nat} (h : over cs off vs = some r) (i : Nat) : r[i]? = if off ≤ i ∧ i < off + vs.length then vs[i - off]? else cs[i]? := by
 unfold over at h
 split at h
 ·rename_i hle
  injection h with h
  subst h
  rw [List.append_assoc]
  by_cases h1 : i < off
  ·rw [List.getElem?_append_left (by simp; omega), List.getElem?_take, if_pos h1, if_neg (by omega)]
  ·rw [List.getElem?_append_right (by simp; omega)]
   simp only [List.length_take, Nat.min_eq_left (show off ≤ cs.length by omega)]
   by_cases h2 : i < off + vs.length
   ·rw [List.getElem?_append_left (by omega), if_pos (by omega)]
   ·rw [List.getElem?_append_right (by omega), if_neg (by omega), List.getElem?_drop]
    congr 1; omega
 ·cases h
theorem Qon {fid : Nat → Nat} {cs vs r : List AV} {off : Nat} (h : over cs off vs = some r) {arr : Array Value} {news : List Value} (hsz : off + vs.length ≤ arr.size) (hl : news.length = vs.length)
  (h1 : RepL fid σ cs (fun i => arr[i]?)) (h2 : RepL fid σ vs (fun i => news[i]?)) : RepL fid σ r (fun i => (Qaa arr off news)[i]?) := by
 rw [Qi] at h1 h2 ⊢
 intro i c hc
 rw [Qjj h i] at hc
 split at hc
 ·rename_i hin
  obtain ⟨x, k1, k2⟩ := h2 _ c hc
  refine ⟨x, ?_, k2⟩
  have := Qau news arr off (i - off) (by omega) (by omega)
  rw [show off + (i - off) = i by omega] at this
  rw [this]; exact k1
 ·rename_i hout
  obtain ⟨x, k1, k2⟩ := h1 i c hc
  exact ⟨x, by rw [Qw _ _ _ _ (by omega)]; exact k1, k2⟩
theorem Qgn {P : Program} {t : TypeId} {n B o : Nat} {v : Value} {w : World} (hn : tsz P t = some n) (hv : v.cells.size = n) (h1 : ∀ x ∈ v.cells.toList, x.oneCell' = true)
  (hc : ∀ j, j < n → (w.cell? ⟨B, o + j, none⟩).isSome = true ∧ w.frozen? ⟨B, o + j, none⟩ = false) :
  (Instr.storeAt t (.pointer (some ⟨B, o, none⟩)) v).run P w = .ok () (w.setCells B o v.cells.toList) := by
 have := run_storeCells_cells (P := P) B o v.cells.toList 0 w (fun j hj => by simpa using (hc j (by simpa [hv] using hj)).1) (fun j hj => by simpa using (hc j (by simpa [hv] using hj)).2) h1
 simp only [Nat.add_zero] at this
 simp [Instr.storeAt, Instr.sureAddr, storeVar, Qcm hn, hv, this]
theorem Qyn (hG : GOk C σ) (h : RelX C.fid e σ bm s a w) {n : Nat} {x v : Opnd} {y z : Operand} {t : TypeId} (ho : o.op = .store t y z) (hx : okO C x y = true) (hv : okO C v z = true) (hn : tsz C.P t = some n) (hn0 : 0 < n)
  (hev : evalK call C.G s (.store n x v) = some (c, s')) : Qap C e s' c a ((execOp a.eval o).run C.P w) := by
 simp only [evalK] at hev
 cases hst : storeP n (s.drop v) (s.get C.G x) (s.get C.G v) with
 | none => rw [hst] at hev; cases hev
 | some s1 =>
  rw [hst] at hev
  simp only [Qb, Zi, Zm] at hev
  obtain ⟨rfl, rfl⟩ := hev
  unfold storeP at hst
  split at hst
  rotate_left
  ·cases hst
  rename_i hcond
  obtain ⟨hlen, hone⟩ := hcond
  have hd := h.drop v
  have hdb : (s.drop v).b = s.b := by cases v <;> rfl
  have hrv := (Qu (Qbs hone)).1 (Qc hG h hv)
  obtain ⟨c1, c2, c3⟩ := Qdt hrv hone
  have hrx := Qc hG h hx
  have hready := Qp.get hG h hv
  have fin : ∀ {w1 : World}, (Instr.storeAt t (a.eval y) (a.eval z)).run C.P w = .ok () w1 → RelX C.fid e σ bm s1 a w1 → Qap C e s1 (.tup []) a ((execOp a.eval o).run C.P w) := by
   intro w1 hrun hrel
   exact .inr ⟨w1, by simp [execOp, ho, hrun], Qp.plain hrel ⟨#[], rfl, rfl, by simp [RepL]⟩ rfl⟩
  split at hst
  ·rename_i b off hget
   rw [hget] at hrx
   rw [hdb] at hst
   split at hst
   rotate_left
   ·cases hst
   rename_i cs hb
   cases hov : over cs off (s.get C.G v).scells with
   | none => rw [hov] at hst; cases hst
   | some cs' =>
    rw [hov] at hst
    simp only [Qb, Zi] at hst
    subst hst
    obtain ⟨B, hB, ⟨vs, t', m, g2, g3, g4, g5⟩, g6⟩ := h.boxes b _ hb rfl
    obtain ⟨l1, l2⟩ := Qjk hov
    rw [Qfu] at l2
    have hp := hrx B hB
    have hrun := Qgn (P := C.P) (t := t) (n := n) (B := B) (o := off) (v := a.eval z) (w := w) hn (by omega) c3 (fun j hj => by
     have hlt : off + j < vs.size := by omega
     exact ⟨by rw [Qag g2]; simp [hlt], Qfb g2 g3.1 hlt⟩)
    rw [← hp] at hrun
    refine fin hrun ?_
    have hd' : (s.drop v).b b = some (.var cs) := by rw [hdb]; exact hb
    obtain ⟨r1, r2, r3, r4⟩ := Qbi B (a.eval z).cells.toList off w
    have hheap := Qbh B (a.eval z).cells.toList off w vs t' m g2
    refine hd.setBox (w' := w.setCells B off (a.eval z).cells.toList) hd' hB trivial (fun B' hne => Qr B B' hne _ _ _) r1 r2 r3 r4 ?_ off (a.eval z) ?_
    ·refine ⟨_, t', m, hheap, ⟨fun i hi => g3.1 i (by rwa [Qq] at hi), Qep g3.2 c3⟩, by rw [Qq, l1]; exact g4, ?_⟩
     exact Qon hov (by rw [Qfu]; omega) (by rw [Qfu]; simpa using c1) g5 (Que (by simpa using c2))
    ·intro i sz hi
     have hcell : ∀ i, Qg a (w.setCells B off (a.eval z).cells.toList) bm (.c b i) = ((Qaa vs off (a.eval z).cells.toList)[i]?).getD undef := by
      intro i
      simp only [Qg, hB, Option.bind_some, Qag hheap]
     have hcell0 : ∀ i, Qg a w bm (.c b i) = (vs[i]?).getD undef := by
      intro i
      simp only [Qg, hB, Option.bind_some, Qag g2]
     simp only [Qd, S.setB, Qal] at hi
     rw [Qjj hov i] at hi
     split at hi
     ·rename_i hin
      obtain ⟨j1, j2⟩ := Quf hi
      have hio : i = off := by omega
      subst hio
      obtain ⟨σ', bm', q1, q2, q3, q4⟩ := hready
      have hsingle : (a.eval z).cells = #[a.eval z] ∧ 0 < (a.eval z).cells.toList.length := by
       cases hcc : s.get C.G v <;> rw [hcc] at j2 hrv <;> simp [AV.tipSz] at j2
       obtain ⟨A, n', cap, hz, _⟩ := hrv
       rw [hz]; simp [Value.cells]
      have hvv : Qg a (w.setCells B i (a.eval z).cells.toList) bm (.c b i) = a.eval z := by
       rw [hcell]
       have := Qau (a.eval z).cells.toList vs i 0 (by simp; omega) hsingle.2
       simp only [Nat.add_zero] at this
       rw [this, hsingle.1]; rfl
      refine .inr ⟨rfl, hvv, ?_⟩
      cases v with
      | tmp t1 => rw [S.get, Qbn] at j2; cases j2
      | const c1' =>
       cases z <;> simp [okO] at hv
       rw [S.get, Qih hv] at j2; cases j2
      | func g => cases j2
      | glob g => cases j2
      | take t1 =>
       cases z <;> simp [okO] at hv
       subst hv
       refine ⟨h.tip (.t t1) sz j2, fun p sz' B' hp' h1 h2 => ?_⟩
       have hp2 : Qd s p = some sz' ∧ p ≠ .t t1 := by
        cases p with
        | t u =>
         simp only [Qd, S.drop, Qae] at hp'
         by_cases hu : u = t1
         ·subst hu; simp [Qbn] at hp'
         ·simp [hu] at hp'; exact ⟨hp', fun e => hu (by injection e)⟩
        | c b' i' => exact ⟨hp', fun e => by cases e⟩
       exact hp2.2 (h.dist p (.t t1) sz' sz B' hp2.1 j2 h2 h1)
     ·rename_i hout
      rw [Qfu] at hout
      refine .inl ⟨fun hh => hout ⟨by omega, by omega⟩, by simp [Qd, hd', hi], ?_⟩
      rw [hcell, hcell0, Qw _ _ _ _ (by simp; omega)]
  ·rename_i b i off hget
   rw [hget] at hrx
   rw [hdb] at hst
   split at hst
   rotate_left
   ·cases hst
   rename_i sz xs hb
   cases hxx : xs[i]? with
   | none => rw [hxx] at hst; cases hst
   | some cs =>
    rw [hxx] at hst
    simp only [Qb] at hst
    cases hov : over cs off ((s.get C.G v).cells.map AV.share) with
    | none => rw [hov] at hst; cases hst
    | some cs' =>
     rw [hov] at hst
     simp only [Qb, Zi] at hst
     subst hst
     obtain ⟨B, hB, ⟨vs, t', m, g2, g3, g4, g5⟩, g6⟩ := h.boxes b _ hb rfl
     obtain ⟨l1, l2⟩ := Qjk hov
     rw [List.length_map] at l2
     obtain ⟨sz', xs', j1, hp⟩ := hrx B hB
     rw [hb] at j1
     injection j1 with j1
     injection j1 with j1 j3
     subst j1 j3
     have hil : i < xs.length := (List.getElem?_eq_some_iff.1 hxx).1
     have hrow := (Qn.1 g5) i cs hxx
     have hbig : i * sz + sz ≤ vs.size := by
      have : (i + 1) * sz ≤ xs.length * sz := Nat.mul_le_mul_right sz (by omega)
      rw [Nat.add_mul] at this; omega
     have hrun := Qgn (P := C.P) (t := t) (n := n) (B := B) (o := i * sz + off) (v := a.eval z) (w := w) hn (by omega) c3 (fun j hj => by
      have hlt : i * sz + off + j < vs.size := by omega
      exact ⟨by rw [Qag g2]; simp [hlt], Qfb g2 g3.1 hlt⟩)
     rw [← hp] at hrun
     refine fin hrun ?_
     have hd' : (s.drop v).b b = some (.rows sz xs) := by rw [hdb]; exact hb
     obtain ⟨r1, r2, r3, r4⟩ := Qbi B (a.eval z).cells.toList (i * sz + off) w
     have hheap := Qbh B (a.eval z).cells.toList (i * sz + off) w vs t' m g2
     refine hd.setBox (w' := w.setCells B (i * sz + off) (a.eval z).cells.toList) hd' hB ⟨rfl, by simp⟩ (fun B' hne => Qr B B' hne _ _ _) r1 r2 r3 r4 ?_ 0 undef (fun i' sz' hi' => ?_)
     ·refine ⟨_, t', m, hheap, ⟨fun i hi => g3.1 i (by rwa [Qq] at hi), Qep g3.2 c3⟩, by rw [Qq]; simpa using g4, ?_⟩
      rw [Qn]
      intro j r hr
      rw [List.getElem?_set] at hr
      by_cases hij : i = j
      ·subst hij
       simp [hil] at hr
       subst hr
       refine ⟨by rw [l1]; exact hrow.1, ?_⟩
       rw [Qi]
       intro k c hk
       rw [Qjj hov k] at hk
       split at hk
       ·rename_i hin
        have hsh : RepL C.fid σ ((s.get C.G v).cells.map AV.share) (fun i => (a.eval z).cells[i]?) := Qba (fun _ _ hr => Qs hr) c2
        obtain ⟨x', k1, k2⟩ := (Qi.1 hsh) _ c hk
        refine ⟨x', ?_, k2⟩
        rw [List.length_map] at hin
        have := Qau (a.eval z).cells.toList vs (i * sz + off) (k - off) (by simp; omega) (by simp; omega)
        rw [show i * sz + off + (k - off) = i * sz + k by omega] at this
        rw [this]; simpa using k1
       ·rename_i hout
        obtain ⟨x', k1, k2⟩ := (Qi.1 hrow.2) k c hk
        refine ⟨x', ?_, k2⟩
        rw [List.length_map] at hout
        rw [Qw _ _ _ _ (by simp; omega)]; exact k1
      ·simp only [hij, if_false] at hr
       obtain ⟨k0, k1⟩ := (Qn.1 g5) j r hr
       refine ⟨k0, ?_⟩
       rw [Qi] at k1 ⊢
       intro k c hk
       obtain ⟨x', q1, q2⟩ := k1 k c hk
       refine ⟨x', ?_, q2⟩
       have hkl : k < sz := by rw [← k0]; exact (List.getElem?_eq_some_iff.1 hk).1
       rw [Qw]
       ·exact q1
       ·rcases Nat.lt_or_ge i j with h1 | h1
        ·right
         have : (i + 1) * sz ≤ j * sz := Nat.mul_le_mul_right sz (by omega)
         rw [Nat.add_mul] at this
         have hl3 := hrow.1
         simp; omega
        ·left
         have : (j + 1) * sz ≤ i * sz := Nat.mul_le_mul_right sz (by omega)
         rw [Nat.add_mul] at this
         omega
     ·simp [Qd, S.setB, upd] at hi'
  ·cases hst
theorem Qgu (h : RelX C.fid e σ bm s a w) {b : Nat} (hb : s.live b = true) : ∃ B, bm b = some B := by
 unfold S.live at hb
 split at hb
 ·rename_i c hc
  obtain ⟨B, k, _⟩ := h.boxes b c hc (by simpa using hb)
  exact ⟨B, k⟩
 ·cases hb
theorem Qyl (hG : GOk C σ) (h : RelX C.fid e σ bm s a w) {x : Opnd} {y : Operand} (ho : o.op = .nilCheck y) (hx : okO C x y = true)
  (hev : evalK call C.G s (.nilck x) = some (c, s')) : Qap C e s' c a ((execOp a.eval o).run C.P w) := by
 simp only [evalK] at hev
 have hr := Qc hG h hx
 have hs : ∀ b, (s.get C.G x).ref = some b → s.seen b = true := fun b hb => Qhb h hx hb
 have fin : c = s.get C.G x → s' = s → c.tipSz = none → ((execOp a.eval o).run C.P w) = .ok (.value (a.eval y)) w → Qap C e s' c a ((execOp a.eval o).run C.P w) := by
  intro h1 h2 h3 hrun
  subst h1 h2
  exact .inl ⟨_, w, hrun, σ, bm, h, hr, hs, fun sz hsz => by rw [h3] at hsz; cases hsz⟩
 split at hev
 ·rename_i b off hget
  split at hev
  ·rename_i hal
   simp only [Zi, Zm] at hev
   obtain ⟨B, hB⟩ := Qgu h hal
   rw [hget] at hr
   have hv := hr B hB
   exact fin (by rw [hget]; exact hev.1.symm) hev.2.symm (by rw [← hev.1]; rfl) (by simp [execOp, ho, hv])
  ·cases hev
 ·rename_i b i off hget
  split at hev
  ·rename_i hal
   simp only [Zi, Zm] at hev
   obtain ⟨B, hB⟩ := Qgu h hal
   rw [hget] at hr
   obtain ⟨sz, xs, _, hv⟩ := hr B hB
   exact fin (by rw [hget]; exact hev.1.symm) hev.2.symm (by rw [← hev.1]; rfl) (by simp [execOp, ho, hv])
  ·cases hev
 ·rename_i cs off hget
  simp only [Zi, Zm] at hev
  rw [hget] at hr
  obtain ⟨B, o', hv, _⟩ := hr
  exact fin (by rw [hget]; exact hev.1.symm) hev.2.symm (by rw [← hev.1]; rfl) (by simp [execOp, ho, hv])
 ·rename_i g cap hget
  simp only [Zi, Zm] at hev
  rw [hget] at hr
  obtain ⟨vs, hv, _⟩ := hr
  exact fin (by rw [hget]; exact hev.1.symm) hev.2.symm (by rw [← hev.1]; rfl) (by simp [execOp, ho, hv])
 ·cases hev
def Qeh (P : Program) (t : TypeId) (f off : Nat) (n : Option Nat) (agg : Option Bool) : Bool :=
 match P.underlying t with
 | some (.struct fs) => match fs[f]? with
  | some fd => fd.offset == off && (match tsz P fd.type with | some k => k != 0 && (match n with | some m => m == k | none => true) | none => false) && (match agg with | some g => rowT P fd.type == some g | none => true)
  | none => false
 | _ => false
theorem Qiv {P : Program} {t : TypeId} {f off : Nat} {n : Option Nat} {agg : Option Bool} (h : Qeh P t f off n agg = true) : ∃ fs fd k, P.underlying t = some (.struct fs) ∧ fs[f]? = some fd ∧ fd.offset = off ∧ tsz P fd.type = some k ∧ k ≠ 0 ∧ (∀ m, n = some m → m = k) ∧ (∀ g, agg = some g → rowT P fd.type = some g) := by
 unfold Qeh at h
 split at h
 ·rename_i fs hfs
  split at h
  ·rename_i fd hfd
   simp only [Zw] at h
   obtain ⟨⟨h1, h2⟩, h3⟩ := h
   split at h2
   ·rename_i k hk
    refine ⟨fs, fd, k, hfs, hfd, by simpa using h1, hk, ?_, fun m hm => ?_, fun g hg => ?_⟩
    ·simp at h2; exact h2.1
    ·subst hm; simp at h2; exact h2.2
    ·subst hg; simpa using h3
   ·cases h2
  ·cases h
 ·cases h
theorem Qek {P : Program} {t : TypeId} {f off B o' : Nat} (h : Qeh P t f off none none = true) (w : World) : (Instr.fieldAt t (.pointer (some ⟨B, o', none⟩)) f).run P w = .ok (.pointer (some ⟨B, o' + off, none⟩)) w := by
 obtain ⟨fs, fd, k, h1, h2, h3, h4, h5, _⟩ := Qiv h
 simp only [Instr.fieldAt, Sem.run_bind, run_underlying h1 w, Result.andThen_ok, h2, Instr.sureAddr, Sem.run_pure, fieldPlace, Qcm h4, if_neg h5]
 rw [Addr.add_mid, h3]
theorem op_fadr (hG : GOk C σ) (h : RelX C.fid e σ bm s a w) {off f : Nat} {x : Opnd} {y : Operand} {t : TypeId} (ho : o.op = .fieldAddr t y f) (hx : okO C x y = true) (hf : Qeh C.P t f off none none = true)
  (hev : evalK call C.G s (.fadr off x) = some (c, s')) : Qap C e s' c a ((execOp a.eval o).run C.P w) := by
 simp only [evalK] at hev
 have hr := Qc hG h hx
 have hs : ∀ b, (s.get C.G x).ref = some b → s.seen b = true := fun b hb => Qhb h hx hb
 split at hev
 ·rename_i b o' hget
  split at hev
  ·rename_i hal
   simp only [Zi, Zm] at hev
   obtain ⟨rfl, rfl⟩ := hev
   obtain ⟨B, hB⟩ := Qgu h hal
   rw [hget] at hr hs
   refine .inl ⟨.pointer (some ⟨B, o' + off, none⟩), w, by simp [execOp, ho, hr B hB, Qek hf], σ, bm, h, fun B' hB' => ?_, fun b' hb' => hs b' hb', fun sz hsz => by cases hsz⟩
   rw [hB] at hB'; injection hB' with hB'; rw [hB']
  ·cases hev
 ·rename_i b i o' hget
  split at hev
  ·rename_i hal
   simp only [Zi, Zm] at hev
   obtain ⟨rfl, rfl⟩ := hev
   obtain ⟨B, hB⟩ := Qgu h hal
   rw [hget] at hr hs
   obtain ⟨sz, xs, j1, hv⟩ := hr B hB
   refine .inl ⟨.pointer (some ⟨B, i * sz + o' + off, none⟩), w, by simp [execOp, ho, hv, Qek hf], σ, bm, h, fun B' hB' => ⟨sz, xs, j1, ?_⟩, fun b' hb' => hs b' hb', fun sz hsz => by cases hsz⟩
   rw [hB] at hB'; injection hB' with hB'; rw [hB', Nat.add_assoc]
  ·cases hev
 ·rename_i cs o' hget
  simp only [Zi, Zm] at hev
  obtain ⟨rfl, rfl⟩ := hev
  rw [hget] at hr
  obtain ⟨B, o2, hv, hc⟩ := hr
  exact .inl ⟨.pointer (some ⟨B, o2 + o' + off, none⟩), w, by simp [execOp, ho, hv, Qek hf], Qp.plain h ⟨B, o2, by rw [Nat.add_assoc], hc⟩ rfl⟩
 ·cases hev
theorem Qbz {fid : Nat → Nat} {c : AV} {v : Value} {i : Nat} (hr : RepT fid σ bm s.b c v) (h : Qcq c = some i) : ∃ k, v = .int k (i : Int) := by
 cases c <;> simp only [Qcq] at h <;> first | (cases h; done) | skip
 split at h
 ·rename_i k n hn
  injection h with h
  subst h
  exact ⟨k, by simpa [RepT, RepP, Int.toNat_of_nonneg hn] using hr⟩
 ·cases h
theorem op_iadr (hG : GOk C σ) (h : RelX C.fid e σ bm s a w) {sz : Nat} {x i : Opnd} {y j : Operand} {t el : TypeId} (ho : o.op = .indexAddr t y j) (hx : okO C x y = true) (hi : okO C i j = true) (ht : C.P.underlying t = some (.slice el)) (hsz : tsz C.P el = some sz)
  (hev : evalK call C.G s (.iadr sz x i) = some (c, s')) : Qap C e s' c a ((execOp a.eval o).run C.P w) := by
 simp only [evalK] at hev
 have hr := Qc hG h hx
 have hri := Qc hG h hi
 have run : ∀ {B o' n cap k : Nat} {kk : IntKind}, a.eval y = .slice (some ⟨B, o', none⟩) n cap → a.eval j = .int kk (k : Int) → k < n → (execOp a.eval o).run C.P w = .ok (.value (.pointer (some ⟨B, o' + k * sz, none⟩))) w := by
  intro B o' n cap k kk h1 h2 h3
  have : (0 : Int) ≤ (k : Int) ∧ (k : Int) < (n : Int) := by omega
  simp [execOp, ho, Instr.indexAt, h1, h2, asIntOf, run_underlying ht, Qcm hsz, h3, Addr.add_mid]
 split at hev
 ·rename_i m sz' xs hget
  split at hev
  ·rename_i hs'
   subst hs'
   cases hn : Qcq (s.get C.G i) with
   | none => rw [hn] at hev; cases hev
   | some k =>
    rw [hn] at hev
    simp only [Qb] at hev
    cases hxx : xs[k]? with
    | none => rw [hxx] at hev; cases hev
    | some cs =>
     rw [hxx] at hev
     simp only [Qb, Zi, Zm] at hev
     obtain ⟨rfl, rfl⟩ := hev
     obtain ⟨kk, hk⟩ := Qbz hri hn
     rw [hget] at hr
     obtain ⟨A, n, cap, hv, hlen, _, _, hcase⟩ := hr
     have hkl : k < xs.length := (List.getElem?_eq_some_iff.1 hxx).1
     rcases hcase with h0 | ⟨B, o', hA, hrows⟩
     ·omega
     ·subst hA
      refine .inl ⟨_, w, run hv hk (by omega), Qp.plain h ⟨B, o' + k * sz', by simp, ?_⟩ rfl⟩
      have := ((Qn.1 hrows) k cs hxx).2
      simpa [Nat.add_assoc] using this
  ·cases hev
 ·rename_i b hget
  split at hev
  ·rename_i sz' xs hb
   split at hev
   ·rename_i hs'
    subst hs'
    cases hn : Qcq (s.get C.G i) with
    | none => rw [hn] at hev; cases hev
    | some k =>
     rw [hn] at hev
     simp only [Qb] at hev
     split at hev
     ·rename_i hkl
      simp only [Zi, Zm] at hev
      obtain ⟨rfl, rfl⟩ := hev
      obtain ⟨kk, hk⟩ := Qbz hri hn
      rw [hget] at hr
      obtain ⟨B, hB, _⟩ := h.boxes b _ hb rfl
      obtain ⟨sz2, xs2, cap, j1, j2, hv⟩ := hr B hB
      rw [hb] at j1
      injection j1 with j1
      injection j1 with j1 j3
      subst j1 j3
      refine .inl ⟨_, w, run hv hk hkl, σ, bm, h, fun B' hB' => ⟨sz', xs, hb, ?_⟩, fun b' hb' => Qhb h hx (by rw [hget]; exact hb'), fun sz hsz => by cases hsz⟩
      rw [hB] at hB'; injection hB' with hB'; rw [hB']; simp
     ·cases hev
   ·cases hev
  ·cases hev
 ·cases hev
theorem Qyk (hG : GOk C σ) (h : RelX C.fid e σ bm s a w) {sz len : Nat} {x i : Opnd} {y j : Operand} {t el : TypeId} (ho : o.op = .indexAddr t y j) (hx : okO C x y = true) (hi : okO C i j = true) (ht : C.P.underlying t = some (.array len el)) (hsz : tsz C.P el = some sz)
  (hev : evalK call C.G s (.iadrA sz len x i) = some (c, s')) : Qap C e s' c a ((execOp a.eval o).run C.P w) := by
 simp only [evalK] at hev
 have hr := Qc hG h hx
 have hri := Qc hG h hi
 have run : ∀ {B o' k : Nat} {kk : IntKind}, a.eval y = .pointer (some ⟨B, o', none⟩) → a.eval j = .int kk (k : Int) → k < len → (execOp a.eval o).run C.P w = .ok (.value (.pointer (some ⟨B, o' + k * sz, none⟩))) w := by
  intro B o' k kk h1 h2 h3
  simp [execOp, ho, Instr.indexAt, h1, h2, asIntOf, run_underlying ht, Qcm hsz, h3, Addr.add_mid, Instr.sureAddr]
 split at hev
 ·rename_i b o' hget
  split at hev
  ·rename_i hal
   cases hn : Qcq (s.get C.G i) with
   | none => rw [hn] at hev; cases hev
   | some k =>
    rw [hn] at hev
    simp only [Qb] at hev
    split at hev
    ·rename_i hkl
     simp only [Zi, Zm] at hev
     obtain ⟨rfl, rfl⟩ := hev
     obtain ⟨kk, hk⟩ := Qbz hri hn
     obtain ⟨B, hB⟩ := Qgu h hal
     rw [hget] at hr
     refine .inl ⟨_, w, run (hr B hB) hk hkl, σ, bm, h, fun B' hB' => ?_, fun b' hb' => Qhb h hx (by rw [hget]; exact hb'), fun sz hsz => by cases hsz⟩
     rw [hB] at hB'; injection hB' with hB'; rw [hB']
    ·cases hev
  ·cases hev
 ·rename_i cs o' hget
  cases hn : Qcq (s.get C.G i) with
  | none => rw [hn] at hev; cases hev
  | some k =>
   rw [hn] at hev
   simp only [Qb] at hev
   split at hev
   ·rename_i hkl
    simp only [Zi, Zm] at hev
    obtain ⟨rfl, rfl⟩ := hev
    obtain ⟨kk, hk⟩ := Qbz hri hn
    rw [hget] at hr
    obtain ⟨B, o2, hv, hc⟩ := hr
    exact .inl ⟨_, w, run hv hk hkl, Qp.plain h ⟨B, o2, by rw [Nat.add_assoc], hc⟩ rfl⟩
   ·cases hev
 ·cases hev
end
end Go.Vs
namespace Go.Vs
open Go Go.RowKit
theorem Qxc (k : IntKind) (n : Int) : wr k n = k.wrap n := by
 cases k <;> simp only [wr]
 ·rw [IntKind.wrap_i32]; unfold wrap32; rfl
 ·rw [IntKind.wrap_i64]; unfold wrap64; rfl
 ·rw [IntKind.wrap_u8]
 ·rw [IntKind.wrap_u32]
section
variable {C : Ctx} {e : Env} {σ τ : Mem} {bm : Nat → Option Nat} {s s' : S} {a : Act} {w w' : World} {call : Call} {o : Oper} {c : AV}
theorem Qxi {P : Program} {op : BinOp} {k : IntKind} {x y : Int} {t : TypeId} (h : binI op k x y = some c) (w : World) : ∃ v, (binOp op t (.int k x) (.int k y)).run P w = .ok v w ∧ (∀ fid σ, RepP fid σ c v) ∧ c.tipSz = none := by
  cases op <;> simp only [binI] at h <;> first
    | (cases h; done)
    | (split at h
       · cases h
       · rename_i hy
         injection h with h
         subst h
         refine ⟨_, ?_, fun _ _ => rfl, rfl⟩
         simp [binOp, Op.intDiv, hy, Qxc])
    | (injection h with h
       subst h
       refine ⟨_, ?_, fun _ _ => rfl, rfl⟩
       simp [binOp, Op.intArith, Op.intCmp, Qxc, intBits_and, intBits_or, intBits_xor, bne]
       try rfl)
theorem Qmv {P : Program} {op : BinOp} {k yk : IntKind} {x y : Int} {t : TypeId} (hop : op = .shl ∨ op = .shr) (h : Qmu op k x y = some c) (w : World) : ∃ v, (binOp op t (.int k x) (.int yk y)).run P w = .ok v w ∧ (∀ fid σ, RepP fid σ c v) ∧ c.tipSz = none := by
 unfold Qmu at h
 split at h
 ·cases h
 ·rename_i hy
  rcases hop with rfl | rfl <;>
  ·injection h with h
   subst h
   refine ⟨_, ?_, fun _ _ => rfl, rfl⟩
   simp [binOp, Op.shift, hy, Qxc]
theorem Qxj {P : Program} {op : BinOp} {x y : List UInt8} {t : TypeId} (h : binS op x y = some c) (w : World) : ∃ v, (binOp op t (.string ⟨x.toArray⟩) (.string ⟨y.toArray⟩)).run P w = .ok v w ∧ (∀ fid σ, RepP fid σ c v) ∧ c.tipSz = none := by
 have hl : ∀ l : List UInt8, (⟨l.toArray⟩ : ByteArray).toList = l := fun l => by
  rw [ByteArray.toList_eq]
 cases op <;> simp only [binS] at h <;> first | (cases h; done) | skip
 ·split at h
  ·rename_i hle
   injection h with h
   subst h
   refine ⟨.string (⟨x.toArray⟩ ++ ⟨y.toArray⟩), ?_, fun _ _ => ?_, rfl⟩
   ·have : ¬ ((((⟨x.toArray⟩ : ByteArray).size + (⟨y.toArray⟩ : ByteArray).size : Nat) : Int) > IntKind.i64.max) := by
     simp only [ByteArray.size, List.size_toArray]
     have : IntKind.i64.max = 9223372036854775807 := by decide
     rw [this]
     unfold LIM at hle
     omega
    simp only [binOp, Op.stringOp, if_neg this, Sem.run_pure]
   ·simp only [RepP, Value.string.injEq]
    apply ByteArray.ext
    simp
  ·cases h
 ·injection h with h
  subst h
  exact ⟨_, by simp only [binOp, Op.stringOp, Sem.run_pure, hl], fun _ _ => rfl, rfl⟩
 ·injection h with h
  subst h
  exact ⟨_, by simp only [binOp, Op.stringOp, Sem.run_pure, hl], fun _ _ => rfl, rfl⟩
theorem Qgg {P : Program} {op : BinOp} {t : TypeId} {x y : Operand} {k k' : IntKind} {m n : Int} {w : World} : (eqGuard op t x y (.int k m) (.int k' n)).run P w = .ok () w := by
 unfold eqGuard
 split <;> simp
theorem Qqu {P : Program} {op : BinOp} {t : TypeId} {x y : Operand} {m n : ByteArray} {w : World} : (eqGuard op t x y (.string m) (.string n)).run P w = .ok () w := by
 unfold eqGuard
 split <;> simp
theorem Qis {P : Program} {op : BinOp} {t : TypeId} {x y : Operand} {m n : Bool} {w : World} : (eqGuard op t x y (.bool m) (.bool n)).run P w = .ok () w := by
 unfold eqGuard
 split <;> simp
theorem op_bin (hG : GOk C σ) (h : RelX C.fid e σ bm s a w) {op : BinOp} {x1 x2 : Opnd} {y1 y2 : Operand} {t u : TypeId} (ho : o.op = .binOp op t y1 y2 u) (h1 : okO C x1 y1 = true) (h2 : okO C x2 y2 = true)
  (hev : evalK call C.G s (.bin op x1 x2) = some (c, s')) : Qap C e s' c a ((execOp a.eval o).run C.P w) := by
 simp only [evalK] at hev
 cases hb : bin op (s.get C.G x1) (s.get C.G x2) with
 | none => rw [hb] at hev; cases hev
 | some v0 =>
  rw [hb] at hev
  simp only [Qb, Zi, Zm] at hev
  obtain ⟨rfl, rfl⟩ := hev
  have r1 := Qc hG h h1
  have r2 := Qc hG h h2
  have fin : ∀ {v : Value}, (do eqGuard op t y1 y2 (a.eval y1) (a.eval y2); binOp op t (a.eval y1) (a.eval y2) : Sem Value).run C.P w = .ok v w → (∀ fid σ, RepP fid σ v0 v) → v0.tipSz = none → Qap C e s v0 a ((execOp a.eval o).run C.P w) := by
   intro v hrun hrep ht
   refine .inl ⟨v, w, ?_, Qp.plain h (hrep _ _) ht⟩
   simp only [execOp, ho]
   rw [Sem.run_bind, hrun]
   rfl
  unfold bin at hb
  split at hb
  ·rename_i k m k' n g1 g2
   rw [g1] at r1
   rw [g2] at r2
   simp only [RepT, RepP] at r1 r2
   split at hb
   ·obtain ⟨v, q1, q2, q3⟩ := Qmv (P := C.P) (yk := k') (t := t) (.inl rfl) hb w
    exact fin (by simp only [r1, r2, Sem.run_bind, Qgg, Result.andThen_ok, q1]) q2 q3
   ·obtain ⟨v, q1, q2, q3⟩ := Qmv (P := C.P) (yk := k') (t := t) (.inr rfl) hb w
    exact fin (by simp only [r1, r2, Sem.run_bind, Qgg, Result.andThen_ok, q1]) q2 q3
   ·split at hb
    ·rename_i hk
     subst hk
     obtain ⟨v, q1, q2, q3⟩ := Qxi (P := C.P) (t := t) hb w
     exact fin (by simp only [r1, r2, Sem.run_bind, Qgg, Result.andThen_ok, q1]) q2 q3
    ·cases hb
  ·rename_i m n g1 g2
   rw [g1] at r1
   rw [g2] at r2
   simp only [RepT, RepP] at r1 r2
   obtain ⟨v, q1, q2, q3⟩ := Qxj (P := C.P) (t := t) hb w
   exact fin (by simp only [r1, r2, Sem.run_bind, Qqu, Result.andThen_ok, q1]) q2 q3
  ·cases hb
theorem op_eqb (hG : GOk C σ) (h : RelX C.fid e σ bm s a w) {neq : Bool} {x1 x2 : Opnd} {y1 y2 : Operand} {t u : TypeId} (ho : o.op = .binOp (if neq then .neq else .eql) t y1 y2 u) (h1 : okO C x1 y1 = true) (h2 : okO C x2 y2 = true) (ht : C.P.underlying t = some .bool)
  (hev : evalK call C.G s (.eqb neq x1 x2) = some (c, s')) : Qap C e s' c a ((execOp a.eval o).run C.P w) := by
 simp only [evalK] at hev
 have r1 := Qc hG h h1
 have r2 := Qc hG h h2
 split at hev
 ·rename_i m n g1 g2
  rw [g1] at r1
  rw [g2] at r2
  simp only [RepT, RepP] at r1 r2
  simp only [Zi, Zm] at hev
  obtain ⟨rfl, rfl⟩ := hev
  have he : (Op.equal t (.bool m) (.bool n)).run C.P w = .ok (m == n) w := by
   unfold Op.equal Op.maxDepth
   rw [show (10000 : Nat) = 9999 + 1 from rfl, Op.equalIn]
   simp only [Sem.run_bind, run_underlying ht, Result.andThen_ok]
   rfl
  refine .inl ⟨.bool (if neq then !(m == n) else m == n), w, ?_, Qp.plain h rfl rfl⟩
  cases neq
  ·simp [execOp, ho, r1, r2, Qis, binOp, he]
  ·simp [execOp, ho, r1, r2, Qis, binOp, he]
 ·cases hev
theorem op_un (hG : GOk C σ) (h : RelX C.fid e σ bm s a w) {op : UnOp} {x : Opnd} {y : Operand} {t : TypeId} (ho : o.op = .unOp op t y) (hx : okO C x y = true)
  (hev : evalK call C.G s (.un op x) = some (c, s')) : Qap C e s' c a ((execOp a.eval o).run C.P w) := by
 simp only [evalK] at hev
 cases hb : un op (s.get C.G x) with
 | none => rw [hb] at hev; cases hev
 | some v0 =>
  rw [hb] at hev
  simp only [Qb, Zi, Zm] at hev
  obtain ⟨rfl, rfl⟩ := hev
  have r1 := Qc hG h hx
  unfold un at hb
  split at hb
  ·rename_i k n g1
   rw [g1] at r1
   simp only [RepT, RepP] at r1
   injection hb with hb
   subst hb
   exact .inl ⟨_, w, by simp [execOp, ho, r1, Op.unary, Op.intArith, Qxc], Qp.plain h rfl rfl⟩
  ·rename_i b g1
   rw [g1] at r1
   simp only [RepT, RepP] at r1
   injection hb with hb
   subst hb
   exact .inl ⟨_, w, by simp [execOp, ho, r1, Op.unary], Qp.plain h rfl rfl⟩
  ·cases hb
end
end Go.Vs