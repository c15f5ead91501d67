/- Stores into the frame's own variables; rights that leave a variable. -/
import Derived.Test.YthedbdlbibkpiaaGreatDoorVs5
set_option linter.unusedVariables false
namespace Go.Vs
open Go Go.RowKit

def writeArr : Array Value → Nat → List Value → Array Value
  | vs, _, [] => vs
  | vs, o, x :: r => writeArr (vs.setIfInBounds o x) (o + 1) r
theorem writeArr_size : ∀ (news : List Value) (vs : Array Value) (o : Nat), (writeArr vs o news).size = vs.size
  | [], _, _ => rfl
  | x :: r, vs, o => by rw [writeArr, writeArr_size r]; simp
theorem writeArr_out : ∀ (news : List Value) (vs : Array Value) (o i : Nat), (i < o ∨ o + news.length ≤ i) → (writeArr vs o news)[i]? = vs[i]?
  | [], _, _, _, _ => rfl
  | x :: r, vs, o, i, h => by
    rw [writeArr, writeArr_out r _ _ _ (by simp at h; omega)]
    rw [Array.getElem?_setIfInBounds_ne (by simp at h; omega)]
theorem writeArr_in : ∀ (news : List Value) (vs : Array Value) (o j : Nat), o + news.length ≤ vs.size → j < news.length → (writeArr vs o news)[o + j]? = news[j]?
  | [], _, _, _, _, hj => by simp at hj
  | x :: r, vs, o, 0, h, hj => by
    rw [writeArr, writeArr_out r _ _ _ (by omega)]
    simp at h
    simp [show o < vs.size by omega]
  | x :: r, vs, o, j + 1, h, hj => by
    simp at h hj
    rw [writeArr, show o + (j + 1) = o + 1 + j by omega, writeArr_in r _ _ j (by simp; omega) hj]
    simp

theorem writeArr_ones : ∀ {news : List Value} {vs : Array Value} {o : Nat}, Ones vs → (∀ v ∈ news, v.oneCell' = true) → Ones (writeArr vs o news)
  | [], _, _, h, _ => h
  | x :: r, vs, o, h, hn => by
    rw [writeArr]
    refine writeArr_ones (fun v hv => ?_) (fun v hv => hn v (List.mem_cons_of_mem _ hv))
    rw [Array.toList_setIfInBounds] at hv
    rcases List.mem_or_eq_of_mem_set hv with h1 | h1
    · exact h v h1
    · rw [h1]; exact hn x (List.mem_cons_self ..)

theorem heap_setCells (B : Nat) : ∀ (news : List Value) (o : Nat) (w : World) (vs : Array Value) (t : TypeId) (m : Nat × Nat), w.heap[B]? = some (.cells vs t m) →
    (w.setCells B o news).heap[B]? = some (.cells (writeArr vs o news) t m)
  | [], _, _, _, _, _, h => h
  | x :: r, o, w, vs, t, m, h => by
    have h1 : (w.setCell ⟨B, o, none⟩ x).heap[B]? = some (.cells (vs.setIfInBounds o x) t m) := by
      simp [World.setCell, Array.getElem?_modify, h]
    rw [World.setCells, writeArr]
    exact heap_setCells B r (o + 1) _ _ t m h1
theorem heap_setCells_other (B B' : Nat) (hne : B' ≠ B) : ∀ (news : List Value) (o : Nat) (w : World), (w.setCells B o news).heap[B']? = w.heap[B']?
  | [], _, _ => rfl
  | x :: r, o, w => by
    rw [World.setCells, heap_setCells_other B B' hne r]
    simp [World.setCell, Array.getElem?_modify, Ne.symm hne]
theorem setCells_rest (B : Nat) : ∀ (news : List Value) (o : Nat) (w : World), (w.setCells B o news).heap.size = w.heap.size ∧ (w.setCells B o news).os = w.os ∧ (w.setCells B o news).tape = w.tape ∧ (w.setCells B o news).output = w.output
  | [], _, _ => ⟨rfl, rfl, rfl, rfl⟩
  | x :: r, o, w => by
    rw [World.setCells]
    obtain ⟨h1, h2, h3, h4⟩ := setCells_rest B r (o + 1) (w.setCell ⟨B, o, none⟩ x)
    exact ⟨by rw [h1]; simp [World.setCell], h2, h3, h4⟩

section
variable {C : Ctx} {e : Env} {σ τ : Mem} {bm : Nat → Option Nat} {s s' : S} {a : Act} {w w' : World}

def sameShape : BC → BC → Prop
  | .var _, .var _ => True
  | .rows sz xs, .rows sz' xs' => sz = sz' ∧ xs.length = xs'.length
  | _, _ => False

/-- One of the frame's own variables holds something else. -/
theorem RelX.setBox (h : RelX C.fid e σ bm s a w) {b : Nat} {c c' : BC} (hb : s.b b = some c) {B : Nat} (hB : bm b = some B) (hsh : sameShape c c')
    (hother : ∀ B', B' ≠ B → w'.heap[B']? = w.heap[B']?) (hsize : w'.heap.size = w.heap.size) (hos : w'.os = w.os) (htape : w'.tape = w.tape) (hout : w'.output = w.output)
    (hbox : BoxOk C.fid σ w' B c') (i0 : Nat) (v0 : Value)
    (htip : ∀ i sz, tipAt (s.setB b c') (.c b i) = some sz → (i ≠ i0 ∧ tipAt s (.c b i) = some sz ∧ valAt a w' bm (.c b i) = valAt a w bm (.c b i)) ∨
      (i = i0 ∧ valAt a w' bm (.c b i) = v0 ∧ TipOk e σ bm w sz v0 ∧ ∀ p sz' B', tipAt s p = some sz' → tipBlk v0 = some B' → tipBlk (valAt a w bm p) ≠ some B')) :
    RelX C.fid e σ bm (s.setB b c') a w' := by
  obtain ⟨B0, k1, kbox, kown, kσ⟩ := h.boxes b c hb
  have : B0 = B := by rw [hB] at k1; injection k1 with k1; exact k1.symm
  subst this
  have hval : ∀ p sz, tipAt (s.setB b c') p = some sz → (∀ i, p ≠ .c b i) → tipAt s p = some sz ∧ valAt a w' bm p = valAt a w bm p := by
    intro p sz hp hne
    cases p with
    | t t => exact ⟨hp, rfl⟩
    | c b' i =>
      have hb' : b' ≠ b := fun hh => hne i (by rw [hh])
      have hb2 : (s.setB b c').b b' = s.b b' := by simp [S.setB, upd_ne _ _ hb']
      simp only [tipAt, hb2] at hp ⊢
      refine ⟨hp, ?_⟩
      cases hs : s.b b' with
      | none => rw [hs] at hp; cases hp
      | some c2 =>
        obtain ⟨B', j1, _⟩ := h.boxes b' c2 hs
        have hne2 : B' ≠ B0 := fun hh => hb' (h.inj b' b B' j1 (by rw [hh]; exact hB))
        simp only [valAt, j1, Option.bind_some, cell_eq (hother B' hne2)]
  have htipok : ∀ sz v, TipOk e σ bm w sz v → TipOk e σ bm w' sz v := by
    intro sz v hv
    obtain ⟨A, n, cap, h1, h2⟩ := hv
    refine ⟨A, n, cap, h1, h2.imp id ?_⟩
    rintro ⟨B', o, vs, t, m, l1, l2, l3, l4, l5, l6, l7⟩
    exact ⟨B', o, vs, t, m, l1, (hother B' (fun hh => l7 b (by rw [hh]; exact hB))).trans l2, l3, l4, l5, l6, l7⟩
  have hcase : ∀ p sz, tipAt (s.setB b c') p = some sz → (tipAt s p = some sz ∧ valAt a w' bm p = valAt a w bm p) ∨ (p = .c b i0 ∧ valAt a w' bm p = v0 ∧ TipOk e σ bm w sz v0 ∧ ∀ p sz' B', tipAt s p = some sz' → tipBlk v0 = some B' → tipBlk (valAt a w bm p) ≠ some B') := by
    intro p sz hp
    by_cases hq : ∃ i, p = .c b i
    · obtain ⟨i, rfl⟩ := hq
      rcases htip i sz hp with ⟨_, h1, h2⟩ | ⟨rfl, h1, h2, h3⟩
      · exact .inl ⟨h1, h2⟩
      · exact .inr ⟨rfl, h1, h2, h3⟩
    · exact .inl (hval p sz hp (fun i hh => hq ⟨i, hh⟩))
  refine { defers := h.defers, size := h.size, tmps := fun t => ?_, boxes := fun b' c2 hb' => ?_, dead := fun b' hb' => ?_, inj := h.inj, par := h.par, newb := h.newb, seenB := fun b' hb' => ?_, seenT := h.seenT, mem := fun B' i v hv => ?_, one := h.one,
           old := fun B' h1 h2 => ?_, oldσ := h.oldσ, leσ := h.leσ, grown := by rw [hsize]; exact h.grown, os := hos.trans h.os, tape := htape.trans h.tape, output := hout.trans h.output,
           tip := fun p sz hp => ?_, dist := fun p q sz sz' B' hp hq h1 h2 => ?_ }
  · have ht := h.tmps t
    have hsb : ∀ b', (s.setB b c').b b' = if b' = b then some c' else s.b b' := fun b' => rfl
    revert ht
    show RepT C.fid σ bm s.b (s.t t) _ → RepT C.fid σ bm (s.setB b c').b (s.t t) _
    cases s.t t <;> intro ht <;> first | exact ht | skip
    · rename_i b'
      intro B' hB'
      obtain ⟨sz, xs, cap, j1, j2, j3⟩ := ht B' hB'
      by_cases hbb : b' = b
      · subst hbb
        rw [hb] at j1
        injection j1 with j1
        subst j1
        cases c' with
        | var cs => exact hsh.elim
        | rows sz' xs' =>
          refine ⟨sz', xs', cap, by simp [hsb], by rw [← hsh.2]; exact j2, by rw [← hsh.2]; exact j3⟩
      · exact ⟨sz, xs, cap, by rw [hsb, if_neg hbb]; exact j1, j2, j3⟩
    · rename_i b' i off
      intro B' hB'
      obtain ⟨sz, xs, j1, j3⟩ := ht B' hB'
      by_cases hbb : b' = b
      · subst hbb
        rw [hb] at j1
        injection j1 with j1
        subst j1
        cases c' with
        | var cs => exact hsh.elim
        | rows sz' xs' => exact ⟨sz', xs', by simp [hsb], by rw [← hsh.1]; exact j3⟩
      · exact ⟨sz, xs, by rw [hsb, if_neg hbb]; exact j1, j3⟩
  · by_cases hbb : b' = b
    · subst hbb
      simp [S.setB, upd] at hb'
      subst hb'
      exact ⟨B0, hB, hbox, kown, kσ⟩
    · simp only [S.setB, upd_ne _ _ hbb] at hb'
      obtain ⟨B', j1, j2, j3, j4⟩ := h.boxes b' c2 hb'
      have hne : B' ≠ B0 := fun hh => hbb (h.inj b' b B' j1 (by rw [hh]; exact hB))
      exact ⟨B', j1, BoxOk_mono j2 (Mem.le_refl σ) (hother B' hne), j3, j4⟩
  · by_cases hbb : b' = b
    · subst hbb; simp [S.setB, upd] at hb'
    · simp only [S.setB, upd_ne _ _ hbb] at hb'
      exact h.dead b' hb'
  · by_cases hbb : b' = b
    · subst hbb; exact h.seenB b' (by simp [hb])
    · simp only [S.setB, upd_ne _ _ hbb] at hb' ⊢
      exact h.seenB b' hb'
  · have hne : B' ≠ B0 := by
      intro hh; subst hh; rw [kσ i] at hv; cases hv
    rw [cell_eq (hother B' hne)]; exact h.mem B' i v hv
  · have hne : B' ≠ B0 := by
      intro hh; subst hh
      rcases kown with k | k
      · omega
      · exact h2 k
    rw [hother B' hne]; exact h.old B' h1 h2
  · rcases hcase p sz hp with ⟨h1, h2⟩ | ⟨_, h1, h2, _⟩
    · rw [h2]; exact htipok sz _ (h.tip p sz h1)
    · rw [h1]; exact htipok sz _ h2
  · rcases hcase p sz hp with ⟨p1, p2⟩ | ⟨p0, p1, _, p3⟩ <;> rcases hcase q sz' hq with ⟨q1, q2⟩ | ⟨q0, q1, _, q3⟩
    · rw [p2] at h1
      rw [q2] at h2
      exact h.dist p q sz sz' B' p1 q1 h1 h2
    · rw [p2] at h1
      rw [q1] at h2
      exact absurd h1 (q3 p sz B' p1 h2)
    · rw [p1] at h1
      rw [q2] at h2
      exact absurd h2 (p3 q sz' B' q1 h1)
    · rw [p0, q0]

/-- A value's cells. -/
theorem cells_rep {fid : Nat → Nat} {c : AV} {v : Value} (h : RepP fid σ c v) (ho : (c.cells.all AV.one) = true) :
    v.cells.size = c.cells.length ∧ RepL fid σ c.cells (fun i => v.cells[i]?) ∧ ∀ x ∈ v.cells.toList, x.oneCell' = true := by
  have one : ∀ (c : AV) (v : Value), RepP fid σ c v → c.one = true → v.oneCell' = true ∧ v.cells = #[v] := by
    intro c v hc h1
    cases c <;> first | (simp [AV.one] at h1; done) | skip
    all_goals (simp only [RepP] at hc)
    case int => subst hc; exact ⟨rfl, rfl⟩
    case bool => subst hc; exact ⟨rfl, rfl⟩
    case str => subst hc; exact ⟨rfl, rfl⟩
    case con c => subst hc; cases c <;> exact ⟨rfl, rfl⟩
    case sl => obtain ⟨a, n, cap, rfl, _⟩ := hc; exact ⟨rfl, rfl⟩
    case rp => obtain ⟨a, n, rfl, _⟩ := hc; exact ⟨rfl, rfl⟩
    case fn => obtain ⟨a, rfl, _⟩ := hc; exact ⟨rfl, rfl⟩
  by_cases hag : ∃ cs, c = .agg cs
  · obtain ⟨cs, rfl⟩ := hag
    simp only [RepP] at h
    obtain ⟨vs, rfl, h1, h2⟩ := h
    refine ⟨h1, h2, fun x hx => ?_⟩
    obtain ⟨i, hi⟩ := List.getElem?_of_mem hx
    have hi' : i < cs.length := by
      have := (List.getElem?_eq_some_iff.1 hi).1
      simp [Value.cells] at this; omega
    obtain ⟨u, hu, hr⟩ := (RepL_iff.1 h2) i _ (List.getElem?_eq_getElem hi')
    have : u = x := by
      simp [Value.cells] at hi
      rw [hi] at hu; injection hu with hu; exact hu.symm
    subst this
    refine (one _ _ hr ?_).1
    simp only [AV.cells, List.all_eq_true] at ho
    exact ho _ (List.getElem_mem hi')
  · have hc : c.cells = [c] := by
      cases c <;> first | rfl | exact absurd ⟨_, rfl⟩ hag
    rw [hc] at ho ⊢
    simp at ho
    obtain ⟨h1, h2⟩ := one c v h ho
    rw [h2]
    exact ⟨rfl, ⟨⟨v, rfl, h⟩, by simp [RepL]⟩, by simpa using h1⟩
theorem scells_len (c : AV) : c.scells.length = c.cells.length := by cases c <;> simp [AV.scells, AV.cells]
theorem scells_rep {fid : Nat → Nat} {c : AV} {f : Nat → Option Value} (h : RepL fid σ c.cells f) : RepL fid σ c.scells f := by
  cases c <;> first | exact h | exact RepL_map (fun c v hr => RepP_dem hr) h
theorem scells_tip {c : AV} {i sz : Nat} (h : (c.scells[i]?).bind AV.tipSz = some sz) : i = 0 ∧ c.tipSz = some sz := by
  cases c <;> first
    | (simp only [AV.scells] at h
       cases i with
       | zero => simp at h; exact ⟨rfl, h⟩
       | succ i => simp at h)
    | skip
  rename_i cs
  simp only [AV.scells, List.getElem?_map] at h
  cases hc : cs[i]? with
  | none => rw [hc] at h; simp at h
  | some c => rw [hc] at h; simp [dem_tip] at h
end
end Go.Vs
