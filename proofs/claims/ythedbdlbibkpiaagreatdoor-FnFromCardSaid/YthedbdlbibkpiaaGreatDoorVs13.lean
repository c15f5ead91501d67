/- append. -/
import Derived.Test.YthedbdlbibkpiaaGreatDoorVs12
set_option linter.unusedVariables false
namespace Go.Vs
open Go Go.RowKit

section
variable {C : Ctx} {e : Env} {σ τ : Mem} {bm : Nat → Option Nat} {s s' : S} {a : Act} {w w' : World} {call : Call} {o : Oper} {c : AV}

theorem RepL_cells {fid : Nat → Nat} : ∀ {cs : List AV} {f : Nat → Option Value}, RepL fid σ cs f → ∃ l : List Value, l.length = cs.length ∧ (∀ j u, l[j]? = some u → f j = some u) ∧ RepL fid σ cs (fun j => l[j]?)
  | [], f, _ => ⟨[], rfl, fun j u h => by simp at h, by simp [RepL]⟩
  | c :: cs, f, h => by
    simp only [RepL] at h
    obtain ⟨⟨v, h1, h2⟩, h3⟩ := h
    obtain ⟨l, k1, k2, k3⟩ := RepL_cells h3
    refine ⟨v :: l, by simp [k1], fun j u hj => ?_, ?_⟩
    · cases j with
      | zero => simp at hj; subst hj; exact h1
      | succ j => exact k2 j u (by simpa using hj)
    · simp only [RepL]
      exact ⟨⟨v, rfl, h2⟩, by simpa using k3⟩
theorem RepR_cells {fid : Nat → Nat} {sz : Nat} : ∀ {xs : List (List AV)} {f : Nat → Option Value}, RepR fid σ sz xs f → ∃ l : List Value, l.length = xs.length * sz ∧ (∀ j u, l[j]? = some u → f j = some u) ∧ RepR fid σ sz xs (fun j => l[j]?)
  | [], f, _ => ⟨[], by simp, fun j u h => by simp at h, by simp [RepR]⟩
  | r :: xs, f, h => by
    simp only [RepR] at h
    obtain ⟨h1, h2, h3⟩ := h
    obtain ⟨l1, j1, j2, j3⟩ := RepL_cells h2
    obtain ⟨l2, k1, k2, k3⟩ := RepR_cells h3
    refine ⟨l1 ++ l2, by simp [j1, k1, h1, Nat.add_mul]; omega, fun j u hj => ?_, ?_⟩
    · by_cases hlt : j < l1.length
      · rw [List.getElem?_append_left hlt] at hj; exact j2 j u hj
      · rw [List.getElem?_append_right (by omega)] at hj
        have := k2 _ u hj
        rwa [show sz + (j - l1.length) = j by omega] at this
    · simp only [RepR]
      refine ⟨h1, ?_, ?_⟩
      · rw [RepL_iff] at j3 ⊢
        intro i c hc
        obtain ⟨v, q1, q2⟩ := j3 i c hc
        exact ⟨v, by rw [List.getElem?_append_left (List.getElem?_eq_some_iff.1 q1).1]; exact q1, q2⟩
      · have e : (fun i : Nat => (l1 ++ l2)[sz + i]?) = (fun i : Nat => l2[i]?) := by
          funext i
          rw [List.getElem?_append_right (by omega)]
          congr 1; omega
        rw [e]; exact k3

/-- A block of the frame's own, neither a variable nor one that anybody may append to, is written. -/
theorem RelX.touch (h : RelX C.fid e σ bm s a w) {B : Nat} (hown : e.own B) (hbox : ∀ b, bm b ≠ some B) (htip : ∀ p sz, tipAt s p = some sz → tipBlk (valAt a w bm p) ≠ some B)
    (hother : ∀ B', B' ≠ B → w'.heap[B']? = w.heap[B']?) (hsize : w'.heap.size = w.heap.size) (hos : w'.os = w.os) (htape : w'.tape = w.tape) (hout : w'.output = w.output)
    (hle : σ.le τ) (hτ : ∀ B' i, B' ≠ B → τ B' i = σ B' i) (hmem : ∀ i v, τ B i = some v → w'.cell? ⟨B, i, none⟩ = some v ∧ v.oneCell' = true) : RelX C.fid e τ bm s a w' := by
  have hval : ∀ p sz, tipAt s p = some sz → valAt a w' bm p = valAt a w bm p := by
    intro p sz hp
    cases p with
    | t t => rfl
    | c b i =>
      simp only [valAt]
      cases hb : bm b with
      | none => rfl
      | some B' =>
        have hne : B' ≠ B := fun hh => hbox b (by rw [hb, hh])
        simp only [Option.bind_some, cell_eq (hother B' hne)]
  refine { defers := h.defers, size := h.size, tmps := fun t => RepT_mono (h.tmps t) hle, boxes := fun b c hb => ?_, dead := h.dead, inj := h.inj, par := h.par, newb := h.newb, seenB := h.seenB, seenT := h.seenT,
           mem := fun B' i v hv => ?_, one := fun B' i v hv => ?_, old := fun B' h1 h2 => ?_, oldσ := fun B' h1 h2 => ?_, leσ := Mem.le_trans h.leσ hle, grown := by rw [hsize]; exact h.grown,
           os := hos.trans h.os, tape := htape.trans h.tape, output := hout.trans h.output, tip := fun p sz hp => ?_, dist := fun p q sz sz' B' hp hq h1 h2 => ?_ }
  · obtain ⟨B', h1, h2, h3, h4⟩ := h.boxes b c hb
    have hne : B' ≠ B := fun hh => hbox b (by rw [h1, hh])
    exact ⟨B', h1, BoxOk_mono h2 hle (hother B' hne), h3, fun i => by rw [hτ B' i hne]; exact h4 i⟩
  · by_cases hB : B' = B
    · subst hB; exact (hmem i v hv).1
    · rw [hτ B' i hB] at hv
      rw [cell_eq (hother B' hB)]; exact h.mem B' i v hv
  · by_cases hB : B' = B
    · subst hB; exact (hmem i v hv).2
    · rw [hτ B' i hB] at hv; exact h.one B' i v hv
  · have hne : B' ≠ B := by
      intro hh; subst hh
      rcases hown with k | k
      · omega
      · exact h2 k
    rw [hother B' hne]; exact h.old B' h1 h2
  · have hne : B' ≠ B := by
      intro hh; subst hh
      rcases hown with k | k
      · omega
      · exact h2 k
    funext i
    rw [hτ B' i hne, h.oldσ B' h1 h2]
  · rw [hval p sz hp]
    obtain ⟨A, n, cap, h1, h2⟩ := h.tip p sz hp
    refine ⟨A, n, cap, h1, ?_⟩
    by_cases hc : cap = 0
    · exact .inl hc
    · rcases h2 with h2 | ⟨B', o', vs, t, m, k1, k2, k3, k4, k5, k6, k7⟩
      · exact .inl h2
      · have hne : B' ≠ B := by
          intro hh
          refine htip p sz hp ?_
          rw [h1, k1]; simp [tipBlk, hc, hh]
        exact .inr ⟨B', o', vs, t, m, k1, (hother B' hne).trans k2, k3, k4, fun i hi => by rw [hτ B' i hne]; exact k5 i hi, k6, k7⟩
  · rw [hval p sz hp] at h1
    rw [hval q sz' hq] at h2
    exact h.dist p q sz sz' B' hp hq h1 h2

/-- A new block, longer than what is sealed of it. -/
theorem Ready.newRowCap (h : RelX C.fid e σ bm s a w) {vs : Array Value} {el : TypeId} {sz n cap : Nat} {xs : List (List AV)} (hn : n = xs.length) (hcap : n ≤ cap) (hl : vs.size = cap * sz) (hone : ∀ i v, i < n * sz → vs[i]? = some v → v.oneCell' = true) (hr : RepR C.fid σ sz xs (fun i => if i < n * sz then vs[i]? else none)) :
    Ready C e s (.sl .tip sz xs) (.slice (some ⟨w.heap.size, 0, none⟩) n cap) a { w with heap := w.heap.push (.cells vs el) } := by
  have hσ : ∀ i, σ w.heap.size i = none := by
    intro i
    cases hh : σ w.heap.size i with
    | none => rfl
    | some v => exact absurd (Mem.le_of_world h _ _ _ hh) (Nat.lt_irrefl _)
  let τ : Mem := fun B i => if B = w.heap.size then (if i < n * sz then vs[i]? else none) else σ B i
  have hle : σ.le τ := by
    intro B i v hv
    by_cases hB : B = w.heap.size
    · subst hB; rw [hσ i] at hv; cases hv
    · simp [τ, hB, hv]
  have hnew : ({ w with heap := w.heap.push (.cells vs el) } : World).heap[w.heap.size]? = some (.cells vs el (0, 0)) := by simp
  have hrel : RelX C.fid e τ bm s a { w with heap := w.heap.push (.cells vs el) } := by
    refine h.world hle (fun B i v hv => ?_) (fun B i hB => by simp [τ, Nat.ne_of_lt hB]) (fun B i v hv => ?_) (fun B hB => ?_) (by simp) rfl rfl rfl
    · by_cases hB : B = w.heap.size
      · simp only [τ, hB, if_true] at hv
        split at hv
        · rename_i hi; exact hone i v hi hv
        · cases hv
      · simp only [τ, hB, if_false] at hv; exact h.one _ _ _ hv
    · by_cases hB : B = w.heap.size
      · subst hB
        simp only [τ, if_true] at hv
        split at hv
        · rw [cell_of hnew]; exact hv
        · cases hv
      · simp only [τ, hB, if_false] at hv
        have hlt := Mem.le_of_world h B i v hv
        rw [← h.mem B i v hv]
        exact cell_eq (by simp only []; rw [Array.getElem?_push_lt hlt, Array.getElem?_eq_getElem hlt])
    · simp only []; rw [Array.getElem?_push_lt hB, Array.getElem?_eq_getElem hB]
  refine ⟨τ, bm, hrel, ?_, (fun b hb => by cases hb), fun sz' hsz' => ?_⟩
  · refine ⟨_, n, cap, rfl, hn, hcap, ⟨fun h => (by cases h), fun h => (by cases h)⟩, ?_⟩
    by_cases h0 : n = 0
    · exact .inl h0
    · refine .inr ⟨w.heap.size, 0, rfl, ?_⟩
      have : (fun i => τ w.heap.size (0 + i)) = (fun i => if i < n * sz then vs[i]? else none) := by funext i; simp [τ]
      rw [this]
      exact RepR_mono hle _ _ _ (fun _ _ h => h) hr
  · simp only [AV.tipSz, Option.some.injEq] at hsz'
    subst hsz'
    refine ⟨⟨_, n, cap, rfl, .inr ⟨w.heap.size, 0, vs, el, (0, 0), rfl, hnew, noFrz0 _, by omega, fun i hi => ?_, .inl h.grown, fun b hb => absurd (bm_lt h hb) (Nat.lt_irrefl _)⟩⟩, fun p sz2 B hp h1 h2 => ?_⟩
    · simp only [τ, if_true]
      rw [if_neg (by omega)]
    · have h3 : B = w.heap.size := by
        simp only [tipBlk] at h1
        split at h1
        · cases h1
        · injection h1 with h1; exact h1.symm
      subst h3
      have hv : valAt a { w with heap := w.heap.push (.cells vs el) } bm p = valAt a w bm p := by
        cases p with
        | t t => rfl
        | c b i =>
          simp only [valAt]
          cases hb : bm b with
          | none => rfl
          | some B' =>
            have hlt := bm_lt h hb
            simp only [Option.bind_some]
            rw [cell_eq (w := w) (by simp only []; rw [Array.getElem?_push_lt hlt, Array.getElem?_eq_getElem hlt])]
      rw [hv] at h2
      exact absurd (tipBlk_lt h hp h2) (Nat.lt_irrefl _)

theorem op_app (hG : GOk C σ) (h : RelX C.fid e σ bm s a w) {sz : Nat} {x y : Opnd} {y1 y2 : Operand} {t u el ul : TypeId} {cl : Go.Call} {i : TypeInfo} {z : Value}
    (ho : o.op = .call cl) (hcl : cl.callee = .builtin .append) (hargs : cl.args = #[y1, y2]) (hts : cl.argTypes = #[t, u]) (hx : okO C x y1 = true) (hy : okO C y y2 = true)
    (ht : C.P.underlying t = some (.slice el)) (hu : C.P.underlying u = some (.slice ul)) (hi : C.P.info? el = some i) (hz : i.zero = some z) (hsz : i.size = sz) (hzs : z.cells.size = sz) (hpos : 0 < sz) (hby : i.bytes ≤ 32768)
    (hev : evalK call C.G s (.app sz x y) = some (c, s')) : OpRes C e s' c a ((execOp a.eval o).run C.P w) := by
  simp only [evalK] at hev
  have hrx := get_rep hG h hx
  have hry := get_rep hG h hy
  split at hev
  rotate_left
  · cases hev
  rename_i m sz1 xs m2 sz2 ys g1 g2
  split at hev
  rotate_left
  · cases hev
  rename_i hc
  obtain ⟨hm, hs1, hs2, hlen⟩ := hc
  have e1 : sz = sz1 := hs1.symm
  subst e1
  have e2 : sz = sz2 := hs2.symm
  subst e2
  simp only [Option.some.injEq, Prod.mk.injEq] at hev
  obtain ⟨rfl, rfl⟩ := hev
  rw [g1] at hrx
  rw [g2] at hry
  obtain ⟨A, n, cap, hv1, hn, hcap, hzero, hrowsx⟩ := hrx
  obtain ⟨A2, k, cap2, hv2, hk, hcap2, _, hrowsy⟩ := hry
  have hd := h.drop x
  have hdb : (s.drop x).b = s.b := by cases x <;> rfl
  -- the source's cells
  obtain ⟨news, n1, n2, n3⟩ : ∃ news : List Value, news.length = k * sz ∧ (k = 0 ∨ ∃ B o', A2 = some ⟨B, o', none⟩ ∧ ∀ j u, news[j]? = some u → σ B (o' + j) = some u) ∧ RepR C.fid σ sz ys (fun j => news[j]?) := by
    rcases hrowsy with h0 | ⟨B, o', hA, hR⟩
    · have : ys = [] := List.eq_nil_of_length_eq_zero (by omega)
      exact ⟨[], by simp [h0], .inl h0, by rw [this]; simp [RepR]⟩
    · obtain ⟨l, q1, q2, q3⟩ := RepR_cells hR
      exact ⟨l, by rw [q1, hk], .inr ⟨B, o', hA, q2⟩, q3⟩
  have nOne : ∀ v ∈ news, v.oneCell' = true := by
    intro v hv
    obtain ⟨j, hj⟩ := List.getElem?_of_mem hv
    rcases n2 with h0 | ⟨B, o', _, hs⟩
    · have := (List.getElem?_eq_some_iff.1 hj).1; rw [n1, h0] at this; omega
    · exact h.one _ _ _ (hs j v hj)
  have hsrc : Src C.P i.size u (a.eval y2) k news w := by
    rw [hv2, hsz]
    rcases n2 with h0 | ⟨B, o', hA, hs⟩
    · subst h0
      cases A2 with
      | none =>
        have : news = [] := List.eq_nil_of_length_eq_zero (by simpa using n1)
        subst this; exact Src.ofNil w hu cap2
      | some a2 =>
        have : news = [] := List.eq_nil_of_length_eq_zero (by simpa using n1)
        subst this
        exact Src.ofSlice w hu a2 0 cap2 [] (by simp) (fun j u h => by simp at h) (fun u h => by cases h)
    · rw [hA]
      exact Src.ofSlice w hu _ k cap2 news n1 (fun j u hj => by rw [Addr.add_mid]; exact h.mem _ _ _ (hs j u hj)) nOne
  have fin : ∀ {v : Value} {w1 : World}, (Builtin.append_ #[t, u] o.type #[a.eval y1, a.eval y2]).run C.P w = .ok v w1 → Ready C e (s.drop x) (.sl .tip sz (xs ++ ys)) v a w1 → OpRes C e (s.drop x) (.sl .tip sz (xs ++ ys)) a ((execOp a.eval o).run C.P w) := by
    intro v w1 hrun hready
    refine .inl ⟨v, w1, ?_, hready⟩
    simp only [execOp, ho, resolve, hcl, hargs, hts, Sem.run_bind, Sem.run_pure, Result.andThen_ok, invoke, builtin]
    have : (#[y1, y2] : Array Operand).map a.eval = #[a.eval y1, a.eval y2] := by simp
    rw [this, hrun]
    rfl
  -- a slice of capacity 0, or one that may be appended to in place
  by_cases hgrow : cap < n + k
  · -- a new row
    obtain ⟨olds, o1, o2, o3⟩ : ∃ olds : List Value, olds.length = n * sz ∧ (Builtin.firstCells i.size n (.slice A n cap)).run C.P w.drew = .ok olds.toArray w.drew ∧ (RepR C.fid σ sz xs (fun j => olds[j]?) ∧ ∀ v ∈ olds, v.oneCell' = true) := by
      rcases hrowsx with h0 | ⟨B, o', hA, hR⟩
      · have : xs = [] := List.eq_nil_of_length_eq_zero (by omega)
        refine ⟨[], by simp [h0], ?_, by rw [this]; simp [RepR], fun v hv => by cases hv⟩
        subst h0
        cases A with
        | none => exact run_firstCells_none w.drew i.size 0 0 cap
        | some a1 => exact run_firstCells_some w.drew i.size 0 a1 0 cap [] (by simp) (fun j u h => by simp at h)
      · obtain ⟨l, q1, q2, q3⟩ := RepR_cells hR
        refine ⟨l, by rw [q1, hn], ?_, q3, fun v hv => ?_⟩
        · rw [hA]
          refine run_firstCells_some w.drew i.size n _ n cap l (by rw [q1, hn, hsz]) (fun j u hj => ?_)
          rw [Addr.add_mid]
          have := h.mem _ _ _ (q2 j u hj)
          simpa using this
        · obtain ⟨j, hj⟩ := List.getElem?_of_mem hv
          exact h.one _ _ _ (q2 j v hj)
    have hfit : Builtin.nextslicecap (n + k) cap * i.bytes ≤ 281474976710656 := by
      refine growslice_fits hgrow ?_
      have h1 : (n + k) * i.bytes ≤ 4294967296 * 32768 := Nat.mul_le_mul (by omega) hby
      omega
    have hrun := run_append_grow_src (P := C.P) w t u o.type el i z ht hi hz A n cap olds o2 (a.eval y2) k news hsrc hgrow (by omega) hfit
    have hge := grownCap_ge w (n + k) cap el
    rw [← hv1] at hrun
    have hrel := hd.drawn (w.drawn + 1)
    have hzc : (Builtin.zeroCells z.cells (grownCap w (n + k) cap el - (n + k))).size = (grownCap w (n + k) cap el - (n + k)) * sz := by
      simp [Builtin.zeroCells, hzs]
    have hready := Ready.newRowCap (C := C) (e := e) hrel (vs := (olds ++ news).toArray ++ Builtin.zeroCells z.cells (grownCap w (n + k) cap el - (n + k))) (el := el) (sz := sz) (n := n + k) (cap := grownCap w (n + k) cap el) (xs := xs ++ ys)
      (by simp [hn, hk]) hge (by
        simp only [Array.size_append, List.size_toArray, List.length_append, o1, n1, hzc]
        rw [← Nat.add_mul, ← Nat.add_mul]; congr 1; omega) (by
        intro j v hj hv
        rw [Array.getElem?_append_left (by simp [o1, n1, ← Nat.add_mul]; exact hj)] at hv
        have hv' : (olds ++ news)[j]? = some v := by simpa using hv
        rcases List.mem_append.1 (List.mem_of_getElem? hv') with h1 | h1
        · exact o3.2 v h1
        · exact nOne v h1) (by
        have hget : ∀ j, j < (n + k) * sz → (if j < (n + k) * sz then ((olds ++ news).toArray ++ Builtin.zeroCells z.cells (grownCap w (n + k) cap el - (n + k)))[j]? else none) = (olds ++ news)[j]? := by
          intro j hj
          rw [if_pos hj, Array.getElem?_append_left (by simp [o1, n1, ← Nat.add_mul]; exact hj)]
          simp
        rw [RepR_append]
        refine ⟨RepR_mono (Mem.le_refl σ) _ _ _ (fun j v hj => ?_) o3.1, RepR_mono (Mem.le_refl σ) _ _ _ (fun j v hj => ?_) n3⟩
        · have hlt := (List.getElem?_eq_some_iff.1 hj).1
          rw [hget j (by rw [Nat.add_mul]; omega), List.getElem?_append_left hlt]; exact hj
        · have hlt := (List.getElem?_eq_some_iff.1 hj).1
          have hxn : xs.length * sz = n * sz := by rw [hn]
          rw [hget _ (by rw [Nat.add_mul]; omega), List.getElem?_append_right (by omega)]
          rw [show xs.length * sz + j - olds.length = j by omega]; exact hj)
    exact fin hrun hready
  · -- in place
    by_cases hc0 : cap = 0
    · have hn0 : n = 0 := by omega
      have hk0 : k = 0 := by omega
      have hxs : xs = [] := List.eq_nil_of_length_eq_zero (by omega)
      have hys : ys = [] := List.eq_nil_of_length_eq_zero (by omega)
      have hnews : news = [] := List.eq_nil_of_length_eq_zero (by rw [n1, hk0]; simp)
      have hcells := hsrc.cells
      rw [hnews, hk0] at hcells
      have hle := hsrc.len w
      rw [hk0] at hle
      have hrun : (Builtin.append_ #[t, u] o.type #[a.eval y1, a.eval y2]).run C.P w = .ok (.slice A 0 0) w := by
        rw [hv1, hn0, hc0]
        cases A <;> simp [Builtin.append_, run_underlying ht, run_underlying hu, sizeOf, typeInfo, hi, hle, hcells, storeCells]
      refine fin hrun ⟨σ, bm, hd, ?_, (fun b hb => by cases hb), fun sz' hs' => ⟨⟨A, 0, 0, rfl, .inl rfl⟩, fun p sz2 B hp h1 h2 => ?_⟩⟩
      · refine ⟨A, 0, 0, rfl, by simp [hxs, hys], Nat.le_refl _, ⟨fun _ => rfl, fun _ => rfl⟩, .inl rfl⟩
      · cases A <;> simp [tipBlk] at h1
    · -- the right to append
      have hmt : m = .tip := by
        cases m with
        | zero => exact absurd (hzero.1 rfl) hc0
        | tip => rfl
        | share => exact absurd rfl hm.1
        | full =>
          exfalso
          have h1 := hzero.2 rfl
          have h2 := hm.2 rfl
          have h3 : ys.length ≠ 0 := fun h => h2 (List.eq_nil_of_length_eq_zero h)
          omega
      subst hmt
      obtain ⟨t1, rfl⟩ : ∃ t1, x = .take t1 := by
        cases x with
        | tmp t1 =>
          exfalso
          have := dem_tip (s.t t1)
          rw [show (s.t t1).dem = _ from g1] at this
          cases this
        | take t1 => exact ⟨t1, rfl⟩
        | const c0 =>
          exfalso
          cases y1 <;> simp [okO] at hx
          have := okC_tip hx
          rw [show c0 = _ from g1] at this
          cases this
        | func g => cases g1
        | glob g => cases g1
      cases y1 <;> simp [okO] at hx
      subst hx
      have hst : tipAt s (.t t1) = some sz := by
        simp only [tipAt]
        rw [show s.t t1 = _ from g1]; rfl
      obtain ⟨A', n', cap', e1, e2⟩ := h.tip (.t t1) sz hst
      have hval : valAt a w bm (.t t1) = .slice A n cap := hv1
      rw [hval] at e1
      injection e1 with e1 e3 e4
      subst e1 e3 e4
      rcases e2 with e2 | ⟨B, o', arr, ty, mk, k1, k2, k3, k4, k5, k6, k7⟩
      · exact absurd e2 hc0
      · subst k1
        have hkn : n * sz + k * sz ≤ cap * sz := by rw [← Nat.add_mul]; exact Nat.mul_le_mul_right sz (by omega)
        have hrun := run_append_room_src (P := C.P) w t u o.type el i ht hi B o' n cap (a.eval y2) k news hsrc (by omega) (fun j hj => by
            have : o' + n * sz + j < arr.size := by omega
            rw [hsz, cell_of k2]; simp [this]) (fun j hj => by
            rw [hsz]; exact frozen_of k2 k3 (by omega))
        rw [hsz, ← hv1] at hrun
        obtain ⟨r1, r2, r3, r4⟩ := setCells_rest B news (o' + n * sz) w
        have hheap := heap_setCells B news (o' + n * sz) w arr ty mk k2
        let τ : Mem := fun B' j => if B' = B ∧ o' + n * sz ≤ j ∧ j < o' + n * sz + k * sz then news[j - (o' + n * sz)]? else σ B' j
        have hle : σ.le τ := by
          intro B' j v hv
          by_cases hh : B' = B ∧ o' + n * sz ≤ j ∧ j < o' + n * sz + k * sz
          · rw [hh.1, k5 j hh.2.1] at hv; cases hv
          · simp only [τ, if_neg hh]; exact hv
        have hnt : ∀ p sz', tipAt (s.drop (.take t1)) p = some sz' → tipAt s p = some sz' ∧ p ≠ .t t1 := by
          intro p sz' hp
          cases p with
          | t v =>
            simp only [tipAt, S.drop, upd_at] at hp
            by_cases hu : v = t1
            · subst hu; simp [dem_tip] at hp
            · simp [hu] at hp; exact ⟨hp, fun e => hu (by injection e)⟩
          | c b i => exact ⟨hp, fun e => by cases e⟩
        have hblk : tipBlk (valAt a w bm (.t t1)) = some B := by rw [hval]; simp [tipBlk, hc0]
        have hnotip : ∀ p sz', tipAt (s.drop (.take t1)) p = some sz' → tipBlk (valAt a w bm p) ≠ some B := by
          intro p sz' hp hB
          obtain ⟨q1, q2⟩ := hnt p sz' hp
          exact q2 (h.dist p (.t t1) sz' sz B q1 hst hB hblk)
        have hrel : RelX C.fid e τ bm (s.drop (.take t1)) a (w.setCells B (o' + n * sz) news) := by
          refine hd.touch (B := B) k6 k7 hnotip (fun B' hne => heap_setCells_other B B' hne _ _ _) r1 r2 r3 r4 hle (fun B' j hne => by simp [τ, hne]) (fun j v hv => ?_)
          by_cases hh : o' + n * sz ≤ j ∧ j < o' + n * sz + k * sz
          · simp only [τ, true_and, if_pos hh] at hv
            refine ⟨?_, nOne v (List.mem_of_getElem? hv)⟩
            rw [cell_of hheap]
            have := writeArr_in news arr (o' + n * sz) (j - (o' + n * sz)) (by omega) (by omega)
            rw [show o' + n * sz + (j - (o' + n * sz)) = j by omega] at this
            rw [this]; exact hv
          · simp only [τ, true_and, if_neg hh] at hv
            refine ⟨?_, h.one _ _ _ hv⟩
            have hj : j < o' + n * sz := by
              rcases Nat.lt_or_ge j (o' + n * sz) with hl | hl
              · exact hl
              · rw [k5 j hl] at hv; cases hv
            rw [cell_of hheap, writeArr_out _ _ _ _ (by omega), ← cell_of k2]
            exact h.mem _ _ _ hv
        refine fin hrun ⟨τ, bm, hrel, ?_, (fun b hb => by cases hb), fun sz' hs' => ?_⟩
        · refine ⟨_, n + k, cap, rfl, by simp [hn, hk], by omega, ⟨fun h => (by cases h), fun h => (by cases h)⟩, .inr ⟨B, o', rfl, ?_⟩⟩
          rw [RepR_append]
          refine ⟨?_, RepR_mono hle _ _ _ (fun j v hj => ?_) n3⟩
          · rcases hrowsx with h0 | ⟨B', o2, hA, hR⟩
            · have : xs = [] := List.eq_nil_of_length_eq_zero (by omega)
              rw [this]; simp [RepR]
            · injection hA with hA
              injection hA with hA1 hA2
              subst hA1 hA2
              exact RepR_mono hle _ _ _ (fun j v hj => hle _ _ _ hj) hR
          · have hlt := (List.getElem?_eq_some_iff.1 hj).1
            rw [n1] at hlt
            have hh : o' + n * sz ≤ o' + (xs.length * sz + j) ∧ o' + (xs.length * sz + j) < o' + n * sz + k * sz := by rw [← hn]; omega
            simp only [τ, true_and, if_pos hh]
            rw [← hn, show o' + (n * sz + j) - (o' + n * sz) = j by omega]; exact hj
        · simp only [AV.tipSz, Option.some.injEq] at hs'
          subst hs'
          refine ⟨⟨_, n + k, cap, rfl, .inr ⟨B, o', _, ty, mk, rfl, hheap, fun i hi => k3 i (by rwa [writeArr_size] at hi), by rw [writeArr_size]; exact k4, fun j hj => ?_, k6, k7⟩⟩, fun p sz2 B' hp h1 h2 => ?_⟩
          · rw [Nat.add_mul] at hj
            have hh : ¬ (o' + n * sz ≤ j ∧ j < o' + n * sz + k * sz) := by omega
            simp only [τ, true_and, if_neg hh]
            exact k5 j (by omega)
          · have : B' = B := by simp [tipBlk, hc0] at h1; exact h1.symm
            subst this
            have hv : valAt a (w.setCells B' (o' + n * sz) news) bm p = valAt a w bm p := by
              cases p with
              | t t => rfl
              | c b i =>
                simp only [valAt]
                cases hb : bm b with
                | none => rfl
                | some B2 =>
                  have hne : B2 ≠ B' := fun hh => k7 b (by rw [hb, hh])
                  simp only [Option.bind_some]
                  rw [cell_eq (heap_setCells_other B' B2 hne _ _ _)]
            rw [hv] at h2
            exact hnotip p sz2 hp h2
end
end Go.Vs
