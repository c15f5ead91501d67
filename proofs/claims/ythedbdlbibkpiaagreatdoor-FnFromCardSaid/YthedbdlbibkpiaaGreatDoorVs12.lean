/- Structs and slices that are built, closures, greatest and least, comparisons of structs. -/
import Derived.Test.YthedbdlbibkpiaaGreatDoorVs11
set_option linter.unusedVariables false
namespace Go.Vs
open Go Go.RowKit

theorem fold_write : ∀ (l : List Value) (k off : Nat) (cells : Array Value), (l.zipIdx k).foldl (fun cs x => cs.setIfInBounds (off + x.2) x.1) cells = writeArr cells (off + k) l
  | [], _, _, _ => rfl
  | v :: l, k, off, cells => by
    simp only [List.zipIdx_cons, List.foldl_cons, writeArr]
    rw [fold_write l (k + 1) off, Nat.add_assoc]

theorem fill_step {pl : Nat → Option (Nat × Nat)} {cells : Array Value} {i off n : Nat} {v : Value} {rest : List (Nat × Value)} (hp : pl i = some (off, n)) (hv : v.cells.size = n) (hle : off + n ≤ cells.size) :
    Instr.fill pl cells ((i, v) :: rest) = Instr.fill pl (writeArr cells off v.cells.toList) rest := by
  simp only [Instr.fill, hp]
  have : ¬ ((decide (v.cells.size ≠ n) || decide (off + v.cells.size > cells.size)) = true) := by simp; omega
  rw [if_neg this]
  congr 1
  have := fold_write v.cells.toList 0 off cells
  simp only [Nat.add_zero] at this
  rw [← this, ← Array.foldl_toList]
  simp [Array.toList_zipIdx]

/-- The parts, as the machine has them. -/
inductive Parts (fid : Nat → Nat) (σ : Mem) (pl : Nat → Option (Nat × Nat)) : List (Nat × Nat × AV) → List (Nat × Value) → Prop
  | nil : Parts fid σ pl [] []
  | cons {off n i : Nat} {c : AV} {v : Value} {r : List (Nat × Nat × AV)} {vr : List (Nat × Value)} (h1 : pl i = some (off, n)) (h2 : (c.cells.all AV.one) = true → RepP fid σ c v) (h3 : Parts fid σ pl r vr) : Parts fid σ pl ((off, n, c) :: r) ((i, v) :: vr)

theorem fill_rep {fid : Nat → Nat} {σ : Mem} {pl : Nat → Option (Nat × Nat)} {ps : List (Nat × Nat × AV)} {vs : List (Nat × Value)} (h : Parts fid σ pl ps vs) : ∀ {cs r : List AV} {cells : Array Value}, cells.size = cs.length → RepL fid σ cs (fun i => cells[i]?) → fillP cs ps = some r →
    ∃ out, Instr.fill pl cells vs = some out ∧ out.size = r.length ∧ RepL fid σ r (fun i => out[i]?) := by
  induction h with
  | nil =>
    intro cs r cells h1 h2 h3
    simp only [fillP, Option.some.injEq] at h3
    subst h3
    exact ⟨cells, rfl, h1, h2⟩
  | @cons off n i c v ps vs hp hr _ ih =>
    intro cs r cells h1 h2 h3
    simp only [fillP] at h3
    split at h3
    · rename_i hc
      obtain ⟨hn, hone⟩ := hc
      obtain ⟨c1, c2, c3⟩ := cells_rep (hr hone) hone
      cases hov : over cs off (c.cells.map AV.dem) with
      | none => rw [hov] at h3; cases h3
      | some cs' =>
        rw [hov] at h3
        simp only [bnd_some] at h3
        obtain ⟨l1, l2⟩ := over_len hov
        rw [List.length_map] at l2
        rw [fill_step hp (by omega) (by omega)]
        refine ih (by rw [writeArr_size, l1]; exact h1) ?_ h3
        exact RepL_over hov (by rw [List.length_map]; omega) (by rw [List.length_map]; simpa using c1) h2 (by simpa using RepL_map (fun _ _ hr => RepP_dem hr) c2)
    · cases h3

theorem mapM_get {α β : Type} {f : α → Option β} : ∀ {l : List α} {r : List β}, l.mapM f = some r → ∀ (i : Nat) (x : α), l[i]? = some x → ∃ y, f x = some y ∧ r[i]? = some y
  | [], _, _, i, x, h => by simp at h
  | a :: l, r, h, i, x, hx => by
    simp only [List.mapM_cons, Option.bind_eq_bind, Option.pure_def] at h
    cases ha : f a with
    | none => rw [ha] at h; cases h
    | some y =>
      rw [ha] at h
      simp only [Option.bind_some] at h
      cases hl : l.mapM f with
      | none => rw [hl] at h; cases h
      | some r' =>
        rw [hl] at h
        simp only [Option.bind_some, Option.some.injEq] at h
        subst h
        cases i with
        | zero => simp at hx; subst hx; exact ⟨y, ha, rfl⟩
        | succ i => exact mapM_get hl i x (by simpa using hx)

section
variable {C : Ctx} {e : Env} {σ τ : Mem} {bm : Nat → Option Nat} {s s' : S} {a : Act} {w w' : World} {call : Call} {o : Oper} {c : AV}

/-- The parts of a struct or an array, place by place. -/
def okParts (C : Ctx) (pl : Nat → Option (Nat × Nat)) : List (Nat × Nat × Opnd) → List (Nat × Operand) → Bool
  | [], [] => true
  | (off, n, x) :: r, (i, y) :: q => (pl i == some (off, n)) && okO C x y && okParts C pl r q
  | _, _ => false
theorem okParts_spec (hG : GOk C σ) (h : RelX C.fid e σ bm s a w) {pl : Nat → Option (Nat × Nat)} : ∀ {ps : List (Nat × Nat × Opnd)} {qs : List (Nat × Operand)}, okParts C pl ps qs = true → Parts C.fid σ pl (ps.map fun p => (p.1, p.2.1, s.get C.G p.2.2)) (qs.map fun q => (q.1, a.eval q.2))
  | [], [], _ => .nil
  | [], _ :: _, h => by simp [okParts] at h
  | _ :: _, [], h => by simp [okParts] at h
  | (off, n, x) :: r, (i, y) :: q, hk => by
    simp only [okParts, Bool.and_eq_true, beq_iff_eq] at hk
    exact .cons hk.1.1 (fun hone => (RepT_of (isP_of_one hone)).1 (get_rep hG h hk.1.2)) (okParts_spec hG h hk.2)

def placesOf (P : Program) (t : TypeId) : Option (Nat → Option (Nat × Nat)) :=
  match P.underlying t with
  | some (.struct fields) => (fields.toList.mapM (fun f => (P.info? f.type).map fun i => (f.offset, i.size))).map fun places => (places[·]?)
  | some (.array _ el) => (tsz P el).map fun n i => some (i * n, n)
  | _ => none

theorem op_build (hG : GOk C σ) (h : RelX C.fid e σ bm s a w) {zero : List AV} {ps : List (Nat × Nat × Opnd)} {qs : Array (Nat × Operand)} {t : TypeId} {pl : Nat → Option (Nat × Nat)} (ho : o.op = .build t qs) (hz : okZero C.P zero t = true) (hpl : placesOf C.P t = some pl) (hp : okParts C pl ps qs.toList = true)
    (hev : evalK call C.G s (.build zero ps) = some (c, s')) : OpRes C e s' c a ((execOp a.eval o).run C.P w) := by
  simp only [evalK] at hev
  cases hf : fillP zero (ps.map fun p => (p.1, p.2.1, s.get C.G p.2.2)) with
  | none => rw [hf] at hev; cases hev
  | some cs =>
    rw [hf] at hev
    simp only [bnd_some, Option.some.injEq, Prod.mk.injEq] at hev
    obtain ⟨rfl, rfl⟩ := hev
    obtain ⟨i, z, h1, h2, h3, _⟩ := okZero_spec hz
    obtain ⟨out, k1, k2, k3⟩ := fill_rep (okParts_spec hG h hp) (cells := z.cells) (by simpa using (okCs_len h3).symm) (by simpa using okCs_rep (fid := C.fid) (σ := σ) h3) hf
    have hb : C.P.built t (qs.toList.map fun q => (q.1, a.eval q.2)) = some out := by
      unfold Program.built
      unfold placesOf at hpl
      cases hu : C.P.underlying t with
      | none => rw [hu] at hpl; cases hpl
      | some d =>
        rw [hu] at hpl
        cases d <;> first | (cases hpl; done) | skip
        case array n el =>
          simp only at hpl
          unfold tsz at hpl
          cases hi : C.P.info? el with
          | none => rw [hi] at hpl; cases hpl
          | some ie =>
            rw [hi] at hpl
            simp only [Option.map_some, Option.some.injEq] at hpl
            subst hpl
            simp only [h1, h2]
            rw [hi]
            exact k1
        case struct fields =>
          simp only at hpl
          cases hm : fields.toList.mapM (fun f => (C.P.info? f.type).map fun i => (f.offset, i.size)) with
          | none => rw [hm] at hpl; cases hpl
          | some places =>
            rw [hm] at hpl
            simp only [Option.map_some, Option.some.injEq] at hpl
            subst hpl
            simp only [h1, h2]
            rw [hm]
            simpa using k1
    have hrun := run_build (P := C.P) w t (qs.map fun (i, x) => (i, a.eval x)) out (by simpa using hb)
    refine .inl ⟨.agg out, w, ?_, Ready.plain h ⟨out, rfl, k2, k3⟩ rfl⟩
    simp only [execOp, ho]
    rw [Sem.run_bind, hrun]
    rfl

/-! ### A slice literal -/
def okOs (C : Ctx) : List Opnd → List Operand → Bool
  | [], [] => true
  | x :: xs, y :: ys => okO C x y && okOs C xs ys
  | _, _ => false
theorem okOs_len : ∀ {xs : List Opnd} {ys : List Operand}, okOs C xs ys = true → xs.length = ys.length
  | [], [], _ => rfl
  | [], _ :: _, h => by simp [okOs] at h
  | _ :: _, [], h => by simp [okOs] at h
  | x :: xs, y :: ys, h => by simp [okOs] at h; simp [okOs_len h.2]
theorem okOs_get : ∀ {xs : List Opnd} {ys : List Operand}, okOs C xs ys = true → ∀ (i : Nat) (x : Opnd), xs[i]? = some x → ∃ y, ys[i]? = some y ∧ okO C x y = true
  | [], [], _, i, x, h => by simp at h
  | [], _ :: _, h, _, _, _ => by simp [okOs] at h
  | _ :: _, [], h, _, _, _ => by simp [okOs] at h
  | x0 :: xs, y0 :: ys, h, i, x, hx => by
    simp only [okOs, Bool.and_eq_true] at h
    cases i with
    | zero => simp at hx; subst hx; exact ⟨y0, rfl, h.1⟩
    | succ i => exact okOs_get h.2 i x (by simpa using hx)

/-- A new block of the frame's own, sealed: a slice over it, with the right to append. -/
theorem Ready.newRowM (m : SM) {n : Nat} (hm : m = .zero → n = 0) (h : RelX C.fid e σ bm s a w) {vs : Array Value} {el : TypeId} {sz : Nat} {xs : List (List AV)} (hn : n = xs.length) (hl : vs.size = n * sz) (hone : Ones vs) (hr : RepR C.fid σ sz xs (fun i => vs[i]?)) :
    Ready C e s (.sl m sz xs) (.slice (some ⟨w.heap.size, 0, none⟩) n n) a { w with heap := w.heap.push (.cells vs el) } := by
  have hσ : ∀ i, σ w.heap.size i = none := by
    intro i
    cases hh : σ w.heap.size i with
    | none => rfl
    | some v => exact absurd (Mem.le_of_world h _ _ _ hh) (Nat.lt_irrefl _)
  let τ : Mem := fun B i => if B = w.heap.size then vs[i]? else σ B i
  have hle : σ.le τ := by
    intro B i v hv
    by_cases hB : B = w.heap.size
    · subst hB; rw [hσ i] at hv; cases hv
    · simp [τ, hB, hv]
  have hnew : ({ w with heap := w.heap.push (.cells vs el) } : World).heap[w.heap.size]? = some (.cells vs el (0, 0)) := by simp
  have hrel : RelX C.fid e τ bm s a { w with heap := w.heap.push (.cells vs el) } := by
    refine h.world hle (fun B i v hv => by
      by_cases hB : B = w.heap.size
      · simp only [τ, hB, if_true] at hv; exact hone.get hv
      · simp only [τ, hB, if_false] at hv; exact h.one _ _ _ hv) (fun B i hB => by simp [τ, Nat.ne_of_lt hB]) (fun B i v hv => ?_) (fun B hB => ?_) (by simp) rfl rfl rfl
    · by_cases hB : B = w.heap.size
      · subst hB
        simp only [τ, if_true] at hv
        rw [cell_of hnew]; exact hv
      · simp only [τ, hB, if_false] at hv
        have hlt := Mem.le_of_world h B i v hv
        rw [← h.mem B i v hv]
        exact cell_eq (by simp only []; rw [Array.getElem?_push_lt hlt, Array.getElem?_eq_getElem hlt])
    · simp only []; rw [Array.getElem?_push_lt hB, Array.getElem?_eq_getElem hB]
  refine ⟨τ, bm, hrel, ?_, (fun b hb => by cases hb), fun sz' hsz' => ?_⟩
  · refine ⟨_, n, n, rfl, hn, Nat.le_refl _, ⟨hm, fun _ => rfl⟩, ?_⟩
    by_cases h0 : n = 0
    · exact .inl h0
    · refine .inr ⟨w.heap.size, 0, rfl, ?_⟩
      have : (fun i => τ w.heap.size (0 + i)) = (fun i => vs[i]?) := by funext i; simp [τ]
      rw [this]
      exact RepR_mono hle _ _ _ (fun _ _ h => h) hr
  · have hmt : m = .tip := by cases m <;> first | rfl | cases hsz'
    subst hmt
    simp only [AV.tipSz, Option.some.injEq] at hsz'
    subst hsz'
    refine ⟨⟨_, n, n, rfl, .inr ⟨w.heap.size, 0, vs, el, (0, 0), rfl, hnew, noFrz0 _, by omega, fun i hi => ?_, .inl h.grown, fun b hb => absurd (bm_lt h hb) (Nat.lt_irrefl _)⟩⟩, fun p sz2 B hp h1 h2 => ?_⟩
    · simp only [τ, if_true]
      exact Array.getElem?_eq_none (by omega)
    · have h3 : B = w.heap.size := by
        simp only [tipBlk] at h1
        split at h1
        · cases h1
        · injection h1 with h1; exact h1.symm
      subst h3
      have hv : valAt a { w with heap := w.heap.push (.cells vs el) } bm p = valAt a w bm p := by
        cases p with
        | t t => rfl
        | c b i =>
          simp only [valAt]
          cases hb : bm b with
          | none => rfl
          | some B' =>
            have hlt := bm_lt h hb
            simp only [Option.bind_some]
            rw [cell_eq (w := w) (by simp only []; rw [Array.getElem?_push_lt hlt, Array.getElem?_eq_getElem hlt])]
      rw [hv] at h2
      exact absurd (tipBlk_lt h hp h2) (Nat.lt_irrefl _)

theorem RepR_flat {fid : Nat → Nat} {sz : Nat} : ∀ {xs : List (List AV)} {ls : List (List Value)} , xs.length = ls.length → (∀ (i : Nat) (r : List AV) (l : List Value), xs[i]? = some r → ls[i]? = some l → r.length = sz ∧ l.length = sz ∧ RepL fid σ r (fun j => l[j]?)) → RepR fid σ sz xs (fun i => (ls.flatten)[i]?)
  | [], _, _, _ => by simp [RepR]
  | r :: xs, [], hl, _ => by simp at hl
  | r :: xs, l :: ls, hl, h => by
    obtain ⟨h1, h2, h3⟩ := h 0 r l rfl rfl
    simp only [RepR]
    refine ⟨h1, ?_, ?_⟩
    · rw [RepL_iff] at h3 ⊢
      intro i c hc
      obtain ⟨v, k1, k2⟩ := h3 i c hc
      refine ⟨v, ?_, k2⟩
      have hlt := (List.getElem?_eq_some_iff.1 k1).1
      rw [List.flatten_cons, List.getElem?_append_left hlt]; exact k1
    · have := RepR_flat (fid := fid) (xs := xs) (ls := ls) (by simpa using hl) (fun i r' l' hr hl' => h (i + 1) r' l' (by simpa using hr) (by simpa using hl'))
      have e : (fun i => ((l :: ls).flatten)[sz + i]?) = (fun i => (ls.flatten)[i]?) := by
        funext i
        rw [List.flatten_cons, List.getElem?_append_right (by omega)]
        congr 1; omega
      rw [e]; exact this

theorem Ready.newRow (h : RelX C.fid e σ bm s a w) {vs : Array Value} {el : TypeId} {sz n : Nat} {xs : List (List AV)} (hn : n = xs.length) (hl : vs.size = n * sz) (hone : Ones vs) (hr : RepR C.fid σ sz xs (fun i => vs[i]?)) :
    Ready C e s (.sl .tip sz xs) (.slice (some ⟨w.heap.size, 0, none⟩) n n) a { w with heap := w.heap.push (.cells vs el) } := Ready.newRowM .tip (fun h => by cases h) h hn hl hone hr
theorem op_buildS (hG : GOk C σ) (h : RelX C.fid e σ bm s a w) {m : SM} {sz len : Nat} {ps : List Opnd} {qs : Array (Nat × Operand)} {t el : TypeId} {i : TypeInfo} {z : Value} (ho : o.op = .buildSlice t len qs) (ht : C.P.underlying t = some (.slice el)) (hi : C.P.info? el = some i) (hz : i.zero = some z) (hsz : i.size = sz) (hpos : 0 < sz) (hlen : len = ps.length) (hsmall : len * sz ≤ 2 ^ 24)
    (hq1 : (qs.toList.map (·.1)) = List.range len) (hq2 : okOs C ps (qs.toList.map (·.2)) = true)
    (hev : evalK call C.G s (.buildS m sz ps) = some (c, s')) : OpRes C e s' c a ((execOp a.eval o).run C.P w) := by
  simp only [evalK] at hev
  split at hev
  · rename_i hall
    obtain ⟨hall, hmz⟩ := hall
    simp only [Option.some.injEq, Prod.mk.injEq] at hev
    obtain ⟨rfl, rfl⟩ := hev
    rw [List.all_eq_true] at hall
    let vals : List Value := qs.toList.map fun q => a.eval q.2
    have hvl : vals.length = len := by
      have := congrArg List.length hq1
      simpa [vals] using this
    have hrow : ∀ (j : Nat) (x : Opnd), ps[j]? = some x → ∃ v : Value, vals[j]? = some v ∧ (∀ u ∈ v.cells.toList, u.oneCell' = true) ∧ v.cells.size = sz ∧ ((s.get C.G x).cells.map AV.share).length = sz ∧ RepL C.fid σ ((s.get C.G x).cells.map AV.share) (fun k => v.cells.toList[k]?) := by
      intro j x hx
      obtain ⟨y, hy, hok⟩ := okOs_get hq2 j x hx
      have hmem : x ∈ ps := List.mem_of_getElem? hx
      have hc := hall x hmem
      simp only [Bool.and_eq_true, beq_iff_eq] at hc
      have hr := (RepT_of (isP_of_one hc.2)).1 (get_rep hG h hok)
      obtain ⟨c1, c2, c3⟩ := cells_rep hr hc.2
      refine ⟨a.eval y, ?_, c3, by omega, by simp [hc.1], ?_⟩
      · simp only [vals, List.getElem?_map] at hy ⊢
        cases hq : qs.toList[j]? with
        | none => rw [hq] at hy; cases hy
        | some q => rw [hq] at hy; simp at hy; simp [hy]
      · have := RepL_map (m := AV.share) (fun _ _ hr => RepP_share hr) c2
        simpa using this
    have hsizes : ∀ v ∈ vals, v.cells.size = sz := by
      intro v hv
      obtain ⟨j, hj⟩ := List.getElem?_of_mem hv
      have hjl : j < ps.length := by
        have := (List.getElem?_eq_some_iff.1 hj).1; omega
      obtain ⟨v', k1, _, k2, _⟩ := hrow j _ (List.getElem?_eq_getElem hjl)
      rw [hj] at k1
      injection k1 with k1
      rw [k1]; exact k2
    have hparts : (qs.toList.map fun q => (q.1, a.eval q.2)) = (vals.zipIdx 0).map fun x => (x.2, x.1) := by
      apply List.ext_getElem?
      intro j
      simp only [List.getElem?_map, List.getElem?_zipIdx, vals]
      cases hq : qs.toList[j]? with
      | none => simp
      | some q =>
        have : (qs.toList.map (·.1))[j]? = some q.1 := by simp [hq]
        rw [hq1] at this
        have hj : j = q.1 := by
          have h2 := (List.getElem?_eq_some_iff.1 this)
          obtain ⟨h3, h4⟩ := h2
          simpa using h4
        simp [hj]
    let cells : Array Value := (vals.flatMap fun v => v.cells.toList).toArray
    have hcs : cells.size = len * sz := by
      simp only [cells, List.size_toArray, List.length_flatMap]
      have : vals.map (fun v => v.cells.toList.length) = List.replicate vals.length sz := by
        apply List.ext_getElem?
        intro j
        simp only [List.getElem?_map, List.getElem?_replicate]
        cases hv : vals[j]? with
        | none => have := List.getElem?_eq_none_iff.1 hv; simp; omega
        | some v =>
          have hlt := (List.getElem?_eq_some_iff.1 hv).1
          have := hsizes v (List.mem_of_getElem? hv)
          simp [hlt, this]
      rw [this, List.sum_replicate_nat, hvl]
    have hrep : RepR C.fid σ sz (ps.map fun p => (s.get C.G p).cells.map AV.share) (fun i => cells[i]?) := by
      have : (fun i : Nat => cells[i]?) = (fun i : Nat => ((vals.map fun v => v.cells.toList).flatten)[i]?) := by
        funext i; simp [cells, List.flatMap_def]
      rw [this]
      refine RepR_flat (by simp [hvl, hlen]) (fun j r l hr hl => ?_)
      rw [List.getElem?_map] at hr hl
      cases hx : ps[j]? with
      | none => rw [hx] at hr; cases hr
      | some x =>
        rw [hx] at hr
        simp only [Option.map_some, Option.some.injEq] at hr
        subst hr
        obtain ⟨v, k1, _, k2, k3, k4⟩ := hrow j x hx
        rw [k1] at hl
        simp only [Option.map_some, Option.some.injEq] at hl
        subst hl
        exact ⟨k3, by simpa using k2, k4⟩
    have hones : Ones cells := by
      intro v hv
      simp only [cells, List.mem_flatMap] at hv
      obtain ⟨u, hu, hv⟩ := hv
      obtain ⟨j, hj⟩ := List.getElem?_of_mem hu
      have hjl : j < ps.length := by
        have := (List.getElem?_eq_some_iff.1 hj).1; omega
      obtain ⟨v', k1, k0, _⟩ := hrow j _ (List.getElem?_eq_getElem hjl)
      rw [hj] at k1
      injection k1 with k1
      subst k1
      exact k0 v hv
    have hready := Ready.newRowM (C := C) (e := e) m (fun hh => by rw [hlen, hmz hh]; rfl) h (vs := cells) (el := el) (sz := sz) (n := len) (by simp [hlen]) hcs hones hrep
    refine .inl ⟨_, _, ?_, hready⟩
    by_cases h0 : len = 0
    · have hq0 : qs = #[] := by
        have := congrArg List.length hq1
        simp [h0] at this
        exact this
      have hv0 : vals = [] := by simp [vals, hq0]
      simp [execOp, ho, Instr.buildSlice, run_underlying ht, sizeOf, typeInfo, hi, h0, hq0, Instr.fill, newRow, cells, hv0]
      rw [show Array.range 0 = #[] from Array.eq_empty_of_size_eq_zero (by simp), Array.map_empty]
    · have hfill := Great.fill_whole hpos vals ((Array.range (len * i.size)).map (z.cells[· % z.cells.size]!)) hsizes (by simp [hvl, hsz])
      rw [← hparts] at hfill
      have := run_buildSlice (P := C.P) w t el len (qs.map fun (i, x) => (i, a.eval x)) cells i z ht hi hz (by rw [hsz]; omega) (by rw [hsz]; exact Nat.mul_ne_zero h0 (by omega)) (by rw [hsz]; rw [hsz] at hfill; simpa using hfill)
      simp only [execOp, ho]
      rw [Sem.run_bind, this]
      rfl
  · cases hev

/-! ### Closures -/
theorem capture_rep : ∀ {vs : List AV} {ws : List Value} {s s' : S} {σ : Mem} {bm : Nat → Option Nat} {out : List AV}, RelX C.fid e σ bm s a w → vs.length = ws.length →
    (∀ (i : Nat) (c : AV) (v : Value), vs[i]? = some c → ws[i]? = some v → (∀ b B, c = .bp b 0 → bm b = some B → v = .pointer (some ⟨B, 0, none⟩)) ∧ (c.isP = false → RepP C.fid σ c v)) → capture s vs = some (out, s') →
    ∃ σ' bm', RelX C.fid e σ' bm' s' a w ∧ σ.le σ' ∧ out.length = ws.length ∧ RepL C.fid σ' out (fun i => ws[i]?)
  | [], ws, s, s', σ, bm, out, h, hl, hr, hc => by
    simp only [capture, Option.some.injEq, Prod.mk.injEq] at hc
    obtain ⟨rfl, rfl⟩ := hc
    exact ⟨σ, bm, h, Mem.le_refl σ, by simpa using hl, by simp [RepL]⟩
  | c :: vs, [], s, s', σ, bm, out, h, hl, hr, hc => by simp at hl
  | c :: vs, v :: ws, s, s', σ, bm, out, h, hl, hr, hc => by
    have plain : c.isP = false → (bnd (capture s vs) fun (x : List AV × S) => some (c.share :: x.1, x.2)) = some (out, s') →
        ∃ σ' bm', RelX C.fid e σ' bm' s' a w ∧ σ.le σ' ∧ out.length = (v :: ws).length ∧ RepL C.fid σ' out (fun i => (v :: ws)[i]?) := by
      intro hp hb
      cases hcc : capture s vs with
      | none => rw [hcc] at hb; cases hb
      | some r =>
        obtain ⟨out', s1⟩ := r
        rw [hcc] at hb
        simp only [bnd_some, Option.some.injEq, Prod.mk.injEq] at hb
        obtain ⟨rfl, rfl⟩ := hb
        obtain ⟨σ', bm', k1, k2, k3, k4⟩ := capture_rep h (by simpa using hl) (fun i c v hc hv => hr (i + 1) c v (by simpa using hc) (by simpa using hv)) hcc
        refine ⟨σ', bm', k1, k2, by simp [k3], ?_⟩
        simp only [RepL]
        exact ⟨⟨v, by simp, RepP_share (((hr 0 c v rfl rfl).2 hp).mono k2)⟩, by simpa using k4⟩
    cases c with
    | bp b off =>
      simp only [capture] at hc
      split at hc
      · rename_i h0
        subst h0
        split at hc
        · rename_i cs hb
          cases hcc : capture { s with b := upd s.b b none } vs with
          | none => rw [hcc] at hc; cases hc
          | some r =>
            obtain ⟨out', s1⟩ := r
            rw [hcc] at hc
            simp only [bnd_some, Option.some.injEq, Prod.mk.injEq] at hc
            obtain ⟨rfl, rfl⟩ := hc
            obtain ⟨B, hB, ⟨arr, t, m, g2, g3, g4, g5⟩, _⟩ := h.boxes b _ hb
            have hs := h.shut_ hb hB
            have hle : σ.le (fun B' i => if B' = B then w.cell? ⟨B, i, none⟩ else σ B' i) := by
              intro B' i v hv
              by_cases hh : B' = B
              · subst hh
                simp only [if_true]
                exact h.mem _ _ _ hv
              · simp [hh, hv]
            obtain ⟨σ', bm', k1, k2, k3, k4⟩ := capture_rep hs (by simpa using hl) (fun i c v hc hv => by
              obtain ⟨q1, q2⟩ := hr (i + 1) c v (by simpa using hc) (by simpa using hv)
              refine ⟨fun b' B' hc' hb' => q1 b' B' hc' ?_, fun hp => (q2 hp).mono hle⟩
              by_cases hbb : b' = b
              · subst hbb; simp [upd] at hb'
              · rw [upd_ne _ _ hbb] at hb'; exact hb') hcc
            refine ⟨σ', bm', k1, Mem.le_trans hle k2, by simp [k3], ?_⟩
            simp only [RepL]
            refine ⟨⟨v, by simp, ?_⟩, by simpa using k4⟩
            have hv := (hr 0 (.bp b 0) v rfl rfl).1 b B rfl hB
            refine ⟨B, 0, by simpa using hv, ?_⟩
            refine RepL_map (fun _ _ hr => RepP_share hr) ?_
            rw [RepL_iff] at g5 ⊢
            intro i c hc
            obtain ⟨x, q1, q2⟩ := g5 i c hc
            refine ⟨x, ?_, (q2.mono hle).mono k2⟩
            refine k2 B (0 + i) x ?_
            simp only [if_true, Nat.zero_add]
            rw [cell_of g2]; exact q1
        · cases hc
      · cases hc
    | undef | int | bool | str | con | sl | agg | rp | fn | tup =>
      refine plain rfl ?_
      simpa [capture, AV.isP] using hc
    | bs | be | np => simp [capture, AV.isP] at hc

theorem op_mkfn (hG : GOk C σ) (h : RelX C.fid e σ bm s a w) {g f : Nat} {ps : List Opnd} {qs : Array Operand} (ho : o.op = .makeFunc (.func f) #[] qs) (hf : C.fid g = f) (hp : okOs C ps qs.toList = true)
    (hev : evalK call C.G s (.mkfn g ps) = some (c, s')) : OpRes C e s' c a ((execOp a.eval o).run C.P w) := by
  simp only [evalK] at hev
  cases hcc : capture s (ps.map (s.get C.G)) with
  | none => rw [hcc] at hev; cases hev
  | some r =>
    obtain ⟨vs, s1⟩ := r
    rw [hcc] at hev
    simp only [bnd_some, Option.some.injEq, Prod.mk.injEq] at hev
    obtain ⟨rfl, rfl⟩ := hev
    obtain ⟨σ', bm', k1, k2, k3, k4⟩ := capture_rep (ws := qs.toList.map a.eval) h (by simpa using okOs_len hp) (fun i c v hc hv => by
      rw [List.getElem?_map] at hc hv
      cases hx : ps[i]? with
      | none => rw [hx] at hc; cases hc
      | some x =>
        obtain ⟨y, hy, hok⟩ := okOs_get hp i x hx
        rw [hx] at hc
        rw [hy] at hv
        simp only [Option.map_some, Option.some.injEq] at hc hv
        subst hc hv
        have hr := get_rep hG h hok
        refine ⟨fun b B hc hB => ?_, fun hpp => (RepT_of hpp).1 hr⟩
        rw [hc] at hr
        exact hr B hB) hcc
    refine .inl ⟨.func (.func f) #[] (qs.map a.eval), w, ?_, Ready.plain k1 ⟨qs.map a.eval, by rw [hf], by simp at k3 ⊢; omega, ?_⟩ rfl⟩
    · simp [execOp, ho, Instr.makeFunc]
    · have e2 : (fun i : Nat => (qs.map a.eval)[i]?) = (fun i : Nat => (qs.toList.map a.eval)[i]?) := by
        funext i; simp
      rw [e2]; exact k4
end
end Go.Vs
