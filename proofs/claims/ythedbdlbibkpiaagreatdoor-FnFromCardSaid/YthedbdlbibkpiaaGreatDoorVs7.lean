/- The operations that copy, make, load and store. -/
import Derived.Test.YthedbdlbibkpiaaGreatDoorVs6
import Derived.Deep.MidRow
set_option linter.unusedVariables false
namespace Go.Vs
open Go Go.RowKit

def tsz (P : Program) (t : TypeId) : Option Nat := (P.info? t).map (·.size)
def rowT (P : Program) (t : TypeId) : Option Bool := (P.underlying t).map fun d => match d with | .struct _ | .array _ _ => true | _ => false
def okZero (P : Program) (zero : List AV) (t : TypeId) : Bool :=
  match P.info? t with
  | some i => match i.zero with | some z => okCs zero z.cells.toList && z.cells.toList.all (·.oneCell') | none => false
  | none => false
theorem okZero_spec {P : Program} {zero : List AV} {t : TypeId} (h : okZero P zero t = true) : ∃ i z, P.info? t = some i ∧ i.zero = some z ∧ okCs zero z.cells.toList = true ∧ Ones z.cells := by
  unfold okZero at h
  split at h
  · rename_i i hi
    split at h
    · rename_i z hz
      simp only [Bool.and_eq_true, List.all_eq_true] at h
      exact ⟨i, z, hi, hz, h.1, h.2⟩
    · cases h
  · cases h
theorem run_zero {P : Program} {t : TypeId} {i : TypeInfo} {z : Value} (h1 : P.info? t = some i) (h2 : i.zero = some z) (w : World) : (zeroValue t).run P w = .ok z w := by
  simp [zeroValue, typeInfo, h1, h2]
theorem run_size {P : Program} {t : TypeId} {n : Nat} (h : tsz P t = some n) (w : World) : (sizeOf t).run P w = .ok n w := by
  unfold tsz at h
  cases hi : P.info? t with
  | none => rw [hi] at h; cases h
  | some i => rw [hi] at h; simp at h; simp [sizeOf, typeInfo, hi, h]
theorem rowT_spec {P : Program} {t : TypeId} {r : Bool} (h : rowT P t = some r) (w : World) : (isAgg t).run P w = .ok r w ∧ ∃ d, P.underlying t = some d := by
  unfold rowT at h
  cases hd : P.underlying t with
  | none => rw [hd] at h; cases h
  | some d =>
    rw [hd] at h
    simp only [Option.map_some, Option.some.injEq] at h
    refine ⟨?_, d, rfl⟩
    unfold isAgg
    rw [Sem.run_bind, run_underlying hd w]
    simp only [Result.andThen_ok]
    subst h
    cases d <;> rfl

/-- How an operation may come out. -/
def OpRes (C : Ctx) (e : Env) (s : S) (c : AV) (a : Act) (r : Result Next) : Prop :=
  (∃ v w', r = .ok (.value v) w' ∧ Ready C e s c v a w') ∨ (∃ w', r = .ok .skip w' ∧ Ready C e s c undef a w')

section
variable {C : Ctx} {e : Env} {σ τ : Mem} {bm : Nat → Option Nat} {s s' : S} {a : Act} {w w' : World} {call : Call} {o : Oper} {c : AV}

theorem op_mv (hG : GOk C σ) (h : RelX C.fid e σ bm s a w) {x : Opnd} {y : Operand} (ho : o.op = .move y ∨ o.op = .assign y) (hx : okO C x y = true)
    (hev : evalK call C.G s (.mv x) = some (c, s')) : OpRes C e s' c a ((execOp a.eval o).run C.P w) := by
  simp only [evalK, Option.some.injEq, Prod.mk.injEq] at hev
  obtain ⟨rfl, rfl⟩ := hev
  refine .inl ⟨a.eval y, w, ?_, Ready.get hG h hx⟩
  rcases ho with ho | ho <;> simp [execOp, ho]

theorem op_pick (hG : GOk C σ) (h : RelX C.fid e σ bm s a w) {x1 x2 x3 : Opnd} {y1 y2 y3 : Operand} (ho : o.op = .pick y1 y2 y3) (h1 : okO C x1 y1 = true) (h2 : okO C x2 y2 = true) (h3 : okO C x3 y3 = true)
    (hev : evalK call C.G s (.pick x1 x2 x3) = some (c, s')) : OpRes C e s' c a ((execOp a.eval o).run C.P w) := by
  simp only [evalK] at hev
  have hr := get_rep hG h h1
  split at hev
  · rename_i b hb
    rw [hb] at hr
    simp only [RepT, RepP] at hr
    cases b
    · simp only [Bool.false_eq_true, if_false, Option.some.injEq, Prod.mk.injEq] at hev
      obtain ⟨rfl, rfl⟩ := hev
      exact .inl ⟨a.eval y3, w, by simp [execOp, ho, asBool, hr], Ready.get hG h h3⟩
    · simp only [if_true, Option.some.injEq, Prod.mk.injEq] at hev
      obtain ⟨rfl, rfl⟩ := hev
      exact .inl ⟨a.eval y2, w, by simp [execOp, ho, asBool, hr], Ready.get hG h h2⟩
  · cases hev

theorem noFrz0 (vs : Array Value) : NoFrz vs (0, 0) := fun i _ h => by simp at h

theorem op_alloc (h : RelX C.fid e σ bm s a w) {b : Nat} {zero : List AV} {t : TypeId} (ho : o.op = .alloc t) (hz : okZero C.P zero t = true)
    (hev : evalK call C.G s (.alloc b zero) = some (c, s')) : OpRes C e s' c a ((execOp a.eval o).run C.P w) := by
  obtain ⟨i, z, h1, h2, h3, hones⟩ := okZero_spec hz
  simp only [evalK] at hev
  cases hn : s.newB b (.var zero) with
  | none => rw [hn] at hev; cases hev
  | some s1 =>
    rw [hn] at hev
    simp only [bnd_some, Option.some.injEq, Prod.mk.injEq] at hev
    obtain ⟨rfl, rfl⟩ := hev
    have hlen := okCs_len h3
    obtain ⟨k1, k2, k3, _⟩ := h.fresh hn (vs := z.cells) (t := t) (m := (0, 0)) ⟨noFrz0 _, hones⟩ ⟨by simpa using hlen.symm, by simpa using okCs_rep (fid := C.fid) (σ := σ) h3⟩ (by
      intro j sz hh
      simp only [tipAt, upd_same] at hh
      cases hc : zero[j]? with
      | none => rw [hc] at hh; cases hh
      | some c =>
        rw [hc] at hh
        simp only [Option.bind_some] at hh
        have : ∀ (cs : List AV) (vs : List Value) (j : Nat) (c : AV), okCs cs vs = true → cs[j]? = some c → c.tipSz = none := by
          intro cs
          induction cs with
          | nil => intro vs j c _ hc; simp at hc
          | cons c0 cs ih =>
            intro vs j c hok hc
            cases vs with
            | nil => simp [okCs] at hok
            | cons v vs =>
              simp only [okCs, Bool.and_eq_true] at hok
              cases j with
              | zero => simp at hc; subst hc; exact okC_tip hok.1
              | succ j => exact ih vs j c hok.2 (by simpa using hc)
        rw [this _ _ _ _ h3 hc] at hh; cases hh)
    refine .inl ⟨.pointer (some ⟨w.heap.size, 0, none⟩), _, ?_, _, _, k1, ?_, fun b' hb' => ?_, fun sz hsz => by cases hsz⟩
    · simp [execOp, ho, Instr.alloc, run_zero h1 h2, newVar, newRow]
    · intro B hB
      simp [upd] at hB
      subst hB; rfl
    · injection hb' with hb'; subst hb'; exact k2

theorem isP_of_one : ∀ {c : AV}, (c.cells.all AV.one) = true → c.isP = false
  | .bp _ _, h | .bs _, h | .be _ _ _, h | .np _, h => by simp [AV.cells, AV.one] at h
  | .undef, _ | .int _ _, _ | .bool _, _ | .str _, _ | .con _, _ | .sl _ _ _, _ | .agg _, _ | .rp _ _, _ | .fn _ _, _ | .tup _, _ => rfl

theorem op_box (hG : GOk C σ) (h : RelX C.fid e σ bm s a w) {b : Nat} {x : Opnd} {y : Operand} {t : TypeId} (ho : o.op = .box t y) (hx : okO C x y = true)
    (hev : evalK call C.G s (.box b x) = some (c, s')) : OpRes C e s' c a ((execOp a.eval o).run C.P w) := by
  simp only [evalK] at hev
  split at hev
  · rename_i hone
    cases hn : s.newB b (.var ((s.get C.G x).cells.map AV.dem)) with
    | none => rw [hn] at hev; cases hev
    | some s1 =>
      rw [hn] at hev
      simp only [bnd_some, Option.some.injEq, Prod.mk.injEq] at hev
      obtain ⟨rfl, rfl⟩ := hev
      have hr := (RepT_of (isP_of_one hone)).1 (get_rep hG h hx)
      obtain ⟨c1, c2, c3⟩ := cells_rep hr hone
      obtain ⟨k1, k2, k3, _⟩ := h.fresh hn (vs := (a.eval y).cells) (t := t) (m := (0, 0)) ⟨noFrz0 _, c3⟩ ⟨by simpa using c1, RepL_map (fun _ _ hr => RepP_dem hr) c2⟩ (by
        intro j sz hh
        simp only [tipAt, upd_same, List.getElem?_map] at hh
        cases hc : ((s.get C.G x).cells)[j]? with
        | none => rw [hc] at hh; cases hh
        | some c => rw [hc] at hh; simp [dem_tip] at hh)
      refine .inl ⟨.pointer (some ⟨w.heap.size, 0, none⟩), _, ?_, _, _, k1, ?_, fun b' hb' => ?_, fun sz hsz => by cases hsz⟩
      · simp [execOp, ho, Instr.box, newVar, newRow]
      · intro B hB
        simp [upd] at hB
        subst hB; rfl
      · injection hb' with hb'; subst hb'; exact k2
  · cases hev

/-! ### Loads -/
/-- The cells behind a pointer. -/
def Behind (fid : Nat → Nat) (σ : Mem) (w : World) (cs : List AV) (off : Nat) (v : Value) : Prop :=
  ∃ B o, v = .pointer (some ⟨B, o + off, none⟩) ∧ ∀ i c, cs[i]? = some c → ∃ x, w.cell? ⟨B, o + i, none⟩ = some x ∧ RepP fid σ c x
theorem behind_bp (h : RelX C.fid e σ bm s a w) {b off : Nat} {cs : List AV} {v : Value} (hr : RepT C.fid σ bm s.b (.bp b off) v) (hb : s.b b = some (.var cs)) : Behind C.fid σ w cs off v := by
  obtain ⟨B, h1, ⟨vs, t, m, h2, h3, h4, h5⟩, _⟩ := h.boxes b _ hb
  refine ⟨B, 0, by rw [hr B h1]; simp, fun i c hc => ?_⟩
  obtain ⟨x, k1, k2⟩ := (RepL_iff.1 h5) i c hc
  exact ⟨x, by rw [cell_of h2]; simpa using k1, k2⟩
theorem behind_be (h : RelX C.fid e σ bm s a w) {b i off sz : Nat} {xs : List (List AV)} {cs : List AV} {v : Value} (hr : RepT C.fid σ bm s.b (.be b i off) v) (hb : s.b b = some (.rows sz xs)) (hi : xs[i]? = some cs) :
    Behind C.fid σ w cs off v := by
  obtain ⟨B, h1, ⟨vs, t, m, h2, h3, h4, h5⟩, _⟩ := h.boxes b _ hb
  obtain ⟨sz', xs', j1, j2⟩ := hr B h1
  rw [hb] at j1
  injection j1 with j1
  injection j1 with j1 j3
  subst j1 j3
  refine ⟨B, i * sz, j2, fun j c hc => ?_⟩
  obtain ⟨x, k1, k2⟩ := (RepL_iff.1 ((RepR_iff.1 h5) i cs hi).2) j c hc
  exact ⟨x, by rw [cell_of h2]; exact k1, k2⟩
theorem behind_rp (h : RelX C.fid e σ bm s a w) {off : Nat} {cs : List AV} {v : Value} (hr : RepT C.fid σ bm s.b (.rp cs off) v) : Behind C.fid σ w cs off v := by
  obtain ⟨B, o, h1, h2⟩ := hr
  refine ⟨B, o, h1, fun i c hc => ?_⟩
  obtain ⟨x, k1, k2⟩ := (RepL_iff.1 h2) i c hc
  exact ⟨x, h.mem _ _ _ k1, k2⟩

theorem part_rep {n off : Nat} {agg : Bool} {cs : List AV} {v : Value} {t : TypeId} (hb : Behind C.fid σ w cs off v) (hp : part n agg cs off = some c) (hn : tsz C.P t = some n) (hr : rowT C.P t = some agg) :
    ∃ x, (Instr.loadAt t v).run C.P w = .ok x w ∧ RepP C.fid σ c x ∧ c.tipSz = none := by
  obtain ⟨B, o, rfl, hc⟩ := hb
  obtain ⟨hagg, d, hd⟩ := rowT_spec hr w
  unfold part at hp
  cases agg with
  | true =>
    simp only [if_true] at hp
    split at hp
    · rename_i hle
      injection hp with hp
      subst hp
      have hex : ∃ vs : List Value, vs.length = n ∧ ∀ i, i < n → ∃ c x, cs[off + i]? = some c ∧ vs[i]? = some x ∧ w.cell? ⟨B, o + off + i, none⟩ = some x ∧ RepP C.fid σ c x := by
        clear hn
        induction n with
        | zero => exact ⟨[], rfl, fun i hi => by omega⟩
        | succ n ih =>
          obtain ⟨vs, h1, h2⟩ := ih (by omega)
          have hlt : off + n < cs.length := by omega
          obtain ⟨x, k1, k2⟩ := hc (off + n) _ (List.getElem?_eq_getElem hlt)
          refine ⟨vs ++ [x], by simp [h1], fun i hi => ?_⟩
          by_cases hin : i < n
          · obtain ⟨c, y, j1, j2, j3⟩ := h2 i hin
            exact ⟨c, y, j1, by rw [List.getElem?_append_left (by omega)]; exact j2, j3⟩
          · have : i = n := by omega
            subst this
            exact ⟨_, x, List.getElem?_eq_getElem hlt, by rw [List.getElem?_append_right (by omega)]; simp [h1], by rw [Nat.add_assoc]; exact k1, k2⟩
      obtain ⟨vs, hl, hv⟩ := hex
      refine ⟨.agg vs.toArray, ?_, ⟨vs.toArray, rfl, ?_, ?_⟩, rfl⟩
      · have hrange : w.rangeAt B (o + off) vs := by
          intro j x hx
          have hj : j < n := by have := (List.getElem?_eq_some_iff.1 hx).1; omega
          obtain ⟨c, y, _, j2, j3, _⟩ := hv j hj
          rw [hx] at j2
          injection j2 with j2
          subst j2; exact j3
        have hl2 : (loadCells ⟨B, o + off, none⟩ vs.length).run C.P w = .ok vs.toArray w :=
          run_loadCells_list (P := C.P) w ⟨B, o + off, none⟩ vs (fun j v hv => by rw [Addr.add_mid]; exact hrange j v hv)
        rw [hl] at hl2
        simp [Instr.loadAt, Instr.sureAddr, loadVar, hagg, run_size hn, hl2]
      · simp [hl]; omega
      · rw [RepL_iff]
        intro i c hi
        rw [List.getElem?_map] at hi
        have hin : i < n := by
          cases hh : ((cs.drop off).take n)[i]? with
          | none => rw [hh] at hi; cases hi
          | some c0 => have := (List.getElem?_eq_some_iff.1 hh).1; simp at this; omega
        obtain ⟨c0, x, j1, j2, _, j4⟩ := hv i hin
        have : ((cs.drop off).take n)[i]? = some c0 := by rw [List.getElem?_take, if_pos hin, List.getElem?_drop]; exact j1
        rw [this] at hi
        simp at hi
        subst hi
        exact ⟨x, by simpa using j2, RepP_dem j4⟩
    · cases hp
  | false =>
    simp only [Bool.false_eq_true, if_false] at hp
    split at hp
    · rename_i h1
      cases hcc : cs[off]? with
      | none => rw [hcc] at hp; cases hp
      | some c0 =>
        rw [hcc] at hp
        simp at hp
        subst hp
        obtain ⟨x, k1, k2⟩ := hc off c0 hcc
        exact ⟨x, by simp [Instr.loadAt, Instr.sureAddr, loadVar, hagg, k1], RepP_dem k2, dem_tip _⟩
    · cases hp

theorem take_dem (h : RelX C.fid e σ bm s a w) {b off : Nat} {cs : List AV} {c : AV} (hb : s.b b = some (.var cs)) (hc : cs[off]? = some c) :
    RelX C.fid e σ bm (s.setB b (.var (cs.set off c.dem))) a w ∧ ∀ sz, c.tipSz = some sz → tipAt s (.c b off) = some sz ∧ ∀ p sz', tipAt (s.setB b (.var (cs.set off c.dem))) p = some sz' → tipAt s p = some sz' ∧ p ≠ .c b off := by
  obtain ⟨B, h1, ⟨vs, t, m, h2, h3, h4, h5⟩, h6⟩ := h.boxes b _ hb
  have hlt : off < cs.length := (List.getElem?_eq_some_iff.1 hc).1
  have hat : ∀ p sz', tipAt (s.setB b (.var (cs.set off c.dem))) p = some sz' → tipAt s p = some sz' ∧ p ≠ .c b off := by
    intro p sz' hp
    cases p with
    | t t => exact ⟨hp, fun hh => by cases hh⟩
    | c b' i =>
      by_cases hbb : b' = b
      · subst hbb
        simp only [tipAt, S.setB, upd_same, List.getElem?_set] at hp
        simp only [tipAt, hb]
        by_cases hi : off = i
        · subst hi; simp [hlt, dem_tip] at hp
        · simp only [hi, if_false] at hp
          exact ⟨hp, fun hh => by injection hh with _ hh; exact hi hh.symm⟩
      · simp only [tipAt, S.setB, upd_ne _ _ hbb] at hp ⊢
        exact ⟨hp, fun hh => by injection hh with hh; exact hbb hh⟩
  refine ⟨h.setBox (w' := w) hb h1 trivial (fun _ _ => rfl) rfl rfl rfl rfl ?_ off undef (fun i sz hh => .inl ?_), fun sz hsz => ⟨by simp [tipAt, hb, hc, hsz], hat⟩⟩
  · refine ⟨vs, t, m, h2, h3, by simp [h4], ?_⟩
    rw [RepL_iff] at h5 ⊢
    intro i d hd
    rw [List.getElem?_set] at hd
    by_cases hi : off = i
    · subst hi
      simp [hlt] at hd
      subst hd
      obtain ⟨x, k1, k2⟩ := h5 off c hc
      exact ⟨x, k1, RepP_dem k2⟩
    · simp only [hi, if_false] at hd
      exact h5 i d hd
  · obtain ⟨j1, j2⟩ := hat _ sz hh
    exact ⟨fun e => j2 (by rw [e]), j1, rfl⟩

theorem op_load (hG : GOk C σ) (h : RelX C.fid e σ bm s a w) {n : Nat} {agg take : Bool} {x : Opnd} {y : Operand} {t : TypeId} (ho : o.op = .load t y) (hx : okO C x y = true) (hn : tsz C.P t = some n) (hr : rowT C.P t = some agg)
    (hev : evalK call C.G s (.load n agg take x) = some (c, s')) : OpRes C e s' c a ((execOp a.eval o).run C.P w) := by
  simp only [evalK] at hev
  have hrep := get_rep hG h hx
  have plain : ∀ {cs : List AV} {off : Nat}, Behind C.fid σ w cs off (a.eval y) → bnd (part n agg cs off) (fun v => some (v, s)) = some (c, s') → OpRes C e s' c a ((execOp a.eval o).run C.P w) := by
    intro cs off hb hp
    cases hpp : part n agg cs off with
    | none => rw [hpp] at hp; cases hp
    | some v =>
      rw [hpp] at hp
      simp only [bnd_some, Option.some.injEq, Prod.mk.injEq] at hp
      obtain ⟨rfl, rfl⟩ := hp
      obtain ⟨y', k1, k2, k3⟩ := part_rep hb hpp hn hr
      exact .inl ⟨y', w, by simp [execOp, ho, k1], Ready.plain h k2 k3⟩
  unfold loadP at hev
  split at hev
  · rename_i b off hget
    rw [hget] at hrep
    split at hev
    · rename_i cs hb
      split at hev
      · split at hev
        · cases hev
        · rename_i hagg
          split at hev
          · rename_i h1
            cases hcc : cs[off]? with
            | none => rw [hcc] at hev; cases hev
            | some c0 =>
              rw [hcc] at hev
              simp only [bnd_some] at hev
              split at hev
              · cases hev
              · rename_i hisP
                simp only [Option.some.injEq, Prod.mk.injEq] at hev
                obtain ⟨rfl, rfl⟩ := hev
                obtain ⟨k1, k2⟩ := take_dem h hb hcc
                obtain ⟨B, o', hv, hcells⟩ := behind_bp h hrep hb
                obtain ⟨y', j1, j2⟩ := hcells off c0 hcc
                obtain ⟨B', hB', _⟩ := h.boxes b _ hb
                have hp0 := hrep B' hB'
                have heq : o' = 0 ∧ B = B' := by
                  rw [hv] at hp0
                  injection hp0 with hp0
                  injection hp0 with hp0
                  injection hp0 with q1 q2
                  exact ⟨by omega, q1⟩
                obtain ⟨rfl, rfl⟩ := heq
                simp only [Bool.not_eq_true] at hagg
                subst hagg
                obtain ⟨hagg, _⟩ := rowT_spec hr w
                have hrun : (Instr.loadAt t (a.eval y)).run C.P w = .ok y' w := by
                  rw [hv]
                  simp at j1
                  simp [Instr.loadAt, Instr.sureAddr, loadVar, hagg, j1]
                refine .inl ⟨y', w, by simp [execOp, ho, hrun], σ, bm, k1, RepT_P j2, fun b' hb' => ?_, fun sz hsz => ?_⟩
                · rw [ref_none (by simpa using hisP)] at hb'; cases hb'
                · obtain ⟨m1, m2⟩ := k2 sz hsz
                  have hval : valAt a w bm (.c b off) = y' := by
                    simp at j1
                    simp [valAt, hB', j1]
                  refine ⟨by rw [← hval]; exact h.tip _ _ m1, fun p sz' B'' hp h1 h2 => ?_⟩
                  obtain ⟨m3, m4⟩ := m2 p sz' hp
                  exact m4 (h.dist p (.c b off) sz' sz B'' m3 m1 h2 (by rw [hval]; exact h1))
          · cases hev
      · exact plain (behind_bp h hrep hb) hev
    · cases hev
  · rename_i b i off hget
    rw [hget] at hrep
    split at hev
    · rename_i sz xs hb
      cases hxx : xs[i]? with
      | none => rw [hxx] at hev; cases hev
      | some cs =>
        rw [hxx] at hev
        simp only [bnd_some] at hev
        split at hev
        · cases hev
        · exact plain (behind_be h hrep hb hxx) hev
    · cases hev
  · rename_i cs off hget
    rw [hget] at hrep
    split at hev
    · cases hev
    · exact plain (behind_rp h hrep) hev
  · cases hev

end
end Go.Vs
