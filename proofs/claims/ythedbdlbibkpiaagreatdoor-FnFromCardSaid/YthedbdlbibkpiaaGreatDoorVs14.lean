/- Greatest of two, comparisons of structs, slices that are made. -/
import Derived.Test.YthedbdlbibkpiaaGreatDoorVs13
import Derived.Laws.IdiomStrings
import Derived.Laws.BytesArg
import Derived.Laws.MakeOwn
set_option linter.unusedVariables false
namespace Go.Vs
open Go Go.RowKit

section
variable {C : Ctx} {e : Env} {σ τ : Mem} {bm : Nat → Option Nat} {s s' : S} {a : Act} {w w' : World} {call : Call} {o : Oper} {c : AV}

theorem asInts_cons {x : AV} {r : List AV} {l : List Int} (h : asInts (x :: r) = some l) : ∃ n l', x = .int .i64 n ∧ asInts r = some l' ∧ l = n :: l' := by
  cases x <;> first | (simp [asInts] at h; done) | skip
  rename_i k n
  cases k <;> first | (simp [asInts] at h; done) | skip
  simp only [asInts] at h
  cases hr : asInts r with
  | none => rw [hr] at h; cases h
  | some l' =>
    rw [hr] at h
    simp only [bnd_some, Option.some.injEq] at h
    exact ⟨n, l', rfl, rfl, h.symm⟩

theorem op_mx (hG : GOk C σ) (h : RelX C.fid e σ bm s a w) {x1 x2 : Opnd} {y1 y2 : Operand} {cl : Go.Call} (ho : o.op = .call cl) (hcl : cl.callee = .builtin .max) (hargs : cl.args = #[y1, y2]) (h1 : okO C x1 y1 = true) (h2 : okO C x2 y2 = true)
    (hev : evalK call C.G s (.mx [x1, x2]) = some (c, s')) : OpRes C e s' c a ((execOp a.eval o).run C.P w) := by
  simp only [evalK, List.map_cons, List.map_nil] at hev
  cases hl : asInts [s.get C.G x1, s.get C.G x2] with
  | none => rw [hl] at hev; cases hev
  | some l =>
    obtain ⟨n1, l1, e1, g1, rfl⟩ := asInts_cons hl
    obtain ⟨n2, l2, e2, g2, rfl⟩ := asInts_cons g1
    simp only [asInts, Option.some.injEq] at g2
    subst g2
    rw [hl] at hev
    simp only [bnd_some, List.foldl_cons, List.foldl_nil, Option.some.injEq, Prod.mk.injEq] at hev
    obtain ⟨rfl, rfl⟩ := hev
    have r1 := get_rep hG h h1
    have r2 := get_rep hG h h2
    rw [e1] at r1
    rw [e2] at r2
    simp only [RepT, RepP] at r1 r2
    refine .inl ⟨.int .i64 (if n1 < n2 then n2 else n1), w, ?_, Ready.plain h rfl rfl⟩
    simp only [execOp, ho, resolve, hcl, hargs, Sem.run_bind, Sem.run_pure, Result.andThen_ok, invoke, builtin]
    have : (#[y1, y2] : Array Operand).map a.eval = #[a.eval y1, a.eval y2] := by simp
    rw [this, r1, r2, run_max_int2]
    rfl

/-- All fields whole numbers, one behind the other. -/
def okInts (P : Program) : List Field → Nat → Bool
  | [], _ => true
  | f :: fs, i => !(f.name == "_") && f.offset == i && (match P.underlying f.type with | some (.int _) => true | _ => false) && okInts P fs (i + 1)

theorem eqInts_run {fid : Nat → Nat} {P : Program} {d : Nat} {va vb : Array Value} : ∀ {fs : List Field} {i : Nat} {as bs : List AV} {r : Bool}, okInts P fs i = true → as.length = fs.length → bs.length = fs.length → RepL fid σ as (fun j => va[i + j]?) → RepL fid σ bs (fun j => vb[i + j]?) → eqInts as bs = some r →
    (Op.eqFields (d + 1) va vb fs).run P w = .ok r w
  | [], i, [], [], r, _, _, _, _, _, hr => by
    simp only [eqInts, Option.some.injEq] at hr
    subst hr
    simp [Op.eqFields]
  | [], i, _ :: _, _, r, _, h1, _, _, _, _ => by simp at h1
  | [], i, [], _ :: _, r, _, _, h2, _, _, _ => by simp at h2
  | f :: fs, i, [], _, r, _, h1, _, _, _, _ => by simp at h1
  | f :: fs, i, _ :: _, [], r, _, _, h2, _, _, _ => by simp at h2
  | f :: fs, i, x :: as, y :: bs, r, hk, h1, h2, ha, hb, hr => by
    simp only [okInts, Bool.and_eq_true, beq_iff_eq, Bool.not_eq_true', beq_eq_false_iff_ne] at hk
    obtain ⟨⟨⟨k1, k2⟩, k3⟩, k4⟩ := hk
    simp only [RepL] at ha hb
    obtain ⟨⟨v, v1, v2⟩, ha'⟩ := ha
    obtain ⟨⟨u, u1, u2⟩, hb'⟩ := hb
    cases x <;> first | (cases y <;> simp [eqInts] at hr; done) | skip
    cases y <;> first | (simp [eqInts] at hr; done) | skip
    rename_i k m k' n
    simp only [eqInts] at hr
    split at hr
    rotate_left
    · cases hr
    rename_i hkk
    subst hkk
    cases hq : eqInts as bs with
    | none => rw [hq] at hr; cases hr
    | some q =>
      rw [hq] at hr
      simp only [bnd_some, Option.some.injEq] at hr
      have ih := eqInts_run (d := d) k4 (by simpa using h1) (by simpa using h2) (by simpa only [Nat.add_assoc, Nat.add_comm, Nat.add_left_comm] using ha') (by simpa only [Nat.add_assoc, Nat.add_comm, Nat.add_left_comm] using hb') hq
      simp only [RepP] at v2 u2
      subst v2 u2
      split at k3
      rotate_left
      · cases k3
      rename_i ki hu
      have hrow : rowT P f.type = some false := by simp [rowT, hu]
      have hagg := (rowT_spec hrow w).1
      have p1 : (Go.part f.type va f.offset).run P w = .ok (.int k m) w := by
        have : va[f.offset]? = some (.int k m) := by rw [k2]; simpa using v1
        simp [Go.part, hagg, this]
      have p2 : (Go.part f.type vb f.offset).run P w = .ok (.int k n) w := by
        have : vb[f.offset]? = some (.int k n) := by rw [k2]; simpa using u1
        simp [Go.part, hagg, this]
      simp only [Op.eqFields, if_pos k1, Sem.run_bind, p1, p2, Result.andThen_ok, run_equalIn_int (P := P) w d f.type k ki m n hu]
      rw [← hr]
      by_cases hmn : m = n
      · simp [hmn, ih]
      · simp [hmn]

def okEqs (P : Program) (t : TypeId) (n : Nat) : Bool :=
  match P.underlying t with
  | some (.struct fs) => okInts P fs.toList 0 && fs.size == n && !P.stoodInHeld t && !P.eqGuardType P.depth t
  | _ => false

theorem op_eqs (hG : GOk C σ) (h : RelX C.fid e σ bm s a w) {neq : Bool} {n : Nat} {x1 x2 : Opnd} {y1 y2 : Operand} {t u : TypeId} (ho : o.op = .binOp (if neq then .neq else .eql) t y1 y2 u) (h1 : okO C x1 y1 = true) (h2 : okO C x2 y2 = true) (ht : okEqs C.P t n = true)
    (hev : evalK call C.G s (.eqs neq n x1 x2) = some (c, s')) : OpRes C e s' c a ((execOp a.eval o).run C.P w) := by
  simp only [evalK] at hev
  have r1 := get_rep hG h h1
  have r2 := get_rep hG h h2
  split at hev
  rotate_left
  · cases hev
  rename_i as bs g1 g2
  split at hev
  rotate_left
  · cases hev
  rename_i hn
  cases hq : eqInts as bs with
  | none => rw [hq] at hev; cases hev
  | some q =>
    rw [hq] at hev
    simp only [bnd_some, Option.some.injEq, Prod.mk.injEq] at hev
    obtain ⟨rfl, rfl⟩ := hev
    rw [g1] at r1
    rw [g2] at r2
    simp only [RepT, RepP] at r1 r2
    obtain ⟨va, e1, l1, p1⟩ := r1
    obtain ⟨vb, e2, l2, p2⟩ := r2
    unfold okEqs at ht
    split at ht
    rotate_left
    · cases ht
    rename_i fs hu
    simp only [Bool.and_eq_true, beq_iff_eq, Bool.not_eq_true'] at ht
    obtain ⟨⟨⟨k1, k2⟩, k3⟩, k4⟩ := ht
    have hf : C.P.fieldsOf t = fs := by simp [Program.fieldsOf, hu]
    have hrun := eqInts_run (fid := C.fid) (σ := σ) (w := w) (d := 9998) (va := va) (vb := vb) k1 (by simp; omega) (by simp; omega) (by simpa using p1) (by simpa using p2) hq
    have heq : (Op.equalIn 10000 t (.agg va) (.agg vb)).run C.P w = .ok q w := by
      rw [show (10000 : Nat) = 9999 + 1 from rfl, run_equalIn_struct (P := C.P) w 9999 t va vb (by rw [hf]; exact hu) k3, hf]
      exact hrun
    refine .inl ⟨.bool (if neq then !q else q), w, ?_, Ready.plain h rfl rfl⟩
    cases neq
    · simp only [execOp, ho, e1, e2, Sem.run_bind, Bool.false_eq_true, if_false, run_eqGuard_agg w .eql t y1 y2 va vb k4, Result.andThen_ok, run_eql_struct w t va vb, heq, Sem.run_pure]
    · simp only [execOp, ho, e1, e2, Sem.run_bind, if_true, run_eqGuard_agg w .neq t y1 y2 va vb k4, Result.andThen_ok, run_neq_struct w t va vb, heq, Sem.run_pure]

theorem madeCells_get {z : Array Value} {n i : Nat} (hz : 0 < z.size) (h : i < n) : (madeCells z n)[i]? = z[i % z.size]? := by
  simp only [madeCells, Array.getElem?_map]
  rw [Array.getElem?_range]
  simp only [h, if_true, Option.map_some]
  have : i % z.size < z.size := Nat.mod_lt _ hz
  rw [getElem!_pos z _ this, Array.getElem?_eq_getElem this]

theorem okZero_tip : ∀ {cs : List AV} {vs : List Value} {j : Nat} {c : AV}, okCs cs vs = true → cs[j]? = some c → c.tipSz = none
  | [], _, j, c, _, hc => by simp at hc
  | c0 :: cs, [], j, c, hok, _ => by simp [okCs] at hok
  | c0 :: cs, v :: vs, j, c, hok, hc => by
    simp only [okCs, Bool.and_eq_true] at hok
    cases j with
    | zero => simp at hc; subst hc; exact okC_tip hok.1
    | succ j => exact okZero_tip hok.2 (by simpa using hc)

theorem op_mksl (hG : GOk C σ) (h : RelX C.fid e σ bm s a w) {b sz : Nat} {zero : List AV} {xn xc : Opnd} {yn yc : Operand} {t el : TypeId} {i : TypeInfo} (ho : o.op = .makeSlice t yn yc) (hn : okO C xn yn = true) (hc : okO C xc yc = true)
    (ht : C.P.underlying t = some (.slice el)) (hi : C.P.info? el = some i) (hsz : i.size = sz) (hpos : 0 < sz) (hby : i.bytes ≤ 32768) (hz : okZero C.P zero el = true)
    (hev : evalK call C.G s (.mksl b sz zero xn xc) = some (c, s')) : OpRes C e s' c a ((execOp a.eval o).run C.P w) := by
  simp only [evalK] at hev
  have r1 := get_rep hG h hn
  have r2 := get_rep hG h hc
  split at hev
  rotate_left
  · cases hev
  rename_i k1 n k2 c0 g1 g2
  split at hev
  rotate_left
  · cases hev
  rename_i hcond
  obtain ⟨h0, rfl, hle, hzl⟩ := hcond
  cases hnew : s.newB b (.rows sz (List.replicate n.toNat zero)) with
  | none => rw [hnew] at hev; cases hev
  | some s1 =>
    rw [hnew] at hev
    simp only [bnd_some, Option.some.injEq, Prod.mk.injEq] at hev
    obtain ⟨rfl, rfl⟩ := hev
    rw [g1] at r1
    rw [g2] at r2
    simp only [RepT, RepP] at r1 r2
    obtain ⟨i', z, j1, j2, j3, j4⟩ := okZero_spec hz
    rw [hi] at j1
    injection j1 with j1
    subst j1
    have hzs : z.cells.size = sz := by rw [← hzl]; simpa using (okCs_len j3).symm
    have hb : (i.bytes : Int) * n ≤ 281474976710656 := by
      have h1 : (i.bytes : Int) ≤ 32768 := by omega
      have h2 : (i.bytes : Int) * n ≤ 32768 * 4294967296 := Int.mul_le_mul h1 hle h0 (by omega)
      omega
    have hrun := run_make (P := C.P) w t el i z ht hi j2 k1 k2 n n h0 (Int.le_refl _) hb (by omega)
    rw [hsz] at hrun
    have hget : ∀ j, j < n.toNat * sz → (madeCells z.cells (n.toNat * sz))[j]? = z.cells[j % sz]? := by
      intro j hj
      rw [madeCells_get (by omega) hj, hzs]
    obtain ⟨q1, q2, q3, _⟩ := h.fresh hnew (vs := madeCells z.cells (n.toNat * sz)) (t := el) (m := (0, 0)) ⟨noFrz0 _, fun v hv => by
        obtain ⟨j, hj⟩ := List.getElem?_of_mem hv
        have hj' : (madeCells z.cells (n.toNat * sz))[j]? = some v := by simpa using hj
        have hlt : j < n.toNat * sz := by
          have := (Array.getElem?_eq_some_iff.1 hj').1
          rwa [size_madeCells] at this
        rw [hget j hlt] at hj'
        exact j4.get hj'⟩ ⟨by rw [size_madeCells]; simp, by
          rw [RepR_iff]
          intro j r hr
          have hj : j < n.toNat := by have := (List.getElem?_eq_some_iff.1 hr).1; simpa using this
          rw [List.getElem?_replicate, if_pos hj] at hr
          injection hr with hr
          subst hr
          refine ⟨hzl, ?_⟩
          have hrep := okCs_rep (fid := C.fid) (σ := σ) j3
          rw [RepL_iff] at hrep ⊢
          intro m c hm
          have hms : m < sz := by rw [← hzl]; exact (List.getElem?_eq_some_iff.1 hm).1
          obtain ⟨v, v1, v2⟩ := hrep m c hm
          refine ⟨v, ?_, v2⟩
          have : j * sz + m < n.toNat * sz := by
            have : (j + 1) * sz ≤ n.toNat * sz := Nat.mul_le_mul_right sz hj
            rw [Nat.add_mul] at this; omega
          rw [hget _ this, show (j * sz + m) % sz = m by rw [Nat.add_comm, Nat.add_mul_mod_self_right, Nat.mod_eq_of_lt hms]]
          simpa using v1⟩ (by
        intro j sz' hh
        simp [tipAt, upd_same] at hh)
    refine .inl ⟨.slice (some ⟨w.heap.size, 0, none⟩) n.toNat n.toNat, _, ?_, _, _, q1, ?_, fun b' hb' => ?_, fun sz' hs => by cases hs⟩
    · simp only [execOp, ho, Sem.run_bind, r1, r2, hrun, Result.andThen_ok, Sem.run_pure]
      rfl
    · intro B hB
      simp [upd] at hB
      subst hB
      exact ⟨sz, _, n.toNat, q3, by simp, by simp⟩
    · injection hb' with hb'
      subst hb'
      exact q2
/-- A slice that is made and only read behind it. -/
theorem op_mkz (hG : GOk C σ) (h : RelX C.fid e σ bm s a w) {sz : Nat} {zero : List AV} {xn xc : Opnd} {yn yc : Operand} {t el : TypeId} {i : TypeInfo} (ho : o.op = .makeSlice t yn yc) (hn : okO C xn yn = true) (hc : okO C xc yc = true)
    (ht : C.P.underlying t = some (.slice el)) (hi : C.P.info? el = some i) (hsz : i.size = sz) (hpos : 0 < sz) (hby : i.bytes ≤ 32768) (hz : okZero C.P zero el = true)
    (hev : evalK call C.G s (.mkz sz zero xn xc) = some (c, s')) : OpRes C e s' c a ((execOp a.eval o).run C.P w) := by
  simp only [evalK] at hev
  have r1 := get_rep hG h hn
  have r2 := get_rep hG h hc
  split at hev
  rotate_left
  · cases hev
  rename_i k1 n k2 c0 g1 g2
  split at hev
  rotate_left
  · cases hev
  rename_i hcond
  obtain ⟨h0, rfl, hle, hzl⟩ := hcond
  simp only [Option.some.injEq, Prod.mk.injEq] at hev
  obtain ⟨rfl, rfl⟩ := hev
  rw [g1] at r1
  rw [g2] at r2
  simp only [RepT, RepP] at r1 r2
  obtain ⟨i', z, j1, j2, j3, j4⟩ := okZero_spec hz
  rw [hi] at j1
  injection j1 with j1
  subst j1
  have hzs : z.cells.size = sz := by rw [← hzl]; simpa using (okCs_len j3).symm
  have hb : (i.bytes : Int) * n ≤ 281474976710656 := by
    have h1 : (i.bytes : Int) ≤ 32768 := by omega
    have h2 : (i.bytes : Int) * n ≤ 32768 * 4294967296 := Int.mul_le_mul h1 hle h0 (by omega)
    omega
  have hrun := run_make (P := C.P) w t el i z ht hi j2 k1 k2 n n h0 (Int.le_refl _) hb (by omega)
  rw [hsz] at hrun
  have hget : ∀ j, j < n.toNat * sz → (madeCells z.cells (n.toNat * sz))[j]? = z.cells[j % sz]? := by
    intro j hj
    rw [madeCells_get (by omega) hj, hzs]
  have hready := Ready.newRowM (C := C) (e := e) .full (fun hh => by cases hh) h (vs := madeCells z.cells (n.toNat * sz)) (el := el) (sz := sz) (n := n.toNat) (xs := List.replicate n.toNat (zero.map AV.share)) (by simp) (by rw [size_madeCells]) (fun v hv => by
      obtain ⟨j, hj⟩ := List.getElem?_of_mem hv
      have hj' : (madeCells z.cells (n.toNat * sz))[j]? = some v := by simpa using hj
      have hlt : j < n.toNat * sz := by
        have := (Array.getElem?_eq_some_iff.1 hj').1
        rwa [size_madeCells] at this
      rw [hget j hlt] at hj'
      exact j4.get hj') (by
      rw [RepR_iff]
      intro j r hr
      have hj : j < n.toNat := by have := (List.getElem?_eq_some_iff.1 hr).1; simpa using this
      rw [List.getElem?_replicate, if_pos hj] at hr
      injection hr with hr
      subst hr
      refine ⟨by simpa using hzl, ?_⟩
      have hrep := RepL_map (m := AV.share) (fun _ _ hr => RepP_share hr) (okCs_rep (fid := C.fid) (σ := σ) j3)
      rw [RepL_iff] at hrep ⊢
      intro m c hm
      have hms : m < sz := by rw [← hzl]; simpa using (List.getElem?_eq_some_iff.1 hm).1
      obtain ⟨v, v1, v2⟩ := hrep m c hm
      refine ⟨v, ?_, v2⟩
      have : j * sz + m < n.toNat * sz := by
        have : (j + 1) * sz ≤ n.toNat * sz := Nat.mul_le_mul_right sz hj
        rw [Nat.add_mul] at this; omega
      rw [hget _ this, show (j * sz + m) % sz = m by rw [Nat.add_comm, Nat.add_mul_mod_self_right, Nat.mod_eq_of_lt hms]]
      simpa using v1)
  refine .inl ⟨_, _, ?_, hready⟩
  simp only [execOp, ho, Sem.run_bind, r1, r2, hrun, Result.andThen_ok, Sem.run_pure]
  rfl
/-! ### Bytes and strings -/
theorem bytesOfRows_is : ∀ {xs : List (List AV)} {l : List UInt8}, bytesOfRows xs = some l → ∃ ns : List Int, xs = ns.map (fun n => [AV.int .u8 n]) ∧ l = ns.map fun n => UInt8.ofNat n.toNat
  | [], l, h => by simp only [bytesOfRows, Option.some.injEq] at h; subst h; exact ⟨[], rfl, rfl⟩
  | x :: r, l, h => by
    unfold bytesOfRows at h
    split at h
    · cases ‹_ :: _ = []›
    · rename_i n r' e
      injection e with e1 e2
      subst e1 e2
      cases hr : bytesOfRows r with
      | none => rw [hr] at h; cases h
      | some l' =>
        rw [hr] at h
        simp only [bnd_some, Option.some.injEq] at h
        subst h
        obtain ⟨ns, h1, h2⟩ := bytesOfRows_is hr
        exact ⟨n :: ns, by simp [h1], by simp [h2]⟩
    · cases h
theorem op_convB (hG : GOk C σ) (h : RelX C.fid e σ bm s a w) {x : Opnd} {y : Operand} {t u el : TypeId} (ho : o.op = .convert t u y) (hx : okO C x y = true) (ht : C.P.underlying t = some (.slice el)) (hel : C.P.underlying el = some (.int .u8)) (hu : C.P.underlying u = some .string)
    (hev : evalK call C.G s (.conv .bytesStr x) = some (c, s')) : OpRes C e s' c a ((execOp a.eval o).run C.P w) := by
  have hr := get_rep hG h hx
  simp only [evalK] at hev
  have fin : ∀ {l : List UInt8} {ns : List Int} {cap : Nat} {A : Option Addr} {s1 : S}, l = ns.map (fun n => UInt8.ofNat n.toNat) → a.eval y = .slice A ns.length cap →
      (ns = [] ∨ ∃ B off, A = some ⟨B, off, none⟩ ∧ ∀ i, i < ns.length → w.cell? ⟨B, off + i, none⟩ = some (.int .u8 (ns.getD i 0))) → s1 = s → OpRes C e s1 (.str l) a ((execOp a.eval o).run C.P w) := by
    intro l ns cap A s1 hl hv hc hs
    subst hs hl
    refine .inl ⟨.string ⟨(ns.map fun (n : Int) => UInt8.ofNat n.toNat).toArray⟩, w, ?_, Ready.plain h rfl rfl⟩
    simp only [execOp, ho, hv]
    have : (convert t u (.slice A ns.length cap)).run C.P w = .ok (.string ⟨(ns.map fun (n : Int) => UInt8.ofNat n.toNat).toArray⟩) w := by
      rcases hc with rfl | ⟨B, off, rfl, hc⟩
      · cases A with
        | none => exact run_convert_bytes_nil w t el ht hel _ _ u hu
        | some A => exact run_convert_bytes_back w t u el A cap [] ht hel hu (fun j hj => absurd hj (by simp))
      · exact run_convert_bytes_arg w t el ht hel B off ns.length cap ns rfl hc u hu
    simp [this]
  cases hg : s.get C.G x with
  | sl m sz xs =>
    rw [hg] at hr hev
    have h1 : sz = 1 := by
      by_cases e : sz = 1
      · exact e
      · exfalso
        unfold convK at hev
        split at hev <;> first | (cases hev; done) | (rename_i e1 e2; simp_all)
    subst h1
    simp only [convK] at hev
    obtain ⟨l, h1, h2⟩ := bnd_is.1 hev
    simp only [Option.some.injEq, Prod.mk.injEq] at h2
    obtain ⟨rfl, rfl⟩ := h2
    obtain ⟨ns, rfl, hl⟩ := bytesOfRows_is h1
    obtain ⟨A, n, cap, hv, hn, _, _, hrow⟩ := (show RepP C.fid σ (.sl m 1 (ns.map fun n => [AV.int .u8 n])) _ from hr)
    rw [List.length_map] at hn
    subst hn
    refine fin hl hv ?_ rfl
    rcases hrow with h0 | ⟨B, off, rfl, hrow⟩
    · exact .inl (List.eq_nil_of_length_eq_zero h0)
    · refine .inr ⟨B, off, rfl, fun i hi => ?_⟩
      have := (RepR_iff.1 hrow i [.int .u8 ns[i]] (by rw [List.getElem?_map, List.getElem?_eq_getElem hi]; rfl)).2
      obtain ⟨v, hv1, hv2⟩ := RepL_iff.1 this 0 _ rfl
      simp only [RepP] at hv2
      subst hv2
      have := h.mem B _ _ hv1
      simp only [Nat.mul_one, Nat.add_zero] at this
      rw [this, List.getD_eq_getElem?_getD, List.getElem?_eq_getElem hi]; rfl
  | bs b =>
    rw [hg] at hr hev
    simp only [convK] at hev
    split at hev
    rotate_left
    · cases hev
    rename_i xs hb
    obtain ⟨l, h1, h2⟩ := bnd_is.1 hev
    simp only [Option.some.injEq, Prod.mk.injEq] at h2
    obtain ⟨rfl, rfl⟩ := h2
    obtain ⟨ns, rfl, hl⟩ := bytesOfRows_is h1
    obtain ⟨B, k1, ⟨vs, ty, m, k2, _, _, hrow⟩, _⟩ := h.boxes b _ hb
    obtain ⟨sz', xs', cap, q1, q2, q3⟩ := (show ∀ B, bm b = some B → _ from hr) B k1
    rw [hb] at q1
    injection q1 with q1
    injection q1 with q1 q4
    subst q1 q4
    rw [List.length_map] at q3
    refine fin hl q3 (.inr ⟨B, 0, rfl, fun i hi => ?_⟩) rfl
    have := (RepR_iff.1 hrow i [.int .u8 ns[i]] (by rw [List.getElem?_map, List.getElem?_eq_getElem hi]; rfl)).2
    obtain ⟨v, hv1, hv2⟩ := RepL_iff.1 this 0 _ rfl
    simp only [RepP] at hv2
    subst hv2
    simp only [Nat.mul_one, Nat.add_zero] at hv1
    rw [cell_of k2, Nat.zero_add, hv1, List.getD_eq_getElem?_getD, List.getElem?_eq_getElem hi]; rfl
  | _ => rw [hg] at hev; simp [convK] at hev
theorem op_convT (hG : GOk C σ) (h : RelX C.fid e σ bm s a w) {b : Nat} {x : Opnd} {y : Operand} {t u el : TypeId} (ho : o.op = .convert t u y) (hx : okO C x y = true) (ht : C.P.underlying t = some .string) (hu : C.P.underlying u = some (.slice el)) (hel : C.P.underlying el = some (.int .u8))
    (hev : evalK call C.G s (.conv (.strBytes b) x) = some (c, s')) : OpRes C e s' c a ((execOp a.eval o).run C.P w) := by
  have hr := get_rep hG h hx
  simp only [evalK] at hev
  cases hg : s.get C.G x with
  | str l =>
    rw [hg] at hr hev
    simp only [RepT, RepP] at hr
    simp only [convK] at hev
    obtain ⟨s1, hnew, h2⟩ := bnd_is.1 hev
    simp only [Option.some.injEq, Prod.mk.injEq] at h2
    obtain ⟨rfl, rfl⟩ := h2
    have hrun := run_bytes_of_string (P := C.P) w t u el ⟨l.toArray⟩ ht hu hel
    rw [sizeL] at hrun
    generalize hcap : grownCap w l.length 0 el = cap at hrun
    have hrow : ∀ i, (bytesRow ⟨l.toArray⟩ cap)[i]? = if i < l.length then (l[i]?).map (fun c => Value.int .u8 (c.toNat : Int)) else if i < l.length + (cap - l.length) then some (.int .u8 0) else none := by
      intro i
      unfold bytesRow
      rw [sizeL]
      by_cases hi : i < l.length
      · rw [if_pos hi, Array.getElem?_append_left (by simpa using hi)]
        simp
      · rw [if_neg hi, Array.getElem?_append_right (by simp; omega)]
        simp only [Array.size_map, List.size_toArray, Array.getElem?_replicate]
        split
        · rw [if_pos (by omega)]
        · rw [if_neg (by omega)]
    have hsz : (bytesRow ⟨l.toArray⟩ cap).size = l.length + (cap - l.length) := by
      unfold bytesRow; rw [sizeL]; simp
    have hd : RelX C.fid e σ bm s a w.drew := h.drawn _
    obtain ⟨q1, q2, q3, _⟩ := hd.fresh hnew (vs := bytesRow ⟨l.toArray⟩ cap) (t := el) (m := ((bytesRow ⟨l.toArray⟩ cap).size, (bytesRow ⟨l.toArray⟩ cap).size + 1)) ⟨fun i hi hh => by simp only [] at hh; omega, fun v hv => by
        obtain ⟨j, hj⟩ := List.getElem?_of_mem hv
        have hj' : (bytesRow ⟨l.toArray⟩ cap)[j]? = some v := by simpa using hj
        rw [hrow] at hj'
        split at hj'
        · obtain ⟨c, _, rfl⟩ := Option.map_eq_some_iff.1 hj'; rfl
        · split at hj'
          · injection hj' with hj'; subst hj'; rfl
          · cases hj'⟩ ⟨by rw [hsz]; simp, by
          rw [RepR_iff]
          intro j r hr
          rw [List.getElem?_map, Option.map_eq_some_iff] at hr
          obtain ⟨c, hc, rfl⟩ := hr
          have hj := (List.getElem?_eq_some_iff.1 hc).1
          refine ⟨rfl, RepL_iff.2 fun m d hm => ?_⟩
          cases m with
          | zero =>
            simp at hm
            subst hm
            refine ⟨.int .u8 (c.toNat : Int), ?_, by simp [RepP]⟩
            rw [Nat.mul_one, Nat.add_zero, hrow, if_pos hj, hc]; rfl
          | succ m => simp at hm⟩ (by
        intro j sz' hh
        simp [tipAt, upd_same] at hh)
    refine .inl ⟨.slice (some ⟨w.heap.size, 0, none⟩) l.length cap, _, ?_, _, _, q1, ?_, fun b' hb' => ?_, fun sz' hs => by cases hs⟩
    · simp only [execOp, ho, hr, Sem.run_bind, hrun, Result.andThen_ok, Sem.run_pure]
      rfl
    · intro B hB
      simp [upd] at hB
      subst hB
      refine ⟨1, _, cap, q3, ?_, by simp⟩
      have : l.length ≤ cap := by rw [← hcap]; exact grownCap_ge w l.length 0 el
      simpa using this
    · injection hb' with hb'
      subst hb'
      exact q2
  | _ => rw [hg] at hev; simp [convK] at hev
end
end Go.Vs
