/- Greatest of two, comparisons of structs, slices that are made. -/
import Derived.Test.YtbgodlimjjgogaaDoorVs13
import Derived.Laws.IdiomStrings
import Derived.Laws.BytesArg
import Derived.Laws.MakeOwn
set_option linter.unusedVariables false
namespace Go.Vs
open Go Go.RowKit
section
variable {C : Ctx} {e : Env} {σ τ : Mem} {bm : Nat → Option Nat} {s s' : S} {a : Act} {w w' : World} {call : Call} {o : Oper} {c : AV}
theorem Qju {x : AV} {r : List AV} {l : List Int} (h : Qdk (x :: r) = some l) : ∃ n l', x = .int .i64 n ∧ Qdk r = some l' ∧ l = n :: l' := by
 cases x <;> first | (simp [Qdk] at h; done) | skip
 rename_i k n
 cases k <;> first | (simp [Qdk] at h; done) | skip
 simp only [Qdk] at h
 cases hr : Qdk r with
 | none => rw [hr] at h; cases h
 | some l' =>
  rw [hr] at h
  simp only [Qb, Zi] at h
  exact ⟨n, l', rfl, rfl, h.symm⟩
theorem op_mx (hG : GOk C σ) (h : RelX C.fid e σ bm s a w) {x1 x2 : Opnd} {y1 y2 : Operand} {cl : Go.Call} (ho : o.op = .call cl) (hcl : cl.callee = .builtin .max) (hargs : cl.args = #[y1, y2]) (h1 : okO C x1 y1 = true) (h2 : okO C x2 y2 = true)
  (hev : evalK call C.G s (.mx [x1, x2]) = some (c, s')) : Qap C e s' c a ((execOp a.eval o).run C.P w) := by
 simp only [evalK, List.map_cons, List.map_nil] at hev
 cases hl : Qdk [s.get C.G x1, s.get C.G x2] with
 | none => rw [hl] at hev; cases hev
 | some l =>
  obtain ⟨n1, l1, e1, g1, rfl⟩ := Qju hl
  obtain ⟨n2, l2, e2, g2, rfl⟩ := Qju g1
  simp only [Qdk, Zi] at g2
  subst g2
  rw [hl] at hev
  simp only [Qb, List.foldl_cons, List.foldl_nil, Zi, Zm] at hev
  obtain ⟨rfl, rfl⟩ := hev
  have r1 := Qc hG h h1
  have r2 := Qc hG h h2
  rw [e1] at r1
  rw [e2] at r2
  simp only [RepT, RepP] at r1 r2
  refine .inl ⟨.int .i64 (if n1 < n2 then n2 else n1), w, ?_, Qp.plain h rfl rfl⟩
  simp only [execOp, ho, resolve, hcl, hargs, Sem.run_bind, Sem.run_pure, Result.andThen_ok, invoke, builtin]
  have : (#[y1, y2] : Array Operand).map a.eval = #[a.eval y1, a.eval y2] := by simp
  rw [this, r1, r2, run_max_int2]
  rfl
def Qsq (P : Program) : List Field → Nat → Bool
 | [], _ => true
 | f :: fs, i => !(f.name == "_") && f.offset == i && (match P.underlying f.type with | some (.int _) => true | _ => false) && Qsq P fs (i + 1)
theorem Qmd {fid : Nat → Nat} {P : Program} {d : Nat} {va vb : Array Value} : ∀ {fs : List Field} {i : Nat} {as bs : List AV} {r : Bool}, Qsq P fs i = true → as.length = fs.length → bs.length = fs.length → RepL fid σ as (fun j => va[i + j]?) → RepL fid σ bs (fun j => vb[i + j]?) → Qez as bs = some r →
  (Op.eqFields (d + 1) va vb fs).run P w = .ok r w
 | [], i, [], [], r, _, _, _, _, _, hr => by
  simp only [Qez, Zi] at hr
  subst hr
  simp [Op.eqFields]
 | [], i, _ :: _, _, r, _, h1, _, _, _, _ => by simp at h1
 | [], i, [], _ :: _, r, _, _, h2, _, _, _ => by simp at h2
 | f :: fs, i, [], _, r, _, h1, _, _, _, _ => by simp at h1
 | f :: fs, i, _ :: _, [], r, _, _, h2, _, _, _ => by simp at h2
 | f :: fs, i, x :: as, y :: bs, r, hk, h1, h2, ha, hb, hr => by
  simp only [Qsq, Zw, beq_iff_eq, Bool.not_eq_true', beq_eq_false_iff_ne] at hk
  obtain ⟨⟨⟨k1, k2⟩, k3⟩, k4⟩ := hk
  simp only [RepL] at ha hb
  obtain ⟨⟨v, v1, v2⟩, ha'⟩ := ha
  obtain ⟨⟨u, u1, u2⟩, hb'⟩ := hb
  cases x <;> first | (cases y <;> simp [Qez] at hr; done) | skip
  cases y <;> first | (simp [Qez] at hr; done) | skip
  rename_i k m k' n
  simp only [Qez] at hr
  split at hr
  rotate_left
  ·cases hr
  rename_i hkk
  subst hkk
  cases hq : Qez as bs with
  | none => rw [hq] at hr; cases hr
  | some q =>
   rw [hq] at hr
   simp only [Qb, Zi] at hr
   have ih := Qmd (d := d) k4 (by simpa using h1) (by simpa using h2) (by simpa only [Nat.add_assoc, Nat.add_comm, Nat.add_left_comm] using ha') (by simpa only [Nat.add_assoc, Nat.add_comm, Nat.add_left_comm] using hb') hq
   simp only [RepP] at v2 u2
   subst v2 u2
   split at k3
   rotate_left
   ·cases k3
   rename_i ki hu
   have hrow : rowT P f.type = some false := by simp [rowT, hu]
   have hagg := (Qhj hrow w).1
   have p1 : (Go.part f.type va f.offset).run P w = .ok (.int k m) w := by
    have : va[f.offset]? = some (.int k m) := by rw [k2]; simpa using v1
    simp [Go.part, hagg, this]
   have p2 : (Go.part f.type vb f.offset).run P w = .ok (.int k n) w := by
    have : vb[f.offset]? = some (.int k n) := by rw [k2]; simpa using u1
    simp [Go.part, hagg, this]
   simp only [Op.eqFields, if_pos k1, Sem.run_bind, p1, p2, Result.andThen_ok, run_equalIn_int (P := P) w d f.type k ki m n hu]
   rw [← hr]
   by_cases hmn : m = n
   ·simp [hmn, ih]
   ·simp [hmn]
def okEqs (P : Program) (t : TypeId) (n : Nat) : Bool :=
 match P.underlying t with
 | some (.struct fs) => Qsq P fs.toList 0 && fs.size == n && !P.stoodInHeld t && !P.eqGuardType P.depth t
 | _ => false
theorem op_eqs (hG : GOk C σ) (h : RelX C.fid e σ bm s a w) {neq : Bool} {n : Nat} {x1 x2 : Opnd} {y1 y2 : Operand} {t u : TypeId} (ho : o.op = .binOp (if neq then .neq else .eql) t y1 y2 u) (h1 : okO C x1 y1 = true) (h2 : okO C x2 y2 = true) (ht : okEqs C.P t n = true)
  (hev : evalK call C.G s (.eqs neq n x1 x2) = some (c, s')) : Qap C e s' c a ((execOp a.eval o).run C.P w) := by
 simp only [evalK] at hev
 have r1 := Qc hG h h1
 have r2 := Qc hG h h2
 split at hev
 rotate_left
 ·cases hev
 rename_i as bs g1 g2
 split at hev
 rotate_left
 ·cases hev
 rename_i hn
 cases hq : Qez as bs with
 | none => rw [hq] at hev; cases hev
 | some q =>
  rw [hq] at hev
  simp only [Qb, Zi, Zm] at hev
  obtain ⟨rfl, rfl⟩ := hev
  rw [g1] at r1
  rw [g2] at r2
  simp only [RepT, RepP] at r1 r2
  obtain ⟨va, e1, l1, p1⟩ := r1
  obtain ⟨vb, e2, l2, p2⟩ := r2
  unfold okEqs at ht
  split at ht
  rotate_left
  ·cases ht
  rename_i fs hu
  simp only [Zw, beq_iff_eq, Bool.not_eq_true'] at ht
  obtain ⟨⟨⟨k1, k2⟩, k3⟩, k4⟩ := ht
  have hf : C.P.fieldsOf t = fs := by simp [Program.fieldsOf, hu]
  have hrun := Qmd (fid := C.fid) (σ := σ) (w := w) (d := 9998) (va := va) (vb := vb) k1 (by simp; omega) (by simp; omega) (by simpa using p1) (by simpa using p2) hq
  have heq : (Op.equalIn 10000 t (.agg va) (.agg vb)).run C.P w = .ok q w := by
   rw [show (10000 : Nat) = 9999 + 1 from rfl, run_equalIn_struct (P := C.P) w 9999 t va vb (by rw [hf]; exact hu) k3, hf]
   exact hrun
  refine .inl ⟨.bool (if neq then !q else q), w, ?_, Qp.plain h rfl rfl⟩
  cases neq
  ·simp only [execOp, ho, e1, e2, Sem.run_bind, Bool.false_eq_true, if_false, run_eqGuard_agg w .eql t y1 y2 va vb k4, Result.andThen_ok, run_eql_struct w t va vb, heq, Sem.run_pure]
  ·simp only [execOp, ho, e1, e2, Sem.run_bind, if_true, run_eqGuard_agg w .neq t y1 y2 va vb k4, Result.andThen_ok, run_neq_struct w t va vb, heq, Sem.run_pure]
theorem Qef {z : Array Value} {n i : Nat} (hz : 0 < z.size) (h : i < n) : (madeCells z n)[i]? = z[i % z.size]? := by
 simp only [madeCells, Array.getElem?_map]
 rw [Array.getElem?_range]
 simp only [h, if_true, Option.map_some]
 have : i % z.size < z.size := Nat.mod_lt _ hz
 rw [getElem!_pos z _ this, Array.getElem?_eq_getElem this]
theorem op_mksl (hG : GOk C σ) (h : RelX C.fid e σ bm s a w) {b sz : Nat} {zero : List AV} {xn xc : Opnd} {yn yc : Operand} {t el : TypeId} {i : TypeInfo} (ho : o.op = .makeSlice t yn yc) (hn : okO C xn yn = true) (hc : okO C xc yc = true)
  (ht : C.P.underlying t = some (.slice el)) (hi : C.P.info? el = some i) (hsz : i.size = sz) (hpos : 0 < sz) (hby : i.bytes ≤ 32768) (hz : Qde C.P zero el = true)
  (hev : evalK call C.G s (.mksl b sz zero xn xc) = some (c, s')) : Qap C e s' c a ((execOp a.eval o).run C.P w) := by
 simp only [evalK] at hev
 have r1 := Qc hG h hn
 have r2 := Qc hG h hc
 split at hev
 rotate_left
 ·cases hev
 rename_i k1 n k2 c0 g1 g2
 split at hev
 rotate_left
 ·cases hev
 rename_i hcond
 obtain ⟨h0, rfl, hle, hzl⟩ := hcond
 cases hnew : s.newB b (.rows sz (List.replicate n.toNat zero)) with
 | none => rw [hnew] at hev; cases hev
 | some s1 =>
  rw [hnew] at hev
  simp only [Qb, Zi, Zm] at hev
  obtain ⟨rfl, rfl⟩ := hev
  rw [g1] at r1
  rw [g2] at r2
  simp only [RepT, RepP] at r1 r2
  obtain ⟨i', z, j1, j2, j3, j4⟩ := Qch hz
  rw [hi] at j1
  injection j1 with j1
  subst j1
  have hzs : z.cells.size = sz := by rw [← hzl]; simpa using (Qdn j3).symm
  have hb : (i.bytes : Int) * n ≤ 281474976710656 := by
   have h1 : (i.bytes : Int) ≤ 32768 := by omega
   have h2 : (i.bytes : Int) * n ≤ 32768 * 4294967296 := Int.mul_le_mul h1 hle h0 (by omega)
   omega
  have hrun := run_make (P := C.P) w t el i z ht hi j2 k1 k2 n n h0 (Int.le_refl _) hb (by omega)
  rw [hsz] at hrun
  have hget : ∀ j, j < n.toNat * sz → (madeCells z.cells (n.toNat * sz))[j]? = z.cells[j % sz]? := by
   intro j hj
   rw [Qef (by omega) hj, hzs]
  obtain ⟨q1, q2, q3, _⟩ := h.fresh hnew (vs := madeCells z.cells (n.toNat * sz)) (t := el) (m := (0, 0)) ⟨Qmm _, fun v hv => by
    obtain ⟨j, hj⟩ := List.getElem?_of_mem hv
    have hj' : (madeCells z.cells (n.toNat * sz))[j]? = some v := by simpa using hj
    have hlt : j < n.toNat * sz := by
     have := (Array.getElem?_eq_some_iff.1 hj').1
     rwa [size_madeCells] at this
    rw [hget j hlt] at hj'
    exact j4.get hj'⟩ ⟨by rw [size_madeCells]; simp, by
     rw [Qn]
     intro j r hr
     have hj : j < n.toNat := by have := (List.getElem?_eq_some_iff.1 hr).1; simpa using this
     rw [List.getElem?_replicate, if_pos hj] at hr
     injection hr with hr
     subst hr
     refine ⟨hzl, ?_⟩
     have hrep := Qdo (fid := C.fid) (σ := σ) j3
     rw [Qi] at hrep ⊢
     intro m c hm
     have hms : m < sz := by rw [← hzl]; exact (List.getElem?_eq_some_iff.1 hm).1
     obtain ⟨v, v1, v2⟩ := hrep m c hm
     refine ⟨v, ?_, v2⟩
     have : j * sz + m < n.toNat * sz := by
      have : (j + 1) * sz ≤ n.toNat * sz := Nat.mul_le_mul_right sz hj
      rw [Nat.add_mul] at this; omega
     rw [hget _ this, show (j * sz + m) % sz = m by rw [Nat.add_comm, Nat.add_mul_mod_self_right, Nat.mod_eq_of_lt hms]]
     simpa using v1⟩ (by
    intro j sz' hh
    simp [Qd, Qal] at hh)
  refine .inl ⟨.slice (some ⟨w.heap.size, 0, none⟩) n.toNat n.toNat, _, ?_, _, _, q1, ?_, fun b' hb' => ?_, fun sz' hs => by cases hs⟩
  ·simp only [execOp, ho, Sem.run_bind, r1, r2, hrun, Result.andThen_ok, Sem.run_pure]
   rfl
  ·intro B hB
   simp [upd] at hB
   subst hB
   exact ⟨sz, _, n.toNat, q3, ⟨by simp, fun _ => by simp⟩, by simp⟩
  ·injection hb' with hb'
   subst hb'
   exact q2
theorem op_mkz (hG : GOk C σ) (h : RelX C.fid e σ bm s a w) {sz : Nat} {zero : List AV} {xn xc : Opnd} {yn yc : Operand} {t el : TypeId} {i : TypeInfo} (ho : o.op = .makeSlice t yn yc) (hn : okO C xn yn = true) (hc : okO C xc yc = true)
  (ht : C.P.underlying t = some (.slice el)) (hi : C.P.info? el = some i) (hsz : i.size = sz) (hpos : 0 < sz) (hby : i.bytes ≤ 32768) (hz : Qde C.P zero el = true)
  (hev : evalK call C.G s (.mkz sz zero xn xc) = some (c, s')) : Qap C e s' c a ((execOp a.eval o).run C.P w) := by
 simp only [evalK] at hev
 have r1 := Qc hG h hn
 have r2 := Qc hG h hc
 split at hev
 rotate_left
 ·cases hev
 rename_i k1 n k2 c0 g1 g2
 split at hev
 rotate_left
 ·cases hev
 rename_i hcond
 obtain ⟨h0, rfl, hle, hzl⟩ := hcond
 simp only [Zi, Zm] at hev
 obtain ⟨rfl, rfl⟩ := hev
 rw [g1] at r1
 rw [g2] at r2
 simp only [RepT, RepP] at r1 r2
 obtain ⟨i', z, j1, j2, j3, j4⟩ := Qch hz
 rw [hi] at j1
 injection j1 with j1
 subst j1
 have hzs : z.cells.size = sz := by rw [← hzl]; simpa using (Qdn j3).symm
 have hb : (i.bytes : Int) * n ≤ 281474976710656 := by
  have h1 : (i.bytes : Int) ≤ 32768 := by omega
  have h2 : (i.bytes : Int) * n ≤ 32768 * 4294967296 := Int.mul_le_mul h1 hle h0 (by omega)
  omega
 have hrun := run_make (P := C.P) w t el i z ht hi j2 k1 k2 n n h0 (Int.le_refl _) hb (by omega)
 rw [hsz] at hrun
 have hget : ∀ j, j < n.toNat * sz → (madeCells z.cells (n.toNat * sz))[j]? = z.cells[j % sz]? := by
  intro j hj
  rw [Qef (by omega) hj, hzs]
 have hready := Qp.newRowM (C := C) (e := e) .full (fun hh => by cases hh) h (vs := madeCells z.cells (n.toNat * sz)) (el := el) (sz := sz) (n := n.toNat) (xs := List.replicate n.toNat (zero.map AV.share)) (by simp) (by rw [size_madeCells]) (fun v hv => by
   obtain ⟨j, hj⟩ := List.getElem?_of_mem hv
   have hj' : (madeCells z.cells (n.toNat * sz))[j]? = some v := by simpa using hj
   have hlt : j < n.toNat * sz := by
    have := (Array.getElem?_eq_some_iff.1 hj').1
    rwa [size_madeCells] at this
   rw [hget j hlt] at hj'
   exact j4.get hj') (by
   rw [Qn]
   intro j r hr
   have hj : j < n.toNat := by have := (List.getElem?_eq_some_iff.1 hr).1; simpa using this
   rw [List.getElem?_replicate, if_pos hj] at hr
   injection hr with hr
   subst hr
   refine ⟨by simpa using hzl, ?_⟩
   have hrep := Qba (m := AV.share) (fun _ _ hr => Qs hr) (Qdo (fid := C.fid) (σ := σ) j3)
   rw [Qi] at hrep ⊢
   intro m c hm
   have hms : m < sz := by rw [← hzl]; simpa using (List.getElem?_eq_some_iff.1 hm).1
   obtain ⟨v, v1, v2⟩ := hrep m c hm
   refine ⟨v, ?_, v2⟩
   have : j * sz + m < n.toNat * sz := by
    have : (j + 1) * sz ≤ n.toNat * sz := Nat.mul_le_mul_right sz hj
    rw [Nat.add_mul] at this; omega
   rw [hget _ this, show (j * sz + m) % sz = m by rw [Nat.add_comm, Nat.add_mul_mod_self_right, Nat.mod_eq_of_lt hms]]
   simpa using v1)
 refine .inl ⟨_, _, ?_, hready⟩
 simp only [execOp, ho, Sem.run_bind, r1, r2, hrun, Result.andThen_ok, Sem.run_pure]
 rfl
theorem Qdr : ∀ {xs : List (List AV)} {l : List UInt8}, Qat xs = some l → ∃ ns : List Int, xs = ns.map (fun n => [AV.int .u8 n]) ∧ l = ns.map fun n => UInt8.ofNat n.toNat
 | [], l, h => by simp only [Qat, Zi] at h; subst h; exact ⟨[], rfl, rfl⟩
 | x :: r, l, h => by
  unfold Qat at h
  split at h
  ·cases ‹_ :: _ = []›
  ·rename_i n r' e
   injection e with e1 e2
   subst e1 e2
   cases hr : Qat r with
   | none => rw [hr] at h; cases h
   | some l' =>
    rw [hr] at h
    simp only [Qb, Zi] at h
    subst h
    obtain ⟨ns, h1, h2⟩ := Qdr hr
    exact ⟨n :: ns, by simp [h1], by simp [h2]⟩
  ·cases h
theorem Qyf (hG : GOk C σ) (h : RelX C.fid e σ bm s a w) {x : Opnd} {y : Operand} {t u el : TypeId} (ho : o.op = .convert t u y) (hx : okO C x y = true) (ht : C.P.underlying t = some (.slice el)) (hel : C.P.underlying el = some (.int .u8)) (hu : C.P.underlying u = some .string)
  (hev : evalK call C.G s (.conv .bytesStr x) = some (c, s')) : Qap C e s' c a ((execOp a.eval o).run C.P w) := by
 have hr := Qc hG h hx
 simp only [evalK] at hev
 have fin : ∀ {l : List UInt8} {ns : List Int} {cap : Nat} {A : Option Addr} {s1 : S}, l = ns.map (fun n => UInt8.ofNat n.toNat) → a.eval y = .slice A ns.length cap →
   (ns = [] ∨ ∃ B off, A = some ⟨B, off, none⟩ ∧ ∀ i, i < ns.length → w.cell? ⟨B, off + i, none⟩ = some (.int .u8 (ns.getD i 0))) → s1 = s → Qap C e s1 (.str l) a ((execOp a.eval o).run C.P w) := by
  intro l ns cap A s1 hl hv hc hs
  subst hs hl
  refine .inl ⟨.string ⟨(ns.map fun (n : Int) => UInt8.ofNat n.toNat).toArray⟩, w, ?_, Qp.plain h rfl rfl⟩
  simp only [execOp, ho, hv]
  have : (convert t u (.slice A ns.length cap)).run C.P w = .ok (.string ⟨(ns.map fun (n : Int) => UInt8.ofNat n.toNat).toArray⟩) w := by
   rcases hc with rfl | ⟨B, off, rfl, hc⟩
   ·cases A with
    | none => exact run_convert_bytes_nil w t el ht hel _ _ u hu
    | some A => exact run_convert_bytes_back w t u el A cap [] ht hel hu (fun j hj => absurd hj (by simp))
   ·exact run_convert_bytes_arg w t el ht hel B off ns.length cap ns rfl hc u hu
  simp [this]
 cases hg : s.get C.G x with
 | sl m sz xs =>
  rw [hg] at hr hev
  have h1 : sz = 1 := by
   by_cases e : sz = 1
   ·exact e
   ·exfalso
    unfold convK at hev
    split at hev <;> first | (cases hev; done) | (rename_i e1 e2; simp_all)
  subst h1
  simp only [convK] at hev
  obtain ⟨l, h1, h2⟩ := Qa.1 hev
  simp only [Zi, Zm] at h2
  obtain ⟨rfl, rfl⟩ := h2
  obtain ⟨ns, rfl, hl⟩ := Qdr h1
  obtain ⟨A, n, cap, hv, hn, _, _, hrow⟩ := (show RepP C.fid σ (.sl m 1 (ns.map fun n => [AV.int .u8 n])) _ from hr)
  rw [List.length_map] at hn
  subst hn
  refine fin hl hv ?_ rfl
  rcases hrow with h0 | ⟨B, off, rfl, hrow⟩
  ·exact .inl (List.eq_nil_of_length_eq_zero h0)
  ·refine .inr ⟨B, off, rfl, fun i hi => ?_⟩
   have := (Qn.1 hrow i [.int .u8 ns[i]] (by rw [List.getElem?_map, List.getElem?_eq_getElem hi]; rfl)).2
   obtain ⟨v, hv1, hv2⟩ := Qi.1 this 0 _ rfl
   simp only [RepP] at hv2
   subst hv2
   have := h.mem B _ _ hv1
   simp only [Nat.mul_one, Nat.add_zero] at this
   rw [this, List.getD_eq_getElem?_getD, List.getElem?_eq_getElem hi]; rfl
 | bs b =>
  rw [hg] at hr hev
  simp only [convK] at hev
  split at hev
  rotate_left
  ·cases hev
  rename_i xs hb
  obtain ⟨l, h1, h2⟩ := Qa.1 hev
  simp only [Zi, Zm] at h2
  obtain ⟨rfl, rfl⟩ := h2
  obtain ⟨ns, rfl, hl⟩ := Qdr h1
  obtain ⟨B, k1, ⟨vs, ty, m, k2, _, _, hrow⟩, _⟩ := h.boxes b _ hb rfl
  obtain ⟨sz', xs', cap, q1, q2, q3⟩ := (show ∀ B, bm b = some B → _ from hr) B k1
  rw [hb] at q1
  injection q1 with q1
  injection q1 with q1 q4
  subst q1 q4
  rw [List.length_map] at q3
  refine fin hl q3 (.inr ⟨B, 0, rfl, fun i hi => ?_⟩) rfl
  have := (Qn.1 hrow i [.int .u8 ns[i]] (by rw [List.getElem?_map, List.getElem?_eq_getElem hi]; rfl)).2
  obtain ⟨v, hv1, hv2⟩ := Qi.1 this 0 _ rfl
  simp only [RepP] at hv2
  subst hv2
  simp only [Nat.mul_one, Nat.add_zero] at hv1
  rw [Qag k2, Nat.zero_add, hv1, List.getD_eq_getElem?_getD, List.getElem?_eq_getElem hi]; rfl
 | _ => rw [hg] at hev; simp [convK] at hev
theorem Qyj (hG : GOk C σ) (h : RelX C.fid e σ bm s a w) {b : Nat} {x : Opnd} {y : Operand} {t u el : TypeId} (hb100 : b < 100000) (ho : o.op = .convert t u y) (hx : okO C x y = true) (ht : C.P.underlying t = some .string) (hu : C.P.underlying u = some (.slice el)) (hel : C.P.underlying el = some (.int .u8))
  (hev : evalK call C.G s (.conv (.strBytes b) x) = some (c, s')) : Qap C e s' c a ((execOp a.eval o).run C.P w) := by
 have hr := Qc hG h hx
 simp only [evalK] at hev
 cases hg : s.get C.G x with
 | str l =>
  rw [hg] at hr hev
  simp only [RepT, RepP] at hr
  simp only [convK] at hev
  obtain ⟨s1, hnew, h2⟩ := Qa.1 hev
  simp only [Zi, Zm] at h2
  obtain ⟨rfl, rfl⟩ := h2
  have hrun := run_bytes_of_string (P := C.P) w t u el ⟨l.toArray⟩ ht hu hel
  rw [Qwq] at hrun
  generalize hcap : grownCap w l.length 0 el = cap at hrun
  have hrow : ∀ i, (bytesRow ⟨l.toArray⟩ cap)[i]? = if i < l.length then (l[i]?).map (fun c => Value.int .u8 (c.toNat : Int)) else if i < l.length + (cap - l.length) then some (.int .u8 0) else none := by
   intro i
   unfold bytesRow
   rw [Qwq]
   by_cases hi : i < l.length
   ·rw [if_pos hi, Array.getElem?_append_left (by simpa using hi)]
    simp
   ·rw [if_neg hi, Array.getElem?_append_right (by simp; omega)]
    simp only [Array.size_map, List.size_toArray, Array.getElem?_replicate]
    split
    ·rw [if_pos (by omega)]
    ·rw [if_neg (by omega)]
  have hsz : (bytesRow ⟨l.toArray⟩ cap).size = l.length + (cap - l.length) := by
   unfold bytesRow; rw [Qwq]; simp
  have hd : RelX C.fid e σ bm s a w.drew := h.drawn _
  obtain ⟨q1, q2, q3, _⟩ := hd.fresh hnew (vs := bytesRow ⟨l.toArray⟩ cap) (t := el) (m := ((bytesRow ⟨l.toArray⟩ cap).size, (bytesRow ⟨l.toArray⟩ cap).size + 1)) ⟨fun i hi hh => by simp only [] at hh; omega, fun v hv => by
    obtain ⟨j, hj⟩ := List.getElem?_of_mem hv
    have hj' : (bytesRow ⟨l.toArray⟩ cap)[j]? = some v := by simpa using hj
    rw [hrow] at hj'
    split at hj'
    ·obtain ⟨c, _, rfl⟩ := Option.map_eq_some_iff.1 hj'; rfl
    ·split at hj'
     ·injection hj' with hj'; subst hj'; rfl
     ·cases hj'⟩ ⟨by rw [hsz]; simp, by
     rw [Qn]
     intro j r hr
     rw [List.getElem?_map, Option.map_eq_some_iff] at hr
     obtain ⟨c, hc, rfl⟩ := hr
     have hj := (List.getElem?_eq_some_iff.1 hc).1
     refine ⟨rfl, Qi.2 fun m d hm => ?_⟩
     cases m with
     | zero =>
      simp at hm
      subst hm
      refine ⟨.int .u8 (c.toNat : Int), ?_, by simp [RepP]⟩
      rw [Nat.mul_one, Nat.add_zero, hrow, if_pos hj, hc]; rfl
     | succ m => simp at hm⟩ (by
    intro j sz' hh
    simp [Qd, Qal] at hh)
  refine .inl ⟨.slice (some ⟨w.heap.size, 0, none⟩) l.length cap, _, ?_, _, _, q1, ?_, fun b' hb' => ?_, fun sz' hs => by cases hs⟩
  ·simp only [execOp, ho, hr, Sem.run_bind, hrun, Result.andThen_ok, Sem.run_pure]
   rfl
  ·intro B hB
   simp [upd] at hB
   subst hB
   refine ⟨1, _, cap, q3, ?_, by simp⟩
   have : l.length ≤ cap := by rw [← hcap]; exact grownCap_ge w l.length 0 el
   exact ⟨by simpa using this, fun hh => by omega⟩
  ·injection hb' with hb'
   subst hb'
   exact q2
 | _ => rw [hg] at hev; simp [convK] at hev
end
end Go.Vs
namespace Go.Vs
open Go Go.RowKit
def isSl (P : Program) (t : TypeId) : Option TypeId := match P.underlying t with | some (.slice el) => some el | _ => none
theorem Qy {P : Program} {t el : TypeId} (h : isSl P t = some el) : P.underlying t = some (.slice el) := by
 unfold isSl at h
 split at h
 ·injection h with h; subst h; assumption
 ·cases h
def Qxy (P : Program) (t : TypeId) : Option (Nat × TypeId) := match P.underlying t with | some (.array n el) => some (n, el) | _ => none
theorem Qml {P : Program} {t el : TypeId} {n : Nat} (h : Qxy P t = some (n, el)) : P.underlying t = some (.array n el) := by
 unfold Qxy at h
 split at h
 ·injection h with h; injection h with h1 h2; subst h1 h2; assumption
 ·cases h
def Qnt (P : Program) (t : TypeId) : Bool := match P.underlying t with | some .string => true | _ => false
theorem Qcf {P : Program} {t : TypeId} (h : Qnt P t = true) : P.underlying t = some .string := by
 unfold Qnt at h
 split at h
 ·assumption
 ·cases h
def isBo (P : Program) (t : TypeId) : Bool := match P.underlying t with | some .bool => true | _ => false
theorem Qvw {P : Program} {t : TypeId} (h : isBo P t = true) : P.underlying t = some .bool := by
 unfold isBo at h
 split at h
 ·assumption
 ·cases h
def Qvx (P : Program) (t : TypeId) (k : IntKind) : Bool := match P.underlying t with | some (.int k') => decide (k' = k) | _ => false
theorem Qie {P : Program} {t : TypeId} {k : IntKind} (h : Qvx P t k = true) : P.underlying t = some (.int k) := by
 unfold Qvx at h
 split at h
 ·rename_i k' hk; have := of_decide_eq_true h; rw [hk, this]
 ·cases h
def okK (C : Ctx) : K → Op → Bool
 | .mv x, .move y => okO C x y
 | .mv x, .assign y => okO C x y
 | .pick c x y, .pick c' x' y' => okO C c c' && okO C x x' && okO C y y'
 | .alloc _ z, .alloc t => Qde C.P z t
 | .box _ x, .box _ y => okO C x y
 | .build z ps, .build t qs => Qde C.P z t && match Qei C.P t with | some pl => Qcg C pl ps qs.toList | none => false
 | .buildS _ sz ps, .buildSlice t len qs =>
  match isSl C.P t with
  | some el => match C.P.info? el with
   | some i => i.zero.isSome && i.size == sz && decide (0 < sz) && len == ps.length && decide (len * sz ≤ 2 ^ 24) && (qs.toList.map (·.1)) == List.range len && okOs C ps (qs.toList.map (·.2))
   | none => false
  | none => false
 | .load n agg _ x, .load t y => okO C x y && tsz C.P t == some n && rowT C.P t == some agg
 | .store n x v, .store t y z => okO C x y && okO C v z && tsz C.P t == some n && decide (0 < n)
 | .nilck x, .nilCheck y => okO C x y
 | .bin op x y, .binOp op' _ x' y' _ => decide (op = op') && okO C x x' && okO C y y'
 | .eqb neq x y, .binOp op' t x' y' _ => decide (op' = if neq then .neq else .eql) && isBo C.P t && okO C x x' && okO C y y'
 | .eqs neq n x y, .binOp op' t x' y' _ => decide (op' = if neq then .neq else .eql) && okEqs C.P t n && okO C x x' && okO C y y'
 | .un op x, .unOp op' _ y => decide (op = op') && okO C x y
 | .conv (.int k) x, .convert t u y => okO C x y && (C.P.underlying t).isSome && Qvx C.P u k
 | .conv .strstr x, .convert t u y => okO C x y && (C.P.underlying t).isSome && Qnt C.P u
 | .conv .runeStr x, .convert t u y => okO C x y && (C.P.underlying t).isSome && Qnt C.P u
 | .mkfn g ps, .makeFunc (.func f) first qs => first.isEmpty && C.fid g == f && okOs C ps qs.toList
 | .mksl _ sz z n c, .makeSlice t n' c' =>
  match isSl C.P t with
  | some el => match C.P.info? el with
   | some i => i.size == sz && decide (0 < sz) && decide (i.bytes ≤ 32768) && Qde C.P z el && okO C n n' && okO C c c'
   | none => false
  | none => false
 | .slc sz x lo hi mx, .slice t y lo' hi' mx' => okO C x y && okOO C lo lo' && okOO C hi hi' && okOO C mx mx' && (match isSl C.P t with | some el => tsz C.P el == some sz | none => false)
 | .slcS x lo hi, .slice t y lo' hi' none => okO C x y && okOO C lo lo' && okOO C hi hi' && Qnt C.P t
 | .fadr off x, .fieldAddr t y f => okO C x y && Qeh C.P t f off none none
 | .fld off n agg x, .field t y f => okO C x y && Qeh C.P t f off (some n) (some agg)
 | .iadr sz x i, .indexAddr t y j => okO C x y && okO C i j && (match isSl C.P t with | some el => tsz C.P el == some sz | none => false)
 | .iadrA sz len x i, .indexAddr t y j => okO C x y && okO C i j && (match Qxy C.P t with | some (n, el) => n == len && tsz C.P el == some sz | none => false)
 | .idxS x i, .index t y j => okO C x y && okO C i j && Qnt C.P t
 | .idxA sz len n agg x i, .index t y j => okO C x y && okO C i j && n == sz && (match Qxy C.P t with | some (m, el) => m == len && tsz C.P el == some sz && rowT C.P el == some agg | none => false)
 | .len x, .call cl => (match cl.callee with | .builtin b => decide (b = .len) | _ => false) && (match cl.args, cl.argTypes with | ⟨[y]⟩, ⟨[t]⟩ => okO C x y && (isSl C.P t).isSome | _, _ => false)
 | .lenS x, .call cl => (match cl.callee with | .builtin b => decide (b = .len) | _ => false) && (match cl.args, cl.argTypes with | ⟨[y]⟩, ⟨[t]⟩ => okO C x y && Qnt C.P t | _, _ => false)
 | .app sz x y, .call cl => (match cl.callee with | .builtin b => decide (b = .append) | _ => false) && (match cl.args, cl.argTypes with
  | ⟨[x', y']⟩, ⟨[t, u]⟩ => okO C x x' && okO C y y' && (isSl C.P u).isSome && (match isSl C.P t with
   | some el => match C.P.info? el with
    | some i => (match i.zero with | some z => z.cells.size == sz | none => false) && i.size == sz && decide (0 < sz) && decide (i.bytes ≤ 32768)
    | none => false
   | none => false)
  | _, _ => false)
 | .ext i x, .extract y j => i == j && okO C x y
 | .mx [x, y], .call cl => (match cl.callee with | .builtin b => decide (b = .max) | _ => false) && (match cl.args with | ⟨[x', y']⟩ => okO C x x' && okO C y y' | _ => false)
 | .mkz sz z n c, .makeSlice t n' c' =>
  match isSl C.P t with
  | some el => match C.P.info? el with
   | some i => i.size == sz && decide (0 < sz) && decide (i.bytes ≤ 32768) && Qde C.P z el && okO C n n' && okO C c c'
   | none => false
  | none => false
 | .conv .bytesStr x, .convert t u y => okO C x y && Qnt C.P u && (match isSl C.P t with | some el => Qvx C.P el .u8 | none => false)
 | .conv (.strBytes b) x, .convert t u y => decide (b < 100000) && okO C x y && Qnt C.P t && (match isSl C.P u with | some el => Qvx C.P el .u8 | none => false)
 | _, _ => false
section
variable {C : Ctx} {e : Env} {σ τ : Mem} {bm : Nat → Option Nat} {s s' : S} {a : Act} {w w' : World} {call : Call} {o : Oper} {c : AV}
theorem Qcd {cl : Go.Call} {b : Builtin} (h : (match cl.callee with | .builtin b' => decide (b' = b) | _ => false) = true) : cl.callee = .builtin b := by
 split at h
 ·rename_i b' hb; have := of_decide_eq_true h; rw [hb, this]
 ·cases h
theorem Qym {k : K} {op : Op} (hG : GOk C σ) (h : RelX C.fid e σ bm s a w) (ho : o.op = op) (hk : okK C k op = true) (hev : evalK call C.G s k = some (c, s')) : Qap C e s' c a ((execOp a.eval o).run C.P w) := by
 unfold okK at hk
 split at hk
 case h_1 => exact op_mv hG h (.inl ho) hk hev
 case h_2 => exact op_mv hG h (.inr ho) hk hev
 case h_3 => simp only [Zw] at hk; exact op_pick hG h ho hk.1.1 hk.1.2 hk.2 hev
 case h_4 => exact Qyd h ho hk hev
 case h_5 => exact op_box hG h ho hk hev
 case h_6 =>
  simp only [Zw] at hk
  obtain ⟨k1, k2⟩ := hk
  split at k2
  ·rename_i pl hpl; exact Qye hG h ho k1 hpl k2 hev
  ·cases k2
 case h_7 =>
  split at hk
  ·rename_i el hel
   split at hk
   ·rename_i i hi
    simp only [Zw, beq_iff_eq, Ze] at hk
    obtain ⟨⟨⟨⟨⟨⟨k1, k2⟩, k3⟩, k4⟩, k5⟩, k6⟩, k7⟩ := hk
    obtain ⟨z, hz⟩ := Option.isSome_iff_exists.1 k1
    exact Qpq hG h ho (Qy hel) hi hz k2 k3 k4 k5 k6 k7 hev
   ·cases hk
  ·cases hk
 case h_8 => simp only [Zw, beq_iff_eq] at hk; exact op_load hG h ho hk.1.1 hk.1.2 hk.2 hev
 case h_9 => simp only [Zw, beq_iff_eq, Ze] at hk; exact Qyn hG h ho hk.1.1.1 hk.1.1.2 hk.1.2 hk.2 hev
 case h_10 => exact Qyl hG h ho hk hev
 case h_11 =>
  simp only [Zw, Ze] at hk
  obtain ⟨⟨rfl, k1⟩, k2⟩ := hk
  exact op_bin hG h ho k1 k2 hev
 case h_12 =>
  simp only [Zw, Ze] at hk
  obtain ⟨⟨⟨rfl, k1⟩, k2⟩, k3⟩ := hk
  exact op_eqb hG h ho k2 k3 (Qvw k1) hev
 case h_13 =>
  simp only [Zw, Ze] at hk
  obtain ⟨⟨⟨rfl, k1⟩, k2⟩, k3⟩ := hk
  exact op_eqs hG h ho k2 k3 k1 hev
 case h_14 =>
  simp only [Zw, Ze] at hk
  obtain ⟨rfl, k1⟩ := hk
  exact op_un hG h ho k1 hev
 case h_15 =>
  simp only [Zw] at hk
  obtain ⟨d, hd⟩ := Option.isSome_iff_exists.1 hk.1.2
  exact Qyg hG h ho hk.1.1 hd (Qie hk.2) hev
 case h_16 =>
  simp only [Zw] at hk
  obtain ⟨d, hd⟩ := Option.isSome_iff_exists.1 hk.1.2
  exact Qyi hG h ho hk.1.1 hd (Qcf hk.2) hev
 case h_17 =>
  simp only [Zw] at hk
  obtain ⟨d, hd⟩ := Option.isSome_iff_exists.1 hk.1.2
  exact Qyh hG h ho hk.1.1 hd (Qcf hk.2) hev
 case h_18 =>
  simp only [Zw, beq_iff_eq] at hk
  obtain ⟨⟨k1, k2⟩, k3⟩ := hk
  rw [Array.isEmpty_iff] at k1
  subst k1
  exact op_mkfn hG h ho k2 k3 hev
 case h_19 =>
  split at hk
  ·rename_i el hel
   split at hk
   ·rename_i i hi
    simp only [Zw, beq_iff_eq, Ze] at hk
    obtain ⟨⟨⟨⟨⟨k1, k2⟩, k3⟩, k4⟩, k5⟩, k6⟩ := hk
    exact op_mksl hG h ho k5 k6 (Qy hel) hi k1 k2 k3 k4 hev
   ·cases hk
  ·cases hk
 case h_20 =>
  simp only [Zw] at hk
  obtain ⟨⟨⟨⟨k1, k2⟩, k3⟩, k4⟩, k5⟩ := hk
  split at k5
  ·rename_i el hel; exact op_slc hG h ho k1 k2 k3 k4 (Qy hel) (by simpa using k5) hev
  ·cases k5
 case h_21 =>
  simp only [Zw] at hk
  obtain ⟨⟨⟨k1, k2⟩, k3⟩, k4⟩ := hk
  exact op_slcS hG h ho k1 k2 k3 (Qcf k4) hev
 case h_22 => simp only [Zw] at hk; exact op_fadr hG h ho hk.1 hk.2 hev
 case h_23 => simp only [Zw] at hk; exact op_fld hG h ho hk.1 hk.2 hev
 case h_24 =>
  simp only [Zw] at hk
  obtain ⟨⟨k1, k2⟩, k3⟩ := hk
  split at k3
  ·rename_i el hel; exact op_iadr hG h ho k1 k2 (Qy hel) (by simpa using k3) hev
  ·cases k3
 case h_25 =>
  simp only [Zw] at hk
  obtain ⟨⟨k1, k2⟩, k3⟩ := hk
  split at k3
  ·rename_i n el hel
   simp only [Zw, beq_iff_eq] at k3
   obtain ⟨rfl, k4⟩ := k3
   exact Qyk hG h ho k1 k2 (Qml hel) k4 hev
  ·cases k3
 case h_26 => simp only [Zw] at hk; exact op_idxS hG h ho hk.1.1 hk.1.2 (Qcf hk.2) hev
 case h_27 =>
  simp only [Zw, beq_iff_eq] at hk
  obtain ⟨⟨⟨k1, k2⟩, k0⟩, k3⟩ := hk
  split at k3
  ·rename_i n el hel
   simp only [Zw, beq_iff_eq] at k3
   obtain ⟨⟨rfl, k4⟩, k5⟩ := k3
   exact op_idxA hG h ho k1 k2 (Qml hel) k4 k0 k5 hev
  ·cases k3
 case h_28 =>
  simp only [Zw] at hk
  obtain ⟨k1, k2⟩ := hk
  split at k2
  ·rename_i y t ha ht
   simp only [Zw] at k2
   obtain ⟨el, hel⟩ := Option.isSome_iff_exists.1 k2.2
   exact op_len hG h ho (Qcd k1) ha ht k2.1 (Qy hel) hev
  ·cases k2
 case h_29 =>
  simp only [Zw] at hk
  obtain ⟨k1, k2⟩ := hk
  split at k2
  ·rename_i y t ha ht
   simp only [Zw] at k2
   exact op_lenS hG h ho (Qcd k1) ha ht k2.1 (Qcf k2.2) hev
  ·cases k2
 case h_30 =>
  simp only [Zw] at hk
  obtain ⟨k1, k2⟩ := hk
  split at k2
  ·rename_i x' y' t u ha ht
   simp only [Zw] at k2
   obtain ⟨⟨⟨j1, j2⟩, j3⟩, j4⟩ := k2
   obtain ⟨ul, hul⟩ := Option.isSome_iff_exists.1 j3
   split at j4
   ·rename_i el hel
    split at j4
    ·rename_i i hi
     simp only [Zw, beq_iff_eq, Ze] at j4
     obtain ⟨⟨⟨q1, q2⟩, q3⟩, q4⟩ := j4
     split at q1
     ·rename_i z hz
      exact op_app hG h ho (Qcd k1) ha ht j1 j2 (Qy hel) (Qy hul) hi hz q2 (by simpa using q1) q3 q4 hev
     ·cases q1
    ·cases j4
   ·cases j4
  ·cases k2
 case h_31 =>
  simp only [Zw, beq_iff_eq] at hk
  obtain ⟨rfl, k1⟩ := hk
  exact op_ext hG h ho k1 hev
 case h_32 =>
  simp only [Zw] at hk
  obtain ⟨k1, k2⟩ := hk
  split at k2
  ·rename_i x' y' ha
   simp only [Zw] at k2
   exact op_mx hG h ho (Qcd k1) ha k2.1 k2.2 hev
  ·cases k2
 case h_33 =>
  split at hk
  ·rename_i el hel
   split at hk
   ·rename_i i hi
    simp only [Zw, beq_iff_eq, Ze] at hk
    obtain ⟨⟨⟨⟨⟨k1, k2⟩, k3⟩, k4⟩, k5⟩, k6⟩ := hk
    exact op_mkz hG h ho k5 k6 (Qy hel) hi k1 k2 k3 k4 hev
   ·cases hk
  ·cases hk
 case h_34 =>
  simp only [Zw] at hk
  obtain ⟨⟨k1, k2⟩, k3⟩ := hk
  split at k3
  ·rename_i el hel
   exact Qyf hG h ho k1 (Qy hel) (Qie k3) (Qcf k2) hev
  ·cases k3
 case h_35 =>
  simp only [Zw, Ze] at hk
  obtain ⟨⟨⟨k0, k1⟩, k2⟩, k3⟩ := hk
  split at k3
  ·rename_i el hel
   exact Qyj hG h k0 ho k1 (Qcf k2) (Qy hel) (Qie k3) hev
  ·cases k3
 case h_36 => cases hk
end
end Go.Vs
namespace Go.Vs
open Go Go.RowKit
def Ql (tv : List AV) (bv : List BC) : S := { t := fun i => tv.getD i .undef, b := fun j => bv[j]?, seen := fun j => decide (j < bv.length) }
structure Entry (C : Ctx) (e : Env) (tv : List AV) (bv : List BC) (args : Array Value) (w : World) : Prop where
 rel : RelX C.fid { e with n := args.size } e.σ0 e.pbm (Ql tv bv) ⟨args, []⟩ w
 w0 : e.w0 = w
 len : tv.length = args.size
 g : GOk C e.σ0
 fix : Qea C e
def Qom (C : Ctx) (e : Env) (outs : List AV) (bv' : List BC) (nb : Nat) (v : Value) (w' : World) : Prop :=
  ∃ n s' a', (∀ j c, bv'[j]? = some c → s'.b j = some c) ∧ bv'.length = nb ∧ ∃ c, outs = [c] ∧
    ((∃ cs, c = .np cs ∧ ∃ σ' bm' b B cs', RelX C.fid { e with n := n } σ' bm' s' a' w' ∧ 100 ≤ b ∧ s'.b b = some (.var cs') ∧ bm' b = some B ∧ v = .pointer (some ⟨B, 0, none⟩) ∧ cs = cs'.map AV.share) ∨
     (c.isP = false ∧ Qp C { e with n := n } s' c v a' w'))
structure Known (C : Ctx) (g : Nat) : Prop where
 known : ∃ fn c, C.P.funcs[C.fid g]? = some fn ∧ (fn.name == "runtime.NumGoroutine") = false ∧ fn.body = some c
section
variable {C : Ctx} {e : Env} {σ : Mem} {bm : Nat → Option Nat} {s s' : S} {a : Act} {w w' : World} {call : Call}
structure ArgsOk (C : Ctx) (e : Env) (σ : Mem) (bm : Nat → Option Nat) (s : S) (a : Act) (w : World) (cs : List AV) (vs : List Value) : Prop where
 len : cs.length = vs.length
 rep : ∀ (i : Nat) (c : AV) (v : Value), cs[i]? = some c → vs[i]? = some v → RepT C.fid σ bm s.b c v
 tip : ∀ (i : Nat) (c : AV) (v : Value) (sz : Nat), cs[i]? = some c → vs[i]? = some v → c.tipSz = some sz → Qdq e σ bm w sz v
 apart : ∀ (i : Nat) (c : AV) (v : Value) (sz : Nat), cs[i]? = some c → vs[i]? = some v → c.tipSz = some sz → ∀ p sz' B, Qd s p = some sz' → Qf v = some B → Qf (Qg a w bm p) ≠ some B
 dist : ∀ (i j : Nat) (c d : AV) (v u : Value) (sz sz' B : Nat), cs[i]? = some c → vs[i]? = some v → c.tipSz = some sz → cs[j]? = some d → vs[j]? = some u → d.tipSz = some sz' → Qf v = some B → Qf u = some B → i = j
theorem Qmb (s : S) (x : Opnd) : (s.drop x).b = s.b ∧ (s.drop x).seen = s.seen := by cases x <;> exact ⟨rfl, rfl⟩
theorem Qdv : ∀ (xs : List Opnd) (s : S), (dropAll s xs).b = s.b ∧ (dropAll s xs).seen = s.seen
 | [], s => ⟨rfl, rfl⟩
 | x :: xs, s => by
  have := Qdv xs (s.drop x)
  rw [(Qmb s x).1, (Qmb s x).2] at this
  exact this
theorem Qee : ∀ (xs : List Opnd) {s : S}, RelX C.fid e σ bm s a w → RelX C.fid e σ bm (dropAll s xs) a w
 | [], _, h => h
 | x :: xs, _, h => Qee xs (h.drop x)
theorem Qno {s : S} {x : Opnd} {t sz : Nat} (h : ((s.drop x).t t).tipSz = some sz) : (s.t t).tipSz = some sz ∧ x ≠ .take t := by
 cases x with
 | take u =>
  simp only [S.drop, Qae] at h
  by_cases hu : t = u
  ·subst hu; simp [Qbn] at h
  ·simp [hu] at h; exact ⟨h, fun e => hu (by injection e with e; exact e.symm)⟩
 | _ => exact ⟨h, fun e => by cases e⟩
theorem Qkh : ∀ {xs : List Opnd} {s : S} {t sz : Nat}, ((dropAll s xs).t t).tipSz = some sz → (s.t t).tipSz = some sz ∧ .take t ∉ xs
 | [], s, t, sz, h => ⟨h, by simp⟩
 | x :: xs, s, t, sz, h => by
  obtain ⟨h1, h2⟩ := Qkh (xs := xs) (s := s.drop x) h
  obtain ⟨h3, h4⟩ := Qno h1
  exact ⟨h3, by simp; exact ⟨fun e => h4 e.symm, h2⟩⟩
theorem Qhq {xs : List Opnd} {s : S} {p : Pos} {sz : Nat} (h : Qd (dropAll s xs) p = some sz) : Qd s p = some sz ∧ ∀ t, .take t ∈ xs → p ≠ .t t := by
 cases p with
 | t t =>
  obtain ⟨h1, h2⟩ := Qkh h
  exact ⟨h1, fun u hu e => h2 (by injection e with e; rw [e]; exact hu)⟩
 | c b i =>
  simp only [Qd, (Qdv xs s).1] at h
  exact ⟨h, fun u _ e => by cases e⟩
theorem Qjc : ∀ {xs : List Opnd}, Qcr xs = true → ∀ (i j t : Nat), xs[i]? = some (.take t) → xs[j]? = some (.take t) → i = j
 | [], _, i, j, t, hi, _ => by simp at hi
 | x :: xs, h, i, j, t, hi, hj => by
  have hx : Qcr xs = true := by
   cases x <;> simp only [Qcr] at h <;> first | exact h | (simp only [Zw] at h; exact h.2)
  have key : ∀ (k : Nat), x = .take t → xs[k]? = some (.take t) → False := by
   intro k e hk
   subst e
   simp only [Qcr, Zw, List.all_eq_true] at h
   have := h.1 _ (List.mem_of_getElem? hk)
   simp at this
  cases i with
  | zero =>
   cases j with
   | zero => rfl
   | succ j => exact absurd (by simpa using hj) (key j (by simpa using hi))
  | succ i =>
   cases j with
   | zero => exact absurd (by simpa using hi) (key i (by simpa using hj))
   | succ j => rw [Qjc hx i j t (by simpa using hi) (by simpa using hj)]
theorem Qsk {x : Opnd} {sz : Nat} (h : (s.getA C.G x).tipSz = some sz) : (∃ t, x = .take t ∧ ((s.t t).tipSz = some sz ∨ ∃ xs, s.t t = .sl .zero sz xs)) ∨ ∃ xs, x = .const (.sl .zero sz xs) ∨ x = .const (.sl .tip sz xs) := by
 cases x with
 | tmp t =>
  exfalso
  simp only [S.getA] at h
  split at h
  ·cases h
  ·rw [Qhm] at h; cases h
 | take t =>
  refine .inl ⟨t, rfl, ?_⟩
  simp only [S.getA] at h
  revert h
  cases s.t t <;> intro h <;> first | (cases h; done) | skip
  rename_i m sz' xs
  cases m
  ·simp [AV.toTip, AV.tipSz] at h; subst h; exact .inr ⟨xs, rfl⟩
  ·exact .inl h
  ·cases h
  ·cases h
 | const v =>
  simp only [S.getA] at h
  revert h
  cases v <;> intro h <;> first | (cases h; done) | skip
  rename_i m sz' xs
  cases m
  ·simp [AV.toTip, AV.tipSz] at h; subst h; exact .inr ⟨xs, .inl rfl⟩
  ·simp [AV.toTip, AV.tipSz] at h; subst h; exact .inr ⟨xs, .inr rfl⟩
  ·cases h
  ·cases h
 | func g => cases h
 | glob g => cases h
theorem Qxw (hG : GOk C σ) (h : RelX C.fid e σ bm s a w) {x : Opnd} {y : Operand} (ho : okO C x y = true) : RepT C.fid σ bm s.b (s.getA C.G x) (a.eval y) := by
 have toTip : ∀ {c : AV} {v : Value}, RepT C.fid σ bm s.b c v → RepT C.fid σ bm s.b c.toTip v := by
  intro c v hr
  cases c with
  | sl m sz xs => exact Qew (Qlv (by simpa [RepT] using hr))
  | _ => exact hr
 have share : ∀ {c : AV} {v : Value}, RepT C.fid σ bm s.b c v → RepT C.fid σ bm s.b c.share v := by
  intro c v hr
  cases c with
  | sl m sz xs => exact Qew (Qs (by simpa [RepT] using hr))
  | _ => exact hr
 cases x with
 | tmp t =>
  cases y <;> simp [okO] at ho
  subst ho
  have := h.tmps t
  simp only [S.getA]
  split
  ·rename_i cs hcs
   rw [hcs] at this
   obtain ⟨vs, h1, h2, h3⟩ := (show RepP C.fid σ (.agg cs) _ from this)
   exact ⟨vs, h1, by simpa using h2, Qba (fun _ _ hr => Qs hr) h3⟩
  ·exact share this
 | take t =>
  cases y <;> simp [okO] at ho
  subst ho
  exact toTip (h.tmps _)
 | const c =>
  cases y <;> simp [okO] at ho
  exact toTip (Qew (Qkv ho))
 | func g => exact Qc hG h ho
 | glob i => exact Qc hG h ho
theorem Qdi {fid : Nat → Nat} {sz : Nat} {xs : List (List AV)} {v : Value} (h : RepP fid σ (.sl .zero sz xs) v) : (∃ A n, v = .slice A n 0) ∧ Qf v = none := by
 obtain ⟨A, n, cap, rfl, _, h2, h3, _⟩ := h
 have := h3.1 rfl
 subst this
 exact ⟨⟨A, n, rfl⟩, by cases A <;> simp [Qf]⟩
theorem Qqo (hG : GOk C σ) (h : RelX C.fid e σ bm s a w) {xs : List Opnd} {ys : List Operand} (ho : okOs C xs ys = true) (ht : Qcr xs = true) :
  ArgsOk C e σ bm (dropAll s xs) a w (Qbk C.G s xs) (ys.map a.eval) := by
 have hget : ∀ (i : Nat) (c : AV) (v : Value), (Qbk C.G s xs)[i]? = some c → (ys.map a.eval)[i]? = some v → ∃ x y, xs[i]? = some x ∧ ys[i]? = some y ∧ okO C x y = true ∧ c = s.getA C.G x ∧ v = a.eval y := by
  intro i c v hc hv
  simp only [Qbk, List.getElem?_map] at hc hv
  cases hx : xs[i]? with
  | none => rw [hx] at hc; cases hc
  | some x =>
   obtain ⟨y, hy, hok⟩ := Qft ho i x hx
   rw [hx] at hc
   rw [hy] at hv
   simp only [Option.map_some, Zi] at hc hv
   exact ⟨x, y, rfl, hy, hok, hc.symm, hv.symm⟩
 have htip : ∀ (i : Nat) (c : AV) (v : Value) (sz : Nat), (Qbk C.G s xs)[i]? = some c → (ys.map a.eval)[i]? = some v → c.tipSz = some sz →
   (∃ A n, v = .slice A n 0 ∧ Qf v = none) ∨ (∃ t, xs[i]? = some (.take t) ∧ Qd s (.t t) = some sz ∧ v = Qg a w bm (.t t)) := by
  intro i c v sz hc hv hs
  obtain ⟨x, y, hx, hy, hok, rfl, rfl⟩ := hget i c v hc hv
  rcases Qsk hs with ⟨t, rfl, h1 | ⟨l, h1⟩⟩ | ⟨l, h1 | h1⟩
  ·cases y <;> simp [okO] at hok
   subst hok
   exact .inr ⟨t, hx, h1, rfl⟩
  ·cases y <;> simp [okO] at hok
   subst hok
   have := h.tmps t
   rw [h1] at this
   obtain ⟨⟨A, n, h2⟩, h3⟩ := Qdi (show RepP C.fid σ (.sl .zero sz l) _ from this)
   exact .inl ⟨A, n, h2, h3⟩
  ·subst h1
   cases y <;> simp [okO] at hok
   obtain ⟨⟨A, n, h2⟩, h3⟩ := Qdi (σ := σ) (fid := C.fid) (Qkv hok)
   exact .inl ⟨A, n, h2, h3⟩
  ·subst h1
   cases y <;> simp [okO] at hok
   have := Qih hok
   cases this
 refine { len := by simp [Qbk, Qob ho], rep := fun i c v hc hv => ?_, tip := fun i c v sz hc hv hs => ?_, apart := fun i c v sz hc hv hs p sz' B hp hB => ?_, dist := fun i j c d v u sz sz' B hc hv hs hd hu hs' hB hB' => ?_ }
 ·obtain ⟨x, y, hx, hy, hok, rfl, rfl⟩ := hget i c v hc hv
  rw [(Qdv xs s).1]
  exact Qxw hG h hok
 ·rcases htip i c v sz hc hv hs with ⟨A, n, rfl, _⟩ | ⟨t, _, h2, rfl⟩
  ·exact ⟨A, n, 0, rfl, .inl rfl⟩
  ·exact h.tip _ _ h2
 ·rcases htip i c v sz hc hv hs with ⟨A, n, rfl, h0⟩ | ⟨t, h1, h2, rfl⟩
  ·rw [h0] at hB; cases hB
  ·intro hB'
   obtain ⟨k1, k2⟩ := Qhq hp
   exact k2 t (List.mem_of_getElem? h1) (h.dist p (.t t) sz' sz B k1 h2 hB' hB)
 ·rcases htip i c v sz hc hv hs with ⟨A, n, rfl, h0⟩ | ⟨t, h1, h2, rfl⟩
  ·rw [h0] at hB; cases hB
  ·rcases htip j d u sz' hd hu hs' with ⟨A, n, rfl, h0⟩ | ⟨t', h3, h4, rfl⟩
   ·rw [h0] at hB'; cases hB'
   ·have := h.dist _ _ sz sz' B h2 h4 hB hB'
    injection this with this
    subst this
    exact Qjc ht i j t h1 h3
theorem Qcp : ∀ {cs : List AV} {j : Nat} {tv : List AV} {bv : List BC} {ls : List Nat}, lend s cs j = some (tv, bv, ls) →
  tv.length = cs.length ∧ ls.length = bv.length ∧ (∀ k b : Nat, ls[k]? = some b → j + k < 99 ∧ ∃ cs', s.b b = some (.var cs') ∧ bv[k]? = some (.var cs')) ∧
  (∀ (k k' b : Nat), ls[k]? = some b → ls[k']? = some b → k = k') ∧
  (∀ (i : Nat) (c : AV), cs[i]? = some c → (c.isP = false ∧ tv[i]? = some c) ∨ (∃ b k, c = .bp b 0 ∧ tv[i]? = some (.bp (j + k) 0) ∧ ls[k]? = some b))
 | [], j, tv, bv, ls, h => by
  simp only [lend, Zi, Zm] at h
  obtain ⟨rfl, rfl, rfl⟩ := h
  simp
 | c :: cs, j, tv, bv, ls, h => by
  have plain : c.isP = false → (bnd (lend s cs j) fun (x : List AV × List BC × List Nat) => some (c :: x.1, x.2.1, x.2.2)) = some (tv, bv, ls) → tv.length = (c :: cs).length ∧ ls.length = bv.length ∧ (∀ k b : Nat, ls[k]? = some b → j + k < 99 ∧ ∃ cs', s.b b = some (.var cs') ∧ bv[k]? = some (.var cs')) ∧
    (∀ (k k' b : Nat), ls[k]? = some b → ls[k']? = some b → k = k') ∧
    (∀ (i : Nat) (d : AV), (c :: cs)[i]? = some d → (d.isP = false ∧ tv[i]? = some d) ∨ (∃ b k, d = .bp b 0 ∧ tv[i]? = some (.bp (j + k) 0) ∧ ls[k]? = some b)) := by
   intro hp hb
   cases hl : lend s cs j with
   | none => rw [hl] at hb; cases hb
   | some r =>
    obtain ⟨tv', bv', ls'⟩ := r
    rw [hl] at hb
    simp only [Qb, Zi, Zm] at hb
    obtain ⟨rfl, rfl, rfl⟩ := hb
    obtain ⟨h1, h2, h3, h4, h5⟩ := Qcp hl
    refine ⟨by simp [h1], h2, h3, h4, fun i d hd => ?_⟩
    cases i with
    | zero => simp at hd; subst hd; exact .inl ⟨hp, rfl⟩
    | succ i => simpa using h5 i d (by simpa using hd)
  cases c with
  | bp b off =>
   simp only [lend] at h
   split at h
   rotate_left
   ·cases h
   rename_i hc
   obtain ⟨rfl, hj⟩ := hc
   split at h
   rotate_left
   ·cases h
   rename_i cs0 hb
   cases hl : lend s cs (j + 1) with
   | none => rw [hl] at h; cases h
   | some r =>
    obtain ⟨tv', bv', ls'⟩ := r
    rw [hl] at h
    simp only [Qb] at h
    split at h
    ·cases h
    ·rename_i hn
     simp only [Zi, Zm] at h
     obtain ⟨rfl, rfl, rfl⟩ := h
     obtain ⟨h1, h2, h3, h4, h5⟩ := Qcp hl
     have hnm : ∀ k, ls'[k]? ≠ some b := fun k hk => hn (by simpa using List.mem_of_getElem? hk)
     refine ⟨by simp [h1], by simp [h2], fun k b' hk => ?_, fun k k' b' hk hk' => ?_, fun i d hd => ?_⟩
     ·cases k with
      | zero => simp at hk; subst hk; exact ⟨by omega, cs0, hb, rfl⟩
      | succ k =>
       obtain ⟨q1, q2⟩ := h3 k b' (by simpa using hk)
       exact ⟨by omega, by simpa using q2⟩
     ·cases k with
      | zero =>
       cases k' with
       | zero => rfl
       | succ k' => simp at hk hk'; subst hk; exact absurd hk' (hnm k')
      | succ k =>
       cases k' with
       | zero => simp at hk hk'; subst hk'; exact absurd hk (hnm k)
       | succ k' => rw [h4 k k' b' (by simpa using hk) (by simpa using hk')]
     ·cases i with
      | zero => simp at hd; subst hd; exact .inr ⟨b, 0, rfl, rfl, rfl⟩
      | succ i =>
       rcases h5 i d (by simpa using hd) with ⟨q1, q2⟩ | ⟨b', k, q1, q2, q3⟩
       ·exact .inl ⟨q1, by simpa using q2⟩
       ·exact .inr ⟨b', k + 1, q1, by simpa [Nat.add_assoc, Nat.add_comm 1 k] using q2, by simpa using q3⟩
  | undef | int | bool | str | con | sl | agg | rp | fn | tup | tr | trp =>
   refine plain rfl ?_
   simpa [lend, AV.isP] using h
  | bs | be | np => simp [lend, AV.isP] at h
theorem Qcu : ∀ {ls : List Nat} {bv : List BC} {s s' : S}, giveBack s ls bv = some s' → (∀ (k k' b : Nat), ls[k]? = some b → ls[k']? = some b → k = k') →
  ls.length = bv.length ∧ s'.t = s.t ∧ s'.seen = s.seen ∧ (∀ b, (∀ k : Nat, ls[k]? ≠ some b) → s'.b b = s.b b) ∧ ∀ (k b : Nat) (c : BC), ls[k]? = some b → bv[k]? = some c → s'.b b = some c
 | [], [], s, s', h, _ => by
  simp only [giveBack, Zi] at h
  subst h
  simp
 | [], _ :: _, s, s', h, _ => by simp [giveBack] at h
 | _ :: _, [], s, s', h, _ => by simp [giveBack] at h
 | b :: ls, c :: bv, s, s', h, hn => by
  simp only [giveBack] at h
  obtain ⟨h1, h2, h3, h4, h5⟩ := Qcu h (fun k k' b' hk hk' => by
   have := hn (k + 1) (k' + 1) b' (by simpa using hk) (by simpa using hk')
   omega)
  refine ⟨by simp [h1], h2, h3, fun b' hb' => ?_, fun k b' c' hk hc => ?_⟩
  ·rw [h4 b' (fun k hk => hb' (k + 1) (by simpa using hk))]
   have : b' ≠ b := fun e => hb' 0 (by simp [e])
   simp [S.setB, Qab _ _ this]
  ·cases k with
   | zero =>
    simp at hk hc
    subst hk hc
    rw [h4 b (fun k hk => by have := hn 0 (k + 1) b (by simp) (by simpa using hk); omega)]
    simp [S.setB, upd]
   | succ k => exact h5 k b' c' (by simpa using hk) (by simpa using hc)
def Qm (σ : Mem) (bm : Nat → Option Nat) (s : S) (a : Act) (w : World) (cs : List AV) (vs : List Value) (ls : List Nat) (P : Nat → Prop) : Env where
 w0 := w
 σ0 := σ
 lent := fun B => (∃ k b : Nat, ls[k]? = some b ∧ bm b = some B) ∨ (∃ (i : Nat) (c : AV) (v : Value) (sz : Nat), cs[i]? = some c ∧ vs[i]? = some v ∧ AV.tipSz c = some sz ∧ Qf v = some B) ∨
  (∃ k b i sz : Nat, ls[k]? = some b ∧ Qd s (.c b i) = some sz ∧ Qf (Qg a w bm (.c b i)) = some B) ∨ P B
 pbm := fun k => (ls[k]?).bind bm
 n := 0
theorem Qdq.to {e' : Env} {bm' : Nat → Option Nat} {sz : Nat} {v : Value} (h : Qdq e σ bm w sz v) (ho : ∀ B, Qf v = some B → e'.own B) (hb : ∀ b B, bm' b = some B → ∃ b', bm b' = some B) : Qdq e' σ bm' w sz v := by
 obtain ⟨A, n, cap, rfl, h2⟩ := h
 refine ⟨A, n, cap, rfl, ?_⟩
 by_cases hc : cap = 0
 ·exact .inl hc
 ·rcases h2 with h2 | ⟨B, o, vs, t, m, k1, k2, k3, k4, k5, k6, k7⟩
  ·exact .inl h2
  ·subst k1
   exact .inr ⟨B, o, vs, t, m, rfl, k2, k3, k4, k5, ho B (by simp [Qf, hc]), fun b hh => by
    obtain ⟨b', hb'⟩ := hb b B hh
    exact k7 b' hb'⟩
theorem Qhr {sz B : Nat} {v : Value} (h : Qdq e σ bm w sz v) (hB : Qf v = some B) : e.own B := by
 obtain ⟨A, m, cap, rfl, h2⟩ := h
 rcases h2 with rfl | ⟨B', o, arr, t, mk, k1, k2, k3, k4, k5, k6, k7⟩
 ·cases A <;> simp [Qf] at hB
 ·subst k1
  simp only [Qf] at hB
  split at hB
  ·cases hB
  ·injection hB with hB; subst hB; exact k6
theorem fix_of (hF : Qea C e) (h : RelX C.fid e σ bm s a w) {cs : List AV} {vs : List Value} (ha : ArgsOk C e σ bm s a w cs vs) {tv : List AV} {bv : List BC} {ls : List Nat} (hl : lend s cs 0 = some (tv, bv, ls)) {P : Nat → Prop} (hP : ∀ B, P B → e.own B ∧ B < w.heap.size ∧ ¬ Qz s bm a w B) :
  Qea C (Qm σ bm s a w cs vs ls P) := by
 intro x hx
 obtain ⟨h1, h2, o, h3, h4⟩ := hF x hx
 refine ⟨Nat.lt_of_lt_of_le h1 h.grown, fun hl' => ?_, o, (h.old _ h1 h2).trans h3, h4⟩
 have hown : e.own x.1 := by
  rcases hl' with ⟨k, b, q1, q2⟩ | ⟨i, c, v, sz, q1, q2, q3, q4⟩ | ⟨k, b, i, sz, q1, q2, q3⟩ | hPB
  ·cases hs : s.b b with
   | none => rw [h.dead b hs] at q2; cases q2
   | some c =>
    obtain ⟨B', k1, _, k3, _⟩ := h.boxes b c hs (h.nar hs q2)
    rw [q2] at k1; injection k1 with k1; rw [k1]; exact k3
  ·exact Qhr (ha.tip i c v sz q1 q2 q3) q4
  ·exact Qhr (h.tip _ _ q2) q3
  ·exact (hP _ hPB).1
 rcases hown with k | k
 ·omega
 ·exact h2 k
theorem Qjf (hG : GOk C σ) (hF : Qea C e) (h : RelX C.fid e σ bm s a w) {cs : List AV} {vs : List Value} (ha : ArgsOk C e σ bm s a w cs vs) {tv : List AV} {bv : List BC} {ls : List Nat} (hl : lend s cs 0 = some (tv, bv, ls)) {P : Nat → Prop} (hP : ∀ B, P B → e.own B ∧ B < w.heap.size ∧ ¬ Qz s bm a w B) :
    Entry C (Qm σ bm s a w cs vs ls P) tv bv vs.toArray w := by
  obtain ⟨l1, l2, l3, l4, l5⟩ := Qcp hl
  have hbv : ∀ (k : Nat) (c : BC), bv[k]? = some c → ∃ b cs', ls[k]? = some b ∧ c = .var cs' ∧ s.b b = some (.var cs') := by
    intro k c hk
    have hlt : k < ls.length := by rw [l2]; exact (List.getElem?_eq_some_iff.1 hk).1
    obtain ⟨_, cs', h1, h2⟩ := l3 k ls[k] (List.getElem?_eq_getElem hlt)
    rw [hk] at h2
    injection h2 with h2
    exact ⟨ls[k], cs', List.getElem?_eq_getElem hlt, h2, h1⟩
  have hpbm : ∀ k B, (Qm σ bm s a w cs vs ls P).pbm k = some B → ∃ b, ls[k]? = some b ∧ bm b = some B := by
    intro k B hk
    simp only [Qm] at hk
    cases hb : ls[k]? with
    | none => rw [hb] at hk; cases hk
    | some b => rw [hb] at hk; exact ⟨b, rfl, hk⟩
  have htv : ∀ (t : Nat), ((Ql tv bv).t t = .undef) ∨ ∃ c v, cs[t]? = some c ∧ vs[t]? = some v ∧ ((c.isP = false ∧ (Ql tv bv).t t = c) ∨ ∃ b k, c = .bp b 0 ∧ (Ql tv bv).t t = .bp k 0 ∧ ls[k]? = some b) := by
    intro t
    by_cases ht : t < cs.length
    · right
      refine ⟨cs[t], vs[t]'(by rw [← ha.len]; exact ht), List.getElem?_eq_getElem ht, List.getElem?_eq_getElem _, ?_⟩
      rcases l5 t cs[t] (List.getElem?_eq_getElem ht) with ⟨h1, h2⟩ | ⟨b, k, h1, h2, h3⟩
      · exact .inl ⟨h1, by simp [Ql, h2]⟩
      · exact .inr ⟨b, k, h1, by simp [Ql, h2], h3⟩
    · left
      simp only [Ql, List.getD_eq_getElem?_getD]
      rw [List.getElem?_eq_none (by omega)]; rfl
  have hval : ∀ (t : Nat) (v : Value), vs[t]? = some v → (⟨vs.toArray, []⟩ : Act).tmps.getD t undef = v := by
    intro t v hv
    simp [Array.getD_eq_getD_getElem?, hv]
  have hcell : ∀ (k b i : Nat), ls[k]? = some b → Qg ⟨vs.toArray, []⟩ w (Qm σ bm s a w cs vs ls P).pbm (.c k i) = Qg a w bm (.c b i) := by
    intro k b i hk
    simp [Qg, Qm, hk]
  have htipT : ∀ (t sz : Nat), Qd (Ql tv bv) (.t t) = some sz → ∃ c v, cs[t]? = some c ∧ vs[t]? = some v ∧ c.tipSz = some sz ∧ Qg ⟨vs.toArray, []⟩ w (Qm σ bm s a w cs vs ls P).pbm (.t t) = v := by
    intro t sz ht
    simp only [Qd] at ht
    rcases htv t with h1 | ⟨c, v, h1, h2, ⟨_, h3⟩ | ⟨b, k, _, h3, _⟩⟩
    · rw [h1] at ht; cases ht
    · rw [h3] at ht; exact ⟨c, v, h1, h2, ht, hval t v h2⟩
    · rw [h3] at ht; cases ht
  have htipC : ∀ (k i sz : Nat), Qd (Ql tv bv) (.c k i) = some sz → ∃ b, ls[k]? = some b ∧ Qd s (.c b i) = some sz := by
    intro k i sz ht
    simp only [Qd] at ht
    split at ht
    · rename_i cs' hk
      obtain ⟨b, cs2, q1, q2, q3⟩ := hbv k _ hk
      injection q2 with q2
      subst q2
      exact ⟨b, q1, by simp only [Qd, q3]; exact ht⟩
    · cases ht
  refine { w0 := rfl, len := by simp [l1, ha.len], g := hG, fix := fix_of hF h ha hl hP, rel := ?_ }
  refine { defers := rfl, hds := rfl, size := rfl, tmps := fun t => ?_, boxes := fun k c hk har => ?_, dead := fun k hk => ?_, ar := fun k es hk => (by obtain ⟨b, cs', q1, q2, q3⟩ := hbv k _ hk; cases q2), inj := fun k k' B h1 h2 => ?_, par := fun j B B' _ h1 h2 => ?_, newb := fun k B hk h1 => ?_,
           seenB := fun k hk => ?_, seenT := fun t k hk => ?_, mem := h.mem, one := h.one, old := fun _ _ _ => rfl, oldσ := fun _ _ _ => rfl, leσ := Mem.le_refl σ, grown := Nat.le_refl _, os := rfl, tape := rfl, output := rfl,
           tip := fun p sz hp => ?_, dist := fun p q sz sz' B hp hq h1 h2 => ?_ }
  · rcases htv t with h1 | ⟨c, v, h1, h2, ⟨h3, h4⟩ | ⟨b, k, h3, h4, h5⟩⟩
    · rw [h1]; simp [RepT, RepP]
    · rw [h4, hval t v h2]
      exact (Qu h3).2 ((Qu h3).1 (ha.rep t c v h1 h2))
    · rw [h4, hval t v h2]
      have := ha.rep t c v h1 h2
      rw [h3] at this
      intro B hB
      obtain ⟨b', q1, q2⟩ := hpbm k B hB
      rw [h5] at q1
      injection q1 with q1
      subst q1
      exact this B q2
  · obtain ⟨b, cs', q1, rfl, q3⟩ := hbv k c hk
    obtain ⟨B, r1, r2, r3, r4⟩ := h.boxes b _ q3 rfl
    exact ⟨B, by simp [Qm, q1, r1], r2, .inr (.inl ⟨k, b, q1, r1⟩), r4⟩
  · have : ls[k]? = none := by
      have := List.getElem?_eq_none_iff.1 (show bv[k]? = none from hk)
      exact List.getElem?_eq_none (by omega)
    simp [Qm, this]
  · obtain ⟨b, q1, q2⟩ := hpbm k B h1
    obtain ⟨b', q3, q4⟩ := hpbm k' B h2
    have := h.inj b b' B q2 q4
    subst this
    exact l4 k k' b q1 q3
  · have h1' : (Qm σ bm s a w cs vs ls P).pbm j = some B := h1
    rw [h1'] at h2
    injection h2 with h2
    exact h2.symm
  · obtain ⟨b, q1, q2⟩ := hpbm k B h1
    have := (l3 k b q1).1
    omega
  · have : k < bv.length := by
      cases hh : bv[k]? with
      | none => exact absurd hh hk
      | some c => exact (List.getElem?_eq_some_iff.1 hh).1
    simp [Ql, this]
  · rcases htv t with h1 | ⟨c, v, h1, h2, ⟨h3, h4⟩ | ⟨b, k', h3, h4, h5⟩⟩
    · rw [h1] at hk; cases hk
    · rw [h4, Qcw h3] at hk; cases hk
    · rw [h4] at hk
      injection hk with hk
      subst hk
      have : k' < bv.length := by rw [← l2]; exact (List.getElem?_eq_some_iff.1 h5).1
      simp [Ql, this]
  · have hpb : ∀ k B, (Qm σ bm s a w cs vs ls P).pbm k = some B → ∃ b', bm b' = some B := fun k B hk => by
      obtain ⟨b, _, q2⟩ := hpbm k B hk
      exact ⟨b, q2⟩
    cases p with
    | t t =>
      obtain ⟨c, v, q1, q2, q3, q4⟩ := htipT t sz hp
      show Qdq _ σ _ w sz (Qg _ w _ (.t t))
      rw [q4]
      exact (ha.tip t c v sz q1 q2 q3).to (fun B hB => .inr (.inr (.inl ⟨t, c, v, sz, q1, q2, q3, hB⟩))) hpb
    | c k i =>
      obtain ⟨b, q1, q2⟩ := htipC k i sz hp
      show Qdq _ σ _ w sz (Qg _ w _ (.c k i))
      rw [hcell k b i q1]
      exact (h.tip _ _ q2).to (fun B hB => .inr (.inr (.inr (.inl ⟨k, b, i, sz, q1, q2, hB⟩)))) hpb
  · cases p with
    | t t =>
      obtain ⟨c, v, p1, p2, p3, p4⟩ := htipT t sz hp
      have h1' : Qf v = some B := p4 ▸ h1
      cases q with
      | t u =>
        obtain ⟨c', v', q1, q2, q3, q4⟩ := htipT u sz' hq
        have h2' : Qf v' = some B := q4 ▸ h2
        rw [ha.dist t u c c' v v' sz sz' B p1 p2 p3 q1 q2 q3 h1' h2']
      | c k i =>
        obtain ⟨b, q1, q2⟩ := htipC k i sz' hq
        have h2' : Qf (Qg a w bm (.c b i)) = some B := (hcell k b i q1) ▸ h2
        exact absurd h2' (ha.apart t c v sz p1 p2 p3 _ _ B q2 h1')
    | c k i =>
      obtain ⟨b, p1, p2⟩ := htipC k i sz hp
      have h1' : Qf (Qg a w bm (.c b i)) = some B := (hcell k b i p1) ▸ h1
      cases q with
      | t u =>
        obtain ⟨c', v', q1, q2, q3, q4⟩ := htipT u sz' hq
        have h2' : Qf v' = some B := q4 ▸ h2
        exact absurd h1' (ha.apart u c' v' sz' q1 q2 q3 _ _ B p2 h2')
      | c k' i' =>
        obtain ⟨b', q1, q2⟩ := htipC k' i' sz' hq
        have h2' : Qf (Qg a w bm (.c b' i')) = some B := (hcell k' b' i' q1) ▸ h2
        have := h.dist _ _ sz sz' B p2 q2 h1' h2'
        injection this with e1 e2
        subst e1 e2
        rw [l4 k k' b p1 q1]
end
end Go.Vs
namespace Go.Vs
open Go Go.RowKit
section
variable {C : Ctx} {e : Env} {σ σ' : Mem} {bm bm' : Nat → Option Nat} {s s1 sc : S} {a ac : Act} {w w' : World} {call : Call} {cs : List AV} {vs : List Value} {tv : List AV} {bv bv' : List BC} {ls : List Nat} {n : Nat}
structure Back (C : Ctx) (e : Env) (σ' : Mem) (bm : Nat → Option Nat) (bm' : Nat → Option Nat) (s s1 sc : S) (a ac : Act) (w w' : World) (E : Env) (n : Nat) : Prop where
 rel : RelX C.fid e σ' bm s1 a w'
 own : ∀ B, E.own B → e.own B
 box : ∀ b B, bm b = some B → E.own B → ∃ k, bm' k = some B ∧ sc.b k ≠ none
 tip : ∀ p sz B, Qd s1 p = some sz → Qf (Qg a w' bm p) = some B → E.own B → ∃ q, Qd sc q = some sz ∧ Qf (Qg ac w' bm' q) = some B
 old : ∀ b B, bm b = some B → B < w.heap.size
theorem Qqq {P : Nat → Prop} {H : Nat → Option Value} (h : RelX C.fid e σ bm s a w) (ha : ArgsOk C e σ bm s a w cs vs) (hl : lend s cs 0 = some (tv, bv, ls)) (hx : RelX C.fid { Qm σ bm s a w cs vs ls P with n := n, hd := H } σ' bm' sc ac w')
    (hb : ∀ (j : Nat) (c : BC), bv'[j]? = some c → sc.b j = some c) (hn : bv'.length = bv.length) (hg : giveBack s ls bv' = some s1) (hnar : ∀ c ∈ bv', c.isAr = false) (hP : ∀ B, P B → e.own B ∧ B < w.heap.size ∧ ¬ Qz s bm a w B) :
    Back C { e with hd := H } σ' bm bm' s s1 sc a ac w w' (Qm σ bm s a w cs vs ls P) n := by
  obtain ⟨l1, l2, l3, l4, l5⟩ := Qcp hl
  obtain ⟨g1, g2, g3, g4, g5⟩ := Qcu hg l4
  generalize hE : Qm σ bm s a w cs vs ls P = E at *
  have Ew : E.w0 = w := by rw [← hE]; rfl
  have Eσ : E.σ0 = σ := by rw [← hE]; rfl
  have Ep : ∀ k, E.pbm k = (ls[k]?).bind bm := fun k => by rw [← hE]; rfl
  have El : ∀ B, E.lent B ↔ ((∃ k b : Nat, ls[k]? = some b ∧ bm b = some B) ∨ (∃ (i : Nat) (c : AV) (v : Value) (sz : Nat), cs[i]? = some c ∧ vs[i]? = some v ∧ AV.tipSz c = some sz ∧ Qf v = some B) ∨
    (∃ k b i sz : Nat, ls[k]? = some b ∧ Qd s (.c b i) = some sz ∧ Qf (Qg a w bm (.c b i)) = some B) ∨ P B) := fun B => by rw [← hE]; rfl
  have hold : ∀ B, B < w.heap.size → ¬ E.lent B → w'.heap[B]? = w.heap[B]? ∧ σ' B = σ B := by
    intro B h1 h2
    have q1 := hx.old B (by show B < E.w0.heap.size; rw [Ew]; exact h1) h2
    have q2 := hx.oldσ B (by show B < E.w0.heap.size; rw [Ew]; exact h1) h2
    exact ⟨by rw [q1]; show E.w0.heap[B]? = _; rw [Ew], by rw [q2]; show E.σ0 B = _; rw [Eσ]⟩
  have hleσ : σ.le σ' := by have := hx.leσ; rw [show ({ E with n := n, hd := H } : Env).σ0 = σ from Eσ] at this; exact this
  have hgrown : w.heap.size ≤ w'.heap.size := by have := hx.grown; rw [show ({ E with n := n, hd := H } : Env).w0 = w from Ew] at this; exact this
  have htipown : ∀ {sz : Nat} {v : Value} {B : Nat}, Qdq e σ bm w sz v → Qf v = some B → B < w.heap.size ∧ e.own B ∧ ∀ b, bm b ≠ some B := by
    intro sz v B hv hB
    obtain ⟨A, m, cap, rfl, h2⟩ := hv
    rcases h2 with rfl | ⟨B', o, arr, t, mk, k1, k2, k3, k4, k5, k6, k7⟩
    · cases A <;> simp [Qf] at hB
    · subst k1
      have : B' = B := by
        simp only [Qf] at hB
        split at hB
        · cases hB
        · injection hB
      subst this
      exact ⟨Qar k2, k6, k7⟩
  have hboxown : ∀ {b B : Nat}, bm b = some B → e.own B ∧ ∃ c, s.b b = some c := by
    intro b B hB
    cases hs : s.b b with
    | none => rw [h.dead b hs] at hB; cases hB
    | some c =>
      obtain ⟨B', k1, _, k3, _⟩ := h.boxes b c hs (h.nar hs hB)
      rw [hB] at k1; injection k1 with k1; subst k1
      exact ⟨k3, c, rfl⟩
  have hlentown : ∀ B, E.lent B → e.own B ∧ B < w.heap.size := by
    intro B hB
    rcases (El B).1 hB with ⟨k, b, _, h2⟩ | ⟨i, c, v, sz, h1, h2, h3, h4⟩ | ⟨k, b, i, sz, h1, h2, h3⟩ | hPB
    · exact ⟨(hboxown h2).1, Qhx h h2⟩
    · have := htipown (ha.tip i c v sz h1 h2 h3) h4; exact ⟨this.2.1, this.1⟩
    · have := htipown (h.tip _ _ h2) h3; exact ⟨this.2.1, this.1⟩
    · exact ⟨(hP B hPB).1, (hP B hPB).2.1⟩
  have hown : ∀ B, E.own B → e.own B := by
    intro B hB
    rcases hB with h1 | h1
    · rw [Ew] at h1; exact .inl (Nat.le_trans h.grown h1)
    · exact (hlentown B h1).1
  have hin : ∀ b, (∃ k : Nat, ls[k]? = some b) ∨ ∀ k : Nat, ls[k]? ≠ some b := by
    intro b
    by_cases hm : b ∈ ls
    · exact .inl (List.getElem?_of_mem hm)
    · exact .inr fun k hk => hm (List.mem_of_getElem? hk)
  have hlent : ∀ (k b : Nat), ls[k]? = some b → ∃ c B, bv'[k]? = some c ∧ s1.b b = some c ∧ sc.b k = some c ∧ bm b = some B ∧ bm' k = some B ∧ Qsv C.fid σ' w' B c ∧ (∀ i, σ' B i = none) ∧ e.own B := by
    intro k b hk
    obtain ⟨_, cs', q1, q2⟩ := l3 k b hk
    obtain ⟨B, r1, _, r3, _⟩ := h.boxes b _ q1 rfl
    have hlt : k < bv'.length := by rw [← g1]; exact (List.getElem?_eq_some_iff.1 hk).1
    have hc := List.getElem?_eq_getElem hlt
    have hsc := hb k _ hc
    obtain ⟨B', t1, t2, _, t4⟩ := hx.boxes k _ hsc (hnar _ (List.getElem_mem hlt))
    have hp : E.pbm k = some B := by rw [Ep, hk]; exact r1
    have : B' = B := hx.par k B B' (by have := (l3 k b hk).1; omega) hp t1
    subst this
    exact ⟨bv'[k], B', hc, g5 k b _ hk hc, hsc, r1, t1, t2, t4, r3⟩
  have hboxout : ∀ b B, bm b = some B → (∀ k : Nat, ls[k]? ≠ some b) → ¬ E.own B := by
    intro b B hB hno ho
    rcases ho with h1 | h1
    · rw [Ew] at h1; have := Qhx h hB; omega
    · rcases (El B).1 h1 with ⟨k, b', q1, q2⟩ | ⟨i, c, v, sz, q1, q2, q3, q4⟩ | ⟨k, b', i, sz, q1, q2, q3⟩ | hPB
      · have := h.inj b b' B hB q2; subst this; exact hno k q1
      · exact (htipown (ha.tip i c v sz q1 q2 q3) q4).2.2 b hB
      · exact (htipown (h.tip _ _ q2) q3).2.2 b hB
      · exact (hP B hPB).2.2 (.inl ⟨b, hB⟩)
  have htipout : ∀ p sz B, Qd s p = some sz → Qf (Qg a w bm p) = some B → (∀ (k b i : Nat), ls[k]? = some b → p ≠ .c b i) → ¬ E.own B := by
    intro p sz B hp hB hno ho
    obtain ⟨t1, t2, t3⟩ := htipown (h.tip p sz hp) hB
    rcases ho with h1 | h1
    · rw [Ew] at h1; omega
    · rcases (El B).1 h1 with ⟨k, b', q1, q2⟩ | ⟨i, c, v, sz', q1, q2, q3, q4⟩ | ⟨k, b', i, sz', q1, q2, q3⟩ | hPB
      · exact t3 b' q2
      · exact ha.apart i c v sz' q1 q2 q3 p sz B hp q4 hB
      · have := h.dist p _ sz sz' B hp q2 hB q3
        exact hno k b' i q1 this
      · exact (hP B hPB).2.2 (.inr ⟨p, sz, hp, hB⟩)
  have hcases : ∀ p sz, Qd s1 p = some sz → (Qd s p = some sz ∧ Qg a w' bm p = Qg a w bm p ∧ (∀ (k b i : Nat), ls[k]? = some b → p ≠ .c b i)) ∨ (∃ k b i : Nat, ls[k]? = some b ∧ p = .c b i ∧ Qd sc (.c k i) = some sz ∧ Qg a w' bm p = Qg ac w' bm' (.c k i)) := by
    intro p sz hp
    cases p with
    | t t =>
      left
      refine ⟨by simp only [Qd, g2] at hp; exact hp, rfl, fun _ _ _ _ e => by cases e⟩
    | c b i =>
      rcases hin b with ⟨k, hk⟩ | hno
      · right
        obtain ⟨c, B, q1, q2, q3, q4, q5, _⟩ := hlent k b hk
        refine ⟨k, b, i, hk, rfl, ?_, by simp [Qg, q4, q5]⟩
        simp only [Qd, q2] at hp
        simp only [Qd, q3]; exact hp
      · left
        have hs : Qd s (.c b i) = some sz := by simp only [Qd, g4 b hno] at hp; exact hp
        refine ⟨hs, ?_, fun k b' i' hk e => by injection e with e1 e2; subst e1; exact hno k hk⟩
        simp only [Qd] at hs
        split at hs
        · rename_i cs' hb'
          obtain ⟨B, r1, _⟩ := h.boxes b _ hb' rfl
          have := hold B (Qhx h r1) (fun hh => hboxout b B r1 hno (.inr hh))
          simp only [Qg, r1, Option.bind_some, Qbc this.1]
        · cases hs
  have htip : ∀ p sz, Qd s1 p = some sz → Qdq e σ' bm w' sz (Qg a w' bm p) := by
    intro p sz hp
    rcases hcases p sz hp with ⟨q1, q2, q3⟩ | ⟨k, b, i, q1, q2, q3, q4⟩
    · rw [q2]
      have := h.tip p sz q1
      obtain ⟨A, m, cap, e1, e2⟩ := this
      refine ⟨A, m, cap, e1, ?_⟩
      by_cases hc : cap = 0
      · exact .inl hc
      · rcases e2 with e2 | ⟨B, o, arr, t, mk, k1, k2, k3, k4, k5, k6, k7⟩
        · exact .inl e2
        · have hblk : Qf (Qg a w bm p) = some B := by rw [e1, k1]; simp [Qf, hc]
          have hno := htipout p sz B q1 hblk q3
          have := hold B (Qar k2) (fun hh => hno (.inr hh))
          exact .inr ⟨B, o, arr, t, mk, k1, this.1.trans k2, k3, k4, fun i hi => by rw [this.2]; exact k5 i hi, k6, k7⟩
    · rw [q4]
      obtain ⟨A, m, cap, e1, e2⟩ := hx.tip _ _ q3
      refine ⟨A, m, cap, e1, e2.imp id ?_⟩
      rintro ⟨B, o, arr, t, mk, k1, k2, k3, k4, k5, k6, k7⟩
      refine ⟨B, o, arr, t, mk, k1, k2, k3, k4, k5, hown B k6, fun b' hb' => ?_⟩
      rcases hin b' with ⟨k', hk'⟩ | hno
      · obtain ⟨c, B', _, _, _, r4, r5, _⟩ := hlent k' b' hk'
        rw [hb'] at r4
        injection r4 with r4
        subst r4
        exact k7 k' r5
      · exact hboxout b' B hb' hno k6
  have hrel : RelX C.fid { e with hd := H } σ' bm s1 a w' := by
    refine { defers := h.defers, hds := hx.hds, size := h.size, tmps := fun t => ?_, boxes := fun b c hb1 har => ?_, dead := fun b hb1 => ?_, ar := fun b es hb1 => by
               rcases hin b with ⟨k, hk⟩ | hno
               · obtain ⟨c', B, r1, r2, _⟩ := hlent k b hk
                 rw [hb1] at r2
                 injection r2 with r2
                 subst r2
                 have := hnar _ (List.mem_of_getElem? r1)
                 cases this
               · rw [g4 b hno] at hb1; exact h.ar b es hb1,
             inj := h.inj, par := h.par, newb := h.newb, seenB := fun b hb1 => ?_, seenT := fun t b hb1 => ?_, mem := hx.mem, one := hx.one,
             old := fun B h1 h2 => ?_, oldσ := fun B h1 h2 => ?_, leσ := Mem.le_trans h.leσ hleσ, grown := Nat.le_trans h.grown hgrown, os := ?_, tape := ?_, output := ?_, tip := htip, dist := fun p q sz sz' B hp hq h1 h2 => ?_ }
    · rw [g2]
      have ht := h.tmps t
      have hne : ∀ b B, bm b = some B → (∀ sz xs, s.b b ≠ some (.rows sz xs)) ∨ s1.b b = s.b b := by
        intro b B hB
        rcases hin b with ⟨k, hk⟩ | hno
        · left
          obtain ⟨_, cs', q1, _⟩ := l3 k b hk
          intro sz xs hh
          rw [q1] at hh; cases hh
        · exact .inr (g4 b hno)
      revert ht
      cases s.t t <;> intro ht <;> first | exact RepP.mono ht hleσ | exact ht | skip
      · rename_i b
        intro B hB
        obtain ⟨sz, xs, cap, r1, r2, r3⟩ := ht B hB
        rcases hne b B hB with hh | hh
        · exact absurd r1 (hh sz xs)
        · exact ⟨sz, xs, cap, hh.trans r1, r2, r3⟩
      · rename_i b i off
        intro B hB
        obtain ⟨sz, xs, r1, r3⟩ := ht B hB
        rcases hne b B hB with hh | hh
        · exact absurd r1 (hh sz xs)
        · exact ⟨sz, xs, hh.trans r1, r3⟩
    · rcases hin b with ⟨k, hk⟩ | hno
      · obtain ⟨c', B, _, r2, _, r4, _, r6, r7, r8⟩ := hlent k b hk
        rw [hb1] at r2
        injection r2 with r2
        subst r2
        exact ⟨B, r4, r6, r8, r7⟩
      · rw [g4 b hno] at hb1
        obtain ⟨B, r1, r2, r3, r4⟩ := h.boxes b c hb1 har
        have := hold B (Qhx h r1) (fun hh => hboxout b B r1 hno (.inr hh))
        exact ⟨B, r1, Qcx r2 hleσ this.1, r3, fun i => by rw [this.2]; exact r4 i⟩
    · rcases hin b with ⟨k, hk⟩ | hno
      · obtain ⟨c', B, _, r2, _⟩ := hlent k b hk
        rw [hb1] at r2; cases r2
      · rw [g4 b hno] at hb1; exact h.dead b hb1
    · rw [g3]
      rcases hin b with ⟨k, hk⟩ | hno
      · obtain ⟨_, cs', q1, _⟩ := l3 k b hk
        exact h.seenB b (by rw [q1]; simp)
      · rw [g4 b hno] at hb1; exact h.seenB b hb1
    · rw [g3]; rw [g2] at hb1; exact h.seenT t b hb1
    · have h1 : B < e.w0.heap.size := h1
      have hlt : B < w.heap.size := Nat.lt_of_lt_of_le h1 h.grown
      have hnl : ¬ E.lent B := by
        intro hh
        rcases (hlentown B hh).1 with k | k
        · omega
        · exact h2 k
      rw [(hold B hlt hnl).1]; exact h.old B h1 h2
    · have h1 : B < e.w0.heap.size := h1
      have hlt : B < w.heap.size := Nat.lt_of_lt_of_le h1 h.grown
      have hnl : ¬ E.lent B := by
        intro hh
        rcases (hlentown B hh).1 with k | k
        · omega
        · exact h2 k
      rw [(hold B hlt hnl).2]; exact h.oldσ B h1 h2
    · have := hx.os; rw [show ({ E with n := n, hd := H } : Env).w0 = w from Ew] at this; exact this.trans h.os
    · have := hx.tape; rw [show ({ E with n := n, hd := H } : Env).w0 = w from Ew] at this; exact this.trans h.tape
    · have := hx.output; rw [show ({ E with n := n, hd := H } : Env).w0 = w from Ew] at this; exact this.trans h.output
    · have cown : ∀ {k i sz B : Nat}, Qd sc (.c k i) = some sz → Qf (Qg ac w' bm' (.c k i)) = some B → E.own B := by
        intro k i sz B ht hB
        obtain ⟨A, m, cap, e1, e2⟩ := hx.tip _ _ ht
        rw [e1] at hB
        rcases e2 with rfl | ⟨B', o, arr, t, mk, k1, k2, k3, k4, k5, k6, k7⟩
        · cases A <;> simp [Qf] at hB
        · subst k1
          simp only [Qf] at hB
          split at hB
          · cases hB
          · injection hB with hB; subst hB; exact k6
      rcases hcases p sz hp with ⟨p1, p2, p3⟩ | ⟨k, b, i, p1, p2, p3, p4⟩ <;> rcases hcases q sz' hq with ⟨q1, q2, q3⟩ | ⟨k', b', i', q1, q2, q3, q4⟩
      · rw [p2] at h1
        rw [q2] at h2
        exact h.dist p q sz sz' B p1 q1 h1 h2
      · rw [p2] at h1
        rw [q4] at h2
        exact absurd (cown q3 h2) (htipout p sz B p1 h1 p3)
      · rw [p4] at h1
        rw [q2] at h2
        exact absurd (cown p3 h1) (htipout q sz' B q1 h2 q3)
      · rw [p4] at h1
        rw [q4] at h2
        have := hx.dist _ _ sz sz' B p3 q3 h1 h2
        injection this with e1 e2
        subst e1 e2
        rw [p1] at q1
        injection q1 with q1
        rw [p2, q2, q1]
  refine { rel := hrel, own := hown, box := fun b B hB ho => ?_, tip := fun p sz B hp hB ho => ?_, old := fun b B hB => Qhx h hB }
  · rcases hin b with ⟨k, hk⟩ | hno
    · obtain ⟨c, B', _, _, r3, r4, r5, _⟩ := hlent k b hk
      rw [hB] at r4
      injection r4 with r4
      subst r4
      exact ⟨k, r5, by simp [r3]⟩
    · exact absurd ho (hboxout b B hB hno)
  · rcases hcases p sz hp with ⟨p1, p2, p3⟩ | ⟨k, b, i, p1, p2, p3, p4⟩
    · rw [p2] at hB
      exact absurd ho (htipout p sz B p1 hB p3)
    · exact ⟨_, p3, p4 ▸ hB⟩
end
end Go.Vs