/- Parts of values, lengths, slices of slices and strings, conversions. -/
import Derived.Test.YtbgodlimjjgogaaDoorVs9
import Derived.Laws.Slices
import Derived.Great.BuildSlice
import GoSem.Core.Utf8
set_option linter.unusedVariables false
namespace Go.Vs
open Go Go.RowKit
section
variable {C : Ctx} {e : Env} {σ τ : Mem} {bm : Nat → Option Nat} {s s' : S} {a : Act} {w w' : World} {call : Call} {o : Oper} {c : AV}
theorem Qpm {fid : Nat → Nat} {P : Program} {n off : Nat} {agg : Bool} {cs : List AV} {vs : Array Value} {t : TypeId} (hl : vs.size = cs.length) (hc : RepL fid σ cs (fun i => vs[i]?)) (hp : part n agg cs off = some c) (hn : tsz P t = some n) (hr : rowT P t = some agg) (w : World) :
  ∃ x, (Go.part t vs off).run P w = .ok x w ∧ RepP fid σ c x ∧ c.tipSz = none := by
 obtain ⟨hagg, d, hd⟩ := Qhj hr w
 rw [Qi] at hc
 unfold part at hp
 cases agg with
 | true =>
  simp only [if_true] at hp
  split at hp
  ·rename_i hle
   injection hp with hp
   subst hp
   refine ⟨.agg (vs.extract off (off + n)), by simp [Go.part, hagg, Qcm hn], ⟨_, rfl, by simp; omega, ?_⟩, rfl⟩
   rw [Qi]
   intro i c hi
   rw [List.getElem?_map, List.getElem?_take] at hi
   split at hi
   ·rename_i hin
    rw [List.getElem?_drop] at hi
    cases hcc : cs[off + i]? with
    | none => rw [hcc] at hi; cases hi
    | some c0 =>
     rw [hcc] at hi
     simp at hi
     subst hi
     obtain ⟨x, k1, k2⟩ := hc _ _ hcc
     refine ⟨x, ?_, Qcl k2⟩
     rw [Array.getElem?_extract]
     rw [if_pos (by omega)]; exact k1
   ·cases hi
  ·cases hp
 | false =>
  simp only [Bool.false_eq_true, if_false] at hp
  split at hp
  ·cases hcc : cs[off]? with
   | none => rw [hcc] at hp; cases hp
   | some c0 =>
    rw [hcc] at hp
    simp at hp
    subst hp
    obtain ⟨x, k1, k2⟩ := hc off c0 hcc
    exact ⟨x, by simp [Go.part, hagg, k1], Qcl k2, Qbn _⟩
  ·cases hp
theorem op_fld (hG : GOk C σ) (h : RelX C.fid e σ bm s a w) {off n f : Nat} {agg : Bool} {x : Opnd} {y : Operand} {t : TypeId} (ho : o.op = .field t y f) (hx : okO C x y = true) (hf : Qeh C.P t f off (some n) (some agg) = true)
  (hev : evalK call C.G s (.fld off n agg x) = some (c, s')) : Qap C e s' c a ((execOp a.eval o).run C.P w) := by
 simp only [evalK] at hev
 have hr := Qc hG h hx
 obtain ⟨fs, fd, k, h1, h2, h3, h4, h5, h6, h7⟩ := Qiv hf
 have := h6 n rfl
 subst this
 split at hev
 ·rename_i cs hget
  rw [hget] at hr
  obtain ⟨vs, hv, hl, hc⟩ := hr
  cases hp : part n agg cs off with
  | none => rw [hp] at hev; cases hev
  | some v0 =>
   rw [hp] at hev
   simp only [Qb, Zi, Zm] at hev
   obtain ⟨rfl, rfl⟩ := hev
   obtain ⟨x', k1, k2, k3⟩ := Qpm (P := C.P) hl hc hp h4 (h7 _ rfl) w
   refine .inl ⟨x', w, ?_, Qp.plain h k2 k3⟩
   simp [execOp, ho, Instr.field, run_underlying h1, h2, hv, asAgg, h3, k1]
 ·cases hev
theorem op_idxS (hG : GOk C σ) (h : RelX C.fid e σ bm s a w) {x i : Opnd} {y j : Operand} {t : TypeId} (ho : o.op = .index t y j) (hx : okO C x y = true) (hi : okO C i j = true) (ht : C.P.underlying t = some .string)
  (hev : evalK call C.G s (.idxS x i) = some (c, s')) : Qap C e s' c a ((execOp a.eval o).run C.P w) := by
 simp only [evalK] at hev
 have hr := Qc hG h hx
 have hri := Qc hG h hi
 split at hev
 ·rename_i l hget
  rw [hget] at hr
  cases hn : Qcq (s.get C.G i) with
  | none => rw [hn] at hev; cases hev
  | some k =>
   rw [hn] at hev
   simp only [Qb] at hev
   cases hxx : l[k]? with
   | none => rw [hxx] at hev; cases hev
   | some b =>
    rw [hxx] at hev
    simp only [Qb, Zi, Zm] at hev
    obtain ⟨rfl, rfl⟩ := hev
    obtain ⟨kk, hk⟩ := Qbz hri hn
    simp only [RepT, RepP] at hr
    have hb : (⟨l.toArray⟩ : ByteArray)[k]? = some b := by
     have hlt := (List.getElem?_eq_some_iff.1 hxx).1
     have : k < (⟨l.toArray⟩ : ByteArray).size := by simpa [ByteArray.size] using hlt
     rw [getElem?_pos (⟨l.toArray⟩ : ByteArray) k this]
     have h2 := (List.getElem?_eq_some_iff.1 hxx).2
     simp only [ByteArray.getElem_eq_getElem_data, List.getElem_toArray, h2]
    refine .inl ⟨.int .u8 b.toNat, w, ?_, Qp.plain h rfl rfl⟩
    simp [execOp, ho, Instr.index, run_underlying ht, hr, hk, asIntOf, hb]
 ·cases hev
theorem op_idxA (hG : GOk C σ) (h : RelX C.fid e σ bm s a w) {sz len n : Nat} {agg : Bool} {x i : Opnd} {y j : Operand} {t el : TypeId} (ho : o.op = .index t y j) (hx : okO C x y = true) (hi : okO C i j = true) (ht : C.P.underlying t = some (.array len el)) (hsz : tsz C.P el = some sz) (hn0 : n = sz) (hrow : rowT C.P el = some agg)
  (hev : evalK call C.G s (.idxA sz len n agg x i) = some (c, s')) : Qap C e s' c a ((execOp a.eval o).run C.P w) := by
 subst hn0
 simp only [evalK] at hev
 have hr := Qc hG h hx
 have hri := Qc hG h hi
 split at hev
 ·rename_i cs hget
  rw [hget] at hr
  obtain ⟨vs, hv, hl, hc⟩ := hr
  cases hn : Qcq (s.get C.G i) with
  | none => rw [hn] at hev; cases hev
  | some k =>
   rw [hn] at hev
   simp only [Qb] at hev
   split at hev
   ·rename_i hkl
    cases hp : part n agg cs (k * n) with
    | none => rw [hp] at hev; cases hev
    | some v0 =>
     rw [hp] at hev
     simp only [Qb, Zi, Zm] at hev
     obtain ⟨rfl, rfl⟩ := hev
     obtain ⟨kk, hk⟩ := Qbz hri hn
     obtain ⟨x', k1, k2, k3⟩ := Qpm (P := C.P) hl hc hp hsz hrow w
     refine .inl ⟨x', w, ?_, Qp.plain h k2 k3⟩
     simp [execOp, ho, Instr.index, run_underlying ht, hv, hk, asIntOf, hkl, Qcm hsz, k1]
   ·cases hev
 ·cases hev
theorem Qwq (l : List UInt8) : (⟨l.toArray⟩ : ByteArray).size = l.length := by show l.toArray.size = _; simp
theorem op_lenS (hG : GOk C σ) (h : RelX C.fid e σ bm s a w) {x : Opnd} {y : Operand} {t : TypeId} {cl : Go.Call} (ho : o.op = .call cl) (hcl : cl.callee = .builtin .len) (hargs : cl.args = #[y]) (hts : cl.argTypes = #[t]) (hx : okO C x y = true) (ht : C.P.underlying t = some .string)
  (hev : evalK call C.G s (.lenS x) = some (c, s')) : Qap C e s' c a ((execOp a.eval o).run C.P w) := by
 simp only [evalK] at hev
 have hr := Qc hG h hx
 split at hev
 ·rename_i l hget
  rw [hget] at hr
  simp only [RepT, RepP] at hr
  simp only [Zi, Zm] at hev
  obtain ⟨rfl, rfl⟩ := hev
  refine .inl ⟨.int .i64 l.length, w, ?_, Qp.plain h rfl rfl⟩
  have := Qwq l
  simp [execOp, ho, resolve, hcl, hargs, hts, invoke, builtin, Builtin.len_, run_underlying ht, hr, goInt, this]
 ·cases hev
theorem op_len (hG : GOk C σ) (h : RelX C.fid e σ bm s a w) {x : Opnd} {y : Operand} {t el : TypeId} {cl : Go.Call} (ho : o.op = .call cl) (hcl : cl.callee = .builtin .len) (hargs : cl.args = #[y]) (hts : cl.argTypes = #[t]) (hx : okO C x y = true) (ht : C.P.underlying t = some (.slice el))
  (hev : evalK call C.G s (.len x) = some (c, s')) : Qap C e s' c a ((execOp a.eval o).run C.P w) := by
 simp only [evalK] at hev
 have hr := Qc hG h hx
 have slc : ∀ {A : Option Addr} {n cap : Nat}, a.eval y = .slice A n cap → (execOp a.eval o).run C.P w = .ok (.value (.int .i64 n)) w := by
  intro A n cap hv
  simp [execOp, ho, resolve, hcl, hargs, hts, invoke, builtin, Builtin.len_, run_underlying ht, hv, goInt]
 split at hev
 ·rename_i m sz xs hget
  rw [hget] at hr
  obtain ⟨A, n, cap, hv, hlen, _⟩ := hr
  simp only [Zi, Zm] at hev
  obtain ⟨rfl, rfl⟩ := hev
  exact .inl ⟨.int .i64 n, w, slc hv, Qp.plain h (by rw [hlen]; rfl) rfl⟩
 ·rename_i b hget
  split at hev
  ·rename_i sz xs hb
   rw [hget] at hr
   obtain ⟨B, hB, _⟩ := h.boxes b _ hb rfl
   obtain ⟨sz2, xs2, cap, j1, j2, hv⟩ := hr B hB
   rw [hb] at j1
   injection j1 with j1
   injection j1 with j1 j3
   subst j1 j3
   simp only [Zi, Zm] at hev
   obtain ⟨rfl, rfl⟩ := hev
   exact .inl ⟨.int .i64 xs.length, w, slc hv, Qp.plain h rfl rfl⟩
  ·cases hev
 ·cases hev
theorem op_ext (hG : GOk C σ) (h : RelX C.fid e σ bm s a w) {i : Nat} {x : Opnd} {y : Operand} (ho : o.op = .extract y i) (hx : okO C x y = true)
  (hev : evalK call C.G s (.ext i x) = some (c, s')) : Qap C e s' c a ((execOp a.eval o).run C.P w) := by
 simp only [evalK] at hev
 have hr := Qc hG h hx
 split at hev
 ·rename_i vs hget
  rw [hget] at hr
  obtain ⟨ws, hv, hl, hc⟩ := hr
  cases hxx : vs[i]? with
  | none => rw [hxx] at hev; cases hev
  | some v0 =>
   rw [hxx] at hev
   simp only [Qb] at hev
   split at hev
   ·cases hev
   ·rename_i hp
    simp only [Zi, Zm] at hev
    obtain ⟨rfl, rfl⟩ := hev
    obtain ⟨x', k1, k2⟩ := (Qi.1 hc) i _ hxx
    exact .inl ⟨x', w, by simp [execOp, ho, Instr.extract, hv, k1], Qp.plain h (Qs k2) (Qhm _)⟩
 ·cases hev
end
end Go.Vs
namespace Go.Vs
open Go Go.RowKit
def Qid : Option Nat → Option Value → Prop
 | none, none => True
 | some n, some v => ∃ k, v = .int k (n : Int)
 | _, _ => False
theorem Qil {P : Program} {isSlice : Bool} {len cap : Nat} {lo hi mx : Option Nat} {vlo vhi vmx : Option Value} (h1 : Qid lo vlo) (h2 : Qid hi vhi) (h3 : Qid mx vmx)
  (hmx : mx.isSome = true → hi.isSome = true) (hb : lo.getD 0 ≤ hi.getD len) (hh : hi.getD len ≤ mx.getD cap) (hm : mx.getD cap ≤ cap) (w : World) :
  (Instr.sliceBounds isSlice len cap vlo vhi vmx).run P w = .ok (lo.getD 0, hi.getD len, mx.getD cap) w := by
 cases lo <;> cases vlo <;> simp only [Qid] at h1 <;> cases hi <;> cases vhi <;> simp only [Qid] at h2 <;> cases mx <;> cases vmx <;> simp only [Qid] at h3 <;>
  simp_all only [Option.getD_some, Option.getD_none, Option.isSome_some, Option.isSome_none, true_implies, Bool.false_eq_true]
 all_goals (try obtain ⟨k1, rfl⟩ := h1)
 all_goals (try obtain ⟨k2, rfl⟩ := h2)
 all_goals (try obtain ⟨k3, rfl⟩ := h3)
 all_goals (simp [Instr.sliceBounds, run_sliceBound, *])
section
variable {C : Ctx} {e : Env} {σ τ : Mem} {bm : Nat → Option Nat} {s s' : S} {a : Act} {w w' : World} {call : Call} {o : Oper} {c : AV}
theorem slc_str {P : Program} {t : TypeId} {l : List UInt8} {lo hi : Option Nat} {vlo vhi : Option Value} (ht : P.underlying t = some .string) (h1 : Qid lo vlo) (h2 : Qid hi vhi)
  (h : Qfw (.str l) lo hi = some c) (w : World) : ∃ v, (Instr.sliceAt t (.string ⟨l.toArray⟩) vlo vhi none).run P w = .ok v w ∧ (∀ fid σ, RepP fid σ c v) ∧ c.tipSz = none := by
 simp only [Qfw] at h
 split at h
 ·rename_i hc
  obtain ⟨hb, hh⟩ := hc
  injection h with h
  subst h
  have hrun := Qil (P := P) (isSlice := false) (len := l.length) (cap := l.length) (mx := none) (vmx := none) h1 h2 trivial (fun h => by cases h) hb (by simpa using hh) (by simp) w
  refine ⟨.string ((⟨l.toArray⟩ : ByteArray).extract (lo.getD 0) (hi.getD l.length)), ?_, fun _ _ => ?_, rfl⟩
  ·simp only [Instr.sliceAt, Sem.run_bind, run_underlying ht, Result.andThen_ok, Instr.slice, Option.isSome_none, Bool.false_eq_true, if_false, Qwq, hrun, Sem.run_pure]
  ·simp only [RepP, Value.string.injEq]
   apply ByteArray.ext
   apply Array.ext'
   simp only [ByteArray.data_extract, Array.toList_extract, List.extract_eq_take_drop, List.drop_take]
 ·cases h
theorem slc_sl {fid : Nat → Nat} {P : Program} {t el : TypeId} {m : SM} {sz' : Nat} {xs : List (List AV)} {v0 : Value} {lo hi mx : Option Nat} {vlo vhi vmx : Option Value} {sz : Nat} (ht : P.underlying t = some (.slice el)) (hsz : tsz P el = some sz) (h1 : Qid lo vlo) (h2 : Qid hi vhi) (h3 : Qid mx vmx) (hmx : mx.isSome = true → hi.isSome = true)
  (hr : RepP fid σ (.sl m sz' xs) v0) (h : Qin sz (.sl m sz' xs) lo hi mx = some c) (w : World) : ∃ v, (Instr.sliceAt t v0 vlo vhi vmx).run P w = .ok v w ∧ RepP fid σ c v ∧ c.tipSz = none := by
 obtain ⟨A, n, cap, rfl, hlen, hcap, hz, hrows⟩ := hr
 simp only [Qin] at h
 split at h
 ·rename_i hc
  obtain ⟨rfl, hb, hh⟩ := hc
  have key : ∀ M : Nat, mx.getD cap = M → hi.getD xs.length ≤ M → M ≤ cap → (lo.getD 0 < hi.getD xs.length → True) →
    (Instr.sliceAt t (.slice A n cap) vlo vhi vmx).run P w = .ok (.slice (if M = lo.getD 0 then A else A.map (·.add (lo.getD 0 * sz'))) (hi.getD xs.length - lo.getD 0) (M - lo.getD 0)) w := by
   intro M hM h4 h5 _
   have hrun := Qil (P := P) (isSlice := true) (len := n) (cap := cap) h1 h2 h3 hmx (by rw [hlen]; exact hb) (by rw [hM, hlen]; exact h4) (by rw [hM]; exact h5) w
   rw [hM] at hrun
   rw [hlen] at hrun ⊢
   simp only [Instr.sliceAt, Sem.run_bind, run_underlying ht, Result.andThen_ok, Instr.slice, hrun, Qcm hsz, Sem.run_pure]
  have rep : ∀ (M : Nat) (m' : SM), hi.getD xs.length ≤ M → (m' = .zero → M - lo.getD 0 = 0) ∧ (m' = .full → M - lo.getD 0 = hi.getD xs.length - lo.getD 0) →
    RepP fid σ (.sl m' sz' ((xs.take (hi.getD xs.length)).drop (lo.getD 0))) (.slice (if M = lo.getD 0 then A else A.map (·.add (lo.getD 0 * sz'))) (hi.getD xs.length - lo.getD 0) (M - lo.getD 0)) := by
   intro M m' h4 h5
   refine ⟨_, _, _, rfl, by simp; omega, by omega, h5, ?_⟩
   by_cases h0 : hi.getD xs.length - lo.getD 0 = 0
   ·exact .inl h0
   ·rcases hrows with hn | ⟨B, o, rfl, hR⟩
    ·omega
    ·right
     rw [if_neg (by omega)]
     refine ⟨B, o + lo.getD 0 * sz', by simp [Addr.add_mid], ?_⟩
     rw [Qn] at hR ⊢
     intro i r hi'
     rw [List.getElem?_drop, List.getElem?_take] at hi'
     split at hi'
     ·obtain ⟨k1, k2⟩ := hR _ r hi'
      refine ⟨k1, ?_⟩
      have e : (fun j => σ B (o + lo.getD 0 * sz' + (i * sz' + j))) = (fun j => σ B (o + ((lo.getD 0 + i) * sz' + j))) := by
       funext j; congr 1; rw [Nat.add_mul]; omega
      rw [e]; exact k2
     ·cases hi'
  cases mx with
  | none =>
   simp only at h
   injection h with h
   subst h
   exact ⟨_, key cap rfl (by omega) (Nat.le_refl _) (fun _ => trivial), rep cap .share (by omega) ⟨fun h => (by cases h), fun h => (by cases h)⟩, rfl⟩
  | some M =>
   simp only at h
   split at h
   ·rename_i hM
    injection h with h
    subst h
    refine ⟨_, key M rfl hM.1 (by omega) (fun _ => trivial), rep M _ hM.1 ⟨fun h => ?_, fun h => ?_⟩, ?_⟩
    ·split at h
     ·omega
     ·cases h
    ·split at h <;> cases h
    ·split <;> rfl
   ·cases h
 ·cases h
def okOO (C : Ctx) : Option Opnd → Option Operand → Bool
 | none, none => true
 | some x, some y => okO C x y
 | _, _ => false
theorem Qhe (hG : GOk C σ) (h : RelX C.fid e σ bm s a w) {z : Option Opnd} {z' : Option Operand} {n : Option Nat} (hz : okOO C z z' = true) (hn : natO C.G s z = some n) : Qid n (z'.map a.eval) ∧ n.isSome = z.isSome := by
 cases z <;> cases z' <;> simp only [okOO, Bool.false_eq_true] at hz
 ·simp only [natO, Zi] at hn
  subst hn; exact ⟨trivial, rfl⟩
 ·rename_i z z'
  simp only [natO] at hn
  cases hk : Qcq (s.get C.G z) with
  | none => rw [hk] at hn; cases hn
  | some k =>
   rw [hk] at hn
   simp only [Qb, Zi] at hn
   subst hn
   exact ⟨Qbz (Qc hG h hz) hk, rfl⟩
theorem op_slcS (hG : GOk C σ) (h : RelX C.fid e σ bm s a w) {x : Opnd} {lo hi : Option Opnd} {y : Operand} {lo' hi' : Option Operand} {t : TypeId} (ho : o.op = .slice t y lo' hi' none) (hx : okO C x y = true)
  (h1 : okOO C lo lo' = true) (h2 : okOO C hi hi' = true) (ht : C.P.underlying t = some .string)
  (hev : evalK call C.G s (.slcS x lo hi) = some (c, s')) : Qap C e s' c a ((execOp a.eval o).run C.P w) := by
 have hr := Qc hG h hx
 simp only [evalK] at hev
 cases hn1 : natO C.G s lo with
 | none => rw [hn1] at hev; cases hev
 | some n1 =>
  cases hn2 : natO C.G s hi with
  | none => rw [hn1, hn2] at hev; cases hev
  | some n2 =>
   rw [hn1, hn2] at hev
   simp only [Qb] at hev
   cases hs : Qfw (s.get C.G x) n1 n2 with
   | none => rw [hs] at hev; cases hev
   | some c0 =>
    rw [hs] at hev
    simp only [Qb, Zi, Zm] at hev
    obtain ⟨rfl, rfl⟩ := hev
    cases hg : s.get C.G x with
    | str l0 =>
     rw [hg] at hr hs
     simp only [RepT, RepP] at hr
     obtain ⟨v, q1, q2, q3⟩ := slc_str (P := C.P) ht (Qhe hG h h1 hn1).1 (Qhe hG h h2 hn2).1 hs w
     refine .inl ⟨v, w, ?_, Qp.plain h (q2 _ _) q3⟩
     simp [execOp, ho, hr, q1]
    | _ => rw [hg] at hs; simp [Qfw] at hs
theorem op_slc (hG : GOk C σ) (h : RelX C.fid e σ bm s a w) {sz : Nat} {x : Opnd} {lo hi mx : Option Opnd} {y : Operand} {lo' hi' mx' : Option Operand} {t el : TypeId} (ho : o.op = .slice t y lo' hi' mx') (hx : okO C x y = true)
  (h1 : okOO C lo lo' = true) (h2 : okOO C hi hi' = true) (h3 : okOO C mx mx' = true) (ht : C.P.underlying t = some (.slice el)) (hsz : tsz C.P el = some sz)
  (hev : evalK call C.G s (.slc sz x lo hi mx) = some (c, s')) : Qap C e s' c a ((execOp a.eval o).run C.P w) := by
 have hr := Qc hG h hx
 simp only [evalK] at hev
 split at hev
 ·cases hev
 ·rename_i hmx
  cases hn1 : natO C.G s lo with
  | none => rw [hn1] at hev; cases hev
  | some n1 =>
   cases hn2 : natO C.G s hi with
   | none => rw [hn1, hn2] at hev; cases hev
   | some n2 =>
    cases hn3 : natO C.G s mx with
    | none => rw [hn1, hn2, hn3] at hev; cases hev
    | some n3 =>
     rw [hn1, hn2, hn3] at hev
     simp only [Qb] at hev
     cases hs : Qin sz (s.get C.G x) n1 n2 n3 with
     | none => rw [hs] at hev; cases hev
     | some c0 =>
      rw [hs] at hev
      simp only [Qb, Zi, Zm] at hev
      obtain ⟨rfl, rfl⟩ := hev
      obtain ⟨f1, _⟩ := Qhe hG h h1 hn1
      obtain ⟨f2, g2⟩ := Qhe hG h h2 hn2
      obtain ⟨f3, g3⟩ := Qhe hG h h3 hn3
      cases hg : s.get C.G x with
      | sl m0 z0 xs =>
       rw [hg] at hr hs
       obtain ⟨v, q1, q2, q3⟩ := slc_sl ht hsz f1 f2 f3 (fun hh => by
        rw [g3] at hh
        rw [g2]
        cases hi <;> simp_all) hr hs w
       refine .inl ⟨v, w, ?_, Qp.plain h q2 q3⟩
       simp [execOp, ho, q1]
      | _ => rw [hg] at hs; simp [Qin] at hs
theorem Qyg (hG : GOk C σ) (h : RelX C.fid e σ bm s a w) {k : IntKind} {x : Opnd} {y : Operand} {t u : TypeId} {d : TypeDesc} (ho : o.op = .convert t u y) (hx : okO C x y = true) (ht : C.P.underlying t = some d) (hu : C.P.underlying u = some (.int k))
  (hev : evalK call C.G s (.conv (.int k) x) = some (c, s')) : Qap C e s' c a ((execOp a.eval o).run C.P w) := by
 have hr := Qc hG h hx
 simp only [evalK] at hev
 cases hg : s.get C.G x with
 | int k' n =>
  rw [hg] at hr hev
  simp only [RepT, RepP] at hr
  simp only [convK, Zi, Zm] at hev
  obtain ⟨rfl, rfl⟩ := hev
  refine .inl ⟨.int k (k.wrap n), w, ?_, Qp.plain h (by simp only [RepP, Qxc]) rfl⟩
  simp [execOp, ho, convert, run_underlying ht, run_underlying hu, hr, Conv.intToInt]
 | _ => rw [hg] at hev; simp [convK] at hev
theorem Qyi (hG : GOk C σ) (h : RelX C.fid e σ bm s a w) {x : Opnd} {y : Operand} {t u : TypeId} {d : TypeDesc} (ho : o.op = .convert t u y) (hx : okO C x y = true) (ht : C.P.underlying t = some d) (hu : C.P.underlying u = some .string)
  (hev : evalK call C.G s (.conv .strstr x) = some (c, s')) : Qap C e s' c a ((execOp a.eval o).run C.P w) := by
 have hr := Qc hG h hx
 simp only [evalK] at hev
 cases hg : s.get C.G x with
 | str l =>
  rw [hg] at hr hev
  simp only [RepT, RepP] at hr
  simp only [convK, Zi, Zm] at hev
  obtain ⟨rfl, rfl⟩ := hev
  refine .inl ⟨.string ⟨l.toArray⟩, w, ?_, Qp.plain h rfl rfl⟩
  simp [execOp, ho, convert, run_underlying ht, run_underlying hu, hr]
 | _ => rw [hg] at hev; simp [convK] at hev
theorem Qyh (hG : GOk C σ) (h : RelX C.fid e σ bm s a w) {x : Opnd} {y : Operand} {t u : TypeId} {d : TypeDesc} (ho : o.op = .convert t u y) (hx : okO C x y = true) (ht : C.P.underlying t = some d) (hu : C.P.underlying u = some .string)
  (hev : evalK call C.G s (.conv .runeStr x) = some (c, s')) : Qap C e s' c a ((execOp a.eval o).run C.P w) := by
 have hr := Qc hG h hx
 simp only [evalK] at hev
 cases hg : s.get C.G x with
 | int k' n =>
  rw [hg] at hr hev
  simp only [RepT, RepP] at hr
  simp only [convK] at hev
  split at hev
  ·rename_i hn
   simp only [Zi, Zm] at hev
   obtain ⟨rfl, rfl⟩ := hev
   obtain ⟨r, rfl⟩ := Int.eq_ofNat_of_zero_le hn.1
   refine .inl ⟨.string (Utf8.encode (r : Int)), w, ?_, Qp.plain h ?_ rfl⟩
   ·simp [execOp, ho, convert, run_underlying ht, run_underlying hu, hr, Conv.intToString]
   ·have v : Utf8.valid (r : Int) = true := by simp [Utf8.valid]; omega
    have c1 : r < 128 := by omega
    have : (Utf8.encode (r : Int)).data.toList = [UInt8.ofNat r] := by simp [Utf8.encode, v, c1]
    simp only [RepP, Value.string.injEq]
    apply ByteArray.ext
    apply Array.ext'
    simpa using this
  ·cases hev
 | _ => rw [hg] at hev; simp [convK] at hev
end
end Go.Vs
namespace Go.Vs
open Go Go.RowKit
theorem Qmj : ∀ (l : List Value) (k off : Nat) (cells : Array Value), (l.zipIdx k).foldl (fun cs x => cs.setIfInBounds (off + x.2) x.1) cells = Qaa cells (off + k) l
 | [], _, _, _ => rfl
 | v :: l, k, off, cells => by
  simp only [List.zipIdx_cons, List.foldl_cons, Qaa]
  rw [Qmj l (k + 1) off, Nat.add_assoc]
theorem Qvp {pl : Nat → Option (Nat × Nat)} {cells : Array Value} {i off n : Nat} {v : Value} {rest : List (Nat × Value)} (hp : pl i = some (off, n)) (hv : v.cells.size = n) (hle : off + n ≤ cells.size) :
  Instr.fill pl cells ((i, v) :: rest) = Instr.fill pl (Qaa cells off v.cells.toList) rest := by
 simp only [Instr.fill, hp]
 have : ¬ ((decide (v.cells.size ≠ n) || decide (off + v.cells.size > cells.size)) = true) := by simp; omega
 rw [if_neg this]
 congr 1
 have := Qmj v.cells.toList 0 off cells
 simp only [Nat.add_zero] at this
 rw [← this, ← Array.foldl_toList]
 simp [Array.toList_zipIdx]
inductive Parts (fid : Nat → Nat) (σ : Mem) (pl : Nat → Option (Nat × Nat)) : List (Nat × Nat × AV) → List (Nat × Value) → Prop
 | nil : Parts fid σ pl [] []
 | cons {off n i : Nat} {c : AV} {v : Value} {r : List (Nat × Nat × AV)} {vr : List (Nat × Value)} (h1 : pl i = some (off, n)) (h2 : (c.cells.all AV.one) = true → RepP fid σ c v) (h3 : Parts fid σ pl r vr) : Parts fid σ pl ((off, n, c) :: r) ((i, v) :: vr)
theorem Qsj {fid : Nat → Nat} {σ : Mem} {pl : Nat → Option (Nat × Nat)} {ps : List (Nat × Nat × AV)} {vs : List (Nat × Value)} (h : Parts fid σ pl ps vs) : ∀ {cs r : List AV} {cells : Array Value}, cells.size = cs.length → RepL fid σ cs (fun i => cells[i]?) → Qkk cs ps = some r →
  ∃ out, Instr.fill pl cells vs = some out ∧ out.size = r.length ∧ RepL fid σ r (fun i => out[i]?) := by
 induction h with
 | nil =>
  intro cs r cells h1 h2 h3
  simp only [Qkk, Zi] at h3
  subst h3
  exact ⟨cells, rfl, h1, h2⟩
 | @cons off n i c v ps vs hp hr _ ih =>
  intro cs r cells h1 h2 h3
  simp only [Qkk] at h3
  split at h3
  ·rename_i hc
   obtain ⟨hn, hone⟩ := hc
   obtain ⟨c1, c2, c3⟩ := Qdt (hr hone) hone
   cases hov : over cs off (c.cells.map AV.dem) with
   | none => rw [hov] at h3; cases h3
   | some cs' =>
    rw [hov] at h3
    simp only [Qb] at h3
    obtain ⟨l1, l2⟩ := Qjk hov
    rw [List.length_map] at l2
    rw [Qvp hp (by omega) (by omega)]
    refine ih (by rw [Qq, l1]; exact h1) ?_ h3
    exact Qon hov (by rw [List.length_map]; omega) (by rw [List.length_map]; simpa using c1) h2 (by simpa using Qba (fun _ _ hr => Qcl hr) c2)
  ·cases h3
section
variable {C : Ctx} {e : Env} {σ τ : Mem} {bm : Nat → Option Nat} {s s' : S} {a : Act} {w w' : World} {call : Call} {o : Oper} {c : AV}
def Qcg (C : Ctx) (pl : Nat → Option (Nat × Nat)) : List (Nat × Nat × Opnd) → List (Nat × Operand) → Bool
 | [], [] => true
 | (off, n, x) :: r, (i, y) :: q => (pl i == some (off, n)) && okO C x y && Qcg C pl r q
 | _, _ => false
theorem Qix (hG : GOk C σ) (h : RelX C.fid e σ bm s a w) {pl : Nat → Option (Nat × Nat)} : ∀ {ps : List (Nat × Nat × Opnd)} {qs : List (Nat × Operand)}, Qcg C pl ps qs = true → Parts C.fid σ pl (ps.map fun p => (p.1, p.2.1, s.get C.G p.2.2)) (qs.map fun q => (q.1, a.eval q.2))
 | [], [], _ => .nil
 | [], _ :: _, h => by simp [Qcg] at h
 | _ :: _, [], h => by simp [Qcg] at h
 | (off, n, x) :: r, (i, y) :: q, hk => by
  simp only [Qcg, Zw, beq_iff_eq] at hk
  exact .cons hk.1.1 (fun hone => (Qu (Qbs hone)).1 (Qc hG h hk.1.2)) (Qix hG h hk.2)
def Qei (P : Program) (t : TypeId) : Option (Nat → Option (Nat × Nat)) :=
 match P.underlying t with
 | some (.struct fields) => (fields.toList.mapM (fun f => (P.info? f.type).map fun i => (f.offset, i.size))).map fun places => (places[·]?)
 | some (.array _ el) => (tsz P el).map fun n i => some (i * n, n)
 | _ => none
theorem Qye (hG : GOk C σ) (h : RelX C.fid e σ bm s a w) {zero : List AV} {ps : List (Nat × Nat × Opnd)} {qs : Array (Nat × Operand)} {t : TypeId} {pl : Nat → Option (Nat × Nat)} (ho : o.op = .build t qs) (hz : Qde C.P zero t = true) (hpl : Qei C.P t = some pl) (hp : Qcg C pl ps qs.toList = true)
  (hev : evalK call C.G s (.build zero ps) = some (c, s')) : Qap C e s' c a ((execOp a.eval o).run C.P w) := by
 simp only [evalK] at hev
 cases hf : Qkk zero (ps.map fun p => (p.1, p.2.1, s.get C.G p.2.2)) with
 | none => rw [hf] at hev; cases hev
 | some cs =>
  rw [hf] at hev
  simp only [Qb, Zi, Zm] at hev
  obtain ⟨rfl, rfl⟩ := hev
  obtain ⟨i, z, h1, h2, h3, _⟩ := Qch hz
  obtain ⟨out, k1, k2, k3⟩ := Qsj (Qix hG h hp) (cells := z.cells) (by simpa using (Qdn h3).symm) (by simpa using Qdo (fid := C.fid) (σ := σ) h3) hf
  have hb : C.P.built t (qs.toList.map fun q => (q.1, a.eval q.2)) = some out := by
   unfold Program.built
   unfold Qei at hpl
   cases hu : C.P.underlying t with
   | none => rw [hu] at hpl; cases hpl
   | some d =>
    rw [hu] at hpl
    cases d <;> first | (cases hpl; done) | skip
    case array n el =>
     simp only at hpl
     unfold tsz at hpl
     cases hi : C.P.info? el with
     | none => rw [hi] at hpl; cases hpl
     | some ie =>
      rw [hi] at hpl
      simp only [Option.map_some, Zi] at hpl
      subst hpl
      simp only [h1, h2]
      rw [hi]
      exact k1
    case struct fields =>
     simp only at hpl
     cases hm : fields.toList.mapM (fun f => (C.P.info? f.type).map fun i => (f.offset, i.size)) with
     | none => rw [hm] at hpl; cases hpl
     | some places =>
      rw [hm] at hpl
      simp only [Option.map_some, Zi] at hpl
      subst hpl
      simp only [h1, h2]
      rw [hm]
      simpa using k1
  have hrun := run_build (P := C.P) w t (qs.map fun (i, x) => (i, a.eval x)) out (by simpa using hb)
  refine .inl ⟨.agg out, w, ?_, Qp.plain h ⟨out, rfl, k2, k3⟩ rfl⟩
  simp only [execOp, ho]
  rw [Sem.run_bind, hrun]
  rfl
def okOs (C : Ctx) : List Opnd → List Operand → Bool
 | [], [] => true
 | x :: xs, y :: ys => okO C x y && okOs C xs ys
 | _, _ => false
theorem Qob : ∀ {xs : List Opnd} {ys : List Operand}, okOs C xs ys = true → xs.length = ys.length
 | [], [], _ => rfl
 | [], _ :: _, h => by simp [okOs] at h
 | _ :: _, [], h => by simp [okOs] at h
 | x :: xs, y :: ys, h => by simp [okOs] at h; simp [Qob h.2]
theorem Qft : ∀ {xs : List Opnd} {ys : List Operand}, okOs C xs ys = true → ∀ (i : Nat) (x : Opnd), xs[i]? = some x → ∃ y, ys[i]? = some y ∧ okO C x y = true
 | [], [], _, i, x, h => by simp at h
 | [], _ :: _, h, _, _, _ => by simp [okOs] at h
 | _ :: _, [], h, _, _, _ => by simp [okOs] at h
 | x0 :: xs, y0 :: ys, h, i, x, hx => by
  simp only [okOs, Zw] at h
  cases i with
  | zero => simp at hx; subst hx; exact ⟨y0, rfl, h.1⟩
  | succ i => exact Qft h.2 i x (by simpa using hx)
theorem Qp.newRowM (m : SM) {n : Nat} (hm : m = .zero → n = 0) (h : RelX C.fid e σ bm s a w) {vs : Array Value} {el : TypeId} {sz : Nat} {xs : List (List AV)} (hn : n = xs.length) (hl : vs.size = n * sz) (hone : Ones vs) (hr : RepR C.fid σ sz xs (fun i => vs[i]?)) :
  Qp C e s (.sl m sz xs) (.slice (some ⟨w.heap.size, 0, none⟩) n n) a { w with heap := w.heap.push (.cells vs el) } := by
 have hσ : ∀ i, σ w.heap.size i = none := by
  intro i
  cases hh : σ w.heap.size i with
  | none => rfl
  | some v => exact absurd (Mem.le_of_world h _ _ _ hh) (Nat.lt_irrefl _)
 let τ : Mem := { σ with c := fun B i => if B = w.heap.size then vs[i]? else σ B i }
 have hle : σ.le τ := by
  refine Mem.le_c ?_
  intro B i v hv
  by_cases hB : B = w.heap.size
  ·subst hB; rw [hσ i] at hv; cases hv
  ·simp [hB, hv]
 have hnew : ({ w with heap := w.heap.push (.cells vs el) } : World).heap[w.heap.size]? = some (.cells vs el (0, 0)) := by simp
 have hrel : RelX C.fid e τ bm s a { w with heap := w.heap.push (.cells vs el) } := by
  refine h.world hle (fun B i v hv => by
   by_cases hB : B = w.heap.size
   ·simp only [τ, hB, if_true] at hv; exact hone.get hv
   ·simp only [τ, hB, if_false] at hv; exact h.one _ _ _ hv) (fun B i hB => by simp [τ, Nat.ne_of_lt hB]) (fun B i v hv => ?_) (fun B hB => ?_) (by simp) rfl rfl rfl
  ·by_cases hB : B = w.heap.size
   ·subst hB
    simp only [τ, if_true] at hv
    rw [Qag hnew]; exact hv
   ·simp only [τ, hB, if_false] at hv
    have hlt := Mem.le_of_world h B i v hv
    rw [← h.mem B i v hv]
    exact Qbc (by simp only []; rw [Array.getElem?_push_lt hlt, Array.getElem?_eq_getElem hlt])
  ·simp only []; rw [Array.getElem?_push_lt hB, Array.getElem?_eq_getElem hB]
 refine ⟨τ, bm, hrel, ?_, (fun b hb => by cases hb), fun sz' hsz' => ?_⟩
 ·refine ⟨_, n, n, rfl, hn, Nat.le_refl _, ⟨hm, fun _ => rfl⟩, ?_⟩
  by_cases h0 : n = 0
  ·exact .inl h0
  ·refine .inr ⟨w.heap.size, 0, rfl, ?_⟩
   have : (fun i => τ w.heap.size (0 + i)) = (fun i => vs[i]?) := by funext i; simp [τ]
   rw [this]
   exact Qad hle _ _ _ (fun _ _ h => h) hr
 ·have hmt : m = .tip := by cases m <;> first | rfl | cases hsz'
  subst hmt
  simp only [AV.tipSz, Zi] at hsz'
  subst hsz'
  refine ⟨⟨_, n, n, rfl, .inr ⟨w.heap.size, 0, vs, el, (0, 0), rfl, hnew, Qmm _, by omega, fun i hi => ?_, .inl h.grown, fun b hb => absurd (Qhx h hb) (Nat.lt_irrefl _)⟩⟩, fun p sz2 B hp h1 h2 => ?_⟩
  ·simp only [τ, if_true]
   exact Array.getElem?_eq_none (by omega)
  ·have h3 : B = w.heap.size := by
    simp only [Qf] at h1
    split at h1
    ·cases h1
    ·injection h1 with h1; exact h1.symm
   subst h3
   have hv : Qg a { w with heap := w.heap.push (.cells vs el) } bm p = Qg a w bm p := by
    cases p with
    | t t => rfl
    | c b i =>
     simp only [Qg]
     cases hb : bm b with
     | none => rfl
     | some B' =>
      have hlt := Qhx h hb
      simp only [Option.bind_some]
      rw [Qbc (w := w) (by simp only []; rw [Array.getElem?_push_lt hlt, Array.getElem?_eq_getElem hlt])]
   rw [hv] at h2
   exact absurd (Qdz h hp h2) (Nat.lt_irrefl _)
theorem Qjr {fid : Nat → Nat} {sz : Nat} : ∀ {xs : List (List AV)} {ls : List (List Value)} , xs.length = ls.length → (∀ (i : Nat) (r : List AV) (l : List Value), xs[i]? = some r → ls[i]? = some l → r.length = sz ∧ l.length = sz ∧ RepL fid σ r (fun j => l[j]?)) → RepR fid σ sz xs (fun i => (ls.flatten)[i]?)
 | [], _, _, _ => by simp [RepR]
 | r :: xs, [], hl, _ => by simp at hl
 | r :: xs, l :: ls, hl, h => by
  obtain ⟨h1, h2, h3⟩ := h 0 r l rfl rfl
  simp only [RepR]
  refine ⟨h1, ?_, ?_⟩
  ·rw [Qi] at h3 ⊢
   intro i c hc
   obtain ⟨v, k1, k2⟩ := h3 i c hc
   refine ⟨v, ?_, k2⟩
   have hlt := (List.getElem?_eq_some_iff.1 k1).1
   rw [List.flatten_cons, List.getElem?_append_left hlt]; exact k1
  ·have := Qjr (fid := fid) (xs := xs) (ls := ls) (by simpa using hl) (fun i r' l' hr hl' => h (i + 1) r' l' (by simpa using hr) (by simpa using hl'))
   have e : (fun i => ((l :: ls).flatten)[sz + i]?) = (fun i => (ls.flatten)[i]?) := by
    funext i
    rw [List.flatten_cons, List.getElem?_append_right (by omega)]
    congr 1; omega
   rw [e]; exact this
theorem Qp.newRow (h : RelX C.fid e σ bm s a w) {vs : Array Value} {el : TypeId} {sz n : Nat} {xs : List (List AV)} (hn : n = xs.length) (hl : vs.size = n * sz) (hone : Ones vs) (hr : RepR C.fid σ sz xs (fun i => vs[i]?)) :
  Qp C e s (.sl .tip sz xs) (.slice (some ⟨w.heap.size, 0, none⟩) n n) a { w with heap := w.heap.push (.cells vs el) } := Qp.newRowM .tip (fun h => by cases h) h hn hl hone hr
theorem Qpq (hG : GOk C σ) (h : RelX C.fid e σ bm s a w) {m : SM} {sz len : Nat} {ps : List Opnd} {qs : Array (Nat × Operand)} {t el : TypeId} {i : TypeInfo} {z : Value} (ho : o.op = .buildSlice t len qs) (ht : C.P.underlying t = some (.slice el)) (hi : C.P.info? el = some i) (hz : i.zero = some z) (hsz : i.size = sz) (hpos : 0 < sz) (hlen : len = ps.length) (hsmall : len * sz ≤ 2 ^ 24)
  (hq1 : (qs.toList.map (·.1)) = List.range len) (hq2 : okOs C ps (qs.toList.map (·.2)) = true)
  (hev : evalK call C.G s (.buildS m sz ps) = some (c, s')) : Qap C e s' c a ((execOp a.eval o).run C.P w) := by
 simp only [evalK] at hev
 split at hev
 ·rename_i hall
  obtain ⟨hall, hmz⟩ := hall
  simp only [Zi, Zm] at hev
  obtain ⟨rfl, rfl⟩ := hev
  rw [List.all_eq_true] at hall
  let vals : List Value := qs.toList.map fun q => a.eval q.2
  have hvl : vals.length = len := by
   have := congrArg List.length hq1
   simpa [vals] using this
  have hrow : ∀ (j : Nat) (x : Opnd), ps[j]? = some x → ∃ v : Value, vals[j]? = some v ∧ (∀ u ∈ v.cells.toList, u.oneCell' = true) ∧ v.cells.size = sz ∧ ((s.get C.G x).cells.map AV.share).length = sz ∧ RepL C.fid σ ((s.get C.G x).cells.map AV.share) (fun k => v.cells.toList[k]?) := by
   intro j x hx
   obtain ⟨y, hy, hok⟩ := Qft hq2 j x hx
   have hmem : x ∈ ps := List.mem_of_getElem? hx
   have hc := hall x hmem
   simp only [Zw, beq_iff_eq] at hc
   have hr := (Qu (Qbs hc.2)).1 (Qc hG h hok)
   obtain ⟨c1, c2, c3⟩ := Qdt hr hc.2
   refine ⟨a.eval y, ?_, c3, by omega, by simp [hc.1], ?_⟩
   ·simp only [vals, List.getElem?_map] at hy ⊢
    cases hq : qs.toList[j]? with
    | none => rw [hq] at hy; cases hy
    | some q => rw [hq] at hy; simp at hy; simp [hy]
   ·have := Qba (m := AV.share) (fun _ _ hr => Qs hr) c2
    simpa using this
  have hsizes : ∀ v ∈ vals, v.cells.size = sz := by
   intro v hv
   obtain ⟨j, hj⟩ := List.getElem?_of_mem hv
   have hjl : j < ps.length := by
    have := (List.getElem?_eq_some_iff.1 hj).1; omega
   obtain ⟨v', k1, _, k2, _⟩ := hrow j _ (List.getElem?_eq_getElem hjl)
   rw [hj] at k1
   injection k1 with k1
   rw [k1]; exact k2
  have hparts : (qs.toList.map fun q => (q.1, a.eval q.2)) = (vals.zipIdx 0).map fun x => (x.2, x.1) := by
   apply List.ext_getElem?
   intro j
   simp only [List.getElem?_map, List.getElem?_zipIdx, vals]
   cases hq : qs.toList[j]? with
   | none => simp
   | some q =>
    have : (qs.toList.map (·.1))[j]? = some q.1 := by simp [hq]
    rw [hq1] at this
    have hj : j = q.1 := by
     have h2 := (List.getElem?_eq_some_iff.1 this)
     obtain ⟨h3, h4⟩ := h2
     simpa using h4
    simp [hj]
  let cells : Array Value := (vals.flatMap fun v => v.cells.toList).toArray
  have hcs : cells.size = len * sz := by
   simp only [cells, List.size_toArray, List.length_flatMap]
   have : vals.map (fun v => v.cells.toList.length) = List.replicate vals.length sz := by
    apply List.ext_getElem?
    intro j
    simp only [List.getElem?_map, List.getElem?_replicate]
    cases hv : vals[j]? with
    | none => have := List.getElem?_eq_none_iff.1 hv; simp; omega
    | some v =>
     have hlt := (List.getElem?_eq_some_iff.1 hv).1
     have := hsizes v (List.mem_of_getElem? hv)
     simp [hlt, this]
   rw [this, List.sum_replicate_nat, hvl]
  have hrep : RepR C.fid σ sz (ps.map fun p => (s.get C.G p).cells.map AV.share) (fun i => cells[i]?) := by
   have : (fun i : Nat => cells[i]?) = (fun i : Nat => ((vals.map fun v => v.cells.toList).flatten)[i]?) := by
    funext i; simp [cells, List.flatMap_def]
   rw [this]
   refine Qjr (by simp [hvl, hlen]) (fun j r l hr hl => ?_)
   rw [List.getElem?_map] at hr hl
   cases hx : ps[j]? with
   | none => rw [hx] at hr; cases hr
   | some x =>
    rw [hx] at hr
    simp only [Option.map_some, Zi] at hr
    subst hr
    obtain ⟨v, k1, _, k2, k3, k4⟩ := hrow j x hx
    rw [k1] at hl
    simp only [Option.map_some, Zi] at hl
    subst hl
    exact ⟨k3, by simpa using k2, k4⟩
  have hones : Ones cells := by
   intro v hv
   simp only [cells, List.mem_flatMap] at hv
   obtain ⟨u, hu, hv⟩ := hv
   obtain ⟨j, hj⟩ := List.getElem?_of_mem hu
   have hjl : j < ps.length := by
    have := (List.getElem?_eq_some_iff.1 hj).1; omega
   obtain ⟨v', k1, k0, _⟩ := hrow j _ (List.getElem?_eq_getElem hjl)
   rw [hj] at k1
   injection k1 with k1
   subst k1
   exact k0 v hv
  have hready := Qp.newRowM (C := C) (e := e) m (fun hh => by rw [hlen, hmz hh]; rfl) h (vs := cells) (el := el) (sz := sz) (n := len) (by simp [hlen]) hcs hones hrep
  refine .inl ⟨_, _, ?_, hready⟩
  by_cases h0 : len = 0
  ·have hq0 : qs = #[] := by
    have := congrArg List.length hq1
    simp [h0] at this
    exact this
   have hv0 : vals = [] := by simp [vals, hq0]
   simp [execOp, ho, Instr.buildSlice, run_underlying ht, sizeOf, typeInfo, hi, h0, hq0, Instr.fill, newRow, cells, hv0]
   rw [show Array.range 0 = #[] from Array.eq_empty_of_size_eq_zero (by simp), Array.map_empty]
  ·have hfill := Great.fill_whole hpos vals ((Array.range (len * i.size)).map (z.cells[· % z.cells.size]!)) hsizes (by simp [hvl, hsz])
   rw [← hparts] at hfill
   have := run_buildSlice (P := C.P) w t el len (qs.map fun (i, x) => (i, a.eval x)) cells i z ht hi hz (by rw [hsz]; omega) (by rw [hsz]; exact Nat.mul_ne_zero h0 (by omega)) (by rw [hsz]; rw [hsz] at hfill; simpa using hfill)
   simp only [execOp, ho]
   rw [Sem.run_bind, this]
   rfl
 ·cases hev
theorem Qgf : ∀ {vs : List AV} {ws : List Value} {s s' : S} {σ : Mem} {bm : Nat → Option Nat} {out : List AV}, RelX C.fid e σ bm s a w → vs.length = ws.length →
  (∀ (i : Nat) (c : AV) (v : Value), vs[i]? = some c → ws[i]? = some v → (∀ b B, c = .bp b 0 → bm b = some B → v = .pointer (some ⟨B, 0, none⟩)) ∧ (c.isP = false → RepP C.fid σ c v)) → capture s vs = some (out, s') →
  ∃ σ' bm', RelX C.fid e σ' bm' s' a w ∧ σ.le σ' ∧ out.length = ws.length ∧ RepL C.fid σ' out (fun i => ws[i]?)
 | [], ws, s, s', σ, bm, out, h, hl, hr, hc => by
  simp only [capture, Zi, Zm] at hc
  obtain ⟨rfl, rfl⟩ := hc
  exact ⟨σ, bm, h, Mem.le_refl σ, by simpa using hl, by simp [RepL]⟩
 | c :: vs, [], s, s', σ, bm, out, h, hl, hr, hc => by simp at hl
 | c :: vs, v :: ws, s, s', σ, bm, out, h, hl, hr, hc => by
  have plain : c.isP = false → (bnd (capture s vs) fun (x : List AV × S) => some (c.share :: x.1, x.2)) = some (out, s') →
    ∃ σ' bm', RelX C.fid e σ' bm' s' a w ∧ σ.le σ' ∧ out.length = (v :: ws).length ∧ RepL C.fid σ' out (fun i => (v :: ws)[i]?) := by
   intro hp hb
   cases hcc : capture s vs with
   | none => rw [hcc] at hb; cases hb
   | some r =>
    obtain ⟨out', s1⟩ := r
    rw [hcc] at hb
    simp only [Qb, Zi, Zm] at hb
    obtain ⟨rfl, rfl⟩ := hb
    obtain ⟨σ', bm', k1, k2, k3, k4⟩ := Qgf h (by simpa using hl) (fun i c v hc hv => hr (i + 1) c v (by simpa using hc) (by simpa using hv)) hcc
    refine ⟨σ', bm', k1, k2, by simp [k3], ?_⟩
    simp only [RepL]
    exact ⟨⟨v, by simp, Qs (((hr 0 c v rfl rfl).2 hp).mono k2)⟩, by simpa using k4⟩
  cases c with
  | bp b off =>
   simp only [capture] at hc
   split at hc
   ·rename_i h0
    subst h0
    split at hc
    ·rename_i cs hb
     cases hcc : capture { s with b := upd s.b b none } vs with
     | none => rw [hcc] at hc; cases hc
     | some r =>
      obtain ⟨out', s1⟩ := r
      rw [hcc] at hc
      simp only [Qb, Zi, Zm] at hc
      obtain ⟨rfl, rfl⟩ := hc
      obtain ⟨B, hB, ⟨arr, t, m, g2, g3, g4, g5⟩, _⟩ := h.boxes b _ hb rfl
      have hs := h.shut_ hb hB
      have hle : σ.le { σ with c := fun B' i => if B' = B then w.cell? ⟨B, i, none⟩ else σ B' i } := by
       refine Mem.le_c ?_
       intro B' i v hv
       by_cases hh : B' = B
       ·subst hh
        simp only [if_true]
        exact h.mem _ _ _ hv
       ·simp [hh, hv]
      obtain ⟨σ', bm', k1, k2, k3, k4⟩ := Qgf hs (by simpa using hl) (fun i c v hc hv => by
       obtain ⟨q1, q2⟩ := hr (i + 1) c v (by simpa using hc) (by simpa using hv)
       refine ⟨fun b' B' hc' hb' => q1 b' B' hc' ?_, fun hp => (q2 hp).mono hle⟩
       by_cases hbb : b' = b
       ·subst hbb; simp [upd] at hb'
       ·rw [Qab _ _ hbb] at hb'; exact hb') hcc
      refine ⟨σ', bm', k1, Mem.le_trans hle k2, by simp [k3], ?_⟩
      simp only [RepL]
      refine ⟨⟨v, by simp, ?_⟩, by simpa using k4⟩
      have hv := (hr 0 (.bp b 0) v rfl rfl).1 b B rfl hB
      refine ⟨B, 0, by simpa using hv, ?_⟩
      refine Qba (fun _ _ hr => Qs hr) ?_
      rw [Qi] at g5 ⊢
      intro i c hc
      obtain ⟨x, q1, q2⟩ := g5 i c hc
      refine ⟨x, ?_, (q2.mono hle).mono k2⟩
      refine k2.1 B (0 + i) x ?_
      simp only [if_true, Nat.zero_add]
      rw [Qag g2]; exact q1
    ·cases hc
   ·cases hc
  | undef | int | bool | str | con | sl | agg | rp | fn | tup | tr | trp =>
   refine plain rfl ?_
   simpa [capture, AV.isP] using hc
  | bs | be | np => simp [capture, AV.isP] at hc
theorem op_mkfn (hG : GOk C σ) (h : RelX C.fid e σ bm s a w) {g f : Nat} {ps : List Opnd} {qs : Array Operand} (ho : o.op = .makeFunc (.func f) #[] qs) (hf : C.fid g = f) (hp : okOs C ps qs.toList = true)
  (hev : evalK call C.G s (.mkfn g ps) = some (c, s')) : Qap C e s' c a ((execOp a.eval o).run C.P w) := by
 simp only [evalK] at hev
 cases hcc : capture s (ps.map (s.get C.G)) with
 | none => rw [hcc] at hev; cases hev
 | some r =>
  obtain ⟨vs, s1⟩ := r
  rw [hcc] at hev
  simp only [Qb, Zi, Zm] at hev
  obtain ⟨rfl, rfl⟩ := hev
  obtain ⟨σ', bm', k1, k2, k3, k4⟩ := Qgf (ws := qs.toList.map a.eval) h (by simpa using Qob hp) (fun i c v hc hv => by
   rw [List.getElem?_map] at hc hv
   cases hx : ps[i]? with
   | none => rw [hx] at hc; cases hc
   | some x =>
    obtain ⟨y, hy, hok⟩ := Qft hp i x hx
    rw [hx] at hc
    rw [hy] at hv
    simp only [Option.map_some, Zi] at hc hv
    subst hc hv
    have hr := Qc hG h hok
    refine ⟨fun b B hc hB => ?_, fun hpp => (Qu hpp).1 hr⟩
    rw [hc] at hr
    exact hr B hB) hcc
  refine .inl ⟨.func (.func f) #[] (qs.map a.eval), w, ?_, Qp.plain k1 ⟨qs.map a.eval, by rw [hf], by simp at k3 ⊢; omega, ?_⟩ rfl⟩
  ·simp [execOp, ho, Instr.makeFunc]
  ·have e2 : (fun i : Nat => (qs.map a.eval)[i]?) = (fun i : Nat => (qs.toList.map a.eval)[i]?) := by
    funext i; simp
   rw [e2]; exact k4
end
end Go.Vs
namespace Go.Vs
open Go Go.RowKit
section
variable {C : Ctx} {e : Env} {σ τ : Mem} {bm : Nat → Option Nat} {s s' : S} {a : Act} {w w' : World} {call : Call} {o : Oper} {c : AV}
theorem Qlt {fid : Nat → Nat} : ∀ {cs : List AV} {f : Nat → Option Value}, RepL fid σ cs f → ∃ l : List Value, l.length = cs.length ∧ (∀ j u, l[j]? = some u → f j = some u) ∧ RepL fid σ cs (fun j => l[j]?)
 | [], f, _ => ⟨[], rfl, fun j u h => by simp at h, by simp [RepL]⟩
 | c :: cs, f, h => by
  simp only [RepL] at h
  obtain ⟨⟨v, h1, h2⟩, h3⟩ := h
  obtain ⟨l, k1, k2, k3⟩ := Qlt h3
  refine ⟨v :: l, by simp [k1], fun j u hj => ?_, ?_⟩
  ·cases j with
   | zero => simp at hj; subst hj; exact h1
   | succ j => exact k2 j u (by simpa using hj)
  ·simp only [RepL]
   exact ⟨⟨v, rfl, h2⟩, by simpa using k3⟩
theorem Qfn {fid : Nat → Nat} {sz : Nat} : ∀ {xs : List (List AV)} {f : Nat → Option Value}, RepR fid σ sz xs f → ∃ l : List Value, l.length = xs.length * sz ∧ (∀ j u, l[j]? = some u → f j = some u) ∧ RepR fid σ sz xs (fun j => l[j]?)
 | [], f, _ => ⟨[], by simp, fun j u h => by simp at h, by simp [RepR]⟩
 | r :: xs, f, h => by
  simp only [RepR] at h
  obtain ⟨h1, h2, h3⟩ := h
  obtain ⟨l1, j1, j2, j3⟩ := Qlt h2
  obtain ⟨l2, k1, k2, k3⟩ := Qfn h3
  refine ⟨l1 ++ l2, by simp [j1, k1, h1, Nat.add_mul]; omega, fun j u hj => ?_, ?_⟩
  ·by_cases hlt : j < l1.length
   ·rw [List.getElem?_append_left hlt] at hj; exact j2 j u hj
   ·rw [List.getElem?_append_right (by omega)] at hj
    have := k2 _ u hj
    rwa [show sz + (j - l1.length) = j by omega] at this
  ·simp only [RepR]
   refine ⟨h1, ?_, ?_⟩
   ·rw [Qi] at j3 ⊢
    intro i c hc
    obtain ⟨v, q1, q2⟩ := j3 i c hc
    exact ⟨v, by rw [List.getElem?_append_left (List.getElem?_eq_some_iff.1 q1).1]; exact q1, q2⟩
   ·have e : (fun i : Nat => (l1 ++ l2)[sz + i]?) = (fun i : Nat => l2[i]?) := by
     funext i
     rw [List.getElem?_append_right (by omega)]
     congr 1; omega
    rw [e]; exact k3
theorem RelX.touch (h : RelX C.fid e σ bm s a w) {B : Nat} (hown : e.own B) (hbox : ∀ b, bm b ≠ some B) (htip : ∀ p sz, Qd s p = some sz → Qf (Qg a w bm p) ≠ some B)
    (hother : ∀ B', B' ≠ B → w'.heap[B']? = w.heap[B']?) (hsize : w'.heap.size = w.heap.size) (hos : w'.os = w.os) (htape : w'.tape = w.tape) (hout : w'.output = w.output)
    (hle : σ.le τ) (hτ : ∀ B' i, B' ≠ B → τ B' i = σ B' i) (hmem : ∀ i v, τ B i = some v → w'.cell? ⟨B, i, none⟩ = some v ∧ v.oneCell' = true) (hhd : τ.hd = σ.hd := by rfl) : RelX C.fid e τ bm s a w' := by
  have hval : ∀ p sz, Qd s p = some sz → Qg a w' bm p = Qg a w bm p := by
    intro p sz hp
    cases p with
    | t t => rfl
    | c b i =>
      simp only [Qg]
      cases hb : bm b with
      | none => rfl
      | some B' =>
        have hne : B' ≠ B := fun hh => hbox b (by rw [hb, hh])
        simp only [Option.bind_some, Qbc (hother B' hne)]
  refine { defers := h.defers, hds := hhd.trans h.hds, size := h.size, tmps := fun t => Qgs (h.tmps t) hle, boxes := fun b c hb har => ?_, dead := h.dead, ar := h.ar, inj := h.inj, par := h.par, newb := h.newb, seenB := h.seenB, seenT := h.seenT,
           mem := fun B' i v hv => ?_, one := fun B' i v hv => ?_, old := fun B' h1 h2 => ?_, oldσ := fun B' h1 h2 => ?_, leσ := Mem.le_trans h.leσ hle, grown := by rw [hsize]; exact h.grown,
           os := hos.trans h.os, tape := htape.trans h.tape, output := hout.trans h.output, tip := fun p sz hp => ?_, dist := fun p q sz sz' B' hp hq h1 h2 => ?_ }
  · obtain ⟨B', h1, h2, h3, h4⟩ := h.boxes b c hb har
    have hne : B' ≠ B := fun hh => hbox b (by rw [h1, hh])
    exact ⟨B', h1, Qcx h2 hle (hother B' hne), h3, fun i => by rw [hτ B' i hne]; exact h4 i⟩
  · by_cases hB : B' = B
    · subst hB; exact (hmem i v hv).1
    · rw [hτ B' i hB] at hv
      rw [Qbc (hother B' hB)]; exact h.mem B' i v hv
  · by_cases hB : B' = B
    · subst hB; exact (hmem i v hv).2
    · rw [hτ B' i hB] at hv; exact h.one B' i v hv
  · have hne : B' ≠ B := by
      intro hh; subst hh
      rcases hown with k | k
      · omega
      · exact h2 k
    rw [hother B' hne]; exact h.old B' h1 h2
  · have hne : B' ≠ B := by
      intro hh; subst hh
      rcases hown with k | k
      · omega
      · exact h2 k
    funext i
    rw [hτ B' i hne, h.oldσ B' h1 h2]
  · rw [hval p sz hp]
    obtain ⟨A, n, cap, h1, h2⟩ := h.tip p sz hp
    refine ⟨A, n, cap, h1, ?_⟩
    by_cases hc : cap = 0
    · exact .inl hc
    · rcases h2 with h2 | ⟨B', o', vs, t, m, k1, k2, k3, k4, k5, k6, k7⟩
      · exact .inl h2
      · have hne : B' ≠ B := by
          intro hh
          refine htip p sz hp ?_
          rw [h1, k1]; simp [Qf, hc, hh]
        exact .inr ⟨B', o', vs, t, m, k1, (hother B' hne).trans k2, k3, k4, fun i hi => by rw [hτ B' i hne]; exact k5 i hi, k6, k7⟩
  · rw [hval p sz hp] at h1
    rw [hval q sz' hq] at h2
    exact h.dist p q sz sz' B' hp hq h1 h2
theorem Qp.newRowCap (h : RelX C.fid e σ bm s a w) {vs : Array Value} {el : TypeId} {sz n cap : Nat} {xs : List (List AV)} (hn : n = xs.length) (hcap : n ≤ cap) (hl : vs.size = cap * sz) (hone : ∀ i v, i < n * sz → vs[i]? = some v → v.oneCell' = true) (hr : RepR C.fid σ sz xs (fun i => if i < n * sz then vs[i]? else none)) :
  Qp C e s (.sl .tip sz xs) (.slice (some ⟨w.heap.size, 0, none⟩) n cap) a { w with heap := w.heap.push (.cells vs el) } := by
 have hσ : ∀ i, σ w.heap.size i = none := by
  intro i
  cases hh : σ w.heap.size i with
  | none => rfl
  | some v => exact absurd (Mem.le_of_world h _ _ _ hh) (Nat.lt_irrefl _)
 let τ : Mem := { σ with c := fun B i => if B = w.heap.size then (if i < n * sz then vs[i]? else none) else σ B i }
 have hle : σ.le τ := by
  refine Mem.le_c ?_
  intro B i v hv
  by_cases hB : B = w.heap.size
  ·subst hB; rw [hσ i] at hv; cases hv
  ·simp [hB, hv]
 have hnew : ({ w with heap := w.heap.push (.cells vs el) } : World).heap[w.heap.size]? = some (.cells vs el (0, 0)) := by simp
 have hrel : RelX C.fid e τ bm s a { w with heap := w.heap.push (.cells vs el) } := by
  refine h.world hle (fun B i v hv => ?_) (fun B i hB => by simp [τ, Nat.ne_of_lt hB]) (fun B i v hv => ?_) (fun B hB => ?_) (by simp) rfl rfl rfl
  ·by_cases hB : B = w.heap.size
   ·simp only [τ, hB, if_true] at hv
    split at hv
    ·rename_i hi; exact hone i v hi hv
    ·cases hv
   ·simp only [τ, hB, if_false] at hv; exact h.one _ _ _ hv
  ·by_cases hB : B = w.heap.size
   ·subst hB
    simp only [τ, if_true] at hv
    split at hv
    ·rw [Qag hnew]; exact hv
    ·cases hv
   ·simp only [τ, hB, if_false] at hv
    have hlt := Mem.le_of_world h B i v hv
    rw [← h.mem B i v hv]
    exact Qbc (by simp only []; rw [Array.getElem?_push_lt hlt, Array.getElem?_eq_getElem hlt])
  ·simp only []; rw [Array.getElem?_push_lt hB, Array.getElem?_eq_getElem hB]
 refine ⟨τ, bm, hrel, ?_, (fun b hb => by cases hb), fun sz' hsz' => ?_⟩
 ·refine ⟨_, n, cap, rfl, hn, hcap, ⟨fun h => (by cases h), fun h => (by cases h)⟩, ?_⟩
  by_cases h0 : n = 0
  ·exact .inl h0
  ·refine .inr ⟨w.heap.size, 0, rfl, ?_⟩
   have : (fun i => τ w.heap.size (0 + i)) = (fun i => if i < n * sz then vs[i]? else none) := by funext i; simp [τ]
   rw [this]
   exact Qad hle _ _ _ (fun _ _ h => h) hr
 ·simp only [AV.tipSz, Zi] at hsz'
  subst hsz'
  refine ⟨⟨_, n, cap, rfl, .inr ⟨w.heap.size, 0, vs, el, (0, 0), rfl, hnew, Qmm _, by omega, fun i hi => ?_, .inl h.grown, fun b hb => absurd (Qhx h hb) (Nat.lt_irrefl _)⟩⟩, fun p sz2 B hp h1 h2 => ?_⟩
  ·simp only [τ, if_true]
   rw [if_neg (by omega)]
  ·have h3 : B = w.heap.size := by
    simp only [Qf] at h1
    split at h1
    ·cases h1
    ·injection h1 with h1; exact h1.symm
   subst h3
   have hv : Qg a { w with heap := w.heap.push (.cells vs el) } bm p = Qg a w bm p := by
    cases p with
    | t t => rfl
    | c b i =>
     simp only [Qg]
     cases hb : bm b with
     | none => rfl
     | some B' =>
      have hlt := Qhx h hb
      simp only [Option.bind_some]
      rw [Qbc (w := w) (by simp only []; rw [Array.getElem?_push_lt hlt, Array.getElem?_eq_getElem hlt])]
   rw [hv] at h2
   exact absurd (Qdz h hp h2) (Nat.lt_irrefl _)
theorem op_app (hG : GOk C σ) (h : RelX C.fid e σ bm s a w) {sz : Nat} {x y : Opnd} {y1 y2 : Operand} {t u el ul : TypeId} {cl : Go.Call} {i : TypeInfo} {z : Value}
  (ho : o.op = .call cl) (hcl : cl.callee = .builtin .append) (hargs : cl.args = #[y1, y2]) (hts : cl.argTypes = #[t, u]) (hx : okO C x y1 = true) (hy : okO C y y2 = true)
  (ht : C.P.underlying t = some (.slice el)) (hu : C.P.underlying u = some (.slice ul)) (hi : C.P.info? el = some i) (hz : i.zero = some z) (hsz : i.size = sz) (hzs : z.cells.size = sz) (hpos : 0 < sz) (hby : i.bytes ≤ 32768)
  (hev : evalK call C.G s (.app sz x y) = some (c, s')) : Qap C e s' c a ((execOp a.eval o).run C.P w) := by
 simp only [evalK] at hev
 have hrx := Qc hG h hx
 have hry := Qc hG h hy
 split at hev
 rotate_left
 ·cases hev
 rename_i m sz1 xs m2 sz2 ys g1 g2
 split at hev
 rotate_left
 ·cases hev
 rename_i hc
 obtain ⟨hm, hs1, hs2, hlen⟩ := hc
 have e1 : sz = sz1 := hs1.symm
 subst e1
 have e2 : sz = sz2 := hs2.symm
 subst e2
 simp only [Zi, Zm] at hev
 obtain ⟨rfl, rfl⟩ := hev
 rw [g1] at hrx
 rw [g2] at hry
 obtain ⟨A, n, cap, hv1, hn, hcap, hzero, hrowsx⟩ := hrx
 obtain ⟨A2, k, cap2, hv2, hk, hcap2, _, hrowsy⟩ := hry
 have hd := h.drop x
 have hdb : (s.drop x).b = s.b := by cases x <;> rfl
 obtain ⟨news, n1, n2, n3⟩ : ∃ news : List Value, news.length = k * sz ∧ (k = 0 ∨ ∃ B o', A2 = some ⟨B, o', none⟩ ∧ ∀ j u, news[j]? = some u → σ B (o' + j) = some u) ∧ RepR C.fid σ sz ys (fun j => news[j]?) := by
  rcases hrowsy with h0 | ⟨B, o', hA, hR⟩
  ·have : ys = [] := List.eq_nil_of_length_eq_zero (by omega)
   exact ⟨[], by simp [h0], .inl h0, by rw [this]; simp [RepR]⟩
  ·obtain ⟨l, q1, q2, q3⟩ := Qfn hR
   exact ⟨l, by rw [q1, hk], .inr ⟨B, o', hA, q2⟩, q3⟩
 have nOne : ∀ v ∈ news, v.oneCell' = true := by
  intro v hv
  obtain ⟨j, hj⟩ := List.getElem?_of_mem hv
  rcases n2 with h0 | ⟨B, o', _, hs⟩
  ·have := (List.getElem?_eq_some_iff.1 hj).1; rw [n1, h0] at this; omega
  ·exact h.one _ _ _ (hs j v hj)
 have hsrc : Src C.P i.size u (a.eval y2) k news w := by
  rw [hv2, hsz]
  rcases n2 with h0 | ⟨B, o', hA, hs⟩
  ·subst h0
   cases A2 with
   | none =>
    have : news = [] := List.eq_nil_of_length_eq_zero (by simpa using n1)
    subst this; exact Src.ofNil w hu cap2
   | some a2 =>
    have : news = [] := List.eq_nil_of_length_eq_zero (by simpa using n1)
    subst this
    exact Src.ofSlice w hu a2 0 cap2 [] (by simp) (fun j u h => by simp at h) (fun u h => by cases h)
  ·rw [hA]
   exact Src.ofSlice w hu _ k cap2 news n1 (fun j u hj => by rw [Addr.add_mid]; exact h.mem _ _ _ (hs j u hj)) nOne
 have fin : ∀ {v : Value} {w1 : World}, (Builtin.append_ #[t, u] o.type #[a.eval y1, a.eval y2]).run C.P w = .ok v w1 → Qp C e (s.drop x) (.sl .tip sz (xs ++ ys)) v a w1 → Qap C e (s.drop x) (.sl .tip sz (xs ++ ys)) a ((execOp a.eval o).run C.P w) := by
  intro v w1 hrun hready
  refine .inl ⟨v, w1, ?_, hready⟩
  simp only [execOp, ho, resolve, hcl, hargs, hts, Sem.run_bind, Sem.run_pure, Result.andThen_ok, invoke, builtin]
  have : (#[y1, y2] : Array Operand).map a.eval = #[a.eval y1, a.eval y2] := by simp
  rw [this, hrun]
  rfl
 by_cases hgrow : cap < n + k
 ·-- a new row
  obtain ⟨olds, o1, o2, o3⟩ : ∃ olds : List Value, olds.length = n * sz ∧ (Builtin.firstCells i.size n (.slice A n cap)).run C.P w.drew = .ok olds.toArray w.drew ∧ (RepR C.fid σ sz xs (fun j => olds[j]?) ∧ ∀ v ∈ olds, v.oneCell' = true) := by
   rcases hrowsx with h0 | ⟨B, o', hA, hR⟩
   ·have : xs = [] := List.eq_nil_of_length_eq_zero (by omega)
    refine ⟨[], by simp [h0], ?_, by rw [this]; simp [RepR], fun v hv => by cases hv⟩
    subst h0
    cases A with
    | none => exact run_firstCells_none w.drew i.size 0 0 cap
    | some a1 => exact run_firstCells_some w.drew i.size 0 a1 0 cap [] (by simp) (fun j u h => by simp at h)
   ·obtain ⟨l, q1, q2, q3⟩ := Qfn hR
    refine ⟨l, by rw [q1, hn], ?_, q3, fun v hv => ?_⟩
    ·rw [hA]
     refine run_firstCells_some w.drew i.size n _ n cap l (by rw [q1, hn, hsz]) (fun j u hj => ?_)
     rw [Addr.add_mid]
     have := h.mem _ _ _ (q2 j u hj)
     simpa using this
    ·obtain ⟨j, hj⟩ := List.getElem?_of_mem hv
     exact h.one _ _ _ (q2 j v hj)
  have hfit : Builtin.nextslicecap (n + k) cap * i.bytes ≤ 281474976710656 := by
   refine growslice_fits hgrow ?_
   have h1 : (n + k) * i.bytes ≤ 4294967296 * 32768 := Nat.mul_le_mul (by omega) hby
   omega
  have hrun := run_append_grow_src (P := C.P) w t u o.type el i z ht hi hz A n cap olds o2 (a.eval y2) k news hsrc hgrow (by omega) hfit
  have hge := grownCap_ge w (n + k) cap el
  rw [← hv1] at hrun
  have hrel := hd.drawn (w.drawn + 1)
  have hzc : (Builtin.zeroCells z.cells (grownCap w (n + k) cap el - (n + k))).size = (grownCap w (n + k) cap el - (n + k)) * sz := by
   simp [Builtin.zeroCells, hzs]
  have hready := Qp.newRowCap (C := C) (e := e) hrel (vs := (olds ++ news).toArray ++ Builtin.zeroCells z.cells (grownCap w (n + k) cap el - (n + k))) (el := el) (sz := sz) (n := n + k) (cap := grownCap w (n + k) cap el) (xs := xs ++ ys)
   (by simp [hn, hk]) hge (by
    simp only [Array.size_append, List.size_toArray, Za, o1, n1, hzc]
    rw [← Nat.add_mul, ← Nat.add_mul]; congr 1; omega) (by
    intro j v hj hv
    rw [Array.getElem?_append_left (by simp [o1, n1, ← Nat.add_mul]; exact hj)] at hv
    have hv' : (olds ++ news)[j]? = some v := by simpa using hv
    rcases List.mem_append.1 (List.mem_of_getElem? hv') with h1 | h1
    ·exact o3.2 v h1
    ·exact nOne v h1) (by
    have hget : ∀ j, j < (n + k) * sz → (if j < (n + k) * sz then ((olds ++ news).toArray ++ Builtin.zeroCells z.cells (grownCap w (n + k) cap el - (n + k)))[j]? else none) = (olds ++ news)[j]? := by
     intro j hj
     rw [if_pos hj, Array.getElem?_append_left (by simp [o1, n1, ← Nat.add_mul]; exact hj)]
     simp
    rw [Qeb]
    refine ⟨Qad (Mem.le_refl σ) _ _ _ (fun j v hj => ?_) o3.1, Qad (Mem.le_refl σ) _ _ _ (fun j v hj => ?_) n3⟩
    ·have hlt := (List.getElem?_eq_some_iff.1 hj).1
     rw [hget j (by rw [Nat.add_mul]; omega), List.getElem?_append_left hlt]; exact hj
    ·have hlt := (List.getElem?_eq_some_iff.1 hj).1
     have hxn : xs.length * sz = n * sz := by rw [hn]
     rw [hget _ (by rw [Nat.add_mul]; omega), List.getElem?_append_right (by omega)]
     rw [show xs.length * sz + j - olds.length = j by omega]; exact hj)
  exact fin hrun hready
 ·-- in place
  by_cases hc0 : cap = 0
  ·have hn0 : n = 0 := by omega
   have hk0 : k = 0 := by omega
   have hxs : xs = [] := List.eq_nil_of_length_eq_zero (by omega)
   have hys : ys = [] := List.eq_nil_of_length_eq_zero (by omega)
   have hnews : news = [] := List.eq_nil_of_length_eq_zero (by rw [n1, hk0]; simp)
   have hcells := hsrc.cells
   rw [hnews, hk0] at hcells
   have hle := hsrc.len w
   rw [hk0] at hle
   have hrun : (Builtin.append_ #[t, u] o.type #[a.eval y1, a.eval y2]).run C.P w = .ok (.slice A 0 0) w := by
    rw [hv1, hn0, hc0]
    cases A <;> simp [Builtin.append_, run_underlying ht, run_underlying hu, sizeOf, typeInfo, hi, hle, hcells, storeCells]
   refine fin hrun ⟨σ, bm, hd, ?_, (fun b hb => by cases hb), fun sz' hs' => ⟨⟨A, 0, 0, rfl, .inl rfl⟩, fun p sz2 B hp h1 h2 => ?_⟩⟩
   ·refine ⟨A, 0, 0, rfl, by simp [hxs, hys], Nat.le_refl _, ⟨fun _ => rfl, fun _ => rfl⟩, .inl rfl⟩
   ·cases A <;> simp [Qf] at h1
  ·-- the right to append
   have hmt : m = .tip := by
    cases m with
    | zero => exact absurd (hzero.1 rfl) hc0
    | tip => rfl
    | share => exact absurd rfl hm.1
    | full =>
     exfalso
     have h1 := hzero.2 rfl
     have h2 := hm.2 rfl
     have h3 : ys.length ≠ 0 := fun h => h2 (List.eq_nil_of_length_eq_zero h)
     omega
   subst hmt
   obtain ⟨t1, rfl⟩ : ∃ t1, x = .take t1 := by
    cases x with
    | tmp t1 =>
     exfalso
     have := Qbn (s.t t1)
     rw [show (s.t t1).dem = _ from g1] at this
     cases this
    | take t1 => exact ⟨t1, rfl⟩
    | const c0 =>
     exfalso
     cases y1 <;> simp [okO] at hx
     have := Qih hx
     rw [show c0 = _ from g1] at this
     cases this
    | func g => cases g1
    | glob g => cases g1
   cases y1 <;> simp [okO] at hx
   subst hx
   have hst : Qd s (.t t1) = some sz := by
    simp only [Qd]
    rw [show s.t t1 = _ from g1]; rfl
   obtain ⟨A', n', cap', e1, e2⟩ := h.tip (.t t1) sz hst
   have hval : Qg a w bm (.t t1) = .slice A n cap := hv1
   rw [hval] at e1
   injection e1 with e1 e3 e4
   subst e1 e3 e4
   rcases e2 with e2 | ⟨B, o', arr, ty, mk, k1, k2, k3, k4, k5, k6, k7⟩
   ·exact absurd e2 hc0
   ·subst k1
    have hkn : n * sz + k * sz ≤ cap * sz := by rw [← Nat.add_mul]; exact Nat.mul_le_mul_right sz (by omega)
    have hrun := run_append_room_src (P := C.P) w t u o.type el i ht hi B o' n cap (a.eval y2) k news hsrc (by omega) (fun j hj => by
      have : o' + n * sz + j < arr.size := by omega
      rw [hsz, Qag k2]; simp [this]) (fun j hj => by
      rw [hsz]; exact Qfb k2 k3 (by omega))
    rw [hsz, ← hv1] at hrun
    obtain ⟨r1, r2, r3, r4⟩ := Qbi B news (o' + n * sz) w
    have hheap := Qbh B news (o' + n * sz) w arr ty mk k2
    let τ : Mem := { σ with c := fun B' j => if B' = B ∧ o' + n * sz ≤ j ∧ j < o' + n * sz + k * sz then news[j - (o' + n * sz)]? else σ B' j }
    have hle : σ.le τ := by
     refine Mem.le_c ?_
     intro B' j v hv
     by_cases hh : B' = B ∧ o' + n * sz ≤ j ∧ j < o' + n * sz + k * sz
     ·rw [hh.1, k5 j hh.2.1] at hv; cases hv
     ·simp only [if_neg hh]; exact hv
    have hnt : ∀ p sz', Qd (s.drop (.take t1)) p = some sz' → Qd s p = some sz' ∧ p ≠ .t t1 := by
     intro p sz' hp
     cases p with
     | t v =>
      simp only [Qd, S.drop, Qae] at hp
      by_cases hu : v = t1
      ·subst hu; simp [Qbn] at hp
      ·simp [hu] at hp; exact ⟨hp, fun e => hu (by injection e)⟩
     | c b i => exact ⟨hp, fun e => by cases e⟩
    have hblk : Qf (Qg a w bm (.t t1)) = some B := by rw [hval]; simp [Qf, hc0]
    have hnotip : ∀ p sz', Qd (s.drop (.take t1)) p = some sz' → Qf (Qg a w bm p) ≠ some B := by
     intro p sz' hp hB
     obtain ⟨q1, q2⟩ := hnt p sz' hp
     exact q2 (h.dist p (.t t1) sz' sz B q1 hst hB hblk)
    have hrel : RelX C.fid e τ bm (s.drop (.take t1)) a (w.setCells B (o' + n * sz) news) := by
     refine hd.touch (B := B) k6 k7 hnotip (fun B' hne => Qr B B' hne _ _ _) r1 r2 r3 r4 hle (fun B' j hne => by simp [τ, hne]) (fun j v hv => ?_)
     by_cases hh : o' + n * sz ≤ j ∧ j < o' + n * sz + k * sz
     ·simp only [τ, true_and, if_pos hh] at hv
      refine ⟨?_, nOne v (List.mem_of_getElem? hv)⟩
      rw [Qag hheap]
      have := Qau news arr (o' + n * sz) (j - (o' + n * sz)) (by omega) (by omega)
      rw [show o' + n * sz + (j - (o' + n * sz)) = j by omega] at this
      rw [this]; exact hv
     ·simp only [τ, true_and, if_neg hh] at hv
      refine ⟨?_, h.one _ _ _ hv⟩
      have hj : j < o' + n * sz := by
       rcases Nat.lt_or_ge j (o' + n * sz) with hl | hl
       ·exact hl
       ·rw [k5 j hl] at hv; cases hv
      rw [Qag hheap, Qw _ _ _ _ (by omega), ← Qag k2]
      exact h.mem _ _ _ hv
    refine fin hrun ⟨τ, bm, hrel, ?_, (fun b hb => by cases hb), fun sz' hs' => ?_⟩
    ·refine ⟨_, n + k, cap, rfl, by simp [hn, hk], by omega, ⟨fun h => (by cases h), fun h => (by cases h)⟩, .inr ⟨B, o', rfl, ?_⟩⟩
     rw [Qeb]
     refine ⟨?_, Qad hle _ _ _ (fun j v hj => ?_) n3⟩
     ·rcases hrowsx with h0 | ⟨B', o2, hA, hR⟩
      ·have : xs = [] := List.eq_nil_of_length_eq_zero (by omega)
       rw [this]; simp [RepR]
      ·injection hA with hA
       injection hA with hA1 hA2
       subst hA1 hA2
       exact Qad hle _ _ _ (fun j v hj => hle.1 _ _ _ hj) hR
     ·have hlt := (List.getElem?_eq_some_iff.1 hj).1
      rw [n1] at hlt
      have hh : o' + n * sz ≤ o' + (xs.length * sz + j) ∧ o' + (xs.length * sz + j) < o' + n * sz + k * sz := by rw [← hn]; omega
      simp only [τ, true_and, if_pos hh]
      rw [← hn, show o' + (n * sz + j) - (o' + n * sz) = j by omega]; exact hj
    ·simp only [AV.tipSz, Zi] at hs'
     subst hs'
     refine ⟨⟨_, n + k, cap, rfl, .inr ⟨B, o', _, ty, mk, rfl, hheap, fun i hi => k3 i (by rwa [Qq] at hi), by rw [Qq]; exact k4, fun j hj => ?_, k6, k7⟩⟩, fun p sz2 B' hp h1 h2 => ?_⟩
     ·rw [Nat.add_mul] at hj
      have hh : ¬ (o' + n * sz ≤ j ∧ j < o' + n * sz + k * sz) := by omega
      simp only [τ, true_and, if_neg hh]
      exact k5 j (by omega)
     ·have : B' = B := by simp [Qf, hc0] at h1; exact h1.symm
      subst this
      have hv : Qg a (w.setCells B' (o' + n * sz) news) bm p = Qg a w bm p := by
       cases p with
       | t t => rfl
       | c b i =>
        simp only [Qg]
        cases hb : bm b with
        | none => rfl
        | some B2 =>
         have hne : B2 ≠ B' := fun hh => k7 b (by rw [hb, hh])
         simp only [Option.bind_some]
         rw [Qbc (Qr B' B2 hne _ _ _)]
      rw [hv] at h2
      exact hnotip p sz2 hp h2
end
end Go.Vs