/- Parts of values, lengths, slices of slices and strings, conversions. -/
import Derived.Test.YthedbdlbibkpiaaGreatDoorVs9
import Derived.Laws.Slices
import Derived.Great.BuildSlice
import GoSem.Core.Utf8
set_option linter.unusedVariables false
namespace Go.Vs
open Go Go.RowKit

section
variable {C : Ctx} {e : Env} {σ τ : Mem} {bm : Nat → Option Nat} {s s' : S} {a : Act} {w w' : World} {call : Call} {o : Oper} {c : AV}

theorem gpart_rep {fid : Nat → Nat} {P : Program} {n off : Nat} {agg : Bool} {cs : List AV} {vs : Array Value} {t : TypeId} (hl : vs.size = cs.length) (hc : RepL fid σ cs (fun i => vs[i]?)) (hp : part n agg cs off = some c) (hn : tsz P t = some n) (hr : rowT P t = some agg) (w : World) :
    ∃ x, (Go.part t vs off).run P w = .ok x w ∧ RepP fid σ c x ∧ c.tipSz = none := by
  obtain ⟨hagg, d, hd⟩ := rowT_spec hr w
  rw [RepL_iff] at hc
  unfold part at hp
  cases agg with
  | true =>
    simp only [if_true] at hp
    split at hp
    · rename_i hle
      injection hp with hp
      subst hp
      refine ⟨.agg (vs.extract off (off + n)), by simp [Go.part, hagg, run_size hn], ⟨_, rfl, by simp; omega, ?_⟩, rfl⟩
      rw [RepL_iff]
      intro i c hi
      rw [List.getElem?_map, List.getElem?_take] at hi
      split at hi
      · rename_i hin
        rw [List.getElem?_drop] at hi
        cases hcc : cs[off + i]? with
        | none => rw [hcc] at hi; cases hi
        | some c0 =>
          rw [hcc] at hi
          simp at hi
          subst hi
          obtain ⟨x, k1, k2⟩ := hc _ _ hcc
          refine ⟨x, ?_, RepP_dem k2⟩
          rw [Array.getElem?_extract]
          rw [if_pos (by omega)]; exact k1
      · cases hi
    · cases hp
  | false =>
    simp only [Bool.false_eq_true, if_false] at hp
    split at hp
    · cases hcc : cs[off]? with
      | none => rw [hcc] at hp; cases hp
      | some c0 =>
        rw [hcc] at hp
        simp at hp
        subst hp
        obtain ⟨x, k1, k2⟩ := hc off c0 hcc
        exact ⟨x, by simp [Go.part, hagg, k1], RepP_dem k2, dem_tip _⟩
    · cases hp

theorem op_fld (hG : GOk C σ) (h : RelX C.fid e σ bm s a w) {off n f : Nat} {agg : Bool} {x : Opnd} {y : Operand} {t : TypeId} (ho : o.op = .field t y f) (hx : okO C x y = true) (hf : okField C.P t f off (some n) (some agg) = true)
    (hev : evalK call C.G s (.fld off n agg x) = some (c, s')) : OpRes C e s' c a ((execOp a.eval o).run C.P w) := by
  simp only [evalK] at hev
  have hr := get_rep hG h hx
  obtain ⟨fs, fd, k, h1, h2, h3, h4, h5, h6, h7⟩ := okField_spec hf
  have := h6 n rfl
  subst this
  split at hev
  · rename_i cs hget
    rw [hget] at hr
    obtain ⟨vs, hv, hl, hc⟩ := hr
    cases hp : part n agg cs off with
    | none => rw [hp] at hev; cases hev
    | some v0 =>
      rw [hp] at hev
      simp only [bnd_some, Option.some.injEq, Prod.mk.injEq] at hev
      obtain ⟨rfl, rfl⟩ := hev
      obtain ⟨x', k1, k2, k3⟩ := gpart_rep (P := C.P) hl hc hp h4 (h7 _ rfl) w
      refine .inl ⟨x', w, ?_, Ready.plain h k2 k3⟩
      simp [execOp, ho, Instr.field, run_underlying h1, h2, hv, asAgg, h3, k1]
  · cases hev

theorem op_idxS (hG : GOk C σ) (h : RelX C.fid e σ bm s a w) {x i : Opnd} {y j : Operand} {t : TypeId} (ho : o.op = .index t y j) (hx : okO C x y = true) (hi : okO C i j = true) (ht : C.P.underlying t = some .string)
    (hev : evalK call C.G s (.idxS x i) = some (c, s')) : OpRes C e s' c a ((execOp a.eval o).run C.P w) := by
  simp only [evalK] at hev
  have hr := get_rep hG h hx
  have hri := get_rep hG h hi
  split at hev
  · rename_i l hget
    rw [hget] at hr
    cases hn : natOf (s.get C.G i) with
    | none => rw [hn] at hev; cases hev
    | some k =>
      rw [hn] at hev
      simp only [bnd_some] at hev
      cases hxx : l[k]? with
      | none => rw [hxx] at hev; cases hev
      | some b =>
        rw [hxx] at hev
        simp only [bnd_some, Option.some.injEq, Prod.mk.injEq] at hev
        obtain ⟨rfl, rfl⟩ := hev
        obtain ⟨kk, hk⟩ := natOf_rep hri hn
        simp only [RepT, RepP] at hr
        have hb : (⟨l.toArray⟩ : ByteArray)[k]? = some b := by
          have hlt := (List.getElem?_eq_some_iff.1 hxx).1
          have : k < (⟨l.toArray⟩ : ByteArray).size := by simpa [ByteArray.size] using hlt
          rw [getElem?_pos (⟨l.toArray⟩ : ByteArray) k this]
          have h2 := (List.getElem?_eq_some_iff.1 hxx).2
          simp only [ByteArray.getElem_eq_getElem_data, List.getElem_toArray, h2]
        refine .inl ⟨.int .u8 b.toNat, w, ?_, Ready.plain h rfl rfl⟩
        simp [execOp, ho, Instr.index, run_underlying ht, hr, hk, asIntOf, hb]
  · cases hev

theorem op_idxA (hG : GOk C σ) (h : RelX C.fid e σ bm s a w) {sz len n : Nat} {agg : Bool} {x i : Opnd} {y j : Operand} {t el : TypeId} (ho : o.op = .index t y j) (hx : okO C x y = true) (hi : okO C i j = true) (ht : C.P.underlying t = some (.array len el)) (hsz : tsz C.P el = some sz) (hn0 : n = sz) (hrow : rowT C.P el = some agg)
    (hev : evalK call C.G s (.idxA sz len n agg x i) = some (c, s')) : OpRes C e s' c a ((execOp a.eval o).run C.P w) := by
  subst hn0
  simp only [evalK] at hev
  have hr := get_rep hG h hx
  have hri := get_rep hG h hi
  split at hev
  · rename_i cs hget
    rw [hget] at hr
    obtain ⟨vs, hv, hl, hc⟩ := hr
    cases hn : natOf (s.get C.G i) with
    | none => rw [hn] at hev; cases hev
    | some k =>
      rw [hn] at hev
      simp only [bnd_some] at hev
      split at hev
      · rename_i hkl
        cases hp : part n agg cs (k * n) with
        | none => rw [hp] at hev; cases hev
        | some v0 =>
          rw [hp] at hev
          simp only [bnd_some, Option.some.injEq, Prod.mk.injEq] at hev
          obtain ⟨rfl, rfl⟩ := hev
          obtain ⟨kk, hk⟩ := natOf_rep hri hn
          obtain ⟨x', k1, k2, k3⟩ := gpart_rep (P := C.P) hl hc hp hsz hrow w
          refine .inl ⟨x', w, ?_, Ready.plain h k2 k3⟩
          simp [execOp, ho, Instr.index, run_underlying ht, hv, hk, asIntOf, hkl, run_size hsz, k1]
      · cases hev
  · cases hev

theorem sizeL (l : List UInt8) : (⟨l.toArray⟩ : ByteArray).size = l.length := by show l.toArray.size = _; simp

theorem op_lenS (hG : GOk C σ) (h : RelX C.fid e σ bm s a w) {x : Opnd} {y : Operand} {t : TypeId} {cl : Go.Call} (ho : o.op = .call cl) (hcl : cl.callee = .builtin .len) (hargs : cl.args = #[y]) (hts : cl.argTypes = #[t]) (hx : okO C x y = true) (ht : C.P.underlying t = some .string)
    (hev : evalK call C.G s (.lenS x) = some (c, s')) : OpRes C e s' c a ((execOp a.eval o).run C.P w) := by
  simp only [evalK] at hev
  have hr := get_rep hG h hx
  split at hev
  · rename_i l hget
    rw [hget] at hr
    simp only [RepT, RepP] at hr
    simp only [Option.some.injEq, Prod.mk.injEq] at hev
    obtain ⟨rfl, rfl⟩ := hev
    refine .inl ⟨.int .i64 l.length, w, ?_, Ready.plain h rfl rfl⟩
    have := sizeL l
    simp [execOp, ho, resolve, hcl, hargs, hts, invoke, builtin, Builtin.len_, run_underlying ht, hr, goInt, this]
  · cases hev

theorem op_len (hG : GOk C σ) (h : RelX C.fid e σ bm s a w) {x : Opnd} {y : Operand} {t el : TypeId} {cl : Go.Call} (ho : o.op = .call cl) (hcl : cl.callee = .builtin .len) (hargs : cl.args = #[y]) (hts : cl.argTypes = #[t]) (hx : okO C x y = true) (ht : C.P.underlying t = some (.slice el))
    (hev : evalK call C.G s (.len x) = some (c, s')) : OpRes C e s' c a ((execOp a.eval o).run C.P w) := by
  simp only [evalK] at hev
  have hr := get_rep hG h hx
  have slc : ∀ {A : Option Addr} {n cap : Nat}, a.eval y = .slice A n cap → (execOp a.eval o).run C.P w = .ok (.value (.int .i64 n)) w := by
    intro A n cap hv
    simp [execOp, ho, resolve, hcl, hargs, hts, invoke, builtin, Builtin.len_, run_underlying ht, hv, goInt]
  split at hev
  · rename_i m sz xs hget
    rw [hget] at hr
    obtain ⟨A, n, cap, hv, hlen, _⟩ := hr
    simp only [Option.some.injEq, Prod.mk.injEq] at hev
    obtain ⟨rfl, rfl⟩ := hev
    exact .inl ⟨.int .i64 n, w, slc hv, Ready.plain h (by rw [hlen]; rfl) rfl⟩
  · rename_i b hget
    split at hev
    · rename_i sz xs hb
      rw [hget] at hr
      obtain ⟨B, hB, _⟩ := h.boxes b _ hb
      obtain ⟨sz2, xs2, cap, j1, j2, hv⟩ := hr B hB
      rw [hb] at j1
      injection j1 with j1
      injection j1 with j1 j3
      subst j1 j3
      simp only [Option.some.injEq, Prod.mk.injEq] at hev
      obtain ⟨rfl, rfl⟩ := hev
      exact .inl ⟨.int .i64 xs.length, w, slc hv, Ready.plain h rfl rfl⟩
    · cases hev
  · cases hev

theorem op_ext (hG : GOk C σ) (h : RelX C.fid e σ bm s a w) {i : Nat} {x : Opnd} {y : Operand} (ho : o.op = .extract y i) (hx : okO C x y = true)
    (hev : evalK call C.G s (.ext i x) = some (c, s')) : OpRes C e s' c a ((execOp a.eval o).run C.P w) := by
  simp only [evalK] at hev
  have hr := get_rep hG h hx
  split at hev
  · rename_i vs hget
    rw [hget] at hr
    obtain ⟨ws, hv, hl, hc⟩ := hr
    cases hxx : vs[i]? with
    | none => rw [hxx] at hev; cases hev
    | some v0 =>
      rw [hxx] at hev
      simp only [bnd_some] at hev
      split at hev
      · cases hev
      · rename_i hp
        simp only [Option.some.injEq, Prod.mk.injEq] at hev
        obtain ⟨rfl, rfl⟩ := hev
        obtain ⟨x', k1, k2⟩ := (RepL_iff.1 hc) i _ hxx
        exact .inl ⟨x', w, by simp [execOp, ho, Instr.extract, hv, k1], Ready.plain h (RepP_share k2) (share_tip _)⟩
  · cases hev
end
end Go.Vs
