/- Arithmetic, comparisons, parts of values. -/
import Derived.Test.YthedbdlbibkpiaaGreatDoorVs8
import Derived.Laws.StructEq
set_option linter.unusedVariables false
namespace Go.Vs
open Go Go.RowKit

theorem wr_eq (k : IntKind) (n : Int) : wr k n = k.wrap n := by
  cases k <;> simp only [wr]
  · rw [IntKind.wrap_i32]; unfold wrap32; rfl
  · rw [IntKind.wrap_i64]; unfold wrap64; rfl
  · rw [IntKind.wrap_u8]
  · rw [IntKind.wrap_u32]

section
variable {C : Ctx} {e : Env} {σ τ : Mem} {bm : Nat → Option Nat} {s s' : S} {a : Act} {w w' : World} {call : Call} {o : Oper} {c : AV}

theorem binI_run {P : Program} {op : BinOp} {k : IntKind} {x y : Int} {t : TypeId} (h : binI op k x y = some c) (w : World) : ∃ v, (binOp op t (.int k x) (.int k y)).run P w = .ok v w ∧ (∀ fid σ, RepP fid σ c v) ∧ c.tipSz = none := by
  cases op <;> simp only [binI] at h <;> first
    | (cases h; done)
    | (split at h
       · cases h
       · rename_i hy
         injection h with h
         subst h
         refine ⟨_, ?_, fun _ _ => rfl, rfl⟩
         simp [binOp, Op.intDiv, hy, wr_eq])
    | (injection h with h
       subst h
       refine ⟨_, ?_, fun _ _ => rfl, rfl⟩
       simp [binOp, Op.intArith, Op.intCmp, wr_eq, intBits_and, intBits_or, intBits_xor, bne]
       try rfl)

theorem shiftI_run {P : Program} {op : BinOp} {k yk : IntKind} {x y : Int} {t : TypeId} (hop : op = .shl ∨ op = .shr) (h : shiftI op k x y = some c) (w : World) : ∃ v, (binOp op t (.int k x) (.int yk y)).run P w = .ok v w ∧ (∀ fid σ, RepP fid σ c v) ∧ c.tipSz = none := by
  unfold shiftI at h
  split at h
  · cases h
  · rename_i hy
    rcases hop with rfl | rfl <;>
    · injection h with h
      subst h
      refine ⟨_, ?_, fun _ _ => rfl, rfl⟩
      simp [binOp, Op.shift, hy, wr_eq]

theorem binS_run {P : Program} {op : BinOp} {x y : List UInt8} {t : TypeId} (h : binS op x y = some c) (w : World) : ∃ v, (binOp op t (.string ⟨x.toArray⟩) (.string ⟨y.toArray⟩)).run P w = .ok v w ∧ (∀ fid σ, RepP fid σ c v) ∧ c.tipSz = none := by
  have hl : ∀ l : List UInt8, (⟨l.toArray⟩ : ByteArray).toList = l := fun l => by
    rw [ByteArray.toList_eq]
  cases op <;> simp only [binS] at h <;> first | (cases h; done) | skip
  · split at h
    · rename_i hle
      injection h with h
      subst h
      refine ⟨.string (⟨x.toArray⟩ ++ ⟨y.toArray⟩), ?_, fun _ _ => ?_, rfl⟩
      · have : ¬ ((((⟨x.toArray⟩ : ByteArray).size + (⟨y.toArray⟩ : ByteArray).size : Nat) : Int) > IntKind.i64.max) := by
          simp only [ByteArray.size, List.size_toArray]
          have : IntKind.i64.max = 9223372036854775807 := by decide
          rw [this]
          unfold LIM at hle
          omega
        simp only [binOp, Op.stringOp, if_neg this, Sem.run_pure]
      · simp only [RepP, Value.string.injEq]
        apply ByteArray.ext
        simp
    · cases h
  · injection h with h
    subst h
    exact ⟨_, by simp only [binOp, Op.stringOp, Sem.run_pure, hl], fun _ _ => rfl, rfl⟩
  · injection h with h
    subst h
    exact ⟨_, by simp only [binOp, Op.stringOp, Sem.run_pure, hl], fun _ _ => rfl, rfl⟩

theorem eqGuard_int {P : Program} {op : BinOp} {t : TypeId} {x y : Operand} {k k' : IntKind} {m n : Int} {w : World} : (eqGuard op t x y (.int k m) (.int k' n)).run P w = .ok () w := by
  unfold eqGuard
  split <;> simp
theorem eqGuard_str {P : Program} {op : BinOp} {t : TypeId} {x y : Operand} {m n : ByteArray} {w : World} : (eqGuard op t x y (.string m) (.string n)).run P w = .ok () w := by
  unfold eqGuard
  split <;> simp
theorem eqGuard_bool {P : Program} {op : BinOp} {t : TypeId} {x y : Operand} {m n : Bool} {w : World} : (eqGuard op t x y (.bool m) (.bool n)).run P w = .ok () w := by
  unfold eqGuard
  split <;> simp

theorem op_bin (hG : GOk C σ) (h : RelX C.fid e σ bm s a w) {op : BinOp} {x1 x2 : Opnd} {y1 y2 : Operand} {t u : TypeId} (ho : o.op = .binOp op t y1 y2 u) (h1 : okO C x1 y1 = true) (h2 : okO C x2 y2 = true)
    (hev : evalK call C.G s (.bin op x1 x2) = some (c, s')) : OpRes C e s' c a ((execOp a.eval o).run C.P w) := by
  simp only [evalK] at hev
  cases hb : bin op (s.get C.G x1) (s.get C.G x2) with
  | none => rw [hb] at hev; cases hev
  | some v0 =>
    rw [hb] at hev
    simp only [bnd_some, Option.some.injEq, Prod.mk.injEq] at hev
    obtain ⟨rfl, rfl⟩ := hev
    have r1 := get_rep hG h h1
    have r2 := get_rep hG h h2
    have fin : ∀ {v : Value}, (do eqGuard op t y1 y2 (a.eval y1) (a.eval y2); binOp op t (a.eval y1) (a.eval y2) : Sem Value).run C.P w = .ok v w → (∀ fid σ, RepP fid σ v0 v) → v0.tipSz = none → OpRes C e s v0 a ((execOp a.eval o).run C.P w) := by
      intro v hrun hrep ht
      refine .inl ⟨v, w, ?_, Ready.plain h (hrep _ _) ht⟩
      simp only [execOp, ho]
      rw [Sem.run_bind, hrun]
      rfl
    unfold bin at hb
    split at hb
    · rename_i k m k' n g1 g2
      rw [g1] at r1
      rw [g2] at r2
      simp only [RepT, RepP] at r1 r2
      split at hb
      · obtain ⟨v, q1, q2, q3⟩ := shiftI_run (P := C.P) (yk := k') (t := t) (.inl rfl) hb w
        exact fin (by simp only [r1, r2, Sem.run_bind, eqGuard_int, Result.andThen_ok, q1]) q2 q3
      · obtain ⟨v, q1, q2, q3⟩ := shiftI_run (P := C.P) (yk := k') (t := t) (.inr rfl) hb w
        exact fin (by simp only [r1, r2, Sem.run_bind, eqGuard_int, Result.andThen_ok, q1]) q2 q3
      · split at hb
        · rename_i hk
          subst hk
          obtain ⟨v, q1, q2, q3⟩ := binI_run (P := C.P) (t := t) hb w
          exact fin (by simp only [r1, r2, Sem.run_bind, eqGuard_int, Result.andThen_ok, q1]) q2 q3
        · cases hb
    · rename_i m n g1 g2
      rw [g1] at r1
      rw [g2] at r2
      simp only [RepT, RepP] at r1 r2
      obtain ⟨v, q1, q2, q3⟩ := binS_run (P := C.P) (t := t) hb w
      exact fin (by simp only [r1, r2, Sem.run_bind, eqGuard_str, Result.andThen_ok, q1]) q2 q3
    · cases hb

theorem op_eqb (hG : GOk C σ) (h : RelX C.fid e σ bm s a w) {neq : Bool} {x1 x2 : Opnd} {y1 y2 : Operand} {t u : TypeId} (ho : o.op = .binOp (if neq then .neq else .eql) t y1 y2 u) (h1 : okO C x1 y1 = true) (h2 : okO C x2 y2 = true) (ht : C.P.underlying t = some .bool)
    (hev : evalK call C.G s (.eqb neq x1 x2) = some (c, s')) : OpRes C e s' c a ((execOp a.eval o).run C.P w) := by
  simp only [evalK] at hev
  have r1 := get_rep hG h h1
  have r2 := get_rep hG h h2
  split at hev
  · rename_i m n g1 g2
    rw [g1] at r1
    rw [g2] at r2
    simp only [RepT, RepP] at r1 r2
    simp only [Option.some.injEq, Prod.mk.injEq] at hev
    obtain ⟨rfl, rfl⟩ := hev
    have he : (Op.equal t (.bool m) (.bool n)).run C.P w = .ok (m == n) w := by
      unfold Op.equal Op.maxDepth
      rw [show (10000 : Nat) = 9999 + 1 from rfl, Op.equalIn]
      simp only [Sem.run_bind, run_underlying ht, Result.andThen_ok]
      rfl
    refine .inl ⟨.bool (if neq then !(m == n) else m == n), w, ?_, Ready.plain h rfl rfl⟩
    cases neq
    · simp [execOp, ho, r1, r2, eqGuard_bool, binOp, he]
    · simp [execOp, ho, r1, r2, eqGuard_bool, binOp, he]
  · cases hev

theorem op_un (hG : GOk C σ) (h : RelX C.fid e σ bm s a w) {op : UnOp} {x : Opnd} {y : Operand} {t : TypeId} (ho : o.op = .unOp op t y) (hx : okO C x y = true)
    (hev : evalK call C.G s (.un op x) = some (c, s')) : OpRes C e s' c a ((execOp a.eval o).run C.P w) := by
  simp only [evalK] at hev
  cases hb : un op (s.get C.G x) with
  | none => rw [hb] at hev; cases hev
  | some v0 =>
    rw [hb] at hev
    simp only [bnd_some, Option.some.injEq, Prod.mk.injEq] at hev
    obtain ⟨rfl, rfl⟩ := hev
    have r1 := get_rep hG h hx
    unfold un at hb
    split at hb
    · rename_i k n g1
      rw [g1] at r1
      simp only [RepT, RepP] at r1
      injection hb with hb
      subst hb
      exact .inl ⟨_, w, by simp [execOp, ho, r1, Op.unary, Op.intArith, wr_eq], Ready.plain h rfl rfl⟩
    · rename_i b g1
      rw [g1] at r1
      simp only [RepT, RepP] at r1
      injection hb with hb
      subst hb
      exact .inl ⟨_, w, by simp [execOp, ho, r1, Op.unary], Ready.plain h rfl rfl⟩
    · cases hb
end
end Go.Vs
