/- Slices of slices and strings, conversions, structs and slices that are built. -/
import Derived.Test.YthedbdlbibkpiaaGreatDoorVs10
set_option linter.unusedVariables false
namespace Go.Vs
open Go Go.RowKit

def fitsO : Option Nat → Option Value → Prop
  | none, none => True
  | some n, some v => ∃ k, v = .int k (n : Int)
  | _, _ => False

theorem run_bounds {P : Program} {isSlice : Bool} {len cap : Nat} {lo hi mx : Option Nat} {vlo vhi vmx : Option Value} (h1 : fitsO lo vlo) (h2 : fitsO hi vhi) (h3 : fitsO mx vmx)
    (hmx : mx.isSome = true → hi.isSome = true) (hb : lo.getD 0 ≤ hi.getD len) (hh : hi.getD len ≤ mx.getD cap) (hm : mx.getD cap ≤ cap) (w : World) :
    (Instr.sliceBounds isSlice len cap vlo vhi vmx).run P w = .ok (lo.getD 0, hi.getD len, mx.getD cap) w := by
  cases lo <;> cases vlo <;> simp only [fitsO] at h1 <;> cases hi <;> cases vhi <;> simp only [fitsO] at h2 <;> cases mx <;> cases vmx <;> simp only [fitsO] at h3 <;>
    simp_all only [Option.getD_some, Option.getD_none, Option.isSome_some, Option.isSome_none, true_implies, Bool.false_eq_true]
  all_goals (try obtain ⟨k1, rfl⟩ := h1)
  all_goals (try obtain ⟨k2, rfl⟩ := h2)
  all_goals (try obtain ⟨k3, rfl⟩ := h3)
  all_goals (simp [Instr.sliceBounds, run_sliceBound, *])

section
variable {C : Ctx} {e : Env} {σ τ : Mem} {bm : Nat → Option Nat} {s s' : S} {a : Act} {w w' : World} {call : Call} {o : Oper} {c : AV}

theorem slc_str {P : Program} {t : TypeId} {l : List UInt8} {lo hi : Option Nat} {vlo vhi : Option Value} (ht : P.underlying t = some .string) (h1 : fitsO lo vlo) (h2 : fitsO hi vhi)
    (h : sliceStr (.str l) lo hi = some c) (w : World) : ∃ v, (Instr.sliceAt t (.string ⟨l.toArray⟩) vlo vhi none).run P w = .ok v w ∧ (∀ fid σ, RepP fid σ c v) ∧ c.tipSz = none := by
  simp only [sliceStr] at h
  split at h
  · rename_i hc
    obtain ⟨hb, hh⟩ := hc
    injection h with h
    subst h
    have hrun := run_bounds (P := P) (isSlice := false) (len := l.length) (cap := l.length) (mx := none) (vmx := none) h1 h2 trivial (fun h => by cases h) hb (by simpa using hh) (by simp) w
    refine ⟨.string ((⟨l.toArray⟩ : ByteArray).extract (lo.getD 0) (hi.getD l.length)), ?_, fun _ _ => ?_, rfl⟩
    · simp only [Instr.sliceAt, Sem.run_bind, run_underlying ht, Result.andThen_ok, Instr.slice, Option.isSome_none, Bool.false_eq_true, if_false, sizeL, hrun, Sem.run_pure]
    · simp only [RepP, Value.string.injEq]
      apply ByteArray.ext
      apply Array.ext'
      simp only [ByteArray.data_extract, Array.toList_extract, List.extract_eq_take_drop, List.drop_take]
  · cases h

theorem slc_sl {fid : Nat → Nat} {P : Program} {t el : TypeId} {m : SM} {sz' : Nat} {xs : List (List AV)} {v0 : Value} {lo hi mx : Option Nat} {vlo vhi vmx : Option Value} {sz : Nat} (ht : P.underlying t = some (.slice el)) (hsz : tsz P el = some sz) (h1 : fitsO lo vlo) (h2 : fitsO hi vhi) (h3 : fitsO mx vmx) (hmx : mx.isSome = true → hi.isSome = true)
    (hr : RepP fid σ (.sl m sz' xs) v0) (h : sliceOf sz (.sl m sz' xs) lo hi mx = some c) (w : World) : ∃ v, (Instr.sliceAt t v0 vlo vhi vmx).run P w = .ok v w ∧ RepP fid σ c v ∧ c.tipSz = none := by
  obtain ⟨A, n, cap, rfl, hlen, hcap, hz, hrows⟩ := hr
  simp only [sliceOf] at h
  split at h
  · rename_i hc
    obtain ⟨rfl, hb, hh⟩ := hc
    have key : ∀ M : Nat, mx.getD cap = M → hi.getD xs.length ≤ M → M ≤ cap → (lo.getD 0 < hi.getD xs.length → True) →
        (Instr.sliceAt t (.slice A n cap) vlo vhi vmx).run P w = .ok (.slice (if M = lo.getD 0 then A else A.map (·.add (lo.getD 0 * sz'))) (hi.getD xs.length - lo.getD 0) (M - lo.getD 0)) w := by
      intro M hM h4 h5 _
      have hrun := run_bounds (P := P) (isSlice := true) (len := n) (cap := cap) h1 h2 h3 hmx (by rw [hlen]; exact hb) (by rw [hM, hlen]; exact h4) (by rw [hM]; exact h5) w
      rw [hM] at hrun
      rw [hlen] at hrun ⊢
      simp only [Instr.sliceAt, Sem.run_bind, run_underlying ht, Result.andThen_ok, Instr.slice, hrun, run_size hsz, Sem.run_pure]
    have rep : ∀ (M : Nat) (m' : SM), hi.getD xs.length ≤ M → (m' = .zero → M - lo.getD 0 = 0) ∧ (m' = .full → M - lo.getD 0 = hi.getD xs.length - lo.getD 0) →
        RepP fid σ (.sl m' sz' ((xs.take (hi.getD xs.length)).drop (lo.getD 0))) (.slice (if M = lo.getD 0 then A else A.map (·.add (lo.getD 0 * sz'))) (hi.getD xs.length - lo.getD 0) (M - lo.getD 0)) := by
      intro M m' h4 h5
      refine ⟨_, _, _, rfl, by simp; omega, by omega, h5, ?_⟩
      by_cases h0 : hi.getD xs.length - lo.getD 0 = 0
      · exact .inl h0
      · rcases hrows with hn | ⟨B, o, rfl, hR⟩
        · omega
        · right
          rw [if_neg (by omega)]
          refine ⟨B, o + lo.getD 0 * sz', by simp [Addr.add_mid], ?_⟩
          rw [RepR_iff] at hR ⊢
          intro i r hi'
          rw [List.getElem?_drop, List.getElem?_take] at hi'
          split at hi'
          · obtain ⟨k1, k2⟩ := hR _ r hi'
            refine ⟨k1, ?_⟩
            have e : (fun j => σ B (o + lo.getD 0 * sz' + (i * sz' + j))) = (fun j => σ B (o + ((lo.getD 0 + i) * sz' + j))) := by
              funext j; congr 1; rw [Nat.add_mul]; omega
            rw [e]; exact k2
          · cases hi'
    cases mx with
    | none =>
      simp only at h
      injection h with h
      subst h
      exact ⟨_, key cap rfl (by omega) (Nat.le_refl _) (fun _ => trivial), rep cap .share (by omega) ⟨fun h => (by cases h), fun h => (by cases h)⟩, rfl⟩
    | some M =>
      simp only at h
      split at h
      · rename_i hM
        injection h with h
        subst h
        refine ⟨_, key M rfl hM.1 (by omega) (fun _ => trivial), rep M _ hM.1 ⟨fun h => ?_, fun h => ?_⟩, ?_⟩
        · split at h
          · omega
          · cases h
        · split at h <;> cases h
        · split <;> rfl
      · cases h
  · cases h

def okOO (C : Ctx) : Option Opnd → Option Operand → Bool
  | none, none => true
  | some x, some y => okO C x y
  | _, _ => false

theorem natO_rep (hG : GOk C σ) (h : RelX C.fid e σ bm s a w) {z : Option Opnd} {z' : Option Operand} {n : Option Nat} (hz : okOO C z z' = true) (hn : natO C.G s z = some n) : fitsO n (z'.map a.eval) ∧ n.isSome = z.isSome := by
  cases z <;> cases z' <;> simp only [okOO, Bool.false_eq_true] at hz
  · simp only [natO, Option.some.injEq] at hn
    subst hn; exact ⟨trivial, rfl⟩
  · rename_i z z'
    simp only [natO] at hn
    cases hk : natOf (s.get C.G z) with
    | none => rw [hk] at hn; cases hn
    | some k =>
      rw [hk] at hn
      simp only [bnd_some, Option.some.injEq] at hn
      subst hn
      exact ⟨natOf_rep (get_rep hG h hz) hk, rfl⟩

theorem op_slcS (hG : GOk C σ) (h : RelX C.fid e σ bm s a w) {x : Opnd} {lo hi : Option Opnd} {y : Operand} {lo' hi' : Option Operand} {t : TypeId} (ho : o.op = .slice t y lo' hi' none) (hx : okO C x y = true)
    (h1 : okOO C lo lo' = true) (h2 : okOO C hi hi' = true) (ht : C.P.underlying t = some .string)
    (hev : evalK call C.G s (.slcS x lo hi) = some (c, s')) : OpRes C e s' c a ((execOp a.eval o).run C.P w) := by
  have hr := get_rep hG h hx
  simp only [evalK] at hev
  cases hn1 : natO C.G s lo with
  | none => rw [hn1] at hev; cases hev
  | some n1 =>
    cases hn2 : natO C.G s hi with
    | none => rw [hn1, hn2] at hev; cases hev
    | some n2 =>
      rw [hn1, hn2] at hev
      simp only [bnd_some] at hev
      cases hs : sliceStr (s.get C.G x) n1 n2 with
      | none => rw [hs] at hev; cases hev
      | some c0 =>
        rw [hs] at hev
        simp only [bnd_some, Option.some.injEq, Prod.mk.injEq] at hev
        obtain ⟨rfl, rfl⟩ := hev
        cases hg : s.get C.G x with
        | str l0 =>
          rw [hg] at hr hs
          simp only [RepT, RepP] at hr
          obtain ⟨v, q1, q2, q3⟩ := slc_str (P := C.P) ht (natO_rep hG h h1 hn1).1 (natO_rep hG h h2 hn2).1 hs w
          refine .inl ⟨v, w, ?_, Ready.plain h (q2 _ _) q3⟩
          simp [execOp, ho, hr, q1]
        | _ => rw [hg] at hs; simp [sliceStr] at hs

theorem op_slc (hG : GOk C σ) (h : RelX C.fid e σ bm s a w) {sz : Nat} {x : Opnd} {lo hi mx : Option Opnd} {y : Operand} {lo' hi' mx' : Option Operand} {t el : TypeId} (ho : o.op = .slice t y lo' hi' mx') (hx : okO C x y = true)
    (h1 : okOO C lo lo' = true) (h2 : okOO C hi hi' = true) (h3 : okOO C mx mx' = true) (ht : C.P.underlying t = some (.slice el)) (hsz : tsz C.P el = some sz)
    (hev : evalK call C.G s (.slc sz x lo hi mx) = some (c, s')) : OpRes C e s' c a ((execOp a.eval o).run C.P w) := by
  have hr := get_rep hG h hx
  simp only [evalK] at hev
  split at hev
  · cases hev
  · rename_i hmx
    cases hn1 : natO C.G s lo with
    | none => rw [hn1] at hev; cases hev
    | some n1 =>
      cases hn2 : natO C.G s hi with
      | none => rw [hn1, hn2] at hev; cases hev
      | some n2 =>
        cases hn3 : natO C.G s mx with
        | none => rw [hn1, hn2, hn3] at hev; cases hev
        | some n3 =>
          rw [hn1, hn2, hn3] at hev
          simp only [bnd_some] at hev
          cases hs : sliceOf sz (s.get C.G x) n1 n2 n3 with
          | none => rw [hs] at hev; cases hev
          | some c0 =>
            rw [hs] at hev
            simp only [bnd_some, Option.some.injEq, Prod.mk.injEq] at hev
            obtain ⟨rfl, rfl⟩ := hev
            obtain ⟨f1, _⟩ := natO_rep hG h h1 hn1
            obtain ⟨f2, g2⟩ := natO_rep hG h h2 hn2
            obtain ⟨f3, g3⟩ := natO_rep hG h h3 hn3
            cases hg : s.get C.G x with
            | sl m0 z0 xs =>
              rw [hg] at hr hs
              obtain ⟨v, q1, q2, q3⟩ := slc_sl ht hsz f1 f2 f3 (fun hh => by
                rw [g3] at hh
                rw [g2]
                cases hi <;> simp_all) hr hs w
              refine .inl ⟨v, w, ?_, Ready.plain h q2 q3⟩
              simp [execOp, ho, q1]
            | _ => rw [hg] at hs; simp [sliceOf] at hs

/-! ### Conversions -/
theorem op_convI (hG : GOk C σ) (h : RelX C.fid e σ bm s a w) {k : IntKind} {x : Opnd} {y : Operand} {t u : TypeId} {d : TypeDesc} (ho : o.op = .convert t u y) (hx : okO C x y = true) (ht : C.P.underlying t = some d) (hu : C.P.underlying u = some (.int k))
    (hev : evalK call C.G s (.conv (.int k) x) = some (c, s')) : OpRes C e s' c a ((execOp a.eval o).run C.P w) := by
  have hr := get_rep hG h hx
  simp only [evalK] at hev
  cases hg : s.get C.G x with
  | int k' n =>
    rw [hg] at hr hev
    simp only [RepT, RepP] at hr
    simp only [convK, Option.some.injEq, Prod.mk.injEq] at hev
    obtain ⟨rfl, rfl⟩ := hev
    refine .inl ⟨.int k (k.wrap n), w, ?_, Ready.plain h (by simp only [RepP, wr_eq]) rfl⟩
    simp [execOp, ho, convert, run_underlying ht, run_underlying hu, hr, Conv.intToInt]
  | _ => rw [hg] at hev; simp [convK] at hev

theorem op_convS (hG : GOk C σ) (h : RelX C.fid e σ bm s a w) {x : Opnd} {y : Operand} {t u : TypeId} {d : TypeDesc} (ho : o.op = .convert t u y) (hx : okO C x y = true) (ht : C.P.underlying t = some d) (hu : C.P.underlying u = some .string)
    (hev : evalK call C.G s (.conv .strstr x) = some (c, s')) : OpRes C e s' c a ((execOp a.eval o).run C.P w) := by
  have hr := get_rep hG h hx
  simp only [evalK] at hev
  cases hg : s.get C.G x with
  | str l =>
    rw [hg] at hr hev
    simp only [RepT, RepP] at hr
    simp only [convK, Option.some.injEq, Prod.mk.injEq] at hev
    obtain ⟨rfl, rfl⟩ := hev
    refine .inl ⟨.string ⟨l.toArray⟩, w, ?_, Ready.plain h rfl rfl⟩
    simp [execOp, ho, convert, run_underlying ht, run_underlying hu, hr]
  | _ => rw [hg] at hev; simp [convK] at hev

theorem op_convR (hG : GOk C σ) (h : RelX C.fid e σ bm s a w) {x : Opnd} {y : Operand} {t u : TypeId} {d : TypeDesc} (ho : o.op = .convert t u y) (hx : okO C x y = true) (ht : C.P.underlying t = some d) (hu : C.P.underlying u = some .string)
    (hev : evalK call C.G s (.conv .runeStr x) = some (c, s')) : OpRes C e s' c a ((execOp a.eval o).run C.P w) := by
  have hr := get_rep hG h hx
  simp only [evalK] at hev
  cases hg : s.get C.G x with
  | int k' n =>
    rw [hg] at hr hev
    simp only [RepT, RepP] at hr
    simp only [convK] at hev
    split at hev
    · rename_i hn
      simp only [Option.some.injEq, Prod.mk.injEq] at hev
      obtain ⟨rfl, rfl⟩ := hev
      obtain ⟨r, rfl⟩ := Int.eq_ofNat_of_zero_le hn.1
      refine .inl ⟨.string (Utf8.encode (r : Int)), w, ?_, Ready.plain h ?_ rfl⟩
      · simp [execOp, ho, convert, run_underlying ht, run_underlying hu, hr, Conv.intToString]
      · have v : Utf8.valid (r : Int) = true := by simp [Utf8.valid]; omega
        have c1 : r < 128 := by omega
        have : (Utf8.encode (r : Int)).data.toList = [UInt8.ofNat r] := by simp [Utf8.encode, v, c1]
        simp only [RepP, Value.string.injEq]
        apply ByteArray.ext
        apply Array.ext'
        simpa using this
    · cases hev
  | _ => rw [hg] at hev; simp [convK] at hev
end
end Go.Vs
