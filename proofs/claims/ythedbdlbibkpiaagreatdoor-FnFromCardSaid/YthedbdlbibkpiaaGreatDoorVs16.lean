/- Calls: what is handed to a function, and what comes back. -/
import Derived.Test.YthedbdlbibkpiaaGreatDoorVs15
set_option linter.unusedVariables false
namespace Go.Vs
open Go Go.RowKit

/-- A function's state as it is entered. -/
def entryS (tv : List AV) (bv : List BC) : S := { t := fun i => tv.getD i .undef, b := fun j => bv[j]?, seen := fun j => decide (j < bv.length) }

structure Entry (C : Ctx) (e : Env) (tv : List AV) (bv : List BC) (args : Array Value) (w : World) : Prop where
  rel : RelX C.fid { e with n := args.size } e.σ0 e.pbm (entryS tv bv) ⟨args, []⟩ w
  w0 : e.w0 = w
  len : tv.length = args.size
  g : GOk C e.σ0
  fix : FixOk C e

/-- What a function leaves. -/
def ExitOk (C : Ctx) (e : Env) (outs : List AV) (bv' : List BC) (nb : Nat) (v : Value) (w' : World) : Prop :=
  ∃ n s' a', (∀ j c, bv'[j]? = some c → s'.b j = some c) ∧ bv'.length = nb ∧ ∃ c, outs = [c] ∧
    ((∃ cs, c = .np cs ∧ ∃ σ' bm' b B cs', RelX C.fid { e with n := n } σ' bm' s' a' w' ∧ 100 ≤ b ∧ s'.b b = some (.var cs') ∧ bm' b = some B ∧ v = .pointer (some ⟨B, 0, none⟩) ∧ cs = cs'.map AV.share) ∨
     (c.isP = false ∧ Ready C { e with n := n } s' c v a' w'))

structure Known (C : Ctx) (g : Nat) : Prop where
  known : ∃ fn c, C.P.funcs[C.fid g]? = some fn ∧ (fn.name == "runtime.NumGoroutine") = false ∧ fn.body = some c

def CallOk (C : Ctx) (call : Call) : Prop := ∀ g tv bv o outs bv', g % 100 = 0 → call g tv bv = some (o, outs, bv') →
  Known C g ∧ ∀ e args w, Entry C e tv bv args w → Calls C.P (C.fid g) args w fun | .returned v, w' => ExitOk C e outs bv' bv.length v w' | _, _ => False

section
variable {C : Ctx} {e : Env} {σ : Mem} {bm : Nat → Option Nat} {s s' : S} {a : Act} {w w' : World} {call : Call}

/-! ### The arguments -/
structure ArgsOk (C : Ctx) (e : Env) (σ : Mem) (bm : Nat → Option Nat) (s : S) (a : Act) (w : World) (cs : List AV) (vs : List Value) : Prop where
  len : cs.length = vs.length
  rep : ∀ (i : Nat) (c : AV) (v : Value), cs[i]? = some c → vs[i]? = some v → RepT C.fid σ bm s.b c v
  tip : ∀ (i : Nat) (c : AV) (v : Value) (sz : Nat), cs[i]? = some c → vs[i]? = some v → c.tipSz = some sz → TipOk e σ bm w sz v
  apart : ∀ (i : Nat) (c : AV) (v : Value) (sz : Nat), cs[i]? = some c → vs[i]? = some v → c.tipSz = some sz → ∀ p sz' B, tipAt s p = some sz' → tipBlk v = some B → tipBlk (valAt a w bm p) ≠ some B
  dist : ∀ (i j : Nat) (c d : AV) (v u : Value) (sz sz' B : Nat), cs[i]? = some c → vs[i]? = some v → c.tipSz = some sz → cs[j]? = some d → vs[j]? = some u → d.tipSz = some sz' → tipBlk v = some B → tipBlk u = some B → i = j

theorem drop_b (s : S) (x : Opnd) : (s.drop x).b = s.b ∧ (s.drop x).seen = s.seen := by cases x <;> exact ⟨rfl, rfl⟩
theorem dropAll_b : ∀ (xs : List Opnd) (s : S), (dropAll s xs).b = s.b ∧ (dropAll s xs).seen = s.seen
  | [], s => ⟨rfl, rfl⟩
  | x :: xs, s => by
    have := dropAll_b xs (s.drop x)
    rw [(drop_b s x).1, (drop_b s x).2] at this
    exact this
theorem dropAll_rel : ∀ (xs : List Opnd) {s : S}, RelX C.fid e σ bm s a w → RelX C.fid e σ bm (dropAll s xs) a w
  | [], _, h => h
  | x :: xs, _, h => dropAll_rel xs (h.drop x)
theorem drop_tip {s : S} {x : Opnd} {t sz : Nat} (h : ((s.drop x).t t).tipSz = some sz) : (s.t t).tipSz = some sz ∧ x ≠ .take t := by
  cases x with
  | take u =>
    simp only [S.drop, upd_at] at h
    by_cases hu : t = u
    · subst hu; simp [dem_tip] at h
    · simp [hu] at h; exact ⟨h, fun e => hu (by injection e with e; exact e.symm)⟩
  | _ => exact ⟨h, fun e => by cases e⟩
theorem dropAll_tip : ∀ {xs : List Opnd} {s : S} {t sz : Nat}, ((dropAll s xs).t t).tipSz = some sz → (s.t t).tipSz = some sz ∧ .take t ∉ xs
  | [], s, t, sz, h => ⟨h, by simp⟩
  | x :: xs, s, t, sz, h => by
    obtain ⟨h1, h2⟩ := dropAll_tip (xs := xs) (s := s.drop x) h
    obtain ⟨h3, h4⟩ := drop_tip h1
    exact ⟨h3, by simp; exact ⟨fun e => h4 e.symm, h2⟩⟩
theorem tipAt_dropAll {xs : List Opnd} {s : S} {p : Pos} {sz : Nat} (h : tipAt (dropAll s xs) p = some sz) : tipAt s p = some sz ∧ ∀ t, .take t ∈ xs → p ≠ .t t := by
  cases p with
  | t t =>
    obtain ⟨h1, h2⟩ := dropAll_tip h
    exact ⟨h1, fun u hu e => h2 (by injection e with e; rw [e]; exact hu)⟩
  | c b i =>
    simp only [tipAt, (dropAll_b xs s).1] at h
    exact ⟨h, fun u _ e => by cases e⟩

theorem takesOk_spec : ∀ {xs : List Opnd}, takesOk xs = true → ∀ (i j t : Nat), xs[i]? = some (.take t) → xs[j]? = some (.take t) → i = j
  | [], _, i, j, t, hi, _ => by simp at hi
  | x :: xs, h, i, j, t, hi, hj => by
    have hx : takesOk xs = true := by
      cases x <;> simp only [takesOk] at h <;> first | exact h | (simp only [Bool.and_eq_true] at h; exact h.2)
    have key : ∀ (k : Nat), x = .take t → xs[k]? = some (.take t) → False := by
      intro k e hk
      subst e
      simp only [takesOk, Bool.and_eq_true, List.all_eq_true] at h
      have := h.1 _ (List.mem_of_getElem? hk)
      simp at this
    cases i with
    | zero =>
      cases j with
      | zero => rfl
      | succ j => exact absurd (by simpa using hj) (key j (by simpa using hi))
    | succ i =>
      cases j with
      | zero => exact absurd (by simpa using hi) (key i (by simpa using hj))
      | succ j => rw [takesOk_spec hx i j t (by simpa using hi) (by simpa using hj)]

/-- Where an argument's right to append is from. -/
theorem getA_tip {x : Opnd} {sz : Nat} (h : (s.getA C.G x).tipSz = some sz) : (∃ t, x = .take t ∧ ((s.t t).tipSz = some sz ∨ ∃ xs, s.t t = .sl .zero sz xs)) ∨ ∃ xs, x = .const (.sl .zero sz xs) ∨ x = .const (.sl .tip sz xs) := by
  cases x with
  | tmp t =>
    exfalso
    simp only [S.getA] at h
    split at h
    · cases h
    · rw [share_tip] at h; cases h
  | take t =>
    refine .inl ⟨t, rfl, ?_⟩
    simp only [S.getA] at h
    revert h
    cases s.t t <;> intro h <;> first | (cases h; done) | skip
    rename_i m sz' xs
    cases m
    · simp [AV.toTip, AV.tipSz] at h; subst h; exact .inr ⟨xs, rfl⟩
    · exact .inl h
    · cases h
    · cases h
  | const v =>
    simp only [S.getA] at h
    revert h
    cases v <;> intro h <;> first | (cases h; done) | skip
    rename_i m sz' xs
    cases m
    · simp [AV.toTip, AV.tipSz] at h; subst h; exact .inr ⟨xs, .inl rfl⟩
    · simp [AV.toTip, AV.tipSz] at h; subst h; exact .inr ⟨xs, .inr rfl⟩
    · cases h
    · cases h
  | func g => cases h
  | glob g => cases h

theorem getA_rep (hG : GOk C σ) (h : RelX C.fid e σ bm s a w) {x : Opnd} {y : Operand} (ho : okO C x y = true) : RepT C.fid σ bm s.b (s.getA C.G x) (a.eval y) := by
  have toTip : ∀ {c : AV} {v : Value}, RepT C.fid σ bm s.b c v → RepT C.fid σ bm s.b c.toTip v := by
    intro c v hr
    cases c with
    | sl m sz xs => exact RepT_P (RepP_toTip (by simpa [RepT] using hr))
    | _ => exact hr
  have share : ∀ {c : AV} {v : Value}, RepT C.fid σ bm s.b c v → RepT C.fid σ bm s.b c.share v := by
    intro c v hr
    cases c with
    | sl m sz xs => exact RepT_P (RepP_share (by simpa [RepT] using hr))
    | _ => exact hr
  cases x with
  | tmp t =>
    cases y <;> simp [okO] at ho
    subst ho
    have := h.tmps t
    simp only [S.getA]
    split
    · rename_i cs hcs
      rw [hcs] at this
      obtain ⟨vs, h1, h2, h3⟩ := (show RepP C.fid σ (.agg cs) _ from this)
      exact ⟨vs, h1, by simpa using h2, RepL_map (fun _ _ hr => RepP_share hr) h3⟩
    · exact share this
  | take t =>
    cases y <;> simp [okO] at ho
    subst ho
    exact toTip (h.tmps _)
  | const c =>
    cases y <;> simp [okO] at ho
    exact toTip (RepT_P (okC_rep ho))
  | func g => exact get_rep hG h ho
  | glob i => exact get_rep hG h ho

theorem zero_tipBlk {fid : Nat → Nat} {sz : Nat} {xs : List (List AV)} {v : Value} (h : RepP fid σ (.sl .zero sz xs) v) : (∃ A n, v = .slice A n 0) ∧ tipBlk v = none := by
  obtain ⟨A, n, cap, rfl, _, h2, h3, _⟩ := h
  have := h3.1 rfl
  subst this
  exact ⟨⟨A, n, rfl⟩, by cases A <;> simp [tipBlk]⟩

theorem args_ok (hG : GOk C σ) (h : RelX C.fid e σ bm s a w) {xs : List Opnd} {ys : List Operand} (ho : okOs C xs ys = true) (ht : takesOk xs = true) :
    ArgsOk C e σ bm (dropAll s xs) a w (argsOf C.G s xs) (ys.map a.eval) := by
  have hget : ∀ (i : Nat) (c : AV) (v : Value), (argsOf C.G s xs)[i]? = some c → (ys.map a.eval)[i]? = some v → ∃ x y, xs[i]? = some x ∧ ys[i]? = some y ∧ okO C x y = true ∧ c = s.getA C.G x ∧ v = a.eval y := by
    intro i c v hc hv
    simp only [argsOf, List.getElem?_map] at hc hv
    cases hx : xs[i]? with
    | none => rw [hx] at hc; cases hc
    | some x =>
      obtain ⟨y, hy, hok⟩ := okOs_get ho i x hx
      rw [hx] at hc
      rw [hy] at hv
      simp only [Option.map_some, Option.some.injEq] at hc hv
      exact ⟨x, y, rfl, hy, hok, hc.symm, hv.symm⟩
  -- a tip among the arguments
  have htip : ∀ (i : Nat) (c : AV) (v : Value) (sz : Nat), (argsOf C.G s xs)[i]? = some c → (ys.map a.eval)[i]? = some v → c.tipSz = some sz →
      (∃ A n, v = .slice A n 0 ∧ tipBlk v = none) ∨ (∃ t, xs[i]? = some (.take t) ∧ tipAt s (.t t) = some sz ∧ v = valAt a w bm (.t t)) := by
    intro i c v sz hc hv hs
    obtain ⟨x, y, hx, hy, hok, rfl, rfl⟩ := hget i c v hc hv
    rcases getA_tip hs with ⟨t, rfl, h1 | ⟨l, h1⟩⟩ | ⟨l, h1 | h1⟩
    · cases y <;> simp [okO] at hok
      subst hok
      exact .inr ⟨t, hx, h1, rfl⟩
    · cases y <;> simp [okO] at hok
      subst hok
      have := h.tmps t
      rw [h1] at this
      obtain ⟨⟨A, n, h2⟩, h3⟩ := zero_tipBlk (show RepP C.fid σ (.sl .zero sz l) _ from this)
      exact .inl ⟨A, n, h2, h3⟩
    · subst h1
      cases y <;> simp [okO] at hok
      obtain ⟨⟨A, n, h2⟩, h3⟩ := zero_tipBlk (σ := σ) (fid := C.fid) (okC_rep hok)
      exact .inl ⟨A, n, h2, h3⟩
    · subst h1
      cases y <;> simp [okO] at hok
      have := okC_tip hok
      cases this
  refine { len := by simp [argsOf, okOs_len ho], rep := fun i c v hc hv => ?_, tip := fun i c v sz hc hv hs => ?_, apart := fun i c v sz hc hv hs p sz' B hp hB => ?_, dist := fun i j c d v u sz sz' B hc hv hs hd hu hs' hB hB' => ?_ }
  · obtain ⟨x, y, hx, hy, hok, rfl, rfl⟩ := hget i c v hc hv
    rw [(dropAll_b xs s).1]
    exact getA_rep hG h hok
  · rcases htip i c v sz hc hv hs with ⟨A, n, rfl, _⟩ | ⟨t, _, h2, rfl⟩
    · exact ⟨A, n, 0, rfl, .inl rfl⟩
    · exact h.tip _ _ h2
  · rcases htip i c v sz hc hv hs with ⟨A, n, rfl, h0⟩ | ⟨t, h1, h2, rfl⟩
    · rw [h0] at hB; cases hB
    · intro hB'
      obtain ⟨k1, k2⟩ := tipAt_dropAll hp
      exact k2 t (List.mem_of_getElem? h1) (h.dist p (.t t) sz' sz B k1 h2 hB' hB)
  · rcases htip i c v sz hc hv hs with ⟨A, n, rfl, h0⟩ | ⟨t, h1, h2, rfl⟩
    · rw [h0] at hB; cases hB
    · rcases htip j d u sz' hd hu hs' with ⟨A, n, rfl, h0⟩ | ⟨t', h3, h4, rfl⟩
      · rw [h0] at hB'; cases hB'
      · have := h.dist _ _ sz sz' B h2 h4 hB hB'
        injection this with this
        subst this
        exact takesOk_spec ht i j t h1 h3

/-! ### What is lent -/
theorem lend_spec : ∀ {cs : List AV} {j : Nat} {tv : List AV} {bv : List BC} {ls : List Nat}, lend s cs j = some (tv, bv, ls) →
    tv.length = cs.length ∧ ls.length = bv.length ∧ (∀ k b : Nat, ls[k]? = some b → j + k < 100 ∧ ∃ cs', s.b b = some (.var cs') ∧ bv[k]? = some (.var cs')) ∧
    (∀ (k k' b : Nat), ls[k]? = some b → ls[k']? = some b → k = k') ∧
    (∀ (i : Nat) (c : AV), cs[i]? = some c → (c.isP = false ∧ tv[i]? = some c) ∨ (∃ b k, c = .bp b 0 ∧ tv[i]? = some (.bp (j + k) 0) ∧ ls[k]? = some b))
  | [], j, tv, bv, ls, h => by
    simp only [lend, Option.some.injEq, Prod.mk.injEq] at h
    obtain ⟨rfl, rfl, rfl⟩ := h
    simp
  | c :: cs, j, tv, bv, ls, h => by
    have plain : c.isP = false → (bnd (lend s cs j) fun (x : List AV × List BC × List Nat) => some (c :: x.1, x.2.1, x.2.2)) = some (tv, bv, ls) → tv.length = (c :: cs).length ∧ ls.length = bv.length ∧ (∀ k b : Nat, ls[k]? = some b → j + k < 100 ∧ ∃ cs', s.b b = some (.var cs') ∧ bv[k]? = some (.var cs')) ∧
        (∀ (k k' b : Nat), ls[k]? = some b → ls[k']? = some b → k = k') ∧
        (∀ (i : Nat) (d : AV), (c :: cs)[i]? = some d → (d.isP = false ∧ tv[i]? = some d) ∨ (∃ b k, d = .bp b 0 ∧ tv[i]? = some (.bp (j + k) 0) ∧ ls[k]? = some b)) := by
      intro hp hb
      cases hl : lend s cs j with
      | none => rw [hl] at hb; cases hb
      | some r =>
        obtain ⟨tv', bv', ls'⟩ := r
        rw [hl] at hb
        simp only [bnd_some, Option.some.injEq, Prod.mk.injEq] at hb
        obtain ⟨rfl, rfl, rfl⟩ := hb
        obtain ⟨h1, h2, h3, h4, h5⟩ := lend_spec hl
        refine ⟨by simp [h1], h2, h3, h4, fun i d hd => ?_⟩
        cases i with
        | zero => simp at hd; subst hd; exact .inl ⟨hp, rfl⟩
        | succ i => simpa using h5 i d (by simpa using hd)
    cases c with
    | bp b off =>
      simp only [lend] at h
      split at h
      rotate_left
      · cases h
      rename_i hc
      obtain ⟨rfl, hj⟩ := hc
      split at h
      rotate_left
      · cases h
      rename_i cs0 hb
      cases hl : lend s cs (j + 1) with
      | none => rw [hl] at h; cases h
      | some r =>
        obtain ⟨tv', bv', ls'⟩ := r
        rw [hl] at h
        simp only [bnd_some] at h
        split at h
        · cases h
        · rename_i hn
          simp only [Option.some.injEq, Prod.mk.injEq] at h
          obtain ⟨rfl, rfl, rfl⟩ := h
          obtain ⟨h1, h2, h3, h4, h5⟩ := lend_spec hl
          have hnm : ∀ k, ls'[k]? ≠ some b := fun k hk => hn (by simpa using List.mem_of_getElem? hk)
          refine ⟨by simp [h1], by simp [h2], fun k b' hk => ?_, fun k k' b' hk hk' => ?_, fun i d hd => ?_⟩
          · cases k with
            | zero => simp at hk; subst hk; exact ⟨by omega, cs0, hb, rfl⟩
            | succ k =>
              obtain ⟨q1, q2⟩ := h3 k b' (by simpa using hk)
              exact ⟨by omega, by simpa using q2⟩
          · cases k with
            | zero =>
              cases k' with
              | zero => rfl
              | succ k' => simp at hk hk'; subst hk; exact absurd hk' (hnm k')
            | succ k =>
              cases k' with
              | zero => simp at hk hk'; subst hk'; exact absurd hk (hnm k)
              | succ k' => rw [h4 k k' b' (by simpa using hk) (by simpa using hk')]
          · cases i with
            | zero => simp at hd; subst hd; exact .inr ⟨b, 0, rfl, rfl, rfl⟩
            | succ i =>
              rcases h5 i d (by simpa using hd) with ⟨q1, q2⟩ | ⟨b', k, q1, q2, q3⟩
              · exact .inl ⟨q1, by simpa using q2⟩
              · exact .inr ⟨b', k + 1, q1, by simpa [Nat.add_assoc, Nat.add_comm 1 k] using q2, by simpa using q3⟩
    | undef | int | bool | str | con | sl | agg | rp | fn | tup =>
      refine plain rfl ?_
      simpa [lend, AV.isP] using h
    | bs | be | np => simp [lend, AV.isP] at h

theorem giveBack_spec : ∀ {ls : List Nat} {bv : List BC} {s s' : S}, giveBack s ls bv = some s' → (∀ (k k' b : Nat), ls[k]? = some b → ls[k']? = some b → k = k') →
    ls.length = bv.length ∧ s'.t = s.t ∧ s'.seen = s.seen ∧ (∀ b, (∀ k : Nat, ls[k]? ≠ some b) → s'.b b = s.b b) ∧ ∀ (k b : Nat) (c : BC), ls[k]? = some b → bv[k]? = some c → s'.b b = some c
  | [], [], s, s', h, _ => by
    simp only [giveBack, Option.some.injEq] at h
    subst h
    simp
  | [], _ :: _, s, s', h, _ => by simp [giveBack] at h
  | _ :: _, [], s, s', h, _ => by simp [giveBack] at h
  | b :: ls, c :: bv, s, s', h, hn => by
    simp only [giveBack] at h
    obtain ⟨h1, h2, h3, h4, h5⟩ := giveBack_spec h (fun k k' b' hk hk' => by
      have := hn (k + 1) (k' + 1) b' (by simpa using hk) (by simpa using hk')
      omega)
    refine ⟨by simp [h1], h2, h3, fun b' hb' => ?_, fun k b' c' hk hc => ?_⟩
    · rw [h4 b' (fun k hk => hb' (k + 1) (by simpa using hk))]
      have : b' ≠ b := fun e => hb' 0 (by simp [e])
      simp [S.setB, upd_ne _ _ this]
    · cases k with
      | zero =>
        simp at hk hc
        subst hk hc
        rw [h4 b (fun k hk => by have := hn 0 (k + 1) b (by simp) (by simpa using hk); omega)]
        simp [S.setB, upd]
      | succ k => exact h5 k b' c' (by simpa using hk) (by simpa using hc)

/-- Whom the function's memory belongs to. -/
def calleeEnv (σ : Mem) (bm : Nat → Option Nat) (s : S) (a : Act) (w : World) (cs : List AV) (vs : List Value) (ls : List Nat) : Env where
  w0 := w
  σ0 := σ
  lent := fun B => (∃ k b : Nat, ls[k]? = some b ∧ bm b = some B) ∨ (∃ (i : Nat) (c : AV) (v : Value) (sz : Nat), cs[i]? = some c ∧ vs[i]? = some v ∧ AV.tipSz c = some sz ∧ tipBlk v = some B) ∨
    (∃ k b i sz : Nat, ls[k]? = some b ∧ tipAt s (.c b i) = some sz ∧ tipBlk (valAt a w bm (.c b i)) = some B)
  pbm := fun k => (ls[k]?).bind bm
  n := 0

theorem TipOk.to {e' : Env} {bm' : Nat → Option Nat} {sz : Nat} {v : Value} (h : TipOk e σ bm w sz v) (ho : ∀ B, tipBlk v = some B → e'.own B) (hb : ∀ b B, bm' b = some B → ∃ b', bm b' = some B) : TipOk e' σ bm' w sz v := by
  obtain ⟨A, n, cap, rfl, h2⟩ := h
  refine ⟨A, n, cap, rfl, ?_⟩
  by_cases hc : cap = 0
  · exact .inl hc
  · rcases h2 with h2 | ⟨B, o, vs, t, m, k1, k2, k3, k4, k5, k6, k7⟩
    · exact .inl h2
    · subst k1
      exact .inr ⟨B, o, vs, t, m, rfl, k2, k3, k4, k5, ho B (by simp [tipBlk, hc]), fun b hh => by
        obtain ⟨b', hb'⟩ := hb b B hh
        exact k7 b' hb'⟩

theorem tip_own' {sz B : Nat} {v : Value} (h : TipOk e σ bm w sz v) (hB : tipBlk v = some B) : e.own B := by
  obtain ⟨A, m, cap, rfl, h2⟩ := h
  rcases h2 with rfl | ⟨B', o, arr, t, mk, k1, k2, k3, k4, k5, k6, k7⟩
  · cases A <;> simp [tipBlk] at hB
  · subst k1
    simp only [tipBlk] at hB
    split at hB
    · cases hB
    · injection hB with hB; subst hB; exact k6
theorem fix_of (hF : FixOk C e) (h : RelX C.fid e σ bm s a w) {cs : List AV} {vs : List Value} (ha : ArgsOk C e σ bm s a w cs vs) {tv : List AV} {bv : List BC} {ls : List Nat} (hl : lend s cs 0 = some (tv, bv, ls)) :
    FixOk C (calleeEnv σ bm s a w cs vs ls) := by
  intro x hx
  obtain ⟨h1, h2, o, h3, h4⟩ := hF x hx
  refine ⟨Nat.lt_of_lt_of_le h1 h.grown, fun hl' => ?_, o, (h.old _ h1 h2).trans h3, h4⟩
  have hown : e.own x.1 := by
    rcases hl' with ⟨k, b, q1, q2⟩ | ⟨i, c, v, sz, q1, q2, q3, q4⟩ | ⟨k, b, i, sz, q1, q2, q3⟩
    · cases hs : s.b b with
      | none => rw [h.dead b hs] at q2; cases q2
      | some c =>
        obtain ⟨B', k1, _, k3, _⟩ := h.boxes b c hs
        rw [q2] at k1; injection k1 with k1; rw [k1]; exact k3
    · exact tip_own' (ha.tip i c v sz q1 q2 q3) q4
    · exact tip_own' (h.tip _ _ q2) q3
  rcases hown with k | k
  · omega
  · exact h2 k

theorem entry_of (hG : GOk C σ) (hF : FixOk C e) (h : RelX C.fid e σ bm s a w) {cs : List AV} {vs : List Value} (ha : ArgsOk C e σ bm s a w cs vs) {tv : List AV} {bv : List BC} {ls : List Nat} (hl : lend s cs 0 = some (tv, bv, ls)) :
    Entry C (calleeEnv σ bm s a w cs vs ls) tv bv vs.toArray w := by
  obtain ⟨l1, l2, l3, l4, l5⟩ := lend_spec hl
  have hbv : ∀ (k : Nat) (c : BC), bv[k]? = some c → ∃ b cs', ls[k]? = some b ∧ c = .var cs' ∧ s.b b = some (.var cs') := by
    intro k c hk
    have hlt : k < ls.length := by rw [l2]; exact (List.getElem?_eq_some_iff.1 hk).1
    obtain ⟨_, cs', h1, h2⟩ := l3 k ls[k] (List.getElem?_eq_getElem hlt)
    rw [hk] at h2
    injection h2 with h2
    exact ⟨ls[k], cs', List.getElem?_eq_getElem hlt, h2, h1⟩
  have hpbm : ∀ k B, (calleeEnv σ bm s a w cs vs ls).pbm k = some B → ∃ b, ls[k]? = some b ∧ bm b = some B := by
    intro k B hk
    simp only [calleeEnv] at hk
    cases hb : ls[k]? with
    | none => rw [hb] at hk; cases hk
    | some b => rw [hb] at hk; exact ⟨b, rfl, hk⟩
  have htv : ∀ (t : Nat), ((entryS tv bv).t t = .undef) ∨ ∃ c v, cs[t]? = some c ∧ vs[t]? = some v ∧ ((c.isP = false ∧ (entryS tv bv).t t = c) ∨ ∃ b k, c = .bp b 0 ∧ (entryS tv bv).t t = .bp k 0 ∧ ls[k]? = some b) := by
    intro t
    by_cases ht : t < cs.length
    · right
      refine ⟨cs[t], vs[t]'(by rw [← ha.len]; exact ht), List.getElem?_eq_getElem ht, List.getElem?_eq_getElem _, ?_⟩
      rcases l5 t cs[t] (List.getElem?_eq_getElem ht) with ⟨h1, h2⟩ | ⟨b, k, h1, h2, h3⟩
      · exact .inl ⟨h1, by simp [entryS, h2]⟩
      · exact .inr ⟨b, k, h1, by simp [entryS, h2], h3⟩
    · left
      simp only [entryS, List.getD_eq_getElem?_getD]
      rw [List.getElem?_eq_none (by omega)]; rfl
  have hval : ∀ (t : Nat) (v : Value), vs[t]? = some v → (⟨vs.toArray, []⟩ : Act).tmps.getD t undef = v := by
    intro t v hv
    simp [Array.getD_eq_getD_getElem?, hv]
  have hcell : ∀ (k b i : Nat), ls[k]? = some b → valAt ⟨vs.toArray, []⟩ w (calleeEnv σ bm s a w cs vs ls).pbm (.c k i) = valAt a w bm (.c b i) := by
    intro k b i hk
    simp [valAt, calleeEnv, hk]
  have htipT : ∀ (t sz : Nat), tipAt (entryS tv bv) (.t t) = some sz → ∃ c v, cs[t]? = some c ∧ vs[t]? = some v ∧ c.tipSz = some sz ∧ valAt ⟨vs.toArray, []⟩ w (calleeEnv σ bm s a w cs vs ls).pbm (.t t) = v := by
    intro t sz ht
    simp only [tipAt] at ht
    rcases htv t with h1 | ⟨c, v, h1, h2, ⟨_, h3⟩ | ⟨b, k, _, h3, _⟩⟩
    · rw [h1] at ht; cases ht
    · rw [h3] at ht; exact ⟨c, v, h1, h2, ht, hval t v h2⟩
    · rw [h3] at ht; cases ht
  have htipC : ∀ (k i sz : Nat), tipAt (entryS tv bv) (.c k i) = some sz → ∃ b, ls[k]? = some b ∧ tipAt s (.c b i) = some sz := by
    intro k i sz ht
    simp only [tipAt] at ht
    split at ht
    · rename_i cs' hk
      obtain ⟨b, cs2, q1, q2, q3⟩ := hbv k _ hk
      injection q2 with q2
      subst q2
      exact ⟨b, q1, by simp only [tipAt, q3]; exact ht⟩
    · cases ht
  refine { w0 := rfl, len := by simp [l1, ha.len], g := hG, fix := fix_of hF h ha hl, rel := ?_ }
  refine { defers := rfl, size := rfl, tmps := fun t => ?_, boxes := fun k c hk => ?_, dead := fun k hk => ?_, inj := fun k k' B h1 h2 => ?_, par := fun j B B' _ h1 h2 => ?_, newb := fun k B hk h1 => ?_,
           seenB := fun k hk => ?_, seenT := fun t k hk => ?_, mem := h.mem, one := h.one, old := fun _ _ _ => rfl, oldσ := fun _ _ _ => rfl, leσ := Mem.le_refl σ, grown := Nat.le_refl _, os := rfl, tape := rfl, output := rfl,
           tip := fun p sz hp => ?_, dist := fun p q sz sz' B hp hq h1 h2 => ?_ }
  · rcases htv t with h1 | ⟨c, v, h1, h2, ⟨h3, h4⟩ | ⟨b, k, h3, h4, h5⟩⟩
    · rw [h1]; simp [RepT, RepP]
    · rw [h4, hval t v h2]
      exact (RepT_of h3).2 ((RepT_of h3).1 (ha.rep t c v h1 h2))
    · rw [h4, hval t v h2]
      have := ha.rep t c v h1 h2
      rw [h3] at this
      intro B hB
      obtain ⟨b', q1, q2⟩ := hpbm k B hB
      rw [h5] at q1
      injection q1 with q1
      subst q1
      exact this B q2
  · obtain ⟨b, cs', q1, rfl, q3⟩ := hbv k c hk
    obtain ⟨B, r1, r2, r3, r4⟩ := h.boxes b _ q3
    exact ⟨B, by simp [calleeEnv, q1, r1], r2, .inr (.inl ⟨k, b, q1, r1⟩), r4⟩
  · have : ls[k]? = none := by
      have := List.getElem?_eq_none_iff.1 (show bv[k]? = none from hk)
      exact List.getElem?_eq_none (by omega)
    simp [calleeEnv, this]
  · obtain ⟨b, q1, q2⟩ := hpbm k B h1
    obtain ⟨b', q3, q4⟩ := hpbm k' B h2
    have := h.inj b b' B q2 q4
    subst this
    exact l4 k k' b q1 q3
  · have h1' : (calleeEnv σ bm s a w cs vs ls).pbm j = some B := h1
    rw [h1'] at h2
    injection h2 with h2
    exact h2.symm
  · obtain ⟨b, q1, q2⟩ := hpbm k B h1
    have := (l3 k b q1).1
    omega
  · have : k < bv.length := by
      cases hh : bv[k]? with
      | none => exact absurd hh hk
      | some c => exact (List.getElem?_eq_some_iff.1 hh).1
    simp [entryS, this]
  · rcases htv t with h1 | ⟨c, v, h1, h2, ⟨h3, h4⟩ | ⟨b, k', h3, h4, h5⟩⟩
    · rw [h1] at hk; cases hk
    · rw [h4, ref_none h3] at hk; cases hk
    · rw [h4] at hk
      injection hk with hk
      subst hk
      have : k' < bv.length := by rw [← l2]; exact (List.getElem?_eq_some_iff.1 h5).1
      simp [entryS, this]
  · have hpb : ∀ k B, (calleeEnv σ bm s a w cs vs ls).pbm k = some B → ∃ b', bm b' = some B := fun k B hk => by
      obtain ⟨b, _, q2⟩ := hpbm k B hk
      exact ⟨b, q2⟩
    cases p with
    | t t =>
      obtain ⟨c, v, q1, q2, q3, q4⟩ := htipT t sz hp
      show TipOk _ σ _ w sz (valAt _ w _ (.t t))
      rw [q4]
      exact (ha.tip t c v sz q1 q2 q3).to (fun B hB => .inr (.inr (.inl ⟨t, c, v, sz, q1, q2, q3, hB⟩))) hpb
    | c k i =>
      obtain ⟨b, q1, q2⟩ := htipC k i sz hp
      show TipOk _ σ _ w sz (valAt _ w _ (.c k i))
      rw [hcell k b i q1]
      exact (h.tip _ _ q2).to (fun B hB => .inr (.inr (.inr ⟨k, b, i, sz, q1, q2, hB⟩))) hpb
  · cases p with
    | t t =>
      obtain ⟨c, v, p1, p2, p3, p4⟩ := htipT t sz hp
      have h1' : tipBlk v = some B := p4 ▸ h1
      cases q with
      | t u =>
        obtain ⟨c', v', q1, q2, q3, q4⟩ := htipT u sz' hq
        have h2' : tipBlk v' = some B := q4 ▸ h2
        rw [ha.dist t u c c' v v' sz sz' B p1 p2 p3 q1 q2 q3 h1' h2']
      | c k i =>
        obtain ⟨b, q1, q2⟩ := htipC k i sz' hq
        have h2' : tipBlk (valAt a w bm (.c b i)) = some B := (hcell k b i q1) ▸ h2
        exact absurd h2' (ha.apart t c v sz p1 p2 p3 _ _ B q2 h1')
    | c k i =>
      obtain ⟨b, p1, p2⟩ := htipC k i sz hp
      have h1' : tipBlk (valAt a w bm (.c b i)) = some B := (hcell k b i p1) ▸ h1
      cases q with
      | t u =>
        obtain ⟨c', v', q1, q2, q3, q4⟩ := htipT u sz' hq
        have h2' : tipBlk v' = some B := q4 ▸ h2
        exact absurd h1' (ha.apart u c' v' sz' q1 q2 q3 _ _ B p2 h2')
      | c k' i' =>
        obtain ⟨b', q1, q2⟩ := htipC k' i' sz' hq
        have h2' : tipBlk (valAt a w bm (.c b' i')) = some B := (hcell k' b' i' q1) ▸ h2
        have := h.dist _ _ sz sz' B p2 q2 h1' h2'
        injection this with e1 e2
        subst e1 e2
        rw [l4 k k' b p1 q1]
end
end Go.Vs
