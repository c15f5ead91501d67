/- One operation of a region. -/
import Derived.Test.YthedbdlbibkpiaaGreatDoorVs17
set_option linter.unusedVariables false
namespace Go.Vs
open Go Go.RowKit

section
variable {C : Ctx} {e : Env} {σ σ' : Mem} {bm bm' : Nat → Option Nat} {s s1 s2 sc : S} {a ac : Act} {w w' : World} {call : Call} {cs : List AV} {vs : List Value} {tv : List AV} {bv bv' : List BC} {ls : List Nat} {n : Nat}

theorem tip_own {sz B : Nat} {v : Value} (h : TipOk e σ bm w sz v) (hB : tipBlk v = some B) : e.own B ∧ ∀ b, bm b ≠ some B := by
  obtain ⟨A, m, cap, rfl, h2⟩ := h
  rcases h2 with rfl | ⟨B', o, arr, t, mk, k1, k2, k3, k4, k5, k6, k7⟩
  · cases A <;> simp [tipBlk] at hB
  · subst k1
    simp only [tipBlk] at hB
    split at hB
    · cases hB
    · injection hB with hB; subst hB; exact ⟨k6, k7⟩

theorem callF_sound (hc : CallOk C call) (hG : GOk C σ) (hF : FixOk C e) (h : RelX C.fid e σ bm s a w) (ha : ArgsOk C e σ bm s a w cs vs) {g site : Nat} {c : AV} (hg0 : g % 100 = 0) (hev : callF call s g site cs = some (c, s2)) :
    Known C g ∧ Calls C.P (C.fid g) vs.toArray w fun | .returned v, w' => Ready C e s2 c v a w' | _, _ => False := by
  simp only [callF] at hev
  cases hl : lend s cs 0 with
  | none => rw [hl] at hev; cases hev
  | some r =>
    obtain ⟨tv, bv, ls⟩ := r
    rw [hl] at hev
    simp only [bnd_some] at hev
    cases hcall : call g tv bv with
    | none => rw [hcall] at hev; cases hev
    | some r =>
      obtain ⟨oc, outs, bv'⟩ := r
      rw [hcall] at hev
      simp only [bnd_some] at hev
      cases hgb : giveBack s ls bv' with
      | none => rw [hgb] at hev; cases hev
      | some s1 =>
        rw [hgb] at hev
        simp only [bnd_some] at hev
        obtain ⟨hk, hcalls⟩ := hc g tv bv oc outs bv' hg0 hcall
        refine ⟨hk, (hcalls _ _ w (entry_of hG hF h ha hl)).mono ?_⟩
        intro ed w'
        cases ed with
        | panicked _ => exact id
        | outgrown => exact id
        | returned v =>
          rintro ⟨n, sc, ac, hb, hn, c0, rfl, hr⟩
          show Ready C e s2 c v a w'
          rcases hr with ⟨cs0, rfl, σ', bm', b, B, cs', hx, hb1, hb2, hb3, rfl, rfl⟩ | ⟨hp, σ', bm', hx, hrep, href, htip⟩
          · have hback := back_of h ha hl hx hb hn hgb
            simp only [] at hev
            cases hnew : s1.newB site (.var (cs'.map AV.share)) with
            | none => rw [hnew] at hev; cases hev
            | some s3 =>
              rw [hnew] at hev
              simp only [bnd_some, Option.some.injEq, Prod.mk.injEq] at hev
              obtain ⟨rfl, rfl⟩ := hev
              have hBw : w.heap.size ≤ B := hx.newb b B hb1 hb3
              obtain ⟨B', k1, ⟨arr, t, m, g1, g2, g3, g4⟩, k3, k4⟩ := hx.boxes b _ hb2
              rw [hb3] at k1
              injection k1 with k1
              subst k1
              obtain ⟨q1, q2, q3, _⟩ := hback.rel.addBox hnew (B := B) ⟨arr, t, m, g1, g2, by simpa using g3, RepL_map (fun _ _ hr => RepP_share hr) g4⟩ (Nat.le_trans h.grown hBw) k4
                (fun b' hb' => by have := hback.old b' B hb'; omega)
                (fun p sz hp hB => by
                  obtain ⟨q, r1, r2⟩ := hback.tip p sz B hp hB k3
                  exact (tip_own (hx.tip q sz r1) r2).2 b hb3)
                (fun i sz hh => by
                  simp only [tipAt, upd_same, List.getElem?_map] at hh
                  cases hci : cs'[i]? with
                  | none => rw [hci] at hh; cases hh
                  | some ci => rw [hci] at hh; simp [share_tip] at hh)
              refine ⟨σ', _, q1, ?_, fun b' hb' => ?_, fun sz hs => by cases hs⟩
              · intro B' hB'
                simp [upd] at hB'
                subst hB'; rfl
              · injection hb' with hb'; subst hb'; exact q2
          · have hback := back_of h ha hl hx hb hn hgb
            have hcs : some (c0, s1) = some (c, s2) := by
              cases c0 <;> first | (simp [AV.isP] at hp; done) | simpa [AV.isP] using hev
            simp only [Option.some.injEq, Prod.mk.injEq] at hcs
            obtain ⟨rfl, rfl⟩ := hcs
            refine ⟨σ', bm, hback.rel, (RepT_of hp).2 ((RepT_of hp).1 hrep), (fun b hb' => by rw [ref_none hp] at hb'; cases hb'), fun sz hs => ?_⟩
            obtain ⟨t1, t2⟩ := htip sz hs
            refine ⟨?_, fun p sz' B hp' hB hB' => ?_⟩
            · obtain ⟨A, m, cap, rfl, e2⟩ := t1
              refine ⟨A, m, cap, rfl, e2.imp id ?_⟩
              rintro ⟨B, o, arr, t, mk, k1, k2, k3, k4, k5, k6, k7⟩
              refine ⟨B, o, arr, t, mk, k1, k2, k3, k4, k5, hback.own B k6, fun b hb' => ?_⟩
              obtain ⟨k, r1, _⟩ := hback.box b B hb' k6
              exact k7 k r1
            · obtain ⟨q, r1, r2⟩ := hback.tip p sz' B hp' hB' (tip_own t1 hB).1
              exact t2 q sz' B r1 hB r2

/-- What a frame may lean on. -/
def GE (C : Ctx) (e : Env) : Prop := GOk C e.σ0 ∧ FixOk C e

/-! ### Guards -/
theorem guard_rep (h : RelX C.fid e σ bm s a w) {ops : Array Oper} {t j : Nat} {want r : Bool} {o : Oper} (ho : o.guard = some (j, want)) (hj : (ops[j]?).bind (·.dst) = some t) (hw : wantedA s (some (t, want)) = some r) :
    Region.wanted o (yielded ops a.tmps) = r := by
  have ht := h.tmps t
  simp only [wantedA] at hw
  simp only [Region.wanted, ho, yielded, hj, Option.bind_some]
  split at hw
  · rename_i b hb
    rw [hb] at ht
    simp only [RepT, RepP] at ht
    have : a.tmps[t]? = some (.bool b) := by
      rw [Array.getD_eq_getD_getElem?] at ht
      cases hh : a.tmps[t]? with
      | none => rw [hh] at ht; cases ht
      | some v => rw [hh] at ht; simp at ht; rw [ht]
    rw [this]
    injection hw with hw
  · rename_i vs hb
    rw [hb] at ht
    obtain ⟨ws, ht, _⟩ := (show RepP C.fid σ (.tup vs) _ from ht)
    injection hw with hw
    subst hw
    rw [Array.getD_eq_getD_getElem?] at ht
    cases hh : a.tmps[t]? with
    | none => rfl
    | some v => rw [hh] at ht; simp at ht; rw [ht]; cases want <;> rfl
  · cases hw

def okG (ops : Array Oper) : Option (Nat × Bool) → Option (Nat × Bool) → Bool
  | none, none => true
  | some (t, want), some (j, want') => want == want' && ((ops[j]?).bind (·.dst)) == some t
  | _, _ => false
def okCall (C : Ctx) : K → Op → Bool
  | .call g _ xs, .call cl => g % 100 == 0 && (match cl.callee with | .value (.func f) => C.fid g == f | _ => false) && okOs C xs cl.args.toList
  | .callv f xs, .call cl => (match cl.callee with | .value y => okO C f y | _ => false) && okOs C xs cl.args.toList
  | _, _ => false
def okD (n : Nat) : Option Nat → Bool
  | none => true
  | some d => decide (d < n)
def okOp (C : Ctx) (n : Nat) (ops : Array Oper) (p : AOp) (o : Oper) : Bool :=
  decide (p.d = o.dst) && okD n p.d && okG ops p.g o.guard && (okK C p.k o.op || okCall C p.k o.op)

theorem wanted_of (h : RelX C.fid e σ bm s a w) {ops : Array Oper} {p : AOp} {o : Oper} {r : Bool} (hg : okG ops p.g o.guard = true) (hw : wantedA s p.g = some r) : Region.wanted o (yielded ops a.tmps) = r := by
  cases hp : p.g with
  | none =>
    rw [hp] at hg hw
    cases ho : o.guard with
    | some x => rw [ho] at hg; simp [okG] at hg
    | none =>
      simp only [wantedA, Option.some.injEq] at hw
      simp [Region.wanted, ho, hw]
  | some x =>
    obtain ⟨t, want⟩ := x
    rw [hp] at hg hw
    cases ho : o.guard with
    | none => rw [ho] at hg; simp [okG] at hg
    | some y =>
      obtain ⟨j, want'⟩ := y
      rw [ho] at hg
      simp only [okG, Bool.and_eq_true, beq_iff_eq] at hg
      obtain ⟨rfl, h2⟩ := hg
      exact guard_rep h ho h2 hw

theorem eval_map (a : Act) (xs : Array Operand) : xs.map a.eval = (xs.toList.map a.eval).toArray := by apply Array.ext'; simp

theorem run_enter {P : Program} {f : FuncId} {fn : Func} {b : Code} (hf : P.funcs[f]? = some fn) (hname : (fn.name == "runtime.NumGoroutine") = false) (hb : fn.body = some b) (args : Array Value) (w : World) :
    (callFunc f args).run P w = .ok (.enter f args) w := by
  have h1 : fn.name ≠ "runtime.NumGoroutine" := by simpa using hname
  simp [callFunc, hf, h1, hb]

theorem wp_of_opres {o : Oper} {p : AOp} {c : AV} {K : Act → World → Prop} {Q : Exit → Act → World → Prop} (hd : ∀ t, p.d = some t → t < e.n) (hdst : p.d = o.dst) (h : OpRes C e s1 c a ((execOp a.eval o).run C.P w))
    (hK : ∀ a' w', Rel C.fid e (s1.put p.d c) a' w' → K a' w') : o.wp C.P a w K Q := by
  unfold Oper.wp
  rcases h with ⟨v, w', h1, h2⟩ | ⟨w', h1, h2⟩
  · rw [h1]
    simp only [Oper.upon]
    rw [← hdst]
    exact hK _ _ (h2.put p.d hd)
  · rw [h1]
    simp only [Oper.upon]
    rw [← hdst]
    exact hK _ _ (h2.put p.d hd)

theorem step_sound (hc : CallOk C call) (hG : GE C e) {ops : Array Oper} {p : AOp} {o : Oper} {i : Nat} {K : Act → World → Prop} {Q : Exit → Act → World → Prop} (hi : ops[i]? = some o) (hok : okOp C e.n ops p o = true)
    (hr : Rel C.fid e s a w) (hev : stepA call C.G s p = some s1) (hK : ∀ a' w', Rel C.fid e s1 a' w' → K a' w') : wpOp C.P ops Q i K a w := by
  obtain ⟨σ, bm, h⟩ := hr
  simp only [okOp, Bool.and_eq_true, decide_eq_true_eq, Bool.or_eq_true] at hok
  obtain ⟨⟨⟨hdst, hdn⟩, hg⟩, hk⟩ := hok
  have hd : ∀ t, p.d = some t → t < e.n := by
    intro t ht
    rw [ht] at hdn
    simpa [okD] using hdn
  have hGσ : GOk C σ := hG.1.mono h.leσ
  simp only [stepA] at hev
  cases hw : wantedA s p.g with
  | none => rw [hw] at hev; cases hev
  | some r =>
    rw [hw] at hev
    simp only [bnd_some] at hev
    have hwant := wanted_of h hg hw
    unfold wpOp
    simp only [hi, hwant]
    cases r with
    | false =>
      simp only [Bool.false_eq_true, if_false, Option.some.injEq] at hev ⊢
      subst hev
      rw [← hdst]
      exact hK _ _ ((Ready.plain h (c := .tup []) (v := undef) ⟨#[], rfl, rfl, by simp [RepL]⟩ rfl).put p.d hd)
    | true =>
      simp only [if_true] at hev ⊢
      cases he : evalK call C.G s p.k with
      | none => rw [he] at hev; cases hev
      | some r =>
        obtain ⟨c, s'⟩ := r
        rw [he] at hev
        simp only [bnd_some, Option.some.injEq] at hev
        subst hev
        left
        rcases hk with hk | hk
        · exact wp_of_opres hd hdst (op_sound hGσ h rfl hk he) hK
        · -- calls
          have fin : ∀ {cl : Go.Call} {g : Nat} {vs : List Value}, o.op = .call cl → Known C g → (∀ fn b, C.P.funcs[C.fid g]? = some fn → (fn.name == "runtime.NumGoroutine") = false → fn.body = some b → (execOp a.eval o).run C.P w = .ok (.enter (C.fid g) vs.toArray) w) →
              (Calls C.P (C.fid g) vs.toArray w fun | .returned v, w' => Ready C e s' c v a w' | _, _ => False) → o.wp C.P a w K Q := by
            intro cl g vs hop hkn hrun hcalls
            obtain ⟨fn, b, f1, f2, f3⟩ := hkn.known
            unfold Oper.wp
            rw [hrun fn b f1 f2 f3]
            simp only [Oper.upon]
            refine hcalls.mono fun ed w'' hed => ?_
            cases ed with
            | panicked _ => exact hed.elim
            | outgrown => exact hed.elim
            | returned v =>
              show K (a.put o.dst v) w''
              rw [← hdst]
              exact hK _ _ (Ready.put hed p.d hd)
          cases hpk : p.k with
          | call g site xs =>
            rw [hpk] at hk he
            cases hop : o.op <;> first | (rw [hop] at hk; simp [okCall] at hk; done) | skip
            rename_i cl
            rw [hop] at hk
            simp only [okCall, Bool.and_eq_true, beq_iff_eq] at hk
            obtain ⟨⟨hg0, hf⟩, hos⟩ := hk
            split at hf
            rotate_left
            · cases hf
            rename_i f hcal
            simp only [beq_iff_eq] at hf
            simp only [evalK] at he
            split at he
            rotate_left
            · cases he
            rename_i hto
            have hargs := args_ok hGσ h hos hto
            obtain ⟨hkn, hcalls⟩ := callF_sound hc hGσ hG.2 (dropAll_rel xs h) hargs hg0 he
            refine fin hop hkn (fun fn b f1 f2 f3 => ?_) hcalls
            rw [hf] at f1 ⊢
            simp only [execOp, hop, resolve, hcal, Sem.run_bind, Deferred.ofValue, Act.eval, Sem.run_pure, Result.andThen_ok, invoke]
            rw [eval_map, run_enter f1 f2 f3]
            simp
          | callv f xs =>
            rw [hpk] at hk he
            cases hop : o.op <;> first | (rw [hop] at hk; simp [okCall] at hk; done) | skip
            rename_i cl
            rw [hop] at hk
            simp only [okCall, Bool.and_eq_true] at hk
            obtain ⟨hf, hos⟩ := hk
            split at hf
            rotate_left
            · cases hf
            rename_i y hcal
            simp only [evalK] at he
            have hry := get_rep hGσ h hf
            split at he
            rotate_left
            · cases he
            rename_i g cap hget
            split at he
            rotate_left
            · cases he
            rename_i hcond
            obtain ⟨hto, hg0⟩ := hcond
            rw [hget] at hry
            obtain ⟨ws, hv, hlen, hcap⟩ := (show RepP C.fid σ (.fn g cap) _ from hry)
            have hargs := args_ok hGσ h hos hto
            have hargs2 : ArgsOk C e σ bm (dropAll s xs) a w (argsOf C.G s xs ++ cap.map AV.share) (cl.args.toList.map a.eval ++ ws.toList) := by
              have hl0 := hargs.len
              have hsplit : ∀ (i : Nat) (c : AV) (v : Value), (argsOf C.G s xs ++ cap.map AV.share)[i]? = some c → (cl.args.toList.map a.eval ++ ws.toList)[i]? = some v → ((argsOf C.G s xs)[i]? = some c ∧ (cl.args.toList.map a.eval)[i]? = some v) ∨ (c.tipSz = none ∧ RepP C.fid σ c v) := by
                intro i c v hc hv
                by_cases hi : i < (argsOf C.G s xs).length
                · rw [List.getElem?_append_left hi] at hc
                  rw [List.getElem?_append_left (by omega)] at hv
                  exact .inl ⟨hc, hv⟩
                · rw [List.getElem?_append_right (by omega), List.getElem?_map] at hc
                  rw [List.getElem?_append_right (by omega)] at hv
                  cases hci : cap[i - (argsOf C.G s xs).length]? with
                  | none => rw [hci] at hc; cases hc
                  | some c0 =>
                    rw [hci] at hc
                    simp only [Option.map_some, Option.some.injEq] at hc
                    subst hc
                    obtain ⟨u, u1, u2⟩ := (RepL_iff.1 hcap) _ _ hci
                    rw [← hl0] at hv
                    rw [show ws.toList[i - (argsOf C.G s xs).length]? = ws[i - (argsOf C.G s xs).length]? by simp, u1] at hv
                    injection hv with hv
                    subst hv
                    exact .inr ⟨share_tip _, RepP_share u2⟩
              refine { len := by simp [hl0, hlen], rep := fun i c v hc hv => ?_, tip := fun i c v sz hc hv hs => ?_, apart := fun i c v sz hc hv hs => ?_, dist := fun i j c d v u sz sz' B hc hv hs hd hu hs' hB hB' => ?_ }
              · rcases hsplit i c v hc hv with ⟨q1, q2⟩ | ⟨_, q2⟩
                · exact hargs.rep i c v q1 q2
                · exact RepT_P q2
              · rcases hsplit i c v hc hv with ⟨q1, q2⟩ | ⟨q1, _⟩
                · exact hargs.tip i c v sz q1 q2 hs
                · rw [q1] at hs; cases hs
              · rcases hsplit i c v hc hv with ⟨q1, q2⟩ | ⟨q1, _⟩
                · exact hargs.apart i c v sz q1 q2 hs
                · rw [q1] at hs; cases hs
              · rcases hsplit i c v hc hv with ⟨q1, q2⟩ | ⟨q1, _⟩
                · rcases hsplit j d u hd hu with ⟨q3, q4⟩ | ⟨q3, _⟩
                  · exact hargs.dist i j c d v u sz sz' B q1 q2 hs q3 q4 hs' hB hB'
                  · rw [q3] at hs'; cases hs'
                · rw [q1] at hs; cases hs
            obtain ⟨hkn, hcalls⟩ := callF_sound hc hGσ hG.2 (dropAll_rel xs h) hargs2 hg0 he
            refine fin hop hkn (fun fn b f1 f2 f3 => ?_) hcalls
            simp only [execOp, hop, resolve, hcal, Sem.run_bind, hv, Deferred.ofValue, Sem.run_pure, Result.andThen_ok, invoke]
            rw [eval_map, run_enter f1 f2 f3]
            congr 2
            apply Array.ext'
            simp
          | _ => rw [hpk] at hk; cases hop : o.op <;> (rw [hop] at hk; simp [okCall] at hk)
end
end Go.Vs
