/- One operation of a region. -/
import Derived.Test.YtbgodlimjjgogaaDoorAr9
set_option linter.unusedVariables false
namespace Go.Vs
open Go Go.RowKit
section
variable {C : Ctx} {e : Env} {σ σ' : Mem} {bm bm' : Nat → Option Nat} {s s1 s2 sc : S} {a ac : Act} {w w' : World} {call : Call} {cs : List AV} {vs : List Value} {tv : List AV} {bv bv' : List BC} {ls : List Nat} {n : Nat}
theorem Qwv {sz B : Nat} {v : Value} (h : Qdq e σ bm w sz v) (hB : Qf v = some B) : e.own B ∧ ∀ b, bm b ≠ some B := by
 obtain ⟨A, m, cap, rfl, h2⟩ := h
 rcases h2 with rfl | ⟨B', o, arr, t, mk, k1, k2, k3, k4, k5, k6, k7⟩
 ·cases A <;> simp [Qf] at hB
 ·subst k1
  simp only [Qf] at hB
  split at hB
  ·cases hB
  ·injection hB with hB; subst hB; exact ⟨k6, k7⟩
theorem Qkc (hc : Qdj C call) (hG : GOk C σ) (hF : Qea C e) (h : RelX C.fid e σ bm s a w) (ha : ArgsOk C e σ bm s a w cs vs) {g site : Nat} {c : AV} (hg0 : g % 100 = 0) (hev : callF call s g site cs = some (c, s2)) :
  Known C g ∧ Calls C.P (C.fid g) vs.toArray w fun | .returned v, w' => Qp C e s2 c v a w' ∧ Qav s s2 | _, _ => False := by
 simp only [callF] at hev
 cases hl : lend s cs 0 with
 | none => rw [hl] at hev; cases hev
 | some r =>
  obtain ⟨tv, bv, ls⟩ := r
  rw [hl] at hev
  simp only [Qb] at hev
  cases hcall : call g tv bv with
  | none => rw [hcall] at hev; cases hev
  | some r =>
   obtain ⟨oc, outs, bv'⟩ := r
   rw [hcall] at hev
   simp only [Qb] at hev
   cases hgb : giveBack s ls bv' with
   | none => rw [hgb] at hev; cases hev
   | some s1 =>
    rw [hgb] at hev
    simp only [Qb] at hev
    obtain ⟨hk, hcalls⟩ := hc g tv bv none oc outs bv' hg0 (Qnw hl) hcall
    refine ⟨hk, (hcalls _ _ w ((Qjf (P := fun _ => False) hG hF h ha hl (fun B h => h.elim)).toY (Qnw hl) rfl)).mono ?_⟩
    intro ed w'
    cases ed with
    | panicked _ => exact id
    | outgrown => exact id
    | returned v =>
     intro hex
     simp only [Qeu, Option.isSome_none, Bool.false_eq_true, if_false] at hex
     obtain ⟨⟨n, sc, ac, hb, hn, c0, rfl, hr⟩, hnar⟩ := hex
     show Qp C e s2 c v a w' ∧ Qav s s2
     obtain ⟨l1, l2, l3, l4, l5⟩ := Qcp hl
     obtain ⟨g1, g2, g3, g4, g5⟩ := Qcu hgb l4
     have hka : Qav s s1 := by
      intro es hes
      by_cases hm : 99 ∈ ls
      ·obtain ⟨k, hk⟩ := List.getElem?_of_mem hm
       have hlt : k < bv'.length := by rw [← g1]; exact (List.getElem?_eq_some_iff.1 hk).1
       have := g5 k 99 _ hk (List.getElem?_eq_getElem hlt)
       rw [hes] at this
       injection this with hbc
       have := hnar _ (List.getElem_mem hlt)
       rw [← hbc] at this
       cases this
      ·rw [← g4 99 (fun k hk => hm (List.mem_of_getElem? hk))]; exact hes
     rcases hr with ⟨cs0, rfl, σ', bm', b, B, cs', hx, hb1, hb2, hb3, rfl, rfl⟩ | ⟨hp, σ', bm', hx, hrep, href, htip⟩
     ·have hx : RelX C.fid { Qm σ bm s a w cs vs ls (fun _ => False) with n := n, hd := e.hd } σ' bm' sc ac w' := by rw [← h.hds]; exact hx
      have hback := Qqq h ha hl hx hb hn hgb hnar (fun B h => h.elim)
      simp only [] at hev
      cases hnew : s1.newB site (.var (cs'.map AV.share)) with
      | none => rw [hnew] at hev; cases hev
      | some s3 =>
       rw [hnew] at hev
       simp only [Qb, Zi, Zm] at hev
       obtain ⟨rfl, rfl⟩ := hev
       have hBw : w.heap.size ≤ B := hx.newb b B hb1 hb3
       obtain ⟨B', k1, ⟨arr, t, m, g1, g2, g3, g4⟩, k3, k4⟩ := hx.boxes b _ hb2 rfl
       rw [hb3] at k1
       injection k1 with k1
       subst k1
       obtain ⟨q1, q2, q3, _⟩ := hback.rel.addBox hnew (B := B) ⟨arr, t, m, g1, g2, by simpa using g3, Qba (fun _ _ hr => Qs hr) g4⟩ (Nat.le_trans h.grown hBw) k4
        (fun b' hb' => by have := hback.old b' B hb'; omega)
        (fun p sz hp hB => by
         obtain ⟨q, r1, r2⟩ := hback.tip p sz B hp hB k3
         exact (Qwv (hx.tip q sz r1) r2).2 b hb3)
        (fun i sz hh => by
         simp only [Qd, Qal, List.getElem?_map] at hh
         cases hci : cs'[i]? with
         | none => rw [hci] at hh; cases hh
         | some ci => rw [hci] at hh; simp [Qhm] at hh)
       refine ⟨⟨σ', _, q1, ?_, fun b' hb' => ?_, fun sz hs => by cases hs⟩, hka.trans (.newB hnew)⟩
       ·intro B' hB'
        simp [upd] at hB'
        subst hB'; rfl
       ·injection hb' with hb'; subst hb'; exact q2
     ·have hx : RelX C.fid { Qm σ bm s a w cs vs ls (fun _ => False) with n := n, hd := e.hd } σ' bm' sc ac w' := by rw [← h.hds]; exact hx
      have hback := Qqq h ha hl hx hb hn hgb hnar (fun B h => h.elim)
      have hcs : some (c0, s1) = some (c, s2) := by
       cases c0 <;> first | (simp [AV.isP] at hp; done) | simpa [AV.isP] using hev
      simp only [Zi, Zm] at hcs
      obtain ⟨rfl, rfl⟩ := hcs
      refine ⟨⟨σ', bm, hback.rel, (Qu hp).2 ((Qu hp).1 hrep), (fun b hb' => by rw [Qcw hp] at hb'; cases hb'), fun sz hs => ?_⟩, hka⟩
      obtain ⟨t1, t2⟩ := htip sz hs
      refine ⟨?_, fun p sz' B hp' hB hB' => ?_⟩
      ·obtain ⟨A, m, cap, rfl, e2⟩ := t1
       refine ⟨A, m, cap, rfl, e2.imp id ?_⟩
       rintro ⟨B, o, arr, t, mk, k1, k2, k3, k4, k5, k6, k7⟩
       refine ⟨B, o, arr, t, mk, k1, k2, k3, k4, k5, hback.own B k6, fun b hb' => ?_⟩
       obtain ⟨k, r1, _⟩ := hback.box b B hb' k6
       exact k7 k r1
      ·obtain ⟨q, r1, r2⟩ := hback.tip p sz' B hp' hB' (Qwv t1 hB).1
       exact t2 q sz' B r1 hB r2
def GE (C : Ctx) (e : Env) : Prop := GOk C e.σ0 ∧ Qea C e
theorem Qvu (h : RelX C.fid e σ bm s a w) {ops : Array Oper} {t j : Nat} {want r : Bool} {o : Oper} (ho : o.guard = some (j, want)) (hj : (ops[j]?).bind (·.dst) = some t) (hw : Qah s (some (t, want)) = some r) :
  Region.wanted o (yielded ops a.tmps) = r := by
 have ht := h.tmps t
 simp only [Qah] at hw
 simp only [Region.wanted, ho, yielded, hj, Option.bind_some]
 split at hw
 ·rename_i b hb
  rw [hb] at ht
  simp only [RepT, RepP] at ht
  have : a.tmps[t]? = some (.bool b) := by
   rw [Array.getD_eq_getD_getElem?] at ht
   cases hh : a.tmps[t]? with
   | none => rw [hh] at ht; cases ht
   | some v => rw [hh] at ht; simp at ht; rw [ht]
  rw [this]
  injection hw with hw
 ·rename_i vs hb
  rw [hb] at ht
  obtain ⟨ws, ht, _⟩ := (show RepP C.fid σ (.tup vs) _ from ht)
  injection hw with hw
  subst hw
  rw [Array.getD_eq_getD_getElem?] at ht
  cases hh : a.tmps[t]? with
  | none => rfl
  | some v => rw [hh] at ht; simp at ht; rw [ht]; cases want <;> rfl
 ·cases hw
def okG (ops : Array Oper) : Option (Nat × Bool) → Option (Nat × Bool) → Bool
 | none, none => true
 | some (t, want), some (j, want') => want == want' && ((ops[j]?).bind (·.dst)) == some t
 | _, _ => false
def Qhg (C : Ctx) : K → Op → Bool
 | .call g _ xs, .call cl => g % 100 == 0 && (match cl.callee with | .value (.func f) => C.fid g == f | _ => false) && okOs C xs cl.args.toList
 | .callv f xs, .call cl => (match cl.callee with | .value y => okO C f y | _ => false) && okOs C xs cl.args.toList
 | .tr (.call _ g xs), .call cl => (match cl.callee with | .value (.func f) => C.fid g == f | _ => false) && okOs C xs cl.args.toList
 | _, _ => false
def okT (C : Ctx) : K → Op → Bool
 | .tr k, op => okTK C k op
 | _, _ => false
def okD (n : Nat) : Option Nat → Bool
 | none => true
 | some d => decide (d < n)
def okOp (C : Ctx) (n : Nat) (ops : Array Oper) (p : AOp) (o : Oper) : Bool :=
 decide (p.d = o.dst) && okD n p.d && okG ops p.g o.guard && (okK C p.k o.op || Qhg C p.k o.op || okT C p.k o.op)
theorem Qxb (h : RelX C.fid e σ bm s a w) {ops : Array Oper} {p : AOp} {o : Oper} {r : Bool} (hg : okG ops p.g o.guard = true) (hw : Qah s p.g = some r) : Region.wanted o (yielded ops a.tmps) = r := by
 cases hp : p.g with
 | none =>
  rw [hp] at hg hw
  cases ho : o.guard with
  | some x => rw [ho] at hg; simp [okG] at hg
  | none =>
   simp only [Qah, Zi] at hw
   simp [Region.wanted, ho, hw]
 | some x =>
  obtain ⟨t, want⟩ := x
  rw [hp] at hg hw
  cases ho : o.guard with
  | none => rw [ho] at hg; simp [okG] at hg
  | some y =>
   obtain ⟨j, want'⟩ := y
   rw [ho] at hg
   simp only [okG, Zw, beq_iff_eq] at hg
   obtain ⟨rfl, h2⟩ := hg
   exact Qvu h ho h2 hw
theorem Qnq (a : Act) (xs : Array Operand) : xs.map a.eval = (xs.toList.map a.eval).toArray := by apply Array.ext'; simp
theorem Qlb {P : Program} {f : FuncId} {fn : Func} {b : Code} (hf : P.funcs[f]? = some fn) (hname : (fn.name == "runtime.NumGoroutine") = false) (hb : fn.body = some b) (args : Array Value) (w : World) :
  (callFunc f args).run P w = .ok (.enter f args) w := by
 have h1 : fn.name ≠ "runtime.NumGoroutine" := by simpa using hname
 simp [callFunc, hf, h1, hb]
theorem Qln {o : Oper} {p : AOp} {c : AV} {K : Act → World → Prop} {Q : Exit → Act → World → Prop} (hd : ∀ t, p.d = some t → t < e.n) (hdst : p.d = o.dst) (h : Qbu C e s1 c a ((execOp a.eval o).run C.P w))
  (hK : ∀ a' w', RelY C e (s1.put p.d c) a' w' → K a' w') : o.wp C.P a w K Q := by
 unfold Oper.wp
 rcases h with ⟨v, w', h1, h2⟩ | ⟨w', h1, h2⟩
 ·rw [h1]
  simp only [Oper.upon]
  rw [← hdst]
  exact hK _ _ (h2.put p.d hd)
 ·rw [h1]
  simp only [Oper.upon]
  rw [← hdst]
  exact hK _ _ (h2.put p.d hd)
theorem Qbu.lift {c : AV} {r : Result Next} (h : RelX C.fid { e with hd := σ.hd } σ bm s a w) (ha : ArS C.fid e σ bm s a w) (hN : NoAr e σ s) (hk : Qav s s1) (hr : Qap C (({ e with hd := σ.hd } : Env).re σ bm s a w h.base_le) s1 c a r) : Qbu C e s1 c a r := by
 rcases hr with ⟨v, w', h1, h2⟩ | ⟨w', h1, h2⟩
 ·exact .inl ⟨v, w', h1, Qo.lift h ha hN hk h2⟩
 ·exact .inr ⟨w', h1, Qo.lift h ha hN hk h2⟩
theorem Qta (h : RelX C.fid e σ bm s a w) {xs : List Opnd} {ys : List Operand} (ho : okOs C xs ys = true) {i : Nat} {c : AV} {v : Value} {sz B : Nat} (hc : (Qbk C.G s xs)[i]? = some c) (hv : (ys.map a.eval)[i]? = some v) (hs : c.tipSz = some sz) (hB : Qf v = some B) : Qz s bm a w B := by
 simp only [Qbk, List.getElem?_map] at hc hv
 cases hx : xs[i]? with
 | none => rw [hx] at hc; cases hc
 | some x =>
  obtain ⟨y, hy, hok⟩ := Qft ho i x hx
  rw [hx] at hc
  rw [hy] at hv
  simp only [Option.map_some, Zi] at hc hv
  subst hc hv
  rcases Qsk hs with ⟨t, rfl, h1 | ⟨l, h1⟩⟩ | ⟨l, h1 | h1⟩
  ·cases y <;> simp [okO] at hok
   subst hok
   exact .inr ⟨.t t, sz, h1, hB⟩
  ·cases y <;> simp [okO] at hok
   subst hok
   have := h.tmps t
   rw [h1] at this
   obtain ⟨_, h3⟩ := Qdi (show RepP C.fid σ (.sl .zero sz l) _ from this)
   rw [show Qf (a.eval (.tmp t)) = none from h3] at hB
   cases hB
  ·subst h1
   cases y <;> simp [okO] at hok
   obtain ⟨_, h3⟩ := Qdi (σ := σ) (fid := C.fid) (Qkv hok)
   rw [show Qf (a.eval (.const _)) = none from h3] at hB
   cases hB
  ·subst h1
   cases y <;> simp [okO] at hok
   have := Qih hok
   cases this
theorem Qbt (hc : Qdj C call) (hG : GE C e) {ops : Array Oper} {p : AOp} {o : Oper} {i : Nat} {K : Act → World → Prop} {Q : Exit → Act → World → Prop} (hi : ops[i]? = some o) (hok : okOp C e.n ops p o = true)
  (hr : RelY C e s a w) (hev : Qio call C.G s p = some s1) (hK : ∀ a' w', RelY C e s1 a' w' → K a' w') : wpOp C.P ops Q i K a w := by
 obtain ⟨σ, bm, h, har, hN⟩ := hr
 simp only [okOp, Zw, Ze, Bool.or_eq_true] at hok
 obtain ⟨⟨⟨hdst, hdn⟩, hg⟩, hk⟩ := hok
 have hd : ∀ t, p.d = some t → t < e.n := by
  intro t ht
  rw [ht] at hdn
  simpa [okD] using hdn
 have hGσ : GOk C σ := hG.1.mono h.leσ
 simp only [Qio] at hev
 cases hw : Qah s p.g with
 | none => rw [hw] at hev; cases hev
 | some r =>
  rw [hw] at hev
  simp only [Qb] at hev
  have hwant := Qxb h hg hw
  unfold wpOp
  simp only [hi, hwant]
  cases r with
  | false =>
   simp only [Bool.false_eq_true, if_false, Zi] at hev ⊢
   subst hev
   rw [← hdst]
   exact hK _ _ ((Qo.plain h har hN (c := .tup []) (v := undef) ⟨#[], rfl, rfl, by simp [RepL]⟩ rfl).put p.d hd)
  | true =>
   simp only [if_true] at hev ⊢
   cases he : evalK call C.G s p.k with
   | none => rw [he] at hev; cases hev
   | some r =>
    obtain ⟨c, s'⟩ := r
    rw [he] at hev
    simp only [Qb, Zi] at hev
    subst hev
    left
    rcases hk with (hk | hk) | hk
    ·refine Qln hd hdst (Qbu.lift h har hN (Qxq ?_ he) (Qym hGσ h.frame rfl hk he)) hK
     cases hpk : p.k <;> first | rfl | (rw [hpk] at hk; cases hop : o.op <;> (rw [hop] at hk; simp [okK] at hk; done))
    ·-- calls
     have fin : ∀ {cl : Go.Call} {g : Nat} {vs : List Value}, o.op = .call cl → Known C g → (∀ fn b, C.P.funcs[C.fid g]? = some fn → (fn.name == "runtime.NumGoroutine") = false → fn.body = some b → (execOp a.eval o).run C.P w = .ok (.enter (C.fid g) vs.toArray) w) →
       (Calls C.P (C.fid g) vs.toArray w fun | .returned v, w' => Qo C e s' c v a w' | _, _ => False) → o.wp C.P a w K Q := by
      intro cl g vs hop hkn hrun hcalls
      obtain ⟨fn, b, f1, f2, f3⟩ := hkn.known
      unfold Oper.wp
      rw [hrun fn b f1 f2 f3]
      simp only [Oper.upon]
      refine hcalls.mono fun ed w'' hed => ?_
      cases ed with
      | panicked _ => exact hed.elim
      | outgrown => exact hed.elim
      | returned v =>
       show K (a.put o.dst v) w''
       rw [← hdst]
       exact hK _ _ (Qo.put hed p.d hd)
     cases hpk : p.k with
     | call g site xs =>
      rw [hpk] at hk he
      cases hop : o.op <;> first | (rw [hop] at hk; simp [Qhg] at hk; done) | skip
      rename_i cl
      rw [hop] at hk
      simp only [Qhg, Zw, beq_iff_eq] at hk
      obtain ⟨⟨hg0, hf⟩, hos⟩ := hk
      split at hf
      rotate_left
      ·cases hf
      rename_i f hcal
      simp only [beq_iff_eq] at hf
      simp only [evalK] at he
      split at he
      rotate_left
      ·cases he
      rename_i hto
      have hfr := h.frame
      have hargs := Qqo hGσ hfr hos hto
      have hdr := Qee xs hfr
      obtain ⟨hkn, hcalls⟩ := Qkc hc hGσ ((show Qea C { e with hd := σ.hd } from hG.2).re h) hdr hargs hg0 he
      refine fin hop hkn (fun fn b f1 f2 f3 => ?_) (hcalls.mono fun ed w'' hed => ?_)
      rotate_left
      ·cases ed with
       | panicked _ => exact hed.elim
       | outgrown => exact hed.elim
       | returned v => exact Qo.lift h har hN ((Qav.of_b (Qdv xs s).1).trans hed.2) hed.1
      rw [hf] at f1 ⊢
      simp only [execOp, hop, resolve, hcal, Sem.run_bind, Deferred.ofValue, Act.eval, Sem.run_pure, Result.andThen_ok, invoke]
      rw [Qnq, Qlb f1 f2 f3]
      simp
     | callv f xs =>
      rw [hpk] at hk he
      cases hop : o.op <;> first | (rw [hop] at hk; simp [Qhg] at hk; done) | skip
      rename_i cl
      rw [hop] at hk
      simp only [Qhg, Zw] at hk
      obtain ⟨hf, hos⟩ := hk
      split at hf
      rotate_left
      ·cases hf
      rename_i y hcal
      simp only [evalK] at he
      have hry := Qc hGσ h hf
      split at he
      rotate_left
      ·cases he
      rename_i g cap hget
      split at he
      rotate_left
      ·cases he
      rename_i hcond
      obtain ⟨hto, hg0⟩ := hcond
      rw [hget] at hry
      obtain ⟨ws, hv, hlen, hcap⟩ := (show RepP C.fid σ (.fn g cap) _ from hry)
      have hfr := h.frame
      have hargs := Qqo hGσ hfr hos hto
      have hargs2 : ArgsOk C (({ e with hd := σ.hd } : Env).re σ bm s a w h.base_le) σ bm (dropAll s xs) a w (Qbk C.G s xs ++ cap.map AV.share) (cl.args.toList.map a.eval ++ ws.toList) := by
       have hl0 := hargs.len
       have hsplit : ∀ (i : Nat) (c : AV) (v : Value), (Qbk C.G s xs ++ cap.map AV.share)[i]? = some c → (cl.args.toList.map a.eval ++ ws.toList)[i]? = some v → ((Qbk C.G s xs)[i]? = some c ∧ (cl.args.toList.map a.eval)[i]? = some v) ∨ (c.tipSz = none ∧ RepP C.fid σ c v) := by
        intro i c v hc hv
        by_cases hi : i < (Qbk C.G s xs).length
        ·rw [List.getElem?_append_left hi] at hc
         rw [List.getElem?_append_left (by omega)] at hv
         exact .inl ⟨hc, hv⟩
        ·rw [List.getElem?_append_right (by omega), List.getElem?_map] at hc
         rw [List.getElem?_append_right (by omega)] at hv
         cases hci : cap[i - (Qbk C.G s xs).length]? with
         | none => rw [hci] at hc; cases hc
         | some c0 =>
          rw [hci] at hc
          simp only [Option.map_some, Zi] at hc
          subst hc
          obtain ⟨u, u1, u2⟩ := (Qi.1 hcap) _ _ hci
          rw [← hl0] at hv
          rw [show ws.toList[i - (Qbk C.G s xs).length]? = ws[i - (Qbk C.G s xs).length]? by simp, u1] at hv
          injection hv with hv
          subst hv
          exact .inr ⟨Qhm _, Qs u2⟩
       refine { len := by simp [hl0, hlen], rep := fun i c v hc hv => ?_, tip := fun i c v sz hc hv hs => ?_, apart := fun i c v sz hc hv hs => ?_, dist := fun i j c d v u sz sz' B hc hv hs hd hu hs' hB hB' => ?_ }
       ·rcases hsplit i c v hc hv with ⟨q1, q2⟩ | ⟨_, q2⟩
        ·exact hargs.rep i c v q1 q2
        ·exact Qew q2
       ·rcases hsplit i c v hc hv with ⟨q1, q2⟩ | ⟨q1, _⟩
        ·exact hargs.tip i c v sz q1 q2 hs
        ·rw [q1] at hs; cases hs
       ·rcases hsplit i c v hc hv with ⟨q1, q2⟩ | ⟨q1, _⟩
        ·exact hargs.apart i c v sz q1 q2 hs
        ·rw [q1] at hs; cases hs
       ·rcases hsplit i c v hc hv with ⟨q1, q2⟩ | ⟨q1, _⟩
        ·rcases hsplit j d u hd hu with ⟨q3, q4⟩ | ⟨q3, _⟩
         ·exact hargs.dist i j c d v u sz sz' B q1 q2 hs q3 q4 hs' hB hB'
         ·rw [q3] at hs'; cases hs'
        ·rw [q1] at hs; cases hs
      have hdr := Qee xs hfr
      obtain ⟨hkn, hcalls⟩ := Qkc hc hGσ ((show Qea C { e with hd := σ.hd } from hG.2).re h) hdr hargs2 hg0 he
      refine fin hop hkn (fun fn b f1 f2 f3 => ?_) (hcalls.mono fun ed w'' hed => ?_)
      rotate_left
      ·cases ed with
       | panicked _ => exact hed.elim
       | outgrown => exact hed.elim
       | returned v => exact Qo.lift h har hN ((Qav.of_b (Qdv xs s).1).trans hed.2) hed.1
      simp only [execOp, hop, resolve, hcal, Sem.run_bind, hv, Deferred.ofValue, Sem.run_pure, Result.andThen_ok, invoke]
      rw [Qnq, Qlb f1 f2 f3]
      congr 2
      apply Array.ext'
      simp
     | tr k =>
      rw [hpk] at hk he
      cases hop : o.op <;> first | (rw [hop] at hk; simp [Qhg] at hk; done) | skip
      rename_i cl
      cases k <;> first | (rw [hop] at hk; simp [Qhg] at hk; done) | skip
      rename_i m g xs
      rw [hop] at hk
      simp only [Qhg, Zw] at hk
      obtain ⟨hf, hos⟩ := hk
      split at hf
      rotate_left
      ·cases hf
      rename_i f hcal
      simp only [beq_iff_eq] at hf
      simp only [evalK, evalTK] at he
      split at he
      rotate_left
      ·cases he
      rename_i hcond
      obtain ⟨hto, hg0⟩ := hcond
      obtain ⟨es, hes, he⟩ := Qa.1 he
      have hes := Qds hes
      have hargs := Qqo hGσ h hos hto
      have hA := har es hes
      have hdrop : ∀ B, Qz (dropAll s xs) bm a w B → Qz s bm a w B := by
       rintro B (⟨b, hb⟩ | ⟨q, sz, q1, q2⟩)
       ·exact .inl ⟨b, hb⟩
       ·exact .inr ⟨q, sz, (Qhq q1).1, q2⟩
      have hesd : (dropAll s xs).b 99 = some (.ar es) := by rw [(Qdv xs s).1]; exact hes
      have hAd : ArOk C.fid e σ bm (dropAll s xs) a w es := hA.step (fun id B hB => ⟨rfl, rfl, (hA.blk hB).2.1⟩) (Mem.le_refl _) rfl (fun id B hB hp => hdrop B hp)
      obtain ⟨hkn, hcalls⟩ := Qph hc hGσ hG.2 (Qee xs h) (hN.has hes) hesd hAd hargs (fun i c v sz B k1 k2 k3 k4 id hB => (hA.blk hB).2.2.1 (Qta h hos k1 k2 k3 k4)) hg0 he
      refine fin hop hkn (fun fn b f1 f2 f3 => ?_) hcalls
      rw [hf] at f1 ⊢
      simp only [execOp, hop, resolve, hcal, Sem.run_bind, Deferred.ofValue, Act.eval, Sem.run_pure, Result.andThen_ok, invoke]
      rw [Qnq, Qlb f1 f2 f3]
      simp
     | _ => rw [hpk] at hk; cases hop : o.op <;> (rw [hop] at hk; simp [Qhg] at hk)
    ·cases hpk : p.k with
     | tr k =>
      rw [hpk] at hk he
      exact Qln hd hdst (Qtr hGσ h har hN rfl hk (by simpa only [evalK] using he)) hK
     | _ => rw [hpk] at hk; simp [okT] at hk
end
end Go.Vs
namespace Go.Vs
open Go Go.RowKit
structure Vw (R B : List Nat) (s0 m s : S) : Prop where
 t : ∀ t, t ∈ R → m.t t = s.t t
 b : ∀ b, b ∈ B → m.b b = s.b b ∧ m.seen b = s.seen b
 nb : ∀ b, b ∉ B → m.b b = none ∧ m.seen b = true
 ft : ∀ t, t ∉ R → s.t t = s0.t t
 fb : ∀ b, b ∉ B → s.b b = s0.b b ∧ s.seen b = s0.seen b
def Opnd.inn (R : List Nat) : Opnd → Prop
 | .tmp t | .take t => t ∈ R
 | _ => True
section
variable {R B : List Nat} {s0 m m' s s' : S} {G : Nat → List AV} {call : Call}
theorem Vw.get (h : Vw R B s0 m s) {x : Opnd} (hx : x.inn R) : m.get G x = s.get G x := by
 cases x <;> simp only [S.get] <;> rw [h.t _ hx]
theorem Vw.getA (h : Vw R B s0 m s) {x : Opnd} (hx : x.inn R) : m.getA G x = s.getA G x := by
 cases x <;> simp only [S.getA] <;> rw [h.t _ hx]
theorem Vw.gets (h : Vw R B s0 m s) {xs : List Opnd} (hx : ∀ x ∈ xs, x.inn R) : xs.map (m.get G) = xs.map (s.get G) := List.map_congr_left fun x hm => h.get (hx x hm)
theorem Vw.args (h : Vw R B s0 m s) {xs : List Opnd} (hx : ∀ x ∈ xs, x.inn R) : Qbk G m xs = Qbk G s xs := List.map_congr_left fun x hm => h.getA (hx x hm)
theorem Vw.box (h : Vw R B s0 m s) {b : Nat} {c : BC} (hb : m.b b = some c) : b ∈ B ∧ s.b b = some c := by
 by_cases hm : b ∈ B
 ·exact ⟨hm, by rw [← (h.b b hm).1]; exact hb⟩
 ·rw [(h.nb b hm).1] at hb; cases hb
theorem Vw.isSome (h : Vw R B s0 m s) {b : Nat} (hb : m.live b = true) : s.live b = true := by
 unfold S.live at hb ⊢
 split at hb
 ·rename_i c hc
  rw [(h.box hc).2]; exact hb
 ·cases hb
theorem Vw.arr (h : Vw R B s0 m s) {es : List Ent} (ha : m.arr = some es) : 99 ∈ B ∧ s.arr = some es := by
 obtain ⟨h1, h2⟩ := h.box (Qds ha)
 exact ⟨h1, Qut h2⟩
theorem Vw.drop (h : Vw R B s0 m s) {x : Opnd} (hx : x.inn R) : Vw R B s0 (m.drop x) (s.drop x) := by
 cases x with
 | take t =>
  refine ⟨fun u hu => ?_, h.b, h.nb, fun u hu => ?_, h.fb⟩
  ·simp only [S.drop, Qae, h.t _ hx, h.t _ hu]
  ·have : u ≠ t := fun e => hu (by rw [e]; exact hx)
   simp only [S.drop, Qae, this, if_false]; exact h.ft u hu
 | _ => exact h
theorem Vw.dropAll : ∀ {xs : List Opnd} {m s : S}, Vw R B s0 m s → (∀ x ∈ xs, x.inn R) → Vw R B s0 (dropAll m xs) (dropAll s xs)
 | [], _, _, h, _ => h
 | x :: xs, _, _, h, hx => Vw.dropAll (xs := xs) (h.drop (hx x (by simp))) (fun y hy => hx y (by simp [hy]))
theorem Vw.setB (h : Vw R B s0 m s) {b : Nat} (hb : b ∈ B) (c : BC) : Vw R B s0 (m.setB b c) (s.setB b c) := by
 refine ⟨h.t, fun b' hb' => ?_, fun b' hb' => ?_, h.ft, fun b' hb' => ?_⟩
 ·simp only [S.setB, Qae]
  split
  ·exact ⟨rfl, (h.b b' hb').2⟩
  ·exact h.b b' hb'
 ·have : b' ≠ b := fun e => hb' (by rw [e]; exact hb)
  simp only [S.setB, Qae, this, if_false]; exact h.nb b' hb'
 ·have : b' ≠ b := fun e => hb' (by rw [e]; exact hb)
  simp only [S.setB, Qae, this, if_false]; exact h.fb b' hb'
theorem Vw.shut (h : Vw R B s0 m s) {b : Nat} (hb : b ∈ B) : Vw R B s0 { m with b := upd m.b b none } { s with b := upd s.b b none } := by
 refine ⟨h.t, fun b' hb' => ?_, fun b' hb' => ?_, h.ft, fun b' hb' => ?_⟩
 ·simp only [Qae]
  split
  ·exact ⟨rfl, (h.b b' hb').2⟩
  ·exact h.b b' hb'
 ·have : b' ≠ b := fun e => hb' (by rw [e]; exact hb)
  simp only [Qae, this, if_false]; exact h.nb b' hb'
 ·have : b' ≠ b := fun e => hb' (by rw [e]; exact hb)
  simp only [Qae, this, if_false]; exact h.fb b' hb'
theorem Vw.newB (h : Vw R B s0 m s) {b : Nat} {c : BC} (hn : m.newB b c = some m') : ∃ s', s.newB b c = some s' ∧ Vw R B s0 m' s' := by
 unfold S.newB at hn
 split at hn
 ·cases hn
 ·rename_i hc
  have hb : b ∈ B := by
   by_cases hm : b ∈ B
   ·exact hm
   ·exact absurd (Or.inr (h.nb b hm).2) hc
  rw [(h.b b hb).2] at hc
  injection hn with hn
  subst hn
  refine ⟨{ s with b := upd s.b b (some c), seen := upd s.seen b true }, by simp [S.newB, hc], h.t, fun b' hb' => ?_, fun b' hb' => ?_, h.ft, fun b' hb' => ?_⟩
  ·simp only [Qae]
   split
   ·exact ⟨rfl, rfl⟩
   ·exact h.b b' hb'
  ·have : b' ≠ b := fun e => hb' (by rw [e]; exact hb)
   simp only [Qae, this, if_false]; exact h.nb b' hb'
  ·have : b' ≠ b := fun e => hb' (by rw [e]; exact hb)
   simp only [Qae, this, if_false]; exact h.fb b' hb'
theorem Vw.lend (h : Vw R B s0 m s) : ∀ {cs : List AV} {j : Nat} {r : List AV × List BC × List Nat}, lend m cs j = some r → lend s cs j = some r ∧ ∀ b ∈ r.2.2, b ∈ B
 | [], j, r, hl => by
  simp only [Go.Vs.lend, Zi] at hl
  subst hl
  exact ⟨rfl, by simp⟩
 | c :: cs, j, r, hl => by
  have plain : (bnd (Go.Vs.lend m cs j) fun (x : List AV × List BC × List Nat) => some (c :: x.1, x.2.1, x.2.2)) = some r → (bnd (Go.Vs.lend s cs j) fun (x : List AV × List BC × List Nat) => some (c :: x.1, x.2.1, x.2.2)) = some r ∧ ∀ b ∈ r.2.2, b ∈ B := by
   intro hb
   obtain ⟨q, h1, h2⟩ := Qa.1 hb
   obtain ⟨h3, h4⟩ := Vw.lend h h1
   rw [h3]
   refine ⟨h2, ?_⟩
   injection h2 with h2
   subst h2
   exact h4
  cases c with
  | bp b off =>
   simp only [Go.Vs.lend] at hl ⊢
   split at hl
   rotate_left
   ·cases hl
   rename_i hc
   rw [if_pos hc]
   split at hl
   rotate_left
   ·cases hl
   rename_i cs' hb
   obtain ⟨hbB, hsb⟩ := h.box hb
   rw [hsb]
   obtain ⟨q, h1, h2⟩ := Qa.1 hl
   obtain ⟨h3, h4⟩ := Vw.lend h h1
   simp only [h3, Qb]
   split at h2
   ·cases h2
   ·rename_i hn
    rw [if_neg hn]
    refine ⟨h2, ?_⟩
    injection h2 with h2
    subst h2
    intro b' hb'
    rcases List.mem_cons.1 hb' with rfl | hb'
    ·exact hbB
    ·exact h4 b' hb'
  | undef | int | bool | str | con | sl | agg | rp | fn | tup | tr | trp =>
   simp only [Go.Vs.lend, AV.isP, Bool.false_eq_true, if_false] at hl ⊢
   exact plain hl
  | bs | be | np => simp [Go.Vs.lend, AV.isP] at hl
theorem Vw.giveBack : ∀ {ls : List Nat} {bv : List BC} {m s m' : S}, Vw R B s0 m s → (∀ b ∈ ls, b ∈ B) → giveBack m ls bv = some m' → ∃ s', giveBack s ls bv = some s' ∧ Vw R B s0 m' s'
 | [], [], m, s, m', h, _, hg => by
  simp only [Go.Vs.giveBack, Zi] at hg
  subst hg
  exact ⟨s, rfl, h⟩
 | [], _ :: _, _, _, _, _, _, hg => by simp [Go.Vs.giveBack] at hg
 | _ :: _, [], _, _, _, _, _, hg => by simp [Go.Vs.giveBack] at hg
 | b :: ls, c :: bv, m, s, m', h, hb, hg => by
  simp only [Go.Vs.giveBack] at hg ⊢
  exact Vw.giveBack (h.setB (hb b (by simp)) c) (fun b' hb' => hb b' (by simp [hb'])) hg
theorem Vw.callF (h : Vw R B s0 m s) {g site : Nat} {cs : List AV} {v : AV} (hc : callF call m g site cs = some (v, m')) : ∃ s', callF call s g site cs = some (v, s') ∧ Vw R B s0 m' s' := by
 simp only [Go.Vs.callF] at hc ⊢
 obtain ⟨⟨tv, bv, ls⟩, h1, hc⟩ := Qa.1 hc
 obtain ⟨h2, h3⟩ := h.lend h1
 rw [h2]
 simp only [Qb]
 obtain ⟨⟨oc, outs, bv'⟩, h4, hc⟩ := Qa.1 hc
 rw [h4]
 simp only [Qb]
 obtain ⟨m1, h5, hc⟩ := Qa.1 hc
 obtain ⟨s1, h6, h7⟩ := h.giveBack h3 h5
 rw [h6]
 dsimp only at hc
 simp only [Qb]
 split at hc
 ·obtain ⟨m2, h8, hc⟩ := Qa.1 hc
  obtain ⟨s2, h9, h10⟩ := h7.newB h8
  simp only [h9, Zi, Zm, Qb] at hc ⊢
  obtain ⟨rfl, rfl⟩ := hc
  exact ⟨s2, ⟨rfl, rfl⟩, h10⟩
 ·split at hc
  ·cases hc
  ·rename_i hp
   simp only [if_neg hp]
   simp only [Zi, Zm] at hc ⊢
   obtain ⟨rfl, rfl⟩ := hc
   exact ⟨s1, ⟨rfl, rfl⟩, h7⟩
 ·cases hc
theorem Vw.capture : ∀ {vs out : List AV} {m s m' : S}, Vw R B s0 m s → capture m vs = some (out, m') → ∃ s', capture s vs = some (out, s') ∧ Vw R B s0 m' s'
 | [], out, m, s, m', h, hc => by
  simp only [Go.Vs.capture, Zi, Zm] at hc ⊢
  obtain ⟨rfl, rfl⟩ := hc
  exact ⟨s, ⟨rfl, rfl⟩, h⟩
 | c :: vs, out, m, s, m', h, hc => by
  have plain : ∀ d : AV, (bnd (Go.Vs.capture m vs) fun (x : List AV × S) => some (d :: x.1, x.2)) = some (out, m') → ∃ s', (bnd (Go.Vs.capture s vs) fun (x : List AV × S) => some (d :: x.1, x.2)) = some (out, s') ∧ Vw R B s0 m' s' := by
   intro d hb
   obtain ⟨⟨o1, m1⟩, h1, h2⟩ := Qa.1 hb
   obtain ⟨s1, h3, h4⟩ := Vw.capture h h1
   rw [h3]
   simp only [Qb, Zi, Zm] at h2 ⊢
   obtain ⟨rfl, rfl⟩ := h2
   exact ⟨s1, ⟨rfl, rfl⟩, h4⟩
  cases c with
  | bp b off =>
   simp only [Go.Vs.capture] at hc ⊢
   split at hc
   rotate_left
   ·cases hc
   rename_i h0
   rw [if_pos h0]
   split at hc
   rotate_left
   ·cases hc
   rename_i cs hb
   obtain ⟨hbB, hsb⟩ := h.box hb
   rw [hsb]
   obtain ⟨⟨o1, m1⟩, h1, h2⟩ := Qa.1 hc
   obtain ⟨s1, h3, h4⟩ := Vw.capture (h.shut hbB) h1
   rw [h3]
   simp only [Qb, Zi, Zm] at h2 ⊢
   obtain ⟨rfl, rfl⟩ := h2
   exact ⟨s1, ⟨rfl, rfl⟩, h4⟩
  | undef | int | bool | str | con | sl | agg | rp | fn | tup | tr | trp =>
   simp only [Go.Vs.capture, AV.isP, Bool.false_eq_true, if_false] at hc ⊢
   exact plain _ hc
  | bs | be | np => simp [Go.Vs.capture, AV.isP] at hc
theorem Vw.loadP (h : Vw R B s0 m s) {n : Nat} {agg take : Bool} {p v : AV} (hl : loadP n agg take m p = some (v, m')) : ∃ s', loadP n agg take s p = some (v, s') ∧ Vw R B s0 m' s' := by
 cases p <;> first | (simp [Go.Vs.loadP] at hl; done) | skip
 case bp b off =>
  simp only [Go.Vs.loadP] at hl ⊢
  split at hl
  rotate_left
  ·cases hl
  rename_i cs hb
  obtain ⟨hbB, hsb⟩ := h.box hb
  rw [hsb]
  simp only []
  cases take with
  | true =>
   simp only [if_true] at hl ⊢
   split at hl
   ·cases hl
   ·rename_i ha
    rw [if_neg ha]
    split at hl
    ·rename_i hn
     rw [if_pos hn]
     obtain ⟨c, h1, h2⟩ := Qa.1 hl
     rw [h1]
     simp only [Qb]
     split at h2
     ·cases h2
     ·rename_i hp
      rw [if_neg hp]
      simp only [Zi, Zm] at h2 ⊢
      obtain ⟨rfl, rfl⟩ := h2
      exact ⟨_, ⟨rfl, rfl⟩, h.setB hbB _⟩
    ·cases hl
  | false =>
   simp only [Bool.false_eq_true, if_false] at hl ⊢
   obtain ⟨c, h1, h2⟩ := Qa.1 hl
   rw [h1]
   simp only [Qb, Zi, Zm] at h2 ⊢
   obtain ⟨rfl, rfl⟩ := h2
   exact ⟨_, ⟨rfl, rfl⟩, h⟩
 case be b i off =>
  simp only [Go.Vs.loadP] at hl ⊢
  split at hl
  rotate_left
  ·cases hl
  rename_i sz xs hb
  obtain ⟨hbB, hsb⟩ := h.box hb
  rw [hsb]
  simp only []
  obtain ⟨c, h1, h2⟩ := Qa.1 hl
  rw [h1]
  simp only [Qb]
  split at h2
  ·cases h2
  ·rename_i ht
   rw [if_neg ht]
   obtain ⟨d, h3, h4⟩ := Qa.1 h2
   rw [h3]
   simp only [Qb, Zi, Zm] at h4 ⊢
   obtain ⟨rfl, rfl⟩ := h4
   exact ⟨_, ⟨rfl, rfl⟩, h⟩
 case rp cs off =>
  simp only [Go.Vs.loadP] at hl ⊢
  split at hl
  ·cases hl
  ·rename_i ht
   rw [if_neg ht]
   obtain ⟨d, h3, h4⟩ := Qa.1 hl
   rw [h3]
   simp only [Qb, Zi, Zm] at h4 ⊢
   obtain ⟨rfl, rfl⟩ := h4
   exact ⟨_, ⟨rfl, rfl⟩, h⟩
theorem Vw.storeP (h : Vw R B s0 m s) {n : Nat} {p v : AV} (hl : storeP n m p v = some m') : ∃ s', storeP n s p v = some s' ∧ Vw R B s0 m' s' := by
 simp only [Go.Vs.storeP] at hl ⊢
 split at hl
 rotate_left
 ·cases hl
 rename_i hc
 rw [if_pos hc]
 cases p <;> first | (simp at hl; done) | skip
 case bp b off =>
  simp only [] at hl ⊢
  split at hl
  rotate_left
  ·cases hl
  rename_i cs hb
  obtain ⟨hbB, hsb⟩ := h.box hb
  rw [hsb]
  simp only []
  obtain ⟨c, h1, h2⟩ := Qa.1 hl
  rw [h1]
  simp only [Qb, Zi] at h2 ⊢
  subst h2
  exact ⟨_, rfl, h.setB hbB _⟩
 case be b i off =>
  simp only [] at hl ⊢
  split at hl
  rotate_left
  ·cases hl
  rename_i sz xs hb
  obtain ⟨hbB, hsb⟩ := h.box hb
  rw [hsb]
  simp only []
  obtain ⟨c, h1, h2⟩ := Qa.1 hl
  rw [h1]
  simp only [Qb]
  obtain ⟨d, h3, h4⟩ := Qa.1 h2
  rw [h3]
  simp only [Qb, Zi] at h4 ⊢
  subst h4
  exact ⟨_, rfl, h.setB hbB _⟩
theorem Vw.convK (h : Vw R B s0 m s) {c : CK} {x v : AV} (hl : convK m c x = some (v, m')) : ∃ s', convK s c x = some (v, s') ∧ Vw R B s0 m' s' := by
 unfold Go.Vs.convK at hl
 split at hl
 ·simp only [Zi, Zm] at hl
  obtain ⟨rfl, rfl⟩ := hl
  exact ⟨s, rfl, h⟩
 ·simp only [Zi, Zm] at hl
  obtain ⟨rfl, rfl⟩ := hl
  exact ⟨s, rfl, h⟩
 ·obtain ⟨l, h1, h2⟩ := Qa.1 hl
  simp only [Zi, Zm] at h2
  obtain ⟨rfl, rfl⟩ := h2
  exact ⟨s, by simp [Go.Vs.convK, h1], h⟩
 ·split at hl
  ·rename_i xs hb
   obtain ⟨_, hsb⟩ := h.box hb
   obtain ⟨l, h1, h2⟩ := Qa.1 hl
   simp only [Zi, Zm] at h2
   obtain ⟨rfl, rfl⟩ := h2
   exact ⟨s, by simp [Go.Vs.convK, hsb, h1], h⟩
  ·cases hl
 ·obtain ⟨m1, h1, h2⟩ := Qa.1 hl
  simp only [Zi, Zm] at h2
  obtain ⟨rfl, rfl⟩ := h2
  obtain ⟨s1, h3, h4⟩ := h.newB h1
  exact ⟨s1, by simp [Go.Vs.convK, h3], h4⟩
 ·split at hl
  ·rename_i hc
   simp only [Zi, Zm] at hl
   obtain ⟨rfl, rfl⟩ := hl
   exact ⟨s, by simp [Go.Vs.convK, hc], h⟩
  ·cases hl
 ·cases hl
theorem Vw.pure (h : Vw R B s0 m s) {α : Type} {x : Option α} {f : α → AV} {v : AV} (hl : (bnd x fun a => some (f a, m)) = some (v, m')) : ∃ s', (bnd x fun a => some (f a, s)) = some (v, s') ∧ Vw R B s0 m' s' := by
 obtain ⟨a, h1, h2⟩ := Qa.1 hl
 simp only [Zi, Zm] at h2
 obtain ⟨rfl, rfl⟩ := h2
 exact ⟨s, by simp [h1], h⟩
theorem Vw.here (h : Vw R B s0 m s) {x v : AV} (hl : some (x, m) = some (v, m')) : ∃ s', some (x, s) = some (v, s') ∧ Vw R B s0 m' s' := by
 simp only [Zi, Zm] at hl
 obtain ⟨rfl, rfl⟩ := hl
 exact ⟨s, rfl, h⟩
theorem Vw.natO (h : Vw R B s0 m s) {z : Option Opnd} (hz : ∀ x ∈ z.toList, x.inn R) : natO G m z = natO G s z := by
 cases z with
 | none => rfl
 | some x => simp only [Go.Vs.natO, h.get (hz x (by simp))]
theorem Vw.setA (h : Vw R B s0 m s) {es : List Ent} (hb : 99 ∈ B) : Vw R B s0 (m.setA es) (s.setA es) := h.setB hb _
theorem Vw.callA (h : Vw R B s0 m s) (hB : 99 ∈ B) {g : Nat} {cs : List AV} {es : List Ent} {v : AV} (hc : callA call m g cs es = some (v, m')) : ∃ s', callA call s g cs es = some (v, s') ∧ Vw R B s0 m' s' := by
 simp only [Go.Vs.callA] at hc ⊢
 obtain ⟨⟨tv, bv, ls⟩, h1, hc⟩ := Qa.1 hc
 obtain ⟨h2, h3⟩ := h.lend h1
 rw [h2]
 simp only [Qb]
 obtain ⟨q, h4, hc⟩ := Qa.1 hc
 rw [h4]
 simp only [Qb]
 obtain ⟨q2, h5, hc⟩ := Qa.1 hc
 rw [h5]
 simp only [Qb]
 obtain ⟨m1, h6, hc⟩ := Qa.1 hc
 obtain ⟨s1, h7, h8⟩ := h.giveBack h3 h6
 rw [h7]
 simp only [Qb]
 split at hc
 ·split at hc
  ·cases hc
  ·rename_i hp
   simp only [if_neg hp]
   simp only [Zi, Zm] at hc ⊢
   obtain ⟨rfl, rfl⟩ := hc
   exact ⟨_, ⟨rfl, rfl⟩, h8.setA hB⟩
 ·cases hc
theorem Vw.evalTC (h : Vw R B s0 m s) (hB : 99 ∈ B) {g : Nat} {cm : CM} {cs : List AV} {es : List Ent} {v : AV} (hc : evalTC call m es cm g cs = some (v, m')) : ∃ s', evalTC call s es cm g cs = some (v, s') ∧ Vw R B s0 m' s' := by
 cases cm with
 | pass => exact h.callA hB hc
 | view =>
  simp only [Go.Vs.evalTC] at hc ⊢
  obtain ⟨r, h1, hc⟩ := Qa.1 hc
  rw [h1]
  simp only [Qb]
  split at hc
  rotate_left
  ·cases hc
  rename_i hcalm
  rw [if_pos hcalm]
  obtain ⟨⟨oc, outs, bv'⟩, h2, hc⟩ := Qa.1 hc
  rw [h2]
  simp only [Qb]
  split at hc
  rotate_left
  ·cases hc
  rename_i v0 e1 e2
  have e1 : outs = [v0] := e1
  have e2 : bv' = [] := e2
  subst e1 e2
  split at hc
  rotate_left
  ·cases hc
  rename_i hf
  simp only []
  rw [if_pos hf]
  simp only [Zi, Zm] at hc ⊢
  obtain ⟨rfl, rfl⟩ := hc
  exact ⟨_, ⟨rfl, rfl⟩, h⟩
 | pview =>
  simp only [Go.Vs.evalTC] at hc ⊢
  obtain ⟨r, h1, hc⟩ := Qa.1 hc
  rw [h1]
  simp only [Qb]
  split at hc
  rotate_left
  ·cases hc
  rename_i hcalm
  rw [if_pos hcalm]
  obtain ⟨⟨oc, outs, bv'⟩, h2, hc⟩ := Qa.1 hc
  rw [h2]
  simp only [Qb]
  split at hc
  rotate_left
  ·cases hc
  rename_i v0 es' e1 e2
  have e1 : outs = [v0] := e1
  have e2 : bv' = [.ar es'] := e2
  subst e1 e2
  split at hc
  rotate_left
  ·cases hc
  rename_i hf
  simp only []
  rw [if_pos hf]
  simp only [Zi, Zm] at hc ⊢
  obtain ⟨rfl, rfl⟩ := hc
  exact ⟨_, ⟨rfl, rfl⟩, h.setA hB⟩
 | pseal =>
  simp only [Go.Vs.evalTC] at hc ⊢
  obtain ⟨r, h1, hc⟩ := Qa.1 hc
  rw [h1]
  exact h.callA hB hc
theorem Vw.evalTK (h : Vw R B s0 m s) {k : TK} (hk : ∀ x ∈ k.opnds, x.inn R) {v : AV} (hl : evalTK call G m k = some (v, m')) : ∃ s', evalTK call G s k = some (v, s') ∧ Vw R B s0 m' s' := by
 cases k <;> simp only [Go.Vs.evalTK] at hl ⊢ <;> simp only [TK.opnds, Zo, List.not_mem_nil, or_false, forall_eq_or_imp, forall_eq] at hk
 case mk sz z n c =>
  obtain ⟨es, he, hl⟩ := Qa.1 hl
  obtain ⟨hB, hs⟩ := h.arr he
  rw [hs]
  simp only [Qb]
  rw [h.get hk.1, h.get hk.2] at hl
  split at hl
  ·split at hl
   ·rename_i hc
    rw [if_pos hc]
    exact (h.setA hB).here hl
   ·cases hl
  ·cases hl
 case nil sz => exact h.here hl
 case lit sz ps =>
  obtain ⟨es, he, hl⟩ := Qa.1 hl
  obtain ⟨hB, hs⟩ := h.arr he
  rw [hs]
  simp only [Qb]
  have : ∀ p ∈ ps, m.get G p = s.get G p := fun p hp => h.get (hk p hp)
  have e1 : (ps.all fun p => (m.get G p).cells.length == sz && (m.get G p).cells.all AV.one) = (ps.all fun p => (s.get G p).cells.length == sz && (s.get G p).cells.all AV.one) := by
   rw [Bool.eq_iff_iff, List.all_eq_true, List.all_eq_true]
   constructor <;> intro hh p hp <;> have := hh p hp <;> simp_all
  have e2 : (ps.map fun p => (m.get G p).cells.map AV.share) = (ps.map fun p => (s.get G p).cells.map AV.share) := List.map_congr_left fun p hp => by rw [this p hp]
  rw [e1, e2] at hl
  split at hl
  ·rename_i hc; rw [if_pos hc]; exact (h.setA hB).here hl
  ·cases hl
 case app sz x y =>
  obtain ⟨es, he, hl⟩ := Qa.1 hl
  obtain ⟨hB, hs⟩ := h.arr he
  rw [hs]
  simp only [Qb]
  rw [h.get hk.1, h.get hk.2] at hl
  split at hl
  ·obtain ⟨q, h2, hl⟩ := Qa.1 hl
   rw [h2]
   simp only [Qb]
   split at hl
   ·rename_i hc
    rw [if_pos hc]
    obtain ⟨xs, h1, hl⟩ := Qa.1 hl
    rw [h1]
    exact (h.setA hB).here hl
   ·cases hl
  ·cases hl
 case cut sz x hi =>
  obtain ⟨es, he, hl⟩ := Qa.1 hl
  obtain ⟨hB, hs⟩ := h.arr he
  rw [hs]
  simp only [Qb]
  rw [h.get hk.1, h.get hk.2] at hl
  split at hl
  ·split at hl
   ·rename_i hc
    rw [if_pos hc]
    obtain ⟨k, h0, hl⟩ := Qa.1 hl
    rw [h0]
    simp only [Qb]
    split at hl
    ·rename_i hc2
     rw [if_pos hc2]
     obtain ⟨xs, h1, hl⟩ := Qa.1 hl
     rw [h1]
     exact (h.setA hB).here hl
    ·cases hl
   ·cases hl
  ·cases hl
 case len x =>
  rw [h.get hk] at hl
  split at hl
  ·exact h.here hl
  ·cases hl
 case iadr sz x i =>
  rw [h.get hk.1, h.get hk.2] at hl
  split at hl
  ·split at hl
   ·rename_i hc
    rw [if_pos hc]
    obtain ⟨k, h0, hl⟩ := Qa.1 hl
    rw [h0]
    simp only [Qb]
    split at hl
    ·rename_i hc2; rw [if_pos hc2]; exact h.here hl
    ·cases hl
   ·cases hl
  ·cases hl
 case fadr off x =>
  rw [h.get hk] at hl
  split at hl
  ·exact h.here hl
  ·cases hl
 case nilck x =>
  rw [h.get hk] at hl
  split at hl
  ·exact h.here hl
  ·cases hl
 case load n agg x =>
  rw [h.get hk] at hl
  split at hl
  ·obtain ⟨es, he, hl⟩ := Qa.1 hl
   obtain ⟨hB, hs⟩ := h.arr he
   rw [hs]
   simp only [Qb]
   obtain ⟨xs, h1, hl⟩ := Qa.1 hl
   rw [h1]
   simp only [Qb]
   obtain ⟨cs, h2, hl⟩ := Qa.1 hl
   rw [h2]
   exact h.pure hl
  ·cases hl
 case store n x y =>
  rw [h.get hk.1, h.get hk.2] at hl
  split at hl
  ·rename_i hc
   rw [if_pos hc]
   split at hl
   ·obtain ⟨es, he, hl⟩ := Qa.1 hl
    obtain ⟨hB, hs⟩ := h.arr he
    rw [hs]
    simp only [Qb]
    obtain ⟨xs, h1, hl⟩ := Qa.1 hl
    rw [h1]
    simp only [Qb]
    obtain ⟨cs, h2, hl⟩ := Qa.1 hl
    rw [h2]
    simp only [Qb]
    obtain ⟨cs', h3, hl⟩ := Qa.1 hl
    rw [h3]
    exact ((h.drop hk.2).setA hB).here hl
   ·cases hl
  ·cases hl
 case call cm g args =>
  split at hl
  rotate_left
  ·cases hl
  rename_i ht
  rw [if_pos ht]
  obtain ⟨es, he, hl⟩ := Qa.1 hl
  obtain ⟨hB, hs⟩ := h.arr he
  rw [hs]
  simp only [Qb]
  rw [h.args hk] at hl
  exact (h.dropAll hk).evalTC hB hl
 case bld b z ps =>
  obtain ⟨es, he, hl⟩ := Qa.1 hl
  obtain ⟨hB, hs⟩ := h.arr he
  rw [hs]
  simp only [Qb]
  split at hl
  rotate_left
  ·cases hl
  rename_i sz xs hb
  obtain ⟨hbB, hsb⟩ := h.box hb
  rw [hsb]
  simp only []
  split at hl
  rotate_left
  ·cases hl
  rename_i hc
  rw [if_pos hc]
  have e1 : (ps.map fun p => (p.1, p.2.1, ownV b es.length sz xs.length (m.get G p.2.2))) = ps.map fun p => (p.1, p.2.1, ownV b es.length sz xs.length (s.get G p.2.2)) := List.map_congr_left fun p hp => by rw [h.get (hk _ (List.mem_map_of_mem hp))]
  rw [e1] at hl
  obtain ⟨cs, h1, hl⟩ := Qa.1 hl
  rw [h1]
  exact ((h.shut hbB).setA hB).here hl
theorem Vw.evalK (h : Vw R B s0 m s) {k : K} (hk : ∀ x ∈ k.opnds, x.inn R) {v : AV} (hl : evalK call G m k = some (v, m')) : ∃ s', evalK call G s k = some (v, s') ∧ Vw R B s0 m' s' := by
 cases k <;> simp only [Go.Vs.evalK] at hl ⊢ <;> simp only [K.opnds, Zo, List.not_mem_nil, or_false, forall_eq_or_imp, forall_eq] at hk
 case tr k => exact h.evalTK hk hl
 case mv x =>
  rw [h.get hk] at hl
  exact (h.drop hk).here hl
 case pick c x y =>
  rw [h.get hk.1] at hl
  split at hl
  rotate_left
  ·cases hl
  split at hl
  ·rename_i hb; rw [hb, if_pos rfl]; rw [h.get hk.2.1] at hl; exact (h.drop hk.2.1).here hl
  ·rename_i hb; rw [if_neg hb]; rw [h.get hk.2.2] at hl; exact (h.drop hk.2.2).here hl
 case alloc b z =>
  obtain ⟨m1, h1, h2⟩ := Qa.1 hl
  obtain ⟨s1, h3, h4⟩ := h.newB h1
  rw [h3]
  exact h4.here h2
 case box b x =>
  rw [h.get hk] at hl
  split at hl
  rotate_left
  ·cases hl
  rename_i hc
  rw [if_pos hc]
  obtain ⟨m1, h1, h2⟩ := Qa.1 hl
  obtain ⟨s1, h3, h4⟩ := h.newB h1
  rw [h3]
  exact h4.here h2
 case build z ps =>
  have : (ps.map fun p => (p.1, p.2.1, m.get G p.2.2)) = ps.map fun p => (p.1, p.2.1, s.get G p.2.2) := List.map_congr_left fun p hp => by rw [h.get (hk _ (List.mem_map_of_mem hp))]
  rw [this] at hl
  exact h.pure hl
 case buildS m' sz ps =>
  have : ∀ p ∈ ps, m.get G p = s.get G p := fun p hp => h.get (hk p hp)
  have e1 : (ps.all fun p => (m.get G p).cells.length == sz && (m.get G p).cells.all AV.one) = (ps.all fun p => (s.get G p).cells.length == sz && (s.get G p).cells.all AV.one) := by
   rw [Bool.eq_iff_iff, List.all_eq_true, List.all_eq_true]
   constructor <;> intro hh p hp <;> have := hh p hp <;> simp_all
  have e2 : (ps.map fun p => (m.get G p).cells.map AV.share) = (ps.map fun p => (s.get G p).cells.map AV.share) := List.map_congr_left fun p hp => by rw [this p hp]
  rw [e1, e2] at hl
  split at hl
  ·rename_i hc; rw [if_pos hc]; exact h.here hl
  ·cases hl
 case load n agg take x =>
  rw [h.get hk] at hl
  exact h.loadP hl
 case store n x y =>
  rw [h.get hk.1, h.get hk.2] at hl
  obtain ⟨m1, h1, h2⟩ := Qa.1 hl
  obtain ⟨s1, h3, h4⟩ := (h.drop hk.2).storeP h1
  rw [h3]
  exact h4.here h2
 case nilck x =>
  rw [h.get hk] at hl
  split at hl
  ·split at hl
   ·rename_i hb; rw [if_pos (h.isSome hb)]; exact h.here hl
   ·cases hl
  ·split at hl
   ·rename_i hb; rw [if_pos (h.isSome hb)]; exact h.here hl
   ·cases hl
  ·exact h.here hl
  ·exact h.here hl
  ·cases hl
 case bin op x y => rw [h.get hk.1, h.get hk.2] at hl; exact h.pure hl
 case eqb neq x y =>
  rw [h.get hk.1, h.get hk.2] at hl
  split at hl
  ·exact h.here hl
  ·cases hl
 case eqs neq n x y =>
  rw [h.get hk.1, h.get hk.2] at hl
  split at hl
  ·split at hl
   ·rename_i hc; rw [if_pos hc]; exact h.pure hl
   ·cases hl
  ·cases hl
 case un op x => rw [h.get hk] at hl; exact h.pure hl
 case conv c x => rw [h.get hk] at hl; exact h.convK hl
 case mkfn g caps =>
  rw [h.gets hk] at hl
  obtain ⟨⟨o1, m1⟩, h1, h2⟩ := Qa.1 hl
  obtain ⟨s1, h3, h4⟩ := h.capture h1
  rw [h3]
  exact h4.here h2
 case mksl b sz z n c =>
  rw [h.get hk.1, h.get hk.2] at hl
  split at hl
  ·split at hl
   ·rename_i hc
    rw [if_pos hc]
    obtain ⟨m1, h1, h2⟩ := Qa.1 hl
    obtain ⟨s1, h3, h4⟩ := h.newB h1
    rw [h3]
    exact h4.here h2
   ·cases hl
  ·cases hl
 case mkz sz z n c =>
  rw [h.get hk.1, h.get hk.2] at hl
  split at hl
  ·split at hl
   ·rename_i hc
    rw [if_pos hc]
    exact h.here hl
   ·cases hl
  ·cases hl
 case slc sz x lo hi mx =>
  rw [h.natO (fun y hy => hk.2 y (by simp at hy ⊢; exact .inl hy)), h.natO (fun y hy => hk.2 y (by simp at hy ⊢; exact .inr (.inl hy))), h.natO (fun y hy => hk.2 y (by simp at hy ⊢; exact .inr (.inr hy))), h.get hk.1] at hl
  split at hl
  ·cases hl
  ·rename_i hc
   rw [if_neg hc]
   obtain ⟨a1, h1, hl⟩ := Qa.1 hl
   obtain ⟨a2, h2, hl⟩ := Qa.1 hl
   obtain ⟨a3, h3, hl⟩ := Qa.1 hl
   rw [h1, h2, h3]
   exact h.pure hl
 case slcS x lo hi =>
  rw [h.natO (fun y hy => hk.2 y (by simp at hy ⊢; exact .inl hy)), h.natO (fun y hy => hk.2 y (by simp at hy ⊢; exact .inr hy)), h.get hk.1] at hl
  obtain ⟨a1, h1, hl⟩ := Qa.1 hl
  obtain ⟨a2, h2, hl⟩ := Qa.1 hl
  rw [h1, h2]
  exact h.pure hl
 case fadr off x =>
  rw [h.get hk] at hl
  split at hl
  ·split at hl
   ·rename_i hb; rw [if_pos (h.isSome hb)]; exact h.here hl
   ·cases hl
  ·split at hl
   ·rename_i hb; rw [if_pos (h.isSome hb)]; exact h.here hl
   ·cases hl
  ·exact h.here hl
  ·cases hl
 case fld off n agg x =>
  rw [h.get hk] at hl
  split at hl
  ·exact h.pure hl
  ·cases hl
 case iadr sz x i =>
  rw [h.get hk.1, h.get hk.2] at hl
  split at hl
  ·split at hl
   ·rename_i hc
    rw [if_pos hc]
    obtain ⟨a1, h1, hl⟩ := Qa.1 hl
    rw [h1]
    exact h.pure hl
   ·cases hl
  ·split at hl
   ·rename_i hb
    rw [(h.box hb).2]
    simp only []
    split at hl
    ·rename_i hc
     rw [if_pos hc]
     obtain ⟨a1, h1, hl⟩ := Qa.1 hl
     rw [h1]
     simp only [Qb]
     split at hl
     ·rename_i hi; rw [if_pos hi]; exact h.here hl
     ·cases hl
    ·cases hl
   ·cases hl
  ·cases hl
 case iadrA sz len x i =>
  rw [h.get hk.1, h.get hk.2] at hl
  split at hl
  ·split at hl
   ·rename_i hb
    rw [if_pos (h.isSome hb)]
    obtain ⟨a1, h1, hl⟩ := Qa.1 hl
    rw [h1]
    simp only [Qb]
    split at hl
    ·rename_i hi; rw [if_pos hi]; exact h.here hl
    ·cases hl
   ·cases hl
  ·obtain ⟨a1, h1, hl⟩ := Qa.1 hl
   rw [h1]
   simp only [Qb]
   split at hl
   ·rename_i hi; rw [if_pos hi]; exact h.here hl
   ·cases hl
  ·cases hl
 case idxS x i =>
  rw [h.get hk.1, h.get hk.2] at hl
  split at hl
  ·obtain ⟨a1, h1, hl⟩ := Qa.1 hl
   rw [h1]
   exact h.pure hl
  ·cases hl
 case idxA sz len n agg x i =>
  rw [h.get hk.1, h.get hk.2] at hl
  split at hl
  ·obtain ⟨a1, h1, hl⟩ := Qa.1 hl
   rw [h1]
   simp only [Qb]
   split at hl
   ·rename_i hi; rw [if_pos hi]; exact h.pure hl
   ·cases hl
  ·cases hl
 case len x =>
  rw [h.get hk] at hl
  split at hl
  ·exact h.here hl
  ·split at hl
   ·rename_i hb
    rw [(h.box hb).2]
    exact h.here hl
   ·cases hl
  ·cases hl
 case lenS x =>
  rw [h.get hk] at hl
  split at hl
  ·exact h.here hl
  ·cases hl
 case app sz x y =>
  rw [h.get hk.1, h.get hk.2] at hl
  split at hl
  ·split at hl
   ·rename_i hc; rw [if_pos hc]; exact (h.drop hk.1).here hl
   ·cases hl
  ·cases hl
 case ext i x =>
  rw [h.get hk] at hl
  split at hl
  ·obtain ⟨a1, h1, hl⟩ := Qa.1 hl
   rw [h1]
   simp only [Qb]
   split at hl
   ·cases hl
   ·rename_i hi; rw [if_neg hi]; exact h.here hl
  ·cases hl
 case call g site args =>
  split at hl
  rotate_left
  ·cases hl
  rename_i ht
  rw [if_pos ht]
  rw [h.args hk] at hl
  exact (h.dropAll hk).callF hl
 case callv f args =>
  rw [h.get hk.1] at hl
  split at hl
  rotate_left
  ·cases hl
  split at hl
  rotate_left
  ·cases hl
  rename_i ht
  rw [if_pos ht]
  rw [h.args hk.2] at hl
  exact (h.dropAll hk.2).callF hl
 case mx args =>
  rw [h.gets hk] at hl
  obtain ⟨l, h1, hl⟩ := Qa.1 hl
  rw [h1]
  simp only [Qb]
  split at hl
  ·cases hl
  ·exact h.here hl
 case mn args =>
  rw [h.gets hk] at hl
  obtain ⟨l, h1, hl⟩ := Qa.1 hl
  rw [h1]
  simp only [Qb]
  split at hl
  ·cases hl
  ·exact h.here hl
end
end Go.Vs
namespace Go.Vs
open Go Go.RowKit
section
variable {s s' : S} {G : Nat → List AV} {call : Call}
def K.takes (k : K) : List Nat := k.opnds.filterMap fun | .take t => some t | _ => none
structure Keep (T : List Nat) (m : Bool) (s s' : S) : Prop where
 t : ∀ t, t ∉ T → s'.t t = s.t t
 b : m = false → s'.b = s.b ∧ s'.seen = s.seen
theorem Keep.refl (T : List Nat) (m : Bool) (s : S) : Keep T m s s := ⟨fun _ _ => rfl, fun _ => ⟨rfl, rfl⟩⟩
theorem Keep.of_t {T : List Nat} {s s' : S} (h : s'.t = s.t) : Keep T true s s' := ⟨fun _ _ => by rw [h], fun h => by cases h⟩
theorem Keep.drop {x : Opnd} {T : List Nat} {m : Bool} (h : ∀ t, x = .take t → t ∈ T) (s : S) : Keep T m s (s.drop x) := by
 refine ⟨fun u hu => ?_, fun _ => Qmb s x⟩
 cases x with
 | take t =>
  have : u ≠ t := fun e => hu (by rw [e]; exact h t rfl)
  simp [S.drop, upd, this]
 | _ => rfl
theorem Qgy : ∀ {xs : List Opnd} {s : S} {t : Nat}, (.take t ∉ xs) → (dropAll s xs).t t = s.t t
 | [], _, _, _ => rfl
 | x :: xs, s, t, h => by
  have h1 := Qgy (xs := xs) (s := s.drop x) (t := t) (fun hm => h (by simp [hm]))
  rw [show dropAll s (x :: xs) = dropAll (s.drop x) xs from rfl, h1]
  have : x ≠ .take t := fun e => h (by simp [e])
  cases x with
  | take u =>
   have : t ≠ u := fun e => this (by rw [e])
   simp [S.drop, upd, this]
  | _ => rfl
theorem Qpp {b : Nat} {c : BC} (h : s.newB b c = some s') : s'.t = s.t := by
 unfold S.newB at h
 split at h
 ·cases h
 ·injection h with h; subst h; rfl
theorem Qfq : ∀ {ls : List Nat} {bv : List BC} {s s' : S}, giveBack s ls bv = some s' → s'.t = s.t
 | [], [], _, _, h => by simp only [giveBack, Zi] at h; rw [h]
 | [], _ :: _, _, _, h => by simp [giveBack] at h
 | _ :: _, [], _, _, h => by simp [giveBack] at h
 | b :: ls, c :: bv, s, s', h => by simp only [giveBack] at h; rw [Qfq h]; rfl
theorem Qvd {g site : Nat} {cs : List AV} {v : AV} (h : callF call s g site cs = some (v, s')) : s'.t = s.t := by
 simp only [callF] at h
 obtain ⟨⟨tv, bv, ls⟩, _, h⟩ := Qa.1 h
 obtain ⟨⟨oc, outs, bv'⟩, _, h⟩ := Qa.1 h
 obtain ⟨s1, h1, h⟩ := Qa.1 h
 dsimp only at h
 split at h
 ·obtain ⟨s2, h2, h⟩ := Qa.1 h
  simp only [Zi, Zm] at h
  obtain ⟨_, rfl⟩ := h
  rw [Qpp h2, Qfq h1]
 ·split at h
  ·cases h
  ·simp only [Zi, Zm] at h
   obtain ⟨_, rfl⟩ := h
   rw [Qfq h1]
 ·cases h
theorem Qkf : ∀ {vs out : List AV} {s s' : S}, capture s vs = some (out, s') → s'.t = s.t
 | [], _, _, _, h => by simp only [capture, Zi, Zm] at h; rw [h.2]
 | c :: vs, out, s, s', h => by
  cases c with
  | bp b off =>
   simp only [capture] at h
   split at h
   ·split at h
    ·obtain ⟨⟨o1, s1⟩, h1, h⟩ := Qa.1 h
     simp only [Zi, Zm] at h
     obtain ⟨_, rfl⟩ := h
     rw [Qkf h1]
    ·cases h
   ·cases h
  | undef | int | bool | str | con | sl | agg | rp | fn | tup | tr | trp =>
   simp only [capture, AV.isP, Bool.false_eq_true, if_false] at h
   obtain ⟨⟨o1, s1⟩, h1, h⟩ := Qa.1 h
   simp only [Zi, Zm] at h
   obtain ⟨_, rfl⟩ := h
   rw [Qkf h1]
  | bs | be | np => simp [capture, AV.isP] at h
theorem Qtp {n : Nat} {agg take : Bool} {p v : AV} (h : loadP n agg take s p = some (v, s')) : s'.t = s.t ∧ (take = false → s' = s) := by
 cases p <;> simp only [loadP] at h <;> first | (cases h; done) | skip
 case bp b off =>
  split at h
  ·cases take with
   | true =>
    simp only [if_true] at h
    split at h
    ·cases h
    ·split at h
     ·obtain ⟨c, _, h⟩ := Qa.1 h
      split at h
      ·cases h
      ·simp only [Zi, Zm] at h
       obtain ⟨_, rfl⟩ := h
       exact ⟨rfl, fun h => by cases h⟩
     ·cases h
   | false =>
    simp only [Bool.false_eq_true, if_false] at h
    obtain ⟨c, _, h⟩ := Qa.1 h
    simp only [Zi, Zm] at h
    obtain ⟨_, rfl⟩ := h
    exact ⟨rfl, fun _ => rfl⟩
  ·cases h
 case be b i off =>
  split at h
  ·obtain ⟨c, _, h⟩ := Qa.1 h
   split at h
   ·cases h
   ·obtain ⟨d, _, h⟩ := Qa.1 h
    simp only [Zi, Zm] at h
    obtain ⟨_, rfl⟩ := h
    exact ⟨rfl, fun _ => rfl⟩
  ·cases h
 case rp cs off =>
  split at h
  ·cases h
  ·obtain ⟨d, _, h⟩ := Qa.1 h
   simp only [Zi, Zm] at h
   obtain ⟨_, rfl⟩ := h
   exact ⟨rfl, fun _ => rfl⟩
theorem Qzd {n : Nat} {p v : AV} (h : storeP n s p v = some s') : s'.t = s.t := by
 simp only [storeP] at h
 split at h
 rotate_left
 ·cases h
 cases p <;> simp only [] at h <;> first | (cases h; done) | skip
 case bp b off =>
  split at h
  ·obtain ⟨c, _, h⟩ := Qa.1 h
   injection h with h; subst h; rfl
  ·cases h
 case be b i off =>
  split at h
  ·obtain ⟨c, _, h⟩ := Qa.1 h
   obtain ⟨d, _, h⟩ := Qa.1 h
   injection h with h; subst h; rfl
  ·cases h
theorem Qtc {c : CK} {x v : AV} (h : convK s c x = some (v, s')) : s'.t = s.t ∧ ((∀ b, c ≠ .strBytes b) → s' = s) := by
 unfold convK at h
 split at h
 ·simp only [Zi, Zm] at h; exact ⟨by rw [h.2], fun _ => h.2.symm⟩
 ·simp only [Zi, Zm] at h; exact ⟨by rw [h.2], fun _ => h.2.symm⟩
 ·obtain ⟨l, _, h⟩ := Qa.1 h
  simp only [Zi, Zm] at h; exact ⟨by rw [h.2], fun _ => h.2.symm⟩
 ·split at h
  ·obtain ⟨l, _, h⟩ := Qa.1 h
   simp only [Zi, Zm] at h; exact ⟨by rw [h.2], fun _ => h.2.symm⟩
  ·cases h
 ·obtain ⟨s1, h1, h⟩ := Qa.1 h
  simp only [Zi, Zm] at h
  obtain ⟨_, rfl⟩ := h
  exact ⟨Qpp h1, fun hh => absurd rfl (hh _)⟩
 ·split at h
  ·simp only [Zi, Zm] at h; exact ⟨by rw [h.2], fun _ => h.2.symm⟩
  ·cases h
 ·cases h
theorem Qby {k : K} {x : Opnd} (h : x ∈ k.opnds) : ∀ t, x = .take t → t ∈ k.takes := by
 intro t e
 subst e
 exact List.mem_filterMap.2 ⟨_, h, rfl⟩
theorem Qle (s : S) (es : List Ent) : (s.setA es).t = s.t := rfl
theorem Qvc {g : Nat} {cs : List AV} {es : List Ent} {v : AV} (h : callA call s g cs es = some (v, s')) : s'.t = s.t := by
 simp only [callA] at h
 obtain ⟨⟨tv, bv, ls⟩, _, h⟩ := Qa.1 h
 obtain ⟨⟨oc, outs, bv'⟩, _, h⟩ := Qa.1 h
 obtain ⟨⟨bv1, es'⟩, _, h⟩ := Qa.1 h
 obtain ⟨s1, h1, h⟩ := Qa.1 h
 dsimp only at h
 split at h
 ·split at h
  ·cases h
  ·simp only [Zi, Zm] at h
   obtain ⟨_, rfl⟩ := h
   rw [Qle, Qfq h1]
 ·cases h
theorem Qxr {g : Nat} {cm : CM} {cs : List AV} {es : List Ent} {v : AV} (h : evalTC call s es cm g cs = some (v, s')) : s'.t = s.t := by
 cases cm with
 | pass => exact Qvc h
 | view =>
  simp only [evalTC] at h
  obtain ⟨r, _, h⟩ := Qa.1 h
  split at h
  rotate_left
  ·cases h
  obtain ⟨⟨oc, outs, bv'⟩, _, h⟩ := Qa.1 h
  split at h
  rotate_left
  ·cases h
  split at h
  rotate_left
  ·cases h
  simp only [Zi, Zm] at h
  rw [h.2]
 | pview =>
  simp only [evalTC] at h
  obtain ⟨r, _, h⟩ := Qa.1 h
  split at h
  rotate_left
  ·cases h
  obtain ⟨⟨oc, outs, bv'⟩, _, h⟩ := Qa.1 h
  split at h
  rotate_left
  ·cases h
  split at h
  rotate_left
  ·cases h
  simp only [Zi, Zm] at h
  rw [← h.2]; rfl
 | pseal =>
  simp only [evalTC] at h
  obtain ⟨r, _, h⟩ := Qa.1 h
  exact Qvc h
theorem Qqx {k : TK} {v : AV} (h : evalTK call G s k = some (v, s')) : Keep (K.tr k).takes k.mods s s' := by
 have here : ∀ {x : AV} {s1 : S}, Keep (K.tr k).takes k.mods s s1 → some (x, s1) = some (v, s') → Keep (K.tr k).takes k.mods s s' := by
  intro x s1 hk hh
  simp only [Zi, Zm] at hh
  rw [← hh.2]; exact hk
 have pure : ∀ {α : Type} {x : Option α} {f : α → AV}, (bnd x fun a => some (f a, s)) = some (v, s') → Keep (K.tr k).takes k.mods s s' := by
  intro α x f hh
  obtain ⟨a, _, hh⟩ := Qa.1 hh
  exact here (Keep.refl _ _ _) hh
 cases k <;> simp only [evalTK] at h
 case mk sz z n c =>
  obtain ⟨es, _, h⟩ := Qa.1 h
  split at h
  ·split at h
   ·exact here (Keep.of_t (Qle s _)) h
   ·cases h
  ·cases h
 case nil sz => exact here (Keep.refl _ _ _) h
 case lit sz ps =>
  obtain ⟨es, _, h⟩ := Qa.1 h
  split at h
  ·exact here (Keep.of_t (Qle s _)) h
  ·cases h
 case app sz x y =>
  obtain ⟨es, _, h⟩ := Qa.1 h
  split at h
  ·obtain ⟨q, _, h⟩ := Qa.1 h
   split at h
   ·obtain ⟨xs, _, h⟩ := Qa.1 h
    exact here (Keep.of_t (Qle s _)) h
   ·cases h
  ·cases h
 case cut sz x hi =>
  obtain ⟨es, _, h⟩ := Qa.1 h
  split at h
  ·split at h
   ·obtain ⟨k, _, h⟩ := Qa.1 h
    split at h
    ·obtain ⟨xs, _, h⟩ := Qa.1 h
     exact here (Keep.of_t (Qle s _)) h
    ·cases h
   ·cases h
  ·cases h
 case len x =>
  split at h
  ·exact here (Keep.refl _ _ _) h
  ·cases h
 case iadr sz x i =>
  split at h
  ·split at h
   ·obtain ⟨k, _, h⟩ := Qa.1 h
    split at h
    ·exact here (Keep.refl _ _ _) h
    ·cases h
   ·cases h
  ·cases h
 case fadr off x =>
  split at h
  ·exact here (Keep.refl _ _ _) h
  ·cases h
 case nilck x =>
  split at h
  ·exact here (Keep.refl _ _ _) h
  ·cases h
 case load n agg x =>
  split at h
  ·obtain ⟨es, _, h⟩ := Qa.1 h
   obtain ⟨xs, _, h⟩ := Qa.1 h
   obtain ⟨cs, _, h⟩ := Qa.1 h
   exact pure h
  ·cases h
 case store n x y =>
  split at h
  ·split at h
   ·obtain ⟨es, _, h⟩ := Qa.1 h
    obtain ⟨xs, _, h⟩ := Qa.1 h
    obtain ⟨cs, _, h⟩ := Qa.1 h
    obtain ⟨cs', _, h⟩ := Qa.1 h
    have hd := Keep.drop (T := K.takes (.tr (.store n x y))) (m := true) (Qby (k := .tr (.store n x y)) (by simp [K.opnds, TK.opnds]) : ∀ t, y = .take t → _) s
    exact here ⟨fun t ht => by rw [Qle]; exact hd.t t ht, fun hm => by cases hm⟩ h
   ·cases h
  ·cases h
 case call cm g args =>
  split at h
  ·obtain ⟨es, _, h⟩ := Qa.1 h
   refine ⟨fun t ht => ?_, fun hm => by cases hm⟩
   rw [Qxr h]
   exact Qgy fun hm => ht (Qby (k := .tr (.call cm g args)) hm t rfl)
  ·cases h
 case bld b z ps =>
  obtain ⟨es, _, h⟩ := Qa.1 h
  split at h
  rotate_left
  ·cases h
  split at h
  rotate_left
  ·cases h
  obtain ⟨cs, _, h⟩ := Qa.1 h
  refine here ⟨fun t ht => ?_, fun hm => by cases hm⟩ h
  rw [Qle]
theorem Qti {k : K} {v : AV} (h : evalK call G s k = some (v, s')) : Keep k.takes k.mods s s' := by
 have here : ∀ {x : AV} {s1 : S}, Keep k.takes k.mods s s1 → some (x, s1) = some (v, s') → Keep k.takes k.mods s s' := by
  intro x s1 hk hh
  simp only [Zi, Zm] at hh
  rw [← hh.2]; exact hk
 have pure : ∀ {α : Type} {x : Option α} {f : α → AV}, (bnd x fun a => some (f a, s)) = some (v, s') → Keep k.takes k.mods s s' := by
  intro α x f hh
  obtain ⟨a, _, hh⟩ := Qa.1 hh
  exact here (Keep.refl _ _ _) hh
 cases k <;> simp only [evalK] at h
 case tr k => exact Qqx h
 case mv x => exact here (Keep.drop (Qby (k := .mv x) (by simp [K.opnds])) s) h
 case pick c x y =>
  split at h
  rotate_left
  ·cases h
  split at h
  ·exact here (Keep.drop (Qby (k := .pick c x y) (by simp [K.opnds])) s) h
  ·exact here (Keep.drop (Qby (k := .pick c x y) (by simp [K.opnds])) s) h
 case alloc b z =>
  obtain ⟨s1, h1, h2⟩ := Qa.1 h
  exact here (Keep.of_t (Qpp h1)) h2
 case box b x =>
  split at h
  ·obtain ⟨s1, h1, h2⟩ := Qa.1 h
   exact here (Keep.of_t (Qpp h1)) h2
  ·cases h
 case build z ps => exact pure h
 case buildS m' sz ps =>
  split at h
  ·exact here (Keep.refl _ _ _) h
  ·cases h
 case load n agg take x =>
  obtain ⟨h1, h2⟩ := Qtp h
  exact ⟨fun _ _ => by rw [h1], fun hm => by rw [h2 hm]; exact ⟨rfl, rfl⟩⟩
 case store n x y =>
  obtain ⟨s1, h1, h2⟩ := Qa.1 h
  have hd := Keep.drop (T := K.takes (.store n x y)) (m := true) (Qby (k := .store n x y) (by simp [K.opnds]) : ∀ t, y = .take t → _) s
  refine here ⟨fun t ht => ?_, fun hm => by cases hm⟩ h2
  rw [Qzd h1]; exact hd.t t ht
 case nilck x =>
  split at h
  ·split at h
   ·exact here (Keep.refl _ _ _) h
   ·cases h
  ·split at h
   ·exact here (Keep.refl _ _ _) h
   ·cases h
  ·exact here (Keep.refl _ _ _) h
  ·exact here (Keep.refl _ _ _) h
  ·cases h
 case bin op x y => exact pure h
 case eqb neq x y =>
  split at h
  ·exact here (Keep.refl _ _ _) h
  ·cases h
 case eqs neq n x y =>
  split at h
  ·split at h
   ·exact pure h
   ·cases h
  ·cases h
 case un op x => exact pure h
 case conv c x =>
  obtain ⟨h1, h2⟩ := Qtc h
  refine ⟨fun _ _ => by rw [h1], fun hm => ?_⟩
  rw [h2 (fun b e => by subst e; cases hm)]; exact ⟨rfl, rfl⟩
 case mkfn g caps =>
  obtain ⟨⟨o1, s1⟩, h1, h2⟩ := Qa.1 h
  exact here (Keep.of_t (Qkf h1)) h2
 case mksl b sz z n c =>
  split at h
  ·split at h
   ·obtain ⟨s1, h1, h2⟩ := Qa.1 h
    exact here (Keep.of_t (Qpp h1)) h2
   ·cases h
  ·cases h
 case mkz sz z n c =>
  split at h
  ·split at h
   ·exact here (Keep.refl _ _ _) h
   ·cases h
  ·cases h
 case slc sz x lo hi mx =>
  split at h
  ·cases h
  ·obtain ⟨a1, _, h⟩ := Qa.1 h
   obtain ⟨a2, _, h⟩ := Qa.1 h
   obtain ⟨a3, _, h⟩ := Qa.1 h
   exact pure h
 case slcS x lo hi =>
  obtain ⟨a1, _, h⟩ := Qa.1 h
  obtain ⟨a2, _, h⟩ := Qa.1 h
  exact pure h
 case fadr off x =>
  split at h
  ·split at h
   ·exact here (Keep.refl _ _ _) h
   ·cases h
  ·split at h
   ·exact here (Keep.refl _ _ _) h
   ·cases h
  ·exact here (Keep.refl _ _ _) h
  ·cases h
 case fld off n agg x =>
  split at h
  ·exact pure h
  ·cases h
 case iadr sz x i =>
  split at h
  ·split at h
   ·obtain ⟨a1, _, h⟩ := Qa.1 h
    exact pure h
   ·cases h
  ·split at h
   ·split at h
    ·obtain ⟨a1, _, h⟩ := Qa.1 h
     split at h
     ·exact here (Keep.refl _ _ _) h
     ·cases h
    ·cases h
   ·cases h
  ·cases h
 case iadrA sz len x i =>
  split at h
  ·split at h
   ·obtain ⟨a1, _, h⟩ := Qa.1 h
    split at h
    ·exact here (Keep.refl _ _ _) h
    ·cases h
   ·cases h
  ·obtain ⟨a1, _, h⟩ := Qa.1 h
   split at h
   ·exact here (Keep.refl _ _ _) h
   ·cases h
  ·cases h
 case idxS x i =>
  split at h
  ·obtain ⟨a1, _, h⟩ := Qa.1 h
   exact pure h
  ·cases h
 case idxA sz len n agg x i =>
  split at h
  ·obtain ⟨a1, _, h⟩ := Qa.1 h
   split at h
   ·exact pure h
   ·cases h
  ·cases h
 case len x =>
  split at h
  ·exact here (Keep.refl _ _ _) h
  ·split at h
   ·exact here (Keep.refl _ _ _) h
   ·cases h
  ·cases h
 case lenS x =>
  split at h
  ·exact here (Keep.refl _ _ _) h
  ·cases h
 case app sz x y =>
  split at h
  ·split at h
   ·exact here (Keep.drop (Qby (k := .app sz x y) (by simp [K.opnds])) s) h
   ·cases h
  ·cases h
 case ext i x =>
  split at h
  ·obtain ⟨a1, _, h⟩ := Qa.1 h
   split at h
   ·cases h
   ·exact here (Keep.refl _ _ _) h
  ·cases h
 case call g site args =>
  split at h
  ·refine ⟨fun t ht => ?_, fun hm => by cases hm⟩
   rw [Qvd h]
   exact Qgy fun hm => ht (Qby (k := .call g site args) hm t rfl)
  ·cases h
 case callv f args =>
  split at h
  rotate_left
  ·cases h
  split at h
  ·refine ⟨fun t ht => ?_, fun hm => by cases hm⟩
   rw [Qvd h]
   exact Qgy fun hm => ht (Qby (k := .callv f args) (List.mem_cons_of_mem _ hm) t rfl)
  ·cases h
 case mx args =>
  obtain ⟨l, _, h⟩ := Qa.1 h
  split at h
  ·cases h
  ·exact here (Keep.refl _ _ _) h
 case mn args =>
  obtain ⟨l, _, h⟩ := Qa.1 h
  split at h
  ·cases h
  ·exact here (Keep.refl _ _ _) h
theorem mask_vw (s : S) (R B : List Nat) : Vw R B s (s.mask R B) s := by
 refine ⟨fun t ht => ?_, fun b hb => ?_, fun b hb => ?_, fun _ _ => rfl, fun _ _ => ⟨rfl, rfl⟩⟩
 ·simp [S.mask, ht]
 ·simp [S.mask, hb]
 ·simp [S.mask, hb]
theorem Qpo {o : AOp} {x : Opnd} (h : x ∈ o.k.opnds) : x.inn o.reads := by
 cases x <;> simp only [Opnd.inn, AOp.reads, List.mem_filterMap]
 ·exact ⟨_, h, rfl⟩
 ·exact ⟨_, h, rfl⟩
theorem Qrp {o : AOp} {t : Nat} (h : t ∈ o.takes) : t ∈ o.reads := by
 simp only [AOp.takes, List.mem_filterMap] at h
 obtain ⟨x, h1, h2⟩ := h
 cases x <;> simp at h2
 subst h2
 exact Qpo h1
theorem Qtj {o : AOp} {m' : S} {v : AV} (h : evalK call G (s.mask o.reads o.fp) o.k = some (v, m')) : evalK call G s o.k = some (v, s.merge o m') := by
 obtain ⟨s', h1, h2⟩ := (mask_vw s o.reads o.fp).evalK (fun x hx => Qpo hx) h
 have hkeep := Qti h
 have : s' = s.merge o m' := by
  have ht : s'.t = (s.merge o m').t := by
   funext t
   simp only [S.merge]
   by_cases htk : t ∈ o.takes
   ·simp only [htk, List.contains_iff_mem, if_true]
    exact (h2.t t (Qrp htk)).symm
   ·simp only [htk, List.contains_iff_mem, if_false]
    by_cases hr : t ∈ o.reads
    ·rw [← h2.t t hr, hkeep.t t htk]
     simp [S.mask, hr]
    ·exact h2.ft t hr
  have hb : ∀ b, s'.b b = (s.merge o m').b b ∧ s'.seen b = (s.merge o m').seen b := by
   intro b
   simp only [S.merge]
   by_cases hf : b ∈ o.fp
   ·rw [← (h2.b b hf).1, ← (h2.b b hf).2]
    cases hm : o.k.mods with
    | true => simp [hf]
    | false =>
     obtain ⟨k1, k2⟩ := hkeep.b hm
     simp only [Bool.false_and, Bool.false_eq_true, if_false, k1, k2]
     simp [S.mask, hf]
   ·simp only [hf, List.contains_iff_mem, Zw, and_false, if_false]
    exact h2.fb b hf
  have hb1 : s'.b = (s.merge o m').b := funext fun b => (hb b).1
  have hb2 : s'.seen = (s.merge o m').seen := funext fun b => (hb b).2
  cases s'
  simp only at ht hb1 hb2
  rw [ht, hb1, hb2]
 rw [← this]; exact h1
theorem Qro {o : AOp} (h : Qfh call G s o = some s') : Qio call G s o = some s' := by
 simp only [Qfh] at h
 obtain ⟨w, h1, h⟩ := Qa.1 h
 simp only [Qio, h1, Qb]
 cases w with
 | false => simpa using h
 | true =>
  simp only [if_true] at h ⊢
  obtain ⟨⟨v, m'⟩, h2, h⟩ := Qa.1 h
  rw [Qtj h2]
  exact h
def AOp.gt (o : AOp) : List Nat := match o.g with | some (t, _) => [t] | none => []
def AOp.wr (o : AOp) : List Nat := o.d.toList ++ o.takes
def apart (xs ys : List Nat) : Bool := xs.all fun x => !ys.contains x
theorem Qfo {xs ys : List Nat} (h : apart xs ys = true) : ∀ x, x ∈ xs → x ∉ ys := by
 intro x hx
 simp only [apart, List.all_eq_true] at h
 simpa using h x hx
def comm (x y : AOp) : Bool := apart x.wr (y.reads ++ y.gt ++ y.wr) && apart y.wr (x.reads ++ x.gt) && (!(x.k.mods || y.k.mods) || apart x.fp y.fp)
def eff (call : Call) (G : Nat → List AV) (s : S) (o : AOp) : Option (Option (AV × S)) :=
 bnd (Qah s o.g) fun w => if w then bnd (evalK call G (s.mask o.reads o.fp) o.k) fun r => some (some r) else some none
def done (s : S) (o : AOp) : Option (AV × S) → S
 | some r => (s.merge o r.2).put o.d r.1
 | none => s.put o.d (.tup [])
theorem Qlg (s : S) (o : AOp) : Qfh call G s o = bnd (eff call G s o) fun r => some (done s o r) := by
 simp only [Qfh, eff, Qva]
 congr 1
 funext w
 cases w
 ·simp [done]
 ·simp only [if_true, Qva]
  rfl
theorem put_t (s : S) (d : Option Nat) (v : AV) (t : Nat) : (s.put d v).t t = if d = some t then v else s.t t := by
 cases d with
 | none => simp [S.put]
 | some d =>
  simp only [S.put, Qae, Zi]
  by_cases h : t = d
  ·simp [h]
  ·simp [h, Ne.symm h]
theorem Qyv (s : S) (d : Option Nat) (v : AV) : (s.put d v).b = s.b ∧ (s.put d v).seen = s.seen := by cases d <;> exact ⟨rfl, rfl⟩
def dval : Option (AV × S) → AV
 | some r => r.1
 | none => .tup []
theorem Qpd (s : S) (o : AOp) (r : Option (AV × S)) (t : Nat) : (done s o r).t t = if o.d = some t then dval r else (match r with | some r => if o.takes.contains t then r.2.t t else s.t t | none => s.t t) := by
 cases r with
 | none => simp only [done, put_t, dval]
 | some r => simp only [done, put_t, dval, S.merge]
theorem Qgx (s : S) (o : AOp) (r : Option (AV × S)) (b : Nat) : (done s o r).b b = (match r with | some r => if o.k.mods && o.fp.contains b then r.2.b b else s.b b | none => s.b b) ∧ (done s o r).seen b = (match r with | some r => if o.k.mods && o.fp.contains b then r.2.seen b else s.seen b | none => s.seen b) := by
 cases r with
 | none => exact ⟨by simp only [done, (Qyv _ _ _).1], by simp only [done, (Qyv _ _ _).2]⟩
 | some r => exact ⟨by simp only [done, (Qyv _ _ _).1, S.merge], by simp only [done, (Qyv _ _ _).2, S.merge]⟩
theorem Qdu {o : AOp} {t : Nat} (h : t ∉ o.wr) (s : S) (r : Option (AV × S)) : (done s o r).t t = s.t t := by
 rw [Qpd]
 simp only [AOp.wr, Zu, Option.mem_toList] at h
 have h1 : o.d ≠ some t := fun e => h (.inl e)
 have h2 : t ∉ o.takes := fun e => h (.inr e)
 rw [if_neg h1]
 cases r <;> simp [h2]
theorem Qbl {o : AOp} {b : Nat} (h : o.k.mods = false ∨ b ∉ o.fp) (s : S) (r : Option (AV × S)) : (done s o r).b b = s.b b ∧ (done s o r).seen b = s.seen b := by
 obtain ⟨h1, h2⟩ := Qgx s o r b
 rw [h1, h2]
 cases r with
 | none => exact ⟨rfl, rfl⟩
 | some r => rcases h with h | h <;> simp [h]
theorem Qsi {s1 s2 : S} {o : AOp} (ht : ∀ t, t ∈ o.reads ++ o.gt → s1.t t = s2.t t) (hb : ∀ b, b ∈ o.fp → s1.b b = s2.b b ∧ s1.seen b = s2.seen b) : eff call G s1 o = eff call G s2 o := by
 have hm : s1.mask o.reads o.fp = s2.mask o.reads o.fp := by
  have e1 : (s1.mask o.reads o.fp).t = (s2.mask o.reads o.fp).t := by
   funext t
   simp only [S.mask]
   split
   ·rename_i h; exact ht t (by simp at h ⊢; exact .inl h)
   ·rfl
  have e2 : (s1.mask o.reads o.fp).b = (s2.mask o.reads o.fp).b := by
   funext b
   simp only [S.mask]
   split
   ·rename_i h; exact (hb b (by simpa using h)).1
   ·rfl
  have e3 : (s1.mask o.reads o.fp).seen = (s2.mask o.reads o.fp).seen := by
   funext b
   simp only [S.mask]
   split
   ·rename_i h; exact (hb b (by simpa using h)).2
   ·rfl
  simp only [S.mask] at e1 e2 e3 ⊢
  rw [e1, e2, e3]
 have hw : Qah s1 o.g = Qah s2 o.g := by
  cases hg : o.g with
  | none => rfl
  | some x =>
   obtain ⟨t, want⟩ := x
   simp only [Qah]
   rw [ht t (by simp [AOp.gt, hg])]
 simp only [eff, hm, hw]
theorem Qve {x y : AOp} {s s1 s2 : S} (hc : comm x y = true) (h1 : Qfh call G s x = some s1) (h2 : Qfh call G s1 y = some s2) :
  ∃ s1', Qfh call G s y = some s1' ∧ Qfh call G s1' x = some s2 := by
 simp only [comm, Zw, Bool.or_eq_true, Bool.not_eq_true', Bool.or_eq_false_iff] at hc
 obtain ⟨⟨c1, c2⟩, c3⟩ := hc
 have d1 := Qfo c1
 have d2 := Qfo c2
 have d3 : ∀ b, (x.k.mods = false ∨ b ∉ x.fp) ∨ b ∉ y.fp := by
  intro b
  rcases c3 with ⟨c3, _⟩ | c3
  ·exact .inl (.inl c3)
  ·by_cases hb : b ∈ x.fp
   ·exact .inr (Qfo c3 b hb)
   ·exact .inl (.inr hb)
 have d4 : ∀ b, (y.k.mods = false ∨ b ∉ y.fp) ∨ b ∉ x.fp := by
  intro b
  rcases c3 with ⟨_, c3⟩ | c3
  ·exact .inl (.inl c3)
  ·by_cases hb : b ∈ x.fp
   ·exact .inl (.inr (Qfo c3 b hb))
   ·exact .inr hb
 rw [Qlg] at h1 h2
 obtain ⟨r, e1, h1⟩ := Qa.1 h1
 obtain ⟨q, e2, h2⟩ := Qa.1 h2
 injection h1 with h1
 injection h2 with h2
 subst h1 h2
 have e2' : eff call G s y = some q := by
  rw [← e2]
  refine Qsi (fun t ht => ?_) (fun b hb => ?_)
  ·refine (Qdu (fun hm => d1 t hm ?_) s r).symm
   simp only [Zu] at ht ⊢
   rcases ht with ht | ht
   ·exact .inl (.inl ht)
   ·exact .inl (.inr ht)
  ·have := Qbl (o := x) (b := b) ((d3 b).resolve_right (by simpa using hb)) s r
   exact ⟨this.1.symm, this.2.symm⟩
 have e1' : eff call G (done s y q) x = some r := by
  rw [← e1]
  refine Qsi (fun t ht => ?_) (fun b hb => ?_)
  ·exact Qdu (fun hm => d2 t hm ht) s q
  ·exact Qbl (o := y) (b := b) ((d4 b).resolve_right (by simpa using hb)) s q
 refine ⟨done s y q, by rw [Qlg, e2']; rfl, ?_⟩
 rw [Qlg, e1']
 simp only [Qb, Zi]
 have ht : (done (done s y q) x r).t = (done (done s x r) y q).t := by
  funext t
  by_cases hx : t ∈ x.wr
  ·have hy : t ∉ y.wr := fun hm => d1 t hx (by simp only [Zu]; exact .inr hm)
   rw [Qdu hy, Qpd _ x, Qpd s x, Qdu hy]
  ·rw [Qdu hx, Qpd s y, Qpd _ y, Qdu hx]
 have hb : ∀ b, (done (done s y q) x r).b b = (done (done s x r) y q).b b ∧ (done (done s y q) x r).seen b = (done (done s x r) y q).seen b := by
  intro b
  by_cases hx : x.k.mods = false ∨ b ∉ x.fp
  ·rw [(Qbl hx _ _).1, (Qbl hx _ _).2, (Qgx _ y _ _).1, (Qgx _ y _ _).2, (Qgx _ y _ _).1, (Qgx _ y _ _).2, (Qbl hx _ _).1, (Qbl hx _ _).2]
   exact ⟨rfl, rfl⟩
  ·have hy : y.k.mods = false ∨ b ∉ y.fp := by
    rcases d3 b with h | h
    ·exact absurd h hx
    ·exact .inr h
   rw [(Qbl hy _ _).1, (Qbl hy _ _).2, (Qgx _ x _ _).1, (Qgx _ x _ _).2, (Qgx _ x _ _).1, (Qgx _ x _ _).2, (Qbl hy _ _).1, (Qbl hy _ _).2]
   exact ⟨rfl, rfl⟩
 have hb1 : (done (done s y q) x r).b = (done (done s x r) y q).b := funext fun b => (hb b).1
 have hb2 : (done (done s y q) x r).seen = (done (done s x r) y q).seen := funext fun b => (hb b).2
 generalize done (done s y q) x r = u1 at *
 generalize done (done s x r) y q = u2 at *
 cases u1
 cases u2
 simp only at ht hb1 hb2
 rw [ht, hb1, hb2]
theorem Qps : ∀ {xs ys : List AOp} {y : AOp} {s s' : S}, (∀ x, x ∈ xs → comm x y = true) → opsD call G (xs ++ y :: ys) s = some s' → ∃ s1, Qfh call G s y = some s1 ∧ opsD call G (xs ++ ys) s1 = some s'
 | [], ys, y, s, s', _, h => by
  simp only [List.nil_append, opsD] at h ⊢
  obtain ⟨s1, h1, h2⟩ := Qa.1 h
  exact ⟨s1, h1, h2⟩
 | x :: xs, ys, y, s, s', hc, h => by
  simp only [List.cons_append, opsD] at h ⊢
  obtain ⟨s1, h1, h2⟩ := Qa.1 h
  obtain ⟨s2, h3, h4⟩ := Qps (fun z hz => hc z (List.mem_cons_of_mem _ hz)) h2
  obtain ⟨s1', h5, h6⟩ := Qve (hc x (by simp)) h1 h3
  exact ⟨s1', h5, by rw [h6]; exact h4⟩
end
end Go.Vs
namespace Go.Vs
open Go Go.RowKit
section
variable {C : Ctx} {e : Env} {s s1 s2 sf : S} {a : Act} {w w' : World} {call : Call} {ops : Array Oper} {ps : List AOp} {n : Nat} {Q : Exit → Act → World → Prop}
def Qmn (C : Ctx) (n : Nat) (ops : Array Oper) : List AOp → List Oper → Bool
 | [], [] => true
 | p :: ps, o :: os => okOp C n ops p o && Qmn C n ops ps os
 | _, _ => false
theorem Qmo : ∀ {ps : List AOp} {os : List Oper}, Qmn C n ops ps os = true → ps.length = os.length ∧ ∀ (i : Nat) (p : AOp), ps[i]? = some p → ∃ o, os[i]? = some o ∧ okOp C n ops p o = true
 | [], [], _ => ⟨rfl, by simp⟩
 | [], _ :: _, h => by simp [Qmn] at h
 | _ :: _, [], h => by simp [Qmn] at h
 | p :: ps, o :: os, h => by
  simp only [Qmn, Zw] at h
  obtain ⟨h1, h2⟩ := Qmo h.2
  refine ⟨by simp [h1], fun i q hq => ?_⟩
  cases i with
  | zero => simp at hq; subst hq; exact ⟨o, rfl, h.1⟩
  | succ i => simpa using h2 i q (by simpa using hq)
theorem Qiz (hc : Qdj C call) (hG : GE C e) : ∀ {qs : List AOp} {k : Nat} {s : S} {a : Act} {w : World}, (∀ (j : Nat) (p : AOp), qs[j]? = some p → ∃ o, ops[k + j]? = some o ∧ okOp C e.n ops p o = true) →
  opsA call C.G qs s = some sf → RelY C e s a w → (∀ a w, RelY C e sf a w → Q .normal a w) → wpOps C.P ops Q (List.range' k qs.length) a w
 | [], k, s, a, w, _, hev, hr, hQ => by
  simp only [opsA, Zi] at hev
  subst hev
  simpa [wpOps] using hQ a w hr
 | p :: qs, k, s, a, w, hok, hev, hr, hQ => by
  simp only [opsA] at hev
  obtain ⟨s1, h1, h2⟩ := Qa.1 hev
  obtain ⟨o, ho, hop⟩ := hok 0 p rfl
  rw [Zc, List.range'_succ, wpOps_cons]
  refine Qbt hc hG ho hop hr h1 fun a' w' hr' => ?_
  exact Qiz hc hG (fun j q hq => by
   obtain ⟨o', h3, h4⟩ := hok (j + 1) q (by simpa using hq)
   exact ⟨o', by rw [← h3]; congr 1; omega, h4⟩) h2 hr' hQ
inductive Reach (ops : Array Oper) : Nat → Nat → Prop
 | one {j : Nat} {o : Oper} {ed : Edge} (h1 : ops[j]? = some o) (h2 : ed ∈ o.after) (h3 : Region.binds .any ed = true) : Reach ops j ed.on
 | step {j i : Nat} {o : Oper} {ed : Edge} (h1 : ops[j]? = some o) (h2 : ed ∈ o.after) (h3 : Region.binds .any ed = true) (h4 : Reach ops ed.on i) : Reach ops j i
def Qzo (ops : Array Oper) (listed : Array Bool) : Prop := ∀ (k : Nat) (o : Oper), ops[k]? = some o → listed.getD k true = true → ∀ ed ∈ o.after, Region.binds .any ed = true → listed.getD ed.on false = true
theorem Qpv {listed : Array Bool} (hl : Qzo ops listed) {j i : Nat} (h : Reach ops j i) : (∀ (o : Oper), ops[j]? = some o → ∀ ed ∈ o.after, Region.binds .any ed = true → listed.getD ed.on false = true) → listed.getD i false = true := by
 induction h with
 | one h1 h2 h3 => intro hj; exact hj _ h1 _ h2 h3
 | step h1 h2 h3 h4 ih =>
  intro hj
  refine ih fun o' ho' => ?_
  have := hj _ h1 _ h2 h3
  refine hl _ o' ho' ?_
  rename_i j i o ed
  rw [Array.getD_eq_getD_getElem?] at this ⊢
  cases hh : listed[ed.on]? with
  | none => rfl
  | some b => rw [hh] at this; simpa using this
def Qsb (o : Oper) : List Nat := (o.after.toList.filter (Region.binds .any)).map (·.on)
def join (xs ys : List Nat) : List Nat := ys.foldl (fun l y => if l.contains y then l else y :: l) xs
theorem Qsp {x : Nat} : ∀ {ys xs : List Nat}, x ∈ join xs ys → x ∈ xs ∨ x ∈ ys
 | [], xs, h => .inl h
 | y :: ys, xs, h => by
  rcases Qsp (ys := ys) (xs := if xs.contains y then xs else y :: xs) h with h1 | h1
  ·split at h1
   ·exact .inl h1
   ·rcases List.mem_cons.1 h1 with rfl | h1
    ·exact .inr (by simp)
    ·exact .inl h1
  ·exact .inr (by simp [h1])
def Qup (acc : List (List Nat)) : List Nat → List Nat
 | [] => []
 | i :: is => join (Qup acc is) (i :: acc.getD i [])
def ancs : List Oper → List (List Nat) → List (List Nat)
 | [], acc => acc
 | o :: os, acc => ancs os (acc ++ [Qup acc (Qsb o)])
theorem Qos {acc : List (List Nat)} {x : Nat} : ∀ {is : List Nat}, x ∈ Qup acc is → ∃ i ∈ is, x = i ∨ x ∈ acc.getD i []
 | [], h => by simp [Qup] at h
 | i :: is, h => by
  rcases Qsp h with h1 | h1
  ·obtain ⟨j, hj, h2⟩ := Qos h1
   exact ⟨j, List.mem_cons_of_mem _ hj, h2⟩
  ·exact ⟨i, by simp, List.mem_cons.1 h1⟩
theorem Quq : ∀ {os : List Oper} {pre : List Oper} {acc : List (List Nat)}, ops.toList = pre ++ os → acc.length = pre.length → (∀ (j : Nat) (l : List Nat), acc[j]? = some l → ∀ i ∈ l, Reach ops j i) →
  ∀ (j : Nat) (l : List Nat), (ancs os acc)[j]? = some l → ∀ i ∈ l, Reach ops j i
 | [], pre, acc, _, _, h => h
 | o :: os, pre, acc, he, hl, h => by
  refine Quq (os := os) (pre := pre ++ [o]) (acc := acc ++ [Qup acc (Qsb o)]) (by simp [he]) (by simp [hl]) fun j l hj i hi => ?_
  by_cases hlt : j < acc.length
  ·rw [List.getElem?_append_left hlt] at hj
   exact h j l hj i hi
  ·rw [List.getElem?_append_right (by omega)] at hj
   have hj0 : j = acc.length := by
    have := (List.getElem?_eq_some_iff.1 hj).1
    simp at this; omega
   subst hj0
   simp at hj
   subst hj
   have ho : ops[acc.length]? = some o := by
    rw [← Array.getElem?_toList, he, hl]; simp
   obtain ⟨k, hk, hx⟩ := Qos hi
   simp only [Qsb, List.mem_map, List.mem_filter] at hk
   obtain ⟨ed, ⟨h1, h2⟩, rfl⟩ := hk
   rcases hx with rfl | hx
   ·exact .one ho (by simpa using h1) h2
   ·refine .step ho (by simpa using h1) h2 ?_
    rw [List.getD_eq_getElem?_getD] at hx
    cases hg : acc[ed.on]? with
    | none => rw [hg] at hx; simp at hx
    | some l => rw [hg] at hx; exact h _ _ hg _ (by simpa using hx)
def allLt (f : Nat → Bool) : Nat → Bool
 | 0 => true
 | k + 1 => f k && allLt f k
def Qii (tab : List (List Nat)) : List AOp → List AOp → Nat → Bool
 | _, [], _ => true
 | before, y :: ys, j => pairsOk tab before y j 0 && Qii tab (before ++ [y]) ys (j + 1)
where
 pairsOk (tab : List (List Nat)) : List AOp → AOp → Nat → Nat → Bool
  | [], _, _, _ => true
  | x :: xs, y, j, i => (comm x y || (tab.getD j []).contains i) && pairsOk tab xs y j (i + 1)
theorem Qiy {tab : List (List Nat)} {y : AOp} {j : Nat} : ∀ {xs : List AOp} {i0 : Nat}, Qii.pairsOk tab xs y j i0 = true → ∀ (i : Nat) (x : AOp), xs[i]? = some x → comm x y = true ∨ i0 + i ∈ tab.getD j []
 | [], i0, _, i, x, h => by simp at h
 | x0 :: xs, i0, h, i, x, hx => by
  simp only [Qii.pairsOk, Zw, Bool.or_eq_true] at h
  cases i with
  | zero =>
   simp at hx
   subst hx
   rcases h.1 with h1 | h1
   ·exact .inl h1
   ·exact .inr (by simpa using h1)
  | succ i =>
   have := Qiy h.2 i x (by simpa using hx)
   rw [show i0 + (i + 1) = i0 + 1 + i by omega]; exact this
theorem Qiw {tab : List (List Nat)} : ∀ {ys before : List AOp} {j0 : Nat}, before.length = j0 → Qii tab before ys j0 = true → ∀ (i j : Nat) (x y : AOp), (before ++ ys)[i]? = some x → (before ++ ys)[j]? = some y → i < j → j0 ≤ j → comm x y = true ∨ i ∈ tab.getD j []
 | [], before, j0, hl, _, i, j, x, y, _, hy, _, hj => by
  have := (List.getElem?_eq_some_iff.1 hy).1
  simp at this; omega
 | y0 :: ys, before, j0, hl, h, i, j, x, y, hx, hy, hij, hj => by
  simp only [Qii, Zw] at h
  by_cases he : j = j0
  ·subst he
   rw [List.getElem?_append_right (by omega), hl] at hy
   simp at hy
   subst hy
   rw [List.getElem?_append_left (by omega)] at hx
   simpa using Qiy h.1 i x hx
  ·exact Qiw (before := before ++ [y0]) (by simp [hl]) h.2 i j x y (by simpa using hx) (by simpa using hy) hij (by omega)
def Qgz : List Oper → Nat → Bool
 | [], _ => true
 | o :: os, j => (Qsb o).all (fun i => decide (i < j)) && Qgz os (j + 1)
theorem Qgc : ∀ {os : List Oper} {j0 : Nat}, Qgz os j0 = true → ∀ (j : Nat) (o : Oper), os[j]? = some o → ∀ ed ∈ o.after, Region.binds .any ed = true → ed.on < j0 + j
 | [], j0, _, j, o, h => by simp at h
 | o0 :: os, j0, h, j, o, ho => by
  simp only [Qgz, Zw, List.all_eq_true, Ze] at h
  cases j with
  | zero =>
   simp at ho
   subst ho
   intro ed h1 h2
   exact h.1 _ (List.mem_map.2 ⟨ed, List.mem_filter.2 ⟨by simpa using h1, h2⟩, rfl⟩)
  | succ j =>
   intro ed h1 h2
   have := Qgc h.2 j o (by simpa using ho) ed h1 h2
   omega
def rem (ops : Array Oper) (listed : Array Bool) : List Nat := (List.range ops.size).filter fun i => !listed.getD i true
theorem Qvq {i : Nat} : ∀ {l1 l2 : List Nat}, (l1 ++ i :: l2).Nodup → (l1 ++ i :: l2).filter (fun j => j != i) = l1 ++ l2 := by
 intro l1 l2 h
 have h1 : i ∉ l1 := by
  intro hm
  rw [List.nodup_append] at h
  exact h.2.2 i hm i (by simp) rfl
 have h2 : i ∉ l2 := by
  rw [List.nodup_append] at h
  exact (List.nodup_cons.1 h.2.1).1
 have e1 : l1.filter (fun j => j != i) = l1 := List.filter_eq_self.2 fun a ha => by simpa using fun e => h1 (by rw [← e]; exact ha)
 have e2 : l2.filter (fun j => j != i) = l2 := List.filter_eq_self.2 fun a ha => by simpa using fun e => h2 (by rw [← e]; exact ha)
 rw [List.filter_append, List.filter_cons]
 simp [e1, e2]
theorem rem_set {listed : Array Bool} {i : Nat} : rem ops (listed.setIfInBounds i true) = (rem ops listed).filter fun j => j != i := by
 simp only [rem, List.filter_filter]
 congr 1
 funext j
 by_cases h : j = i
 ·subst h
  have : (listed.setIfInBounds j true).getD j true = true := by
   rw [Array.getD_eq_getD_getElem?, Array.getElem?_setIfInBounds]
   simp
   split <;> rfl
  simp [this]
 ·rw [getD_set_ne _ (Ne.symm h)]
  have : (j != i) = true := by simpa using h
  rw [this, Bool.true_and]
structure DrawOk (C : Ctx) (n : Nat) (ops : Array Oper) (ps : List AOp) : Prop where
 len : ps.length = ops.size
 each : ∀ (i : Nat) (p : AOp), ps[i]? = some p → ∃ o, ops[i]? = some o ∧ okOp C n ops p o = true
 back : ∀ (j : Nat) (o : Oper), ops[j]? = some o → ∀ ed ∈ o.after, Region.binds .any ed = true → ed.on < j
 pairs : ∀ (i j : Nat) (x y : AOp), ps[i]? = some x → ps[j]? = some y → i < j → comm x y = true ∨ Reach ops j i
theorem Qtv (hc : Qdj C call) (hG : GE C e) (hd : DrawOk C e.n ops ps) (hQ : ∀ a w, RelY C e sf a w → Q .normal a w) : ∀ (fuel : Nat) {listed : Array Bool} {s : S} {a : Act} {w : World}, (rem ops listed).length = fuel → listed.size = ops.size → Qzo ops listed →
  opsD call C.G ((rem ops listed).filterMap (ps[·]?)) s = some sf → RelY C e s a w → wpAny C.P .any ops Q fuel listed a w := by
 have hready : ∀ {listed : Array Bool} {i : Nat}, i ∈ Region.ready .any ops listed → i ∈ rem ops listed := by
  intro listed i hi
  obtain ⟨h1, o, h2, _⟩ := mem_ready.1 hi
  simp only [rem, List.mem_filter, List.mem_range, Bool.not_eq_true']
  exact ⟨(Array.getElem?_eq_some_iff.1 h2).1, h1⟩
 intro fuel
 induction fuel with
 | zero =>
  intro listed s a w hl hsz hls hev hr
  have h0 : rem ops listed = [] := List.eq_nil_of_length_eq_zero hl
  rw [h0] at hev
  simp only [List.filterMap_nil, opsD, Zi] at hev
  subst hev
  refine ⟨?_, hQ a w hr⟩
  cases hrd : Region.ready .any ops listed with
  | nil => rfl
  | cons i is =>
   have := hready (listed := listed) (i := i) (by rw [hrd]; simp)
   rw [h0] at this; simp at this
 | succ fuel ih =>
  intro listed s a w hl hsz hls hev hr
  refine ⟨fun hrd => ?_, fun i hi => ?_⟩
  ·-- the least that is left is ready
   exfalso
   cases hrem : rem ops listed with
   | nil => rw [hrem] at hl; simp at hl
   | cons j js =>
    have hj : j ∈ rem ops listed := by rw [hrem]; simp
    have hj' := hj
    simp only [rem, List.mem_filter, List.mem_range, Bool.not_eq_true'] at hj'
    obtain ⟨j1, j2⟩ := hj'
    have hmin : ∀ k, k ∈ rem ops listed → j ≤ k := by
     have hs : (rem ops listed).Pairwise (· < ·) := List.Pairwise.filter _ List.pairwise_lt_range
     rw [hrem] at hs ⊢
     intro k hk
     rcases List.mem_cons.1 hk with rfl | hk
     ·exact Nat.le_refl _
     ·exact Nat.le_of_lt ((List.pairwise_cons.1 hs).1 k hk)
    have : j ∈ Region.ready .any ops listed := by
     refine mem_ready.2 ⟨j2, ops[j], Array.getElem?_eq_getElem j1, fun ed h1 h2 => ?_⟩
     have hlt := hd.back j ops[j] (Array.getElem?_eq_getElem j1) ed h1 h2
     rw [Array.getD_eq_getD_getElem?]
     have hin : ed.on < listed.size := by omega
     rw [Array.getElem?_eq_getElem hin]
     cases hb : listed[ed.on] with
     | true => rfl
     | false =>
      have : ed.on ∈ rem ops listed := by
       simp only [rem, List.mem_filter, List.mem_range, Bool.not_eq_true']
       refine ⟨by omega, ?_⟩
       rw [Array.getD_eq_getD_getElem?, Array.getElem?_eq_getElem hin, hb]; rfl
      have := hmin _ this
      omega
    rw [hrd] at this; simp at this
  ·have him := hready hi
   obtain ⟨i1, o, i2, i3⟩ := mem_ready.1 hi
   obtain ⟨l1, l2, hsplit⟩ := List.append_of_mem him
   have hilt : i < ps.length := by rw [hd.len]; exact (Array.getElem?_eq_some_iff.1 i2).1
   have hp : ps[i]? = some ps[i] := List.getElem?_eq_getElem hilt
   have hs : (rem ops listed).Pairwise (· < ·) := List.Pairwise.filter _ List.pairwise_lt_range
   have hnd : (rem ops listed).Nodup := hs.imp fun h => Nat.ne_of_lt h
   rw [hsplit, List.filterMap_append, List.filterMap_cons, hp] at hev
   obtain ⟨s1, h1, h2⟩ := Qps (fun x hx => by
    obtain ⟨k, hk1, hk2⟩ := List.mem_filterMap.1 hx
    have hlt : k < i := by
     rw [hsplit, List.pairwise_append] at hs
     exact hs.2.2 k hk1 i (by simp)
    rcases hd.pairs k i x ps[i] hk2 hp hlt with h3 | h3
    ·exact h3
    ·exfalso
     have hkl := Qpv hls h3 (fun o' ho' => by
      rw [i2] at ho'
      injection ho' with ho'
      subst ho'
      exact i3)
     have hkr : k ∈ rem ops listed := by rw [hsplit]; simp [hk1]
     simp only [rem, List.mem_filter, Bool.not_eq_true'] at hkr
     have hkr := hkr.2
     rw [Array.getD_eq_getD_getElem?] at hkl hkr
     cases hh : listed[k]? with
     | none => rw [hh] at hkr; cases hkr
     | some b => rw [hh] at hkl hkr; simp at hkl hkr; rw [hkl] at hkr; cases hkr) hev
   obtain ⟨o', ho', hop⟩ := hd.each i ps[i] hp
   refine Qbt hc hG ho' hop hr (Qro h1) fun a' w' hr' => ?_
   have hrem : rem ops (listed.setIfInBounds i true) = l1 ++ l2 := by
    rw [rem_set, hsplit]
    exact Qvq (hsplit ▸ hnd)
   refine ih ?_ (by simp [hsz]) ?_ (by rw [hrem, List.filterMap_append]; exact h2) hr'
   ·rw [hrem]
    rw [hsplit] at hl
    simp at hl ⊢; omega
   ·intro k ok hok hkl ed h3 h4
    by_cases hki : k = i
    ·subst hki
     rw [hok] at i2
     injection i2 with i2
     subst i2
     exact getD_set_true (i3 ed h3 h4)
    ·rw [getD_set_ne _ (Ne.symm hki)] at hkl
     exact getD_set_true (hls k ok hok hkl ed h3 h4)
theorem Qgd {α : Type} : ∀ {ps pre : List α}, (List.range' pre.length ps.length).filterMap ((pre ++ ps)[·]?) = ps
 | [], pre => by simp
 | p :: ps, pre => by
  rw [Zc, List.range'_succ, List.filterMap_cons]
  have h0 : (pre ++ p :: ps)[pre.length]? = some p := by simp
  have := Qgd (ps := ps) (pre := pre ++ [p])
  simp only [Za, Zc, Zn, List.append_assoc, List.singleton_append] at this
  simp only [h0, this]
theorem RelY.drawn (h : RelY C e s a w) (n : Nat) : RelY C e s a { w with drawn := n } := by
 obtain ⟨σ, bm, h, ha, hN⟩ := h
 refine ⟨σ, bm, h.drawn n, fun es hes => ?_, hN⟩
 have hA := ha es hes
 exact hA.step (fun id B hB => ⟨rfl, rfl, (hA.blk hB).2.1⟩) (Mem.le_refl _) rfl (fun id B hB hp => Qbo h (fun _ _ => rfl) hp)
def Qoc (C : Ctx) (n : Nat) (draw : Bool) (ps : List AOp) (ops : Array Oper) : Bool :=
 Qmn C n ops ps ops.toList && (!draw || (Qgz ops.toList 0 && Qii (ancs ops.toList []) [] ps 0))
theorem Qpx (hm : C.P.follows .mixedOrders = true) (hc : Qdj C call) (hG : GE C e) {id : Nat} {draw : Bool} (hok : Qoc C e.n draw ps ops = true)
  (hev : (if draw then opsD call C.G ps s else opsA call C.G ps s) = some sf) (hr : RelY C e s a w) (hQ : ∀ a w, RelY C e sf a w → Q .normal a w) : (Code.region id ops draw).wp C.P Q a w := by
 simp only [Qoc, Zw, Bool.or_eq_true, Bool.not_eq_true'] at hok
 obtain ⟨hl, hd⟩ := hok
 obtain ⟨l1, l2⟩ := Qmo hl
 have l1' : ps.length = ops.size := by simpa using l1
 have l2' : ∀ (i : Nat) (p : AOp), ps[i]? = some p → ∃ o, ops[i]? = some o ∧ okOp C e.n ops p o = true := fun i p hp => by
  obtain ⟨o, h1, h2⟩ := l2 i p hp
  exact ⟨o, by simpa using h1, h2⟩
 cases draw with
 | false =>
  simp only [Bool.false_eq_true, if_false] at hev
  refine wp_region ?_
  rw [List.range_eq_range', ← l1']
  exact Qiz hc hG (fun j p hp => by
   obtain ⟨o, h1, h2⟩ := l2' j p hp
   exact ⟨o, by simpa using h1, h2⟩) hev hr hQ
 | true =>
  simp only [if_true] at hev
  rcases hd with hd | ⟨hd1, hd2⟩
  ·cases hd
  ·refine wp_region_any hm ?_
   have hrem : rem ops (Array.replicate ops.size false) = List.range ops.size := by
    refine List.filter_eq_self.2 fun i hi => ?_
    simp only [List.mem_range] at hi
    rw [Array.getD_eq_getD_getElem?]
    simp [hi]
   have hmap : (List.range ops.size).filterMap (ps[·]?) = ps := by
    rw [← l1', List.range_eq_range']
    exact Qgd (pre := []) (ps := ps)
   refine Qtv hc hG (ps := ps) (sf := sf) ⟨l1', l2', fun j o ho ed h1 h2 => ?_, fun i j x y hx hy hij => ?_⟩ hQ ops.size (by rw [hrem]; simp) (by simp) (fun k o ho hk => ?_) (by rw [hrem, hmap]; exact hev) (RelY.drawn hr _)
   ·have := Qgc hd1 j o (by simpa using ho) ed h1 h2
    omega
   ·rcases Qiw (before := []) (j0 := 0) rfl hd2 i j x y (by simpa using hx) (by simpa using hy) hij (by omega) with h3 | h3
    ·exact .inl h3
    ·right
     rw [List.getD_eq_getElem?_getD] at h3
     cases hg : (ancs ops.toList [])[j]? with
     | none => rw [hg] at h3; simp at h3
     | some l => rw [hg] at h3; exact Quq (os := ops.toList) (pre := []) (acc := []) (by simp) rfl (by simp) j l hg i (by simpa using h3)
   ·exfalso
    have hlt := (Array.getElem?_eq_some_iff.1 ho).1
    rw [Array.getD_eq_getD_getElem?] at hk
    simp [hlt] at hk
def Qpw (ops : Array Oper) : Bool :=
 ops.size == 4 && Region.ready .any ops #[false, false, false, false] == [0] && Region.ready .any ops #[true, false, false, false] == [1, 2] && Region.ready .any ops #[true, true, false, false] == [2] &&
  Region.ready .any ops #[true, false, true, false] == [1] && Region.ready .any ops #[true, true, true, false] == [3] && Region.ready .any ops #[true, true, true, true] == []
def Qwe (C : Ctx) (n : Nat) (o : AOp) (ps qs : List AOp) (ops : Array Oper) : Bool :=
 Qpw ops && match ps, qs, ops.toList with
  | [x1, x2, x3], [y2, y1, y3], [o0, o1, o2, o3] => okOp C n ops o o0 && okOp C n ops x1 o1 && okOp C n ops x2 o2 && okOp C n ops x3 o3 && okOp C n ops y2 o2 && okOp C n ops y1 o1 && okOp C n ops y3 o3
  | _, _, _ => false
theorem Qtn (hm : C.P.follows .mixedOrders = true) (hc : Qdj C call) (hG : GE C e) {id : Nat} {o : AOp} {qs : List AOp} (hok : Qwe C e.n o ps qs ops = true)
  (h1 : opsA call C.G (o :: ps) s = some s1) (h2 : opsA call C.G (o :: qs) s = some s2) (hr : RelY C e s a w) (hQ1 : ∀ a w, RelY C e s1 a w → Q .normal a w) (hQ2 : ∀ a w, RelY C e s2 a w → Q .normal a w) : (Code.region id ops true).wp C.P Q a w := by
 simp only [Qwe, Zw] at hok
 obtain ⟨hrd, hok⟩ := hok
 simp only [Qpw, Zw, beq_iff_eq] at hrd
 obtain ⟨⟨⟨⟨⟨⟨hsz, r0⟩, r1⟩, r2⟩, r3⟩, r4⟩, r5⟩ := hrd
 split at hok
 rotate_left
 ·cases hok
 rename_i x1 x2 x3 y2 y1 y3 o0 o1 o2 o3 hops
 simp only [Zw] at hok
 obtain ⟨⟨⟨⟨⟨⟨k0, k1⟩, k2⟩, k3⟩, k4⟩, k5⟩, k6⟩ := hok
 have hget : ∀ i : Nat, ops[i]? = [o0, o1, o2, o3][i]? := fun i => by rw [← hops]; simp
 simp only [opsA] at h1 h2
 obtain ⟨sa, ha, h1⟩ := Qa.1 h1
 obtain ⟨sb, hb, h1⟩ := Qa.1 h1
 obtain ⟨sc, hcc, h1⟩ := Qa.1 h1
 obtain ⟨sd, hd, h1⟩ := Qa.1 h1
 injection h1 with h1
 subst h1
 obtain ⟨sa', ha', h2⟩ := Qa.1 h2
 rw [ha] at ha'
 injection ha' with ha'
 subst ha'
 obtain ⟨tb, hb', h2⟩ := Qa.1 h2
 obtain ⟨tc, hc', h2⟩ := Qa.1 h2
 obtain ⟨td, hd', h2⟩ := Qa.1 h2
 injection h2 with h2
 subst h2
 refine wp_region_any hm ?_
 rw [hsz, show Array.replicate 4 false = #[false, false, false, false] from rfl]
 refine ⟨fun h => (by rw [r0] at h; cases h), fun i hi => ?_⟩
 rw [r0] at hi
 obtain rfl : i = 0 := by simpa using hi
 refine Qbt hc hG (hget 0) k0 (RelY.drawn hr _) ha fun a1 w1 hr1 => ?_
 refine ⟨fun h => (by rw [show (#[false, false, false, false] : Array Bool).setIfInBounds 0 true = #[true, false, false, false] from rfl, r1] at h; cases h), fun i hi => ?_⟩
 rw [show (#[false, false, false, false] : Array Bool).setIfInBounds 0 true = #[true, false, false, false] from rfl] at hi ⊢
 rw [r1] at hi
 have hlast : ∀ {z : AOp} {sx sy : S} {a : Act} {w : World}, okOp C e.n ops z o3 = true → Qio call C.G sx z = some sy → RelY C e sx a w → (∀ a w, RelY C e sy a w → Q .normal a w) → wpAny C.P .any ops Q 1 #[true, true, true, false] a w := by
  intro z sx sy a w hz hst hr hQ
  refine ⟨fun h => (by rw [r4] at h; cases h), fun i hi => ?_⟩
  rw [r4] at hi
  obtain rfl : i = 3 := by simpa using hi
  refine Qbt hc hG (hget 3) hz hr hst fun a' w' hr' => ?_
  rw [show (#[true, true, true, false] : Array Bool).setIfInBounds 3 true = #[true, true, true, true] from rfl]
  exact ⟨r5, hQ a' w' hr'⟩
 have hi' : i = 1 ∨ i = 2 := by simpa using hi
 rcases hi' with rfl | rfl
 ·refine Qbt hc hG (hget 1) k1 hr1 hb fun a2 w2 hr2 => ?_
  rw [show (#[true, false, false, false] : Array Bool).setIfInBounds 1 true = #[true, true, false, false] from rfl]
  refine ⟨fun h => (by rw [r2] at h; cases h), fun i hi => ?_⟩
  rw [r2] at hi
  obtain rfl : i = 2 := by simpa using hi
  refine Qbt hc hG (hget 2) k2 hr2 hcc fun a3 w3 hr3 => ?_
  rw [show (#[true, true, false, false] : Array Bool).setIfInBounds 2 true = #[true, true, true, false] from rfl]
  exact hlast k3 hd hr3 hQ1
 ·refine Qbt hc hG (hget 2) k4 hr1 hb' fun a2 w2 hr2 => ?_
  rw [show (#[true, false, false, false] : Array Bool).setIfInBounds 2 true = #[true, false, true, false] from rfl]
  refine ⟨fun h => (by rw [r3] at h; cases h), fun i hi => ?_⟩
  rw [r3] at hi
  obtain rfl : i = 1 := by simpa using hi
  refine Qbt hc hG (hget 1) k5 hr2 hc' fun a3 w3 hr3 => ?_
  rw [show (#[true, false, true, false] : Array Bool).setIfInBounds 1 true = #[true, true, true, false] from rfl]
  exact hlast k6 hd' hr3 hQ2
end
end Go.Vs