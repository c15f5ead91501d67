/- Code, loops, functions: the whole plain machine tells truly what the machine does. -/
import Derived.Test.YthedbdlbibkpiaaGreatDoorVs22
import Derived.LoopN
set_option linter.unusedVariables false
namespace Go.Vs
open Go Go.RowKit

def exOf : Oc → Exit
  | .norm => .normal
  | .exit id => .exit id
  | .ret => .ret

def okCode (C : Ctx) (n : Nat) (lab : Nat → Code → Bool) : AC → Code → Bool
  | .skip, .skip => true
  | .region draw ps, .region _ ops draw' => draw == draw' && okRegion C n draw ps ops
  | .seq a b, .seq x y => okCode C n lab a x && okCode C n lab b y
  | .cond c a b, .cond c' x y => okO C c c' && okCode C n lab a x && okCode C n lab b y
  | .block id a, .block id' x => id == id' && okCode C n lab a x
  | .exit id, .exit id' => id == id'
  | .ret, .ret => true
  | .label g, c => lab g c
  | _, _ => false

def okLab (C : Ctx) (n : Nat) (F : Nat → Option Proc) : Nat → Nat → Code → Bool
  | 0, _, _ => false
  | d + 1, g, c =>
    match F g with
    | some p =>
      match p.kind with
      | .join => okCode C n (okLab C n F d) p.code c
      | .loop => match c with | .loop body => okCode C n (okLab C n F d) p.code body | _ => false
      | _ => false
    | none => false

section
variable {C : Ctx} {e : Env} {σ : Mem} {bm : Nat → Option Nat} {s s1 s2 sf : S} {a : Act} {w w' : World} {call : Call} {F : Nat → Option Proc} {Q : Exit → Act → World → Prop}

def LabOk (C : Ctx) (F : Nat → Option Proc) (call : Call) (n : Nat) (lab : Nat → Code → Bool) : Prop :=
  ∀ g c p tv bv o tv' bv', lab g c = true → F g = some p → call g tv bv = some (o, tv', bv') → p.kind = .join ∨ p.kind = .loop →
    ∀ (e : Env) (a : Act) (w : World) (Q : Exit → Act → World → Prop), e.n = n → GE C e → Rel C.fid e (mkS p.ins tv p.bins bv) a w → (∀ a' w', Rel C.fid e (mkS p.outs tv' p.bouts bv') a' w' → Q (exOf o) a' w') → c.wp C.P Q a w

theorem asT_map {f : Nat → AV} {j : Nat} : ∀ {is : List Nat}, asT is (is.map f) j = if j ∈ is then f j else .undef
  | [] => by simp [asT]
  | i :: is => by
    simp only [List.map_cons, asT, asT_map (is := is), List.mem_cons]
    by_cases h : j = i
    · simp [h]
    · simp [h]
theorem asB_of {j : Nat} : ∀ {is : List Nat} {bv : List BC}, boxesOf s is = some bv → asB is bv j = if j ∈ is then s.b j else none
  | [], bv, h => by
    simp only [boxesOf, Option.some.injEq] at h
    subst h
    simp [asB]
  | i :: is, bv, h => by
    simp only [boxesOf] at h
    obtain ⟨c, h1, h⟩ := bnd_is.1 h
    obtain ⟨r, h2, h⟩ := bnd_is.1 h
    injection h with h
    subst h
    simp only [asB, asB_of h2, List.mem_cons]
    by_cases hj : j = i
    · simp [hj, h1]
    · simp [hj]
theorem boxesOf_get : ∀ {is : List Nat} {bv : List BC}, boxesOf s is = some bv → is.length = bv.length ∧ (∀ (k i : Nat) (c : BC), is[k]? = some i → bv[k]? = some c → s.b i = some c)
  | [], bv, h => by
    simp only [boxesOf, Option.some.injEq] at h
    subst h
    simp
  | i :: is, bv, h => by
    simp only [boxesOf] at h
    obtain ⟨c, h1, h⟩ := bnd_is.1 h
    obtain ⟨r, h2, h⟩ := bnd_is.1 h
    injection h with h
    subst h
    obtain ⟨h3, h4⟩ := boxesOf_get h2
    refine ⟨by simp [h3], fun k j d hk hd => ?_⟩
    cases k with
    | zero => simp at hk hd; subst hk hd; exact h1
    | succ k => exact h4 k j d (by simpa using hk) (by simpa using hd)

theorem mkS_less {ins bins : List Nat} {bv : List BC} (hb : boxesOf s bins = some bv) (hi : ((ins.map s.t).all (AV.okIn bins)) = true) : Less s (mkS ins (ins.map s.t) bins bv) := by
  have ht : ∀ t, (mkS ins (ins.map s.t) bins bv).t t = if t ∈ ins then s.t t else .undef := fun t => asT_map
  have hbb : ∀ b, (mkS ins (ins.map s.t) bins bv).b b = if b ∈ bins then s.b b else none := fun b => asB_of hb
  have hsn : ∀ b, (mkS ins (ins.map s.t) bins bv).seen b = bins.contains b := fun b => rfl
  refine ⟨fun t => ?_, fun b => ?_, fun t b _ => ?_, fun b h => ?_, fun t b h => ?_⟩
  · rw [ht]
    split
    · exact .inl rfl
    · exact .inr (.inr rfl)
  · rw [hbb]
    split
    · exact .inl rfl
    · exact .inr rfl
  · rw [hbb]
    split
    · exact .inr rfl
    · exact .inl rfl
  · rw [hbb] at h
    rw [hsn]
    split at h
    · rename_i hm; simpa using hm
    · exact absurd rfl h
  · rw [ht] at h
    rw [hsn]
    split at h
    · rename_i hm
      rw [List.all_eq_true] at hi
      have := hi (s.t t) (List.mem_map_of_mem hm)
      revert this h
      cases s.t t <;> intro h this <;> first | (cases h; done) | skip
      all_goals (simp only [AV.ref, Option.some.injEq] at h; subst h; simpa [AV.okIn] using this)
    · cases h

theorem Rel.less (h : Rel C.fid e s a w) (hl : Less s s1) : Rel C.fid e s1 a w := by
  obtain ⟨σ, bm, h⟩ := h
  exact ⟨σ, _, h.less hl⟩

theorem code_sound (hm : C.P.follows .mixedOrders = true) (hc : CallOk C call) (hG : GE C e) {lab : Nat → Code → Bool} (hl : LabOk C F call e.n lab) : ∀ {ac : AC} {c : Code} {s s' : S} {o : Oc} {a : Act} {w : World} {Q : Exit → Act → World → Prop}, okCode C e.n lab ac c = true →
    evalC call F C.G ac s = some (o, s') → Rel C.fid e s a w → (∀ a' w', Rel C.fid e s' a' w' → Q (exOf o) a' w') → c.wp C.P Q a w
  | .skip, c, s, s', o, a, w, Q, hok, hev, hr, hQ => by
    cases c <;> simp only [okCode, Bool.false_eq_true] at hok
    simp only [evalC, Option.some.injEq, Prod.mk.injEq] at hev
    obtain ⟨rfl, rfl⟩ := hev
    exact wp_skip (hQ a w hr)
  | .region draw ps, c, s, s', o, a, w, Q, hok, hev, hr, hQ => by
    cases c <;> simp only [okCode, Bool.false_eq_true] at hok
    simp only [Bool.and_eq_true, beq_iff_eq] at hok
    obtain ⟨rfl, hok⟩ := hok
    simp only [evalC] at hev
    obtain ⟨s1, h1, h2⟩ := bnd_is.1 hev
    simp only [Option.some.injEq, Prod.mk.injEq] at h2
    obtain ⟨rfl, rfl⟩ := h2
    exact region_sound hm hc hG hok h1 hr hQ
  | .seq x y, c, s, s', o, a, w, Q, hok, hev, hr, hQ => by
    cases c <;> simp only [okCode, Bool.false_eq_true] at hok
    simp only [Bool.and_eq_true] at hok
    simp only [evalC] at hev
    obtain ⟨⟨o1, s1⟩, h1, h2⟩ := bnd_is.1 hev
    refine wp_seq (code_sound hm hc hG hl hok.1 h1 hr fun a' w' hr' => ?_)
    cases o1 with
    | norm => exact code_sound hm hc hG hl hok.2 h2 hr' hQ
    | exit id =>
      simp only [Option.some.injEq, Prod.mk.injEq] at h2
      obtain ⟨rfl, rfl⟩ := h2
      exact hQ a' w' hr'
    | ret =>
      simp only [Option.some.injEq, Prod.mk.injEq] at h2
      obtain ⟨rfl, rfl⟩ := h2
      exact hQ a' w' hr'
  | .cond x y z, c, s, s', o, a, w, Q, hok, hev, hr, hQ => by
    cases c <;> simp only [okCode, Bool.false_eq_true] at hok
    simp only [Bool.and_eq_true] at hok
    simp only [evalC] at hev
    split at hev
    rotate_left
    · cases hev
    rename_i t ht
    obtain ⟨σ, bm, h⟩ := hr
    have hrep := get_rep (hG.1.mono h.leσ) h hok.1.1
    rw [ht] at hrep
    refine wp_cond hrep ?_
    cases t
    · exact code_sound hm hc hG hl hok.2 hev ⟨σ, bm, h⟩ hQ
    · exact code_sound hm hc hG hl hok.1.2 hev ⟨σ, bm, h⟩ hQ
  | .block id x, c, s, s', o, a, w, Q, hok, hev, hr, hQ => by
    cases c <;> simp only [okCode, Bool.false_eq_true] at hok
    simp only [Bool.and_eq_true, beq_iff_eq] at hok
    obtain ⟨rfl, hok⟩ := hok
    simp only [evalC] at hev
    obtain ⟨⟨o1, s1⟩, h1, h2⟩ := bnd_is.1 hev
    simp only [Option.some.injEq] at h2
    have hs : s1 = s' := by
      cases o1 <;> simp only [Prod.mk.injEq] at h2 <;> exact h2.2
    subst hs
    refine wp_block (code_sound hm hc hG hl hok h1 hr fun a' w' hr' => ?_)
    have := hQ a' w' hr'
    cases o1 with
    | norm =>
      simp only [Prod.mk.injEq, and_true] at h2
      rw [← h2] at this; exact this
    | ret =>
      simp only [Prod.mk.injEq, and_true] at h2
      rw [← h2] at this; exact this
    | exit i =>
      simp only [Prod.mk.injEq, and_true] at h2
      rw [← h2] at this
      show (if i = id then Q .normal a' w' else Q (.exit i) a' w')
      split
      · rename_i hi; rw [if_pos hi] at this; exact this
      · rename_i hi; rw [if_neg hi] at this; exact this
  | .exit id, c, s, s', o, a, w, Q, hok, hev, hr, hQ => by
    cases c <;> simp only [okCode, Bool.false_eq_true] at hok
    simp only [beq_iff_eq] at hok
    subst hok
    simp only [evalC, Option.some.injEq, Prod.mk.injEq] at hev
    obtain ⟨rfl, rfl⟩ := hev
    exact wp_exit (hQ a w hr)
  | .ret, c, s, s', o, a, w, Q, hok, hev, hr, hQ => by
    cases c <;> simp only [okCode, Bool.false_eq_true] at hok
    simp only [evalC, Option.some.injEq, Prod.mk.injEq] at hev
    obtain ⟨rfl, rfl⟩ := hev
    exact wp_ret (hQ a w hr)
  | .label g, c, s, s', o, a, w, Q, hok, hev, hr, hQ => by
    have hok : lab g c = true := by cases c <;> exact hok
    simp only [evalC] at hev
    split at hev
    rotate_left
    · cases hev
    rename_i p hp
    split at hev
    rotate_left
    · cases hev
    rename_i hk
    obtain ⟨bv, h1, hev⟩ := bnd_is.1 hev
    obtain ⟨⟨o1, tv', bv'⟩, h2, hev⟩ := bnd_is.1 hev
    simp only [Option.some.injEq, Prod.mk.injEq] at hev
    obtain ⟨rfl, rfl⟩ := hev
    exact hl g c p _ bv _ tv' bv' hok hp h2 hk.1 e a w Q rfl hG (hr.less (mkS_less h1 hk.2)) hQ

/-! ### The procedures -/
structure FnOk (C : Ctx) (F : Nat → Option Proc) (g : Nat) (p : Proc) (fn : Func) (bd : Code) (d : Nat) : Prop where
  kind : p.kind = .fn
  at_ : C.P.funcs[C.fid g]? = some fn
  name : (fn.name == "runtime.NumGoroutine") = false
  body : fn.body = some bd
  code : okCode C fn.ntmps (okLab C fn.ntmps F d) p.code bd = true
  ins : p.ins = List.range p.ins.length
  bins : p.bins = List.range p.bins.length
  few : p.bins.length ≤ 100
  fits : p.ins.length ≤ fn.ntmps
  res : okRes C.P p.res fn.results.toList = true

def PrimOk (C : Ctx) (g : Nat) (p : Proc) : Prop := p.kind = .prim ∧ ∀ tv c, p.pf tv = some c → Known C g ∧ ∀ e args w, Entry C e tv [] args w → Calls C.P (C.fid g) args w fun | .returned v, w' => ExitOk C e [c] [] 0 v w' | _, _ => False

structure Laid (C : Ctx) (F : Nat → Option Proc) : Prop where
  mixed : C.P.follows .mixedOrders = true
  fns : ∀ g p, F g = some p → g % 100 = 0 → (∃ fn body d, FnOk C F g p fn body d) ∨ PrimOk C g p

def RoundsOk (C : Ctx) (F : Nat → Option Proc) (k : Nat) : Prop :=
  ∀ n d g c p tv bv o tv' bv', okLab C n F d g (.loop c) = true → F g = some p → A F C.G k g tv bv = some (o, tv', bv') → p.kind = .loop →
    ∀ (e : Env) (a : Act) (w : World) (Q : Exit → Act → World → Prop), e.n = n → GE C e → Rel C.fid e (mkS p.ins tv p.bins bv) a w → (∀ a' w', Rel C.fid e (mkS p.outs tv' p.bouts bv') a' w' → Q (exOf o) a' w') → Code.rounds C.P c Q k a w

theorem lab_loop {n d g : Nat} {c : Code} {p : Proc} (h : okLab C n F d g c = true) (hp : F g = some p) (hk : p.kind = .loop) : ∃ d' body, c = .loop body ∧ okCode C n (okLab C n F d') p.code body = true := by
  cases d with
  | zero => simp [okLab] at h
  | succ d =>
    simp only [okLab, hp, hk] at h
    split at h
    · exact ⟨d, _, rfl, h⟩
    · cases h
theorem lab_join {n d g : Nat} {c : Code} {p : Proc} (h : okLab C n F d g c = true) (hp : F g = some p) (hk : p.kind = .join) : ∃ d', okCode C n (okLab C n F d') p.code c = true := by
  cases d with
  | zero => simp [okLab] at h
  | succ d =>
    simp only [okLab, hp, hk] at h
    exact ⟨d, h⟩

theorem entry_mkS {p : Proc} {tv : List AV} {bv : List BC} (hi : p.ins = List.range p.ins.length) (hb : p.bins = List.range p.bins.length) (h1 : tv.length = p.ins.length) (h2 : bv.length = p.bins.length) : mkS p.ins tv p.bins bv = entryS tv bv := by
  have aT : ∀ (tv : List AV) (k j : Nat), asT (List.range' k tv.length) tv j = if k ≤ j then tv.getD (j - k) .undef else .undef := by
    intro tv
    induction tv with
    | nil => intro k j; simp [asT]
    | cons v tv ih =>
      intro k j
      rw [List.length_cons, List.range'_succ, asT, ih]
      by_cases h : j = k
      · simp [h]
      · simp only [h, if_false]
        by_cases h3 : k ≤ j
        · have h4 : k + 1 ≤ j := by omega
          rw [if_pos h4, if_pos h3]
          rw [show j - k = (j - (k + 1)) + 1 by omega]
          simp
        · have h4 : ¬ k + 1 ≤ j := by omega
          rw [if_neg h4, if_neg h3]
  have aB : ∀ (bv : List BC) (k j : Nat), asB (List.range' k bv.length) bv j = if k ≤ j then bv[j - k]? else none := by
    intro bv
    induction bv with
    | nil => intro k j; simp [asB]
    | cons v bv ih =>
      intro k j
      rw [List.length_cons, List.range'_succ, asB, ih]
      by_cases h : j = k
      · simp [h]
      · simp only [h, if_false]
        by_cases h3 : k ≤ j
        · have h4 : k + 1 ≤ j := by omega
          rw [if_pos h4, if_pos h3]
          rw [show j - k = (j - (k + 1)) + 1 by omega]
          simp
        · have h4 : ¬ k + 1 ≤ j := by omega
          rw [if_neg h4, if_neg h3]
  rw [hi, hb, ← h1, ← h2]
  unfold mkS entryS
  congr 1
  · funext j; rw [List.range_eq_range', aT]; simp
  · funext j; rw [List.range_eq_range', aB]; simp
  · funext j
    rw [Bool.eq_iff_iff]
    simp

theorem enter_rel {tv : List AV} {bv : List BC} {args : Array Value} {n : Nat} (h : RelX C.fid { e with n := args.size } σ bm (entryS tv bv) ⟨args, []⟩ w) (hl : tv.length = args.size) (hn : args.size ≤ n) :
    RelX C.fid { e with n := n } σ bm (entryS tv bv) ⟨args ++ Array.replicate (n - args.size) undef, []⟩ w := by
  have hget : ∀ t, (args ++ Array.replicate (n - args.size) undef).getD t undef = args.getD t undef := by
    intro t
    rw [Array.getD_eq_getD_getElem?, Array.getD_eq_getD_getElem?]
    by_cases ht : t < args.size
    · rw [Array.getElem?_append_left ht]
    · rw [Array.getElem?_append_right (by omega), Array.getElem?_eq_none (xs := args) (by omega), Array.getElem?_replicate]
      split <;> rfl
  have hval : ∀ p, valAt ⟨args ++ Array.replicate (n - args.size) undef, []⟩ w bm p = valAt ⟨args, []⟩ w bm p := by
    intro p
    cases p with
    | t t => exact hget t
    | c b i => rfl
  refine { defers := rfl, size := ?_, tmps := fun t => ?_, boxes := h.boxes, dead := h.dead, inj := h.inj, par := h.par, newb := h.newb, seenB := h.seenB, seenT := h.seenT, mem := h.mem, one := h.one, old := h.old,
           oldσ := h.oldσ, leσ := h.leσ, grown := h.grown, os := h.os, tape := h.tape, output := h.output, tip := fun p sz hp => ?_, dist := fun p q sz sz' B hp hq h1 h2 => ?_ }
  · simp; omega
  · show RepT C.fid σ bm _ _ ((args ++ Array.replicate (n - args.size) undef).getD t undef)
    rw [hget]; exact h.tmps t
  · rw [hval]; exact h.tip p sz hp
  · rw [hval] at h1 h2; exact h.dist p q sz sz' B hp hq h1 h2

theorem all_sound (hL : Laid C F) : ∀ k : Nat, CallOk C (A F C.G k) ∧ (∀ n d, LabOk C F (A F C.G k) n (okLab C n F d)) ∧ RoundsOk C F k := by
  intro k
  induction k with
  | zero =>
    refine ⟨fun g tv bv o outs bv' _ h => ?_, fun n d g c p tv bv o tv' bv' _ _ h => ?_, fun n d g c p tv bv o tv' bv' _ _ h => ?_⟩ <;> cases h
  | succ k ih =>
    obtain ⟨ihC, ihL, ihR⟩ := ih
    -- the last round of a loop, or a join
    have leave : ∀ {p : Proc} {r : Oc × S} {x : Res} {e : Env} {a : Act} {w : World}, (if ((p.outs.map r.2.t).all (AV.okIn p.bouts)) = true then bnd (boxesOf r.2 p.bouts) fun bv' => some ((r.1, p.outs.map r.2.t, bv')) else none) = some x → Rel C.fid e r.2 a w → x.1 = r.1 ∧ Rel C.fid e (mkS p.outs x.2.1 p.bouts x.2.2) a w := by
      intro p r x e a w h hr
      split at h
      · rename_i hin
        obtain ⟨bv', h1, h2⟩ := bnd_is.1 h
        injection h2 with h2
        subst h2
        exact ⟨rfl, hr.less (mkS_less h1 hin)⟩
      · cases h
    have rounds : RoundsOk C F (k + 1) := by
      intro n d g c p tv bv o tv' bv' hlab hp hA hk e a w Q hn hG hr hQ
      simp only [A, hp, bnd_some, procA, hk] at hA
      rw [if_neg (by simp)] at hA
      split at hA
      rotate_left
      · cases hA
      obtain ⟨⟨o1, s1⟩, h1, h2⟩ := bnd_is.1 hA
      obtain ⟨d', body, hb, hcode⟩ := lab_loop hlab hp hk
      injection hb with hb
      subst hb
      subst hn
      rw [rounds_succ]
      refine code_sound hL.mixed ihC hG (ihL e.n d') hcode h1 hr fun a' w' hr' => ?_
      cases o1 with
      | norm =>
        simp only [] at h2
        split at h2
        rotate_left
        · cases h2
        rename_i hin
        obtain ⟨bv2, h3, h4⟩ := bnd_is.1 h2
        exact ihR e.n d g c p _ bv2 o tv' bv' hlab hp h4 hk e a' w' Q rfl hG (hr'.less (mkS_less h3 hin)) hQ
      | exit id =>
        obtain ⟨q1, q2⟩ := leave h2 hr'
        simp only at q1
        subst q1
        exact hQ a' w' q2
      | ret =>
        obtain ⟨q1, q2⟩ := leave h2 hr'
        simp only at q1
        subst q1
        exact hQ a' w' q2
    refine ⟨?_, ?_, rounds⟩
    · intro g tv bv o outs bv' hg hA
      simp only [A] at hA
      obtain ⟨p, hp, hA⟩ := bnd_is.1 hA
      rcases hL.fns g p hp hg with ⟨fn, body, d, hf⟩ | ⟨hk, hpr⟩
      · refine ⟨⟨fn, body, hf.at_, hf.name, hf.body⟩, fun e args w hen => ?_⟩
        simp only [procA, hf.kind] at hA
        rw [if_neg (by simp)] at hA
        split at hA
        rotate_left
        · cases hA
        rename_i hlen
        obtain ⟨⟨o1, s1⟩, h1, h2⟩ := bnd_is.1 hA
        rw [entry_mkS hf.ins hf.bins hlen.1 hlen.2] at h1
        refine calls_of_wp hf.at_ hf.body ?_
        have hrel : Rel C.fid { e with n := fn.ntmps } (entryS tv bv) ⟨args ++ Array.replicate (fn.ntmps - args.size) undef, []⟩ w :=
          ⟨_, _, enter_rel hen.rel hen.len (by rw [← hen.len, hlen.1]; exact hf.fits)⟩
        refine code_sound (e := { e with n := fn.ntmps }) hL.mixed ihC (⟨hen.g, hen.fix⟩ : GE C { e with n := fn.ntmps }) (ihL fn.ntmps d) hf.code h1 hrel fun a' w' hr' => ?_
        have fin : (bnd (resultOf s1 p.res) fun v => bnd (boxesOf s1 p.bins) fun bv' => some ((Oc.ret, [v], bv'))) = some (o, outs, bv') → a'.defers = [] ∧ ∃ v, (results fn a'.tmps).run C.P w' = .ok v w' ∧ ExitOk C e outs bv' bv.length v w' := by
          intro h2
          obtain ⟨c, h3, h2⟩ := bnd_is.1 h2
          obtain ⟨bv2, h4, h2⟩ := bnd_is.1 h2
          simp only [Option.some.injEq, Prod.mk.injEq] at h2
          obtain ⟨_, rfl, rfl⟩ := h2
          obtain ⟨σ', bm', hx⟩ := hr'
          obtain ⟨v, k1, s', k2, k3⟩ := result_sound hx hf.res h3
          obtain ⟨b1, b2⟩ := boxesOf_get h4
          refine ⟨hx.defers, v, k1, fn.ntmps, s', a', fun j c' hj => ?_, by rw [← b1, hlen.2], c, rfl, ?_⟩
          · have hlt : j < p.bins.length := by rw [b1]; exact (List.getElem?_eq_some_iff.1 hj).1
            have hjj : p.bins[j]? = some j := by rw [hf.bins]; simp [hlt]
            rw [k2 j (by have := hf.few; omega)]
            exact b2 j j c' hjj hj
          · rcases k3 with ⟨cs, rfl, b, B, cs', q1, q2, q3, q4, q5, q6⟩ | k3
            · exact .inl ⟨cs, rfl, σ', bm', b, B, cs', q1, q2, q3, q4, q5, q6⟩
            · exact .inr k3
        cases o1 with
        | norm => exact fin h2
        | ret => exact fin h2
        | exit id => cases h2
      · simp only [procA, hk, if_true] at hA
        split at hA
        rotate_left
        · cases hA
        rename_i hbv
        obtain ⟨c, h1, h2⟩ := bnd_is.1 hA
        simp only [Option.some.injEq, Prod.mk.injEq] at h2
        obtain ⟨_, rfl, rfl⟩ := h2
        obtain ⟨q1, q2⟩ := hpr tv c h1
        refine ⟨q1, fun e args w hen => ?_⟩
        have : bv = [] := by simpa using hbv
        subst this
        exact q2 e args w hen
    · intro n d g c p tv bv o tv' bv' hlab hp hA hk e a w Q hn hG hr hQ
      rcases hk with hk | hk
      · obtain ⟨d', hcode⟩ := lab_join hlab hp hk
        simp only [A, hp, bnd_some, procA, hk] at hA
        rw [if_neg (by simp)] at hA
        split at hA
        rotate_left
        · cases hA
        obtain ⟨⟨o1, s1⟩, h1, h2⟩ := bnd_is.1 hA
        subst hn
        refine code_sound hL.mixed ihC hG (ihL e.n d') hcode h1 hr fun a' w' hr' => ?_
        obtain ⟨q1, q2⟩ := leave (r := (o1, s1)) h2 hr'
        simp only at q1
        subst q1
        exact hQ a' w' q2
      · obtain ⟨d', body, hb, hcode⟩ := lab_loop hlab hp hk
        subst hb
        exact wp_loop_rounds (k + 1) (rounds n d g body p tv bv o tv' bv' hlab hp hA hk e a w Q hn hG hr hQ)
end
end Go.Vs
