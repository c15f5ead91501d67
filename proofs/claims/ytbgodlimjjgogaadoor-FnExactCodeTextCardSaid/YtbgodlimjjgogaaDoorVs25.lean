/- Without fuel. -/
import Derived.Test.YtbgodlimjjgogaaDoorVs23
import Derived.KernelRfl
set_option linter.unusedVariables false
namespace Go.Vs
open Go Go.RowKit
def Le (c d : Call) : Prop := ∀ g tv bv r, c g tv bv = some r → d g tv bv = some r
structure Lim (cs : Nat → Call) (c : Call) : Prop where
 up : ∀ k l, k ≤ l → Le (cs k) (cs l)
 lim : ∀ g tv bv r, c g tv bv = some r ↔ ∃ k, cs k g tv bv = some r
structure Cont {β : Type} (f : Call → Option β) : Prop where
 mono : ∀ c d r, Le c d → f c = some r → f d = some r
 cont : ∀ cs c r, Lim cs c → f c = some r → ∃ k, f (cs k) = some r
theorem Cont.const {β : Type} (x : Option β) : Cont fun _ => x := ⟨fun _ _ _ _ h => h, fun _ _ _ _ h => ⟨0, h⟩⟩
theorem Cont.call (g : Nat) (tv : List AV) (bv : List BC) : Cont fun c => c g tv bv := ⟨fun _ _ r hl h => hl g tv bv r h, fun _ _ r hl h => (hl.lim g tv bv r).1 h⟩
theorem Cont.bnd {α β : Type} {f : Call → Option α} {g : α → Call → Option β} (hf : Cont f) (hg : ∀ a, Cont (g a)) : Cont fun c => bnd (f c) fun a => g a c := by
 refine ⟨fun c d r hl h => ?_, fun cs c r hl h => ?_⟩
 ·obtain ⟨a, h1, h2⟩ := Qa.1 h
  exact Qa.2 ⟨a, hf.mono c d a hl h1, (hg a).mono c d r hl h2⟩
 ·obtain ⟨a, h1, h2⟩ := Qa.1 h
  obtain ⟨k, h3⟩ := hf.cont cs c a hl h1
  obtain ⟨l, h4⟩ := (hg a).cont cs c r hl h2
  exact ⟨max k l, Qa.2 ⟨a, hf.mono _ _ a (hl.up k _ (Nat.le_max_left _ _)) h3, (hg a).mono _ _ r (hl.up l _ (Nat.le_max_right _ _)) h4⟩⟩
theorem Cont.ite {β : Type} {p : Prop} [Decidable p] {f g : Call → Option β} (hf : Cont f) (hg : Cont g) : Cont fun c => if p then f c else g c := by
 by_cases h : p
 ·simpa only [h, if_true] using hf
 ·simpa only [h, if_false] using hg
variable {F : Nat → Option Proc} {G : Nat → List AV}
theorem Qlz (s : S) (g site : Nat) (as : List AV) : Cont fun c => callF c s g site as := by
 unfold callF
 refine Cont.bnd (Cont.const _) fun r => Cont.bnd (Cont.call _ _ _) fun q => Cont.const _
theorem Qly (s : S) (g : Nat) (as : List AV) (es : List Ent) : Cont fun c => callA c s g as es := by
 unfold callA
 refine Cont.bnd (Cont.const _) fun r => Cont.bnd (Cont.call _ _ _) fun q => Cont.const _
theorem Qqv (s : S) (es : List Ent) (m : CM) (g : Nat) (as : List AV) : Cont fun c => evalTC c s es m g as := by
 cases m <;> simp only [evalTC]
 ·exact Cont.bnd (Cont.const _) fun r => Cont.ite (Cont.bnd (Cont.call _ _ _) fun q => Cont.const _) (Cont.const _)
 ·exact Qly _ _ _ _
 ·exact Cont.bnd (Cont.const _) fun r => Cont.ite (Cont.bnd (Cont.call _ _ _) fun q => Cont.const _) (Cont.const _)
 ·exact Cont.bnd (Cont.const _) fun r => Qly _ _ _ _
theorem Qqw (s : S) (k : TK) : Cont fun c => evalTK c G s k := by
 cases k <;> simp only [evalTK] <;> first | exact Cont.const _ | skip
 exact Cont.ite (Cont.bnd (Cont.const _) fun es => Qqv _ _ _ _ _) (Cont.const _)
theorem Qme (s : S) (k : K) : Cont fun c => evalK c G s k := by
 cases k <;> simp only [evalK] <;> first | exact Cont.const _ | skip
 ·exact Qqw _ _
 ·exact Cont.ite (Qlz _ _ _ _) (Cont.const _)
 ·split
  ·exact Cont.ite (Qlz _ _ _ _) (Cont.const _)
  ·exact Cont.const _
theorem Quh (s : S) (o : AOp) : Cont fun c => Qio c G s o := by
 unfold Qio
 exact Cont.bnd (Cont.const _) fun w => Cont.ite (Cont.bnd (Qme _ _) fun _ => Cont.const _) (Cont.const _)
theorem Qui (s : S) (o : AOp) : Cont fun c => Qfh c G s o := by
 unfold Qfh
 exact Cont.bnd (Cont.const _) fun w => Cont.ite (Cont.bnd (Qme _ _) fun _ => Cont.const _) (Cont.const _)
theorem Qkx : ∀ (os : List AOp) (s : S), Cont fun c => opsA c G os s
 | [], s => Cont.const _
 | o :: os, s => Cont.bnd (Quh s o) fun s' => Qkx os s'
theorem Qpr : ∀ (os : List AOp) (s : S), Cont fun c => opsD c G os s
 | [], s => Cont.const _
 | o :: os, s => Cont.bnd (Qui s o) fun s' => Qpr os s'
theorem Qcy : ∀ (ac : AC) (s : S), Cont fun c => Qam c F G ac s
 | .skip, s => Cont.const _
 | .exit _, s => Cont.const _
 | .ret, s => Cont.const _
 | .flip o ps qs, s => by
  simp only [Qam]
  exact Cont.bnd (Qkx (o :: ps) s) fun _ => Cont.const _
 | .region draw ops, s => by
  simp only [Qam]
  exact Cont.bnd (Cont.ite (Qpr ops s) (Qkx ops s)) fun _ => Cont.const _
 | .seq a b, s => by
  simp only [Qam]
  refine Cont.bnd (Qcy a s) fun r => ?_
  cases r.1
  ·exact Qcy b r.2
  ·exact Cont.const _
  ·exact Cont.const _
 | .cond x a b, s => by
  simp only [Qam]
  split
  ·exact Cont.ite (Qcy a s) (Qcy b s)
  ·exact Cont.const _
 | .block id a, s => by
  simp only [Qam]
  exact Cont.bnd (Qcy a s) fun r => Cont.const _
 | .label g, s => by
  simp only [Qam]
  split
  ·exact Cont.ite (Cont.bnd (Cont.const _) fun bv => Cont.bnd (Cont.call _ _ _) fun _ => Cont.const _) (Cont.const _)
  ·exact Cont.const _
theorem Qik (g : Nat) (p : Proc) (code : AC) (tv : List AV) (bv : List BC) : Cont fun c => Qfz c F G g p code tv bv := by
 unfold Qfz
 refine Cont.ite (Cont.const _) (Cont.ite (Cont.bnd (Qcy _ _) fun r => ?_) (Cont.const _))
 cases p.kind
 ·exact Cont.const _
 ·exact Cont.const _
 ·cases r.1
  ·exact Cont.ite (Cont.bnd (Cont.const _) fun _ => Cont.call _ _ _) (Cont.const _)
  ·exact Cont.const _
  ·exact Cont.const _
 ·exact Cont.const _
theorem Cont.both {β : Type} {f g : Call → Option β} (hf : Cont f) (hg : Cont g) : Cont fun c => both (f c) (g c) := by
 constructor
 ·intro c d r hl h
  obtain ⟨h1, h2⟩ := Qhz.1 h
  exact Qhz.2 ⟨hf.mono c d r hl h1, hg.mono c d r hl h2⟩
 ·intro cs c r hl h
  obtain ⟨h1, h2⟩ := Qhz.1 h
  obtain ⟨k, h3⟩ := hf.cont cs c r hl h1
  obtain ⟨l, h4⟩ := hg.cont cs c r hl h2
  exact ⟨max k l, Qhz.2 ⟨hf.mono _ _ r (hl.up k _ (Nat.le_max_left _ _)) h3, hg.mono _ _ r (hl.up l _ (Nat.le_max_right _ _)) h4⟩⟩
theorem Qij (g : Nat) (p : Proc) (tv : List AV) (bv : List BC) : Cont fun c => Qlp c F G g p tv bv := by
 unfold Qlp
 exact Cont.ite (Cont.both (Qik _ _ _ _ _) (Qik _ _ _ _ _)) (Qik _ _ _ _ _)
theorem A_step (k : Nat) : Le (A F G k) (A F G (k + 1)) := by
 induction k with
 | zero => intro g tv bv r h; cases h
 | succ k ih =>
  intro g tv bv r h
  simp only [A] at h ⊢
  obtain ⟨p, h1, h2⟩ := Qa.1 h
  exact Qa.2 ⟨p, h1, (Qij g p tv bv).mono _ _ r ih h2⟩
theorem A_up {k l : Nat} (h : k ≤ l) : Le (A F G k) (A F G l) := by
 induction h with
 | refl => intro g tv bv r h; exact h
 | step _ ih => intro g tv bv r h; exact A_step _ _ _ _ _ (ih g tv bv r h)
noncomputable def E (F : Nat → Option Proc) (G : Nat → List AV) : Call := fun g tv bv =>
 open Classical in if h : ∃ r k, A F G k g tv bv = some r then some h.choose else none
theorem Qql : Lim (A F G) (E F G) := by
 refine ⟨fun k l h => A_up h, fun g tv bv r => ?_⟩
 unfold E
 constructor
 ·intro h
  split at h
  ·rename_i hx
   injection h with h
   rw [← h]
   exact hx.choose_spec
  ·cases h
 ·rintro ⟨k, h⟩
  have hx : ∃ r k, A F G k g tv bv = some r := ⟨r, k, h⟩
  rw [dif_pos hx]
  obtain ⟨l, hl⟩ := hx.choose_spec
  have e1 := A_up (Nat.le_max_left k l) g tv bv _ h
  have e2 := A_up (Nat.le_max_right k l) g tv bv _ hl
  rw [e1] at e2
  exact e2.symm
theorem E_eq (g : Nat) (tv : List AV) (bv : List BC) : E F G g tv bv = bnd (F g) fun p => Qlp (E F G) F G g p tv bv := by
 cases hp : F g with
 | none =>
  cases hh : E F G g tv bv with
  | none => rfl
  | some r =>
   obtain ⟨k, hk⟩ := (Qql.lim g tv bv r).1 hh
   cases k with
   | zero => cases hk
   | succ k => simp only [A, hp, Qxk] at hk; cases hk
 | some p =>
  simp only [Qb]
  have key : ∀ r, E F G g tv bv = some r ↔ Qlp (E F G) F G g p tv bv = some r := by
   intro r
   constructor
   ·intro h
    obtain ⟨k, hk⟩ := (Qql.lim g tv bv r).1 h
    cases k with
    | zero => cases hk
    | succ k =>
     simp only [A, hp, Qb] at hk
     exact (Qij g p tv bv).mono _ _ r (fun g tv bv r h => (Qql.lim g tv bv r).2 ⟨k, h⟩) hk
   ·intro h
    obtain ⟨k, hk⟩ := (Qij g p tv bv).cont _ _ r Qql h
    exact (Qql.lim g tv bv r).2 ⟨k + 1, by simp only [A, hp, Qb]; exact hk⟩
  cases h1 : E F G g tv bv with
  | some r => exact ((key r).1 h1).symm
  | none =>
   cases h2 : Qlp (E F G) F G g p tv bv with
   | none => rfl
   | some r => rw [(key r).2 h2] at h1; cases h1
def Qdd (w : World) : Mem := { c := fun B i => (w.cell? ⟨B, i, none⟩).filter (·.oneCell'), hd := fun _ => none }
theorem Qbx {w : World} {B i : Nat} {v : Value} : Qdd w B i = some v ↔ w.cell? ⟨B, i, none⟩ = some v ∧ v.oneCell' = true := by
 simp [Qdd, Option.filter_eq_some_iff]
theorem top {C : Ctx} (hL : Laid C F) {g : Nat} (hg : g % 100 = 0) {tv : List AV} {args : Array Value} {w : World} {c : AV} (hG : GOk C (Qdd w)) (hF : ∀ x ∈ C.fx, ∃ o, w.heap[x.1]? = some o ∧ x.2 o) (hl : tv.length = args.size)
    (hr : ∀ (i : Nat) (c : AV) (v : Value), tv[i]? = some c → args[i]? = some v → RepP C.fid (Qdd w) c v ∧ c.tipSz = none) (hE : E F C.G g tv [] = some (.ret, [.bool true], [])) :
    Calls C.P (C.fid g) args w fun ed w' => ed = .returned (.bool true) ∧ Below w.heap.size w w' := by
  obtain ⟨k, hA⟩ := (Qql.lim g tv [] _).1 hE
  obtain ⟨_, h⟩ := (Qor hL k).1 g tv [] none _ _ _ hg (by simp) hA
  let e : Env := { w0 := w, σ0 := Qdd w, lent := fun _ => False, pbm := fun _ => none, n := 0 }
  have htt : ∀ t : Nat, ((Ql tv []).t t = .undef) ∨ ∃ c v, tv[t]? = some c ∧ args[t]? = some v ∧ (Ql tv []).t t = c := by
    intro t
    by_cases ht : t < tv.length
    · exact .inr ⟨tv[t], args[t]'(by omega), List.getElem?_eq_getElem ht, Array.getElem?_eq_getElem _, by simp [Ql, ht]⟩
    · left
      simp only [Ql, List.getD_eq_getElem?_getD]
      rw [List.getElem?_eq_none (by omega)]; rfl
  have hnt : ∀ p sz, Qd (Ql tv []) p ≠ some sz := by
    intro p sz hp
    cases p with
    | t t =>
      rcases htt t with h1 | ⟨c, v, h1, h2, h3⟩
      · simp only [Qd, h1] at hp; cases hp
      · simp only [Qd, h3, (hr t c v h1 h2).2] at hp; cases hp
    | c b i => simp [Qd, Ql] at hp
  have hen0 : Entry C e tv [] args w := by
    refine { w0 := rfl, len := hl, g := hG, fix := fun x hx => (let ⟨o, h1, h2⟩ := hF x hx; ⟨Qar h1, fun hh => hh, o, h1, h2⟩), rel := ?_ }
    refine { defers := rfl, hds := rfl, size := rfl, tmps := fun t => ?_, boxes := fun k c hk har => ?_, dead := fun k hk => rfl, ar := fun k es hk => (by simp [Ql] at hk), inj := fun k k' B h1 h2 => ?_, par := fun j B B' _ h1 h2 => ?_, newb := fun k B hk h1 => ?_,
             seenB := fun k hk => ?_, seenT := fun t k hk => ?_, mem := fun B i v hv => (Qbx.1 hv).1, one := fun B i v hv => (Qbx.1 hv).2, old := fun _ _ _ => rfl, oldσ := fun _ _ _ => rfl, leσ := Mem.le_refl _, grown := Nat.le_refl _, os := rfl, tape := rfl, output := rfl,
             tip := fun p sz hp => ?_, dist := fun p q sz sz' B hp hq h1 h2 => ?_ }
    · rcases htt t with h1 | ⟨c, v, h1, h2, h3⟩
      · rw [h1]; simp [RepT, RepP]
      · rw [h3]
        have : (⟨args, []⟩ : Act).tmps.getD t undef = v := by simp [Array.getD_eq_getD_getElem?, h2]
        rw [this]
        exact Qew (hr t c v h1 h2).1
    · simp [Ql] at hk
    · cases h1
    · cases h1
    · cases h1
    · simp [Ql] at hk
    · rcases htt t with h1 | ⟨c, v, h1, h2, h3⟩
      · rw [h1] at hk; cases hk
      · rw [h3] at hk
        have := (hr t c v h1 h2).1
        cases c <;> first | (cases hk; done) | exact this.elim
    · exact absurd hp (hnt p sz)
    · exact absurd hp (hnt p sz)
  have hen : EntryY C e tv [] none args w := hen0.toY (by simp) rfl
  refine (h e args w hen).mono fun ed w' hed => ?_
  cases ed with
  | panicked _ => exact hed.elim
  | outgrown => exact hed.elim
  | returned v =>
    have hed : Qeu C e [.bool true] [] 0 false v w' := hed
    unfold Qeu at hed
    rw [if_neg (by simp)] at hed
    obtain ⟨n, s', a', _, _, c, hc, hr'⟩ := hed.1
    injection hc with hc
    subst hc
    rcases hr' with ⟨cs, hcs, _⟩ | ⟨_, σ', bm', hx, hv, _⟩
    · cases hcs
    · have : v = .bool true := hv
      subst this
      exact ⟨rfl, hx.os, hx.tape, hx.output, hx.grown, fun k hk => hx.old k hk (fun h => h)⟩
end Go.Vs
namespace Go.Vs
open Go Go.RowKit
def look {α : Type} (g : Nat) : List (Nat × α) → Option α
 | [] => none
 | (h, x) :: r => if g = h then some x else look g r
theorem Qsn {α : Type} {g : Nat} {x : α} : ∀ {l : List (Nat × α)}, look g l = some x → (g, x) ∈ l
 | [], h => by cases h
 | (h, y) :: r, hh => by
  simp only [look] at hh
  split at hh
  ·rename_i e; injection hh with hh; subst e hh; simp
  ·exact List.mem_cons_of_mem _ (Qsn hh)
def okFn (C : Ctx) (F : Nat → Option Proc) (d : Nat) (p : Proc) (fn : Func) : Bool :=
 (match p.kind with | .fn => true | _ => false) && !(fn.name == "runtime.NumGoroutine") && (match fn.body with | some bd => Qrd C fn.ntmps (Qhh C fn.ntmps F d) p.two p.code bd | none => false) &&
 decide (p.ins = List.range p.ins.length) && decide (p.bins = List.range (p.bins.filter (· != 99)).length ++ (if p.bins.contains 99 then [99] else [])) && decide ((p.bins.filter (· != 99)).length ≤ 99) && !(p.loc && p.bins.contains 99) && decide (p.ins.length ≤ fn.ntmps) && Qjd C.P p.res fn.results.toList
theorem okFn_spec {C : Ctx} {F : Nat → Option Proc} {d g : Nat} {p : Proc} {fn : Func} (hf : C.P.funcs[C.fid g]? = some fn) (h : okFn C F d p fn = true) : (∃ fn body d nb, FnOk C F g p fn body d nb) ∨ Qls C g p := by
 simp only [okFn, Zw, Ze, Bool.not_eq_true'] at h
 obtain ⟨⟨⟨⟨⟨⟨⟨⟨h1, h2⟩, h3⟩, h4⟩, h5⟩, h6⟩, h6'⟩, h7⟩, h8⟩ := h
 split at h3
 rotate_left
 ·cases h3
 rename_i bd hb
 refine .inl ⟨fn, bd, d, _, ?_, hf, h2, hb, h3, h4, h5, h6, h6', h7, h8⟩
 split at h1
 ·assumption
 ·cases h1
def Qlr (C : Ctx) (F : Nat → Option Proc) : List (Nat × Proc) → Prop
 | [] => True
 | (g, p) :: r => (g % 100 = 0 → (∃ fn body d nb, FnOk C F g p fn body d nb) ∨ Qls C g p) ∧ Qlr C F r
theorem Qlr.get {C : Ctx} {F : Nat → Option Proc} : ∀ {l : List (Nat × Proc)}, Qlr C F l → ∀ g p, (g, p) ∈ l → g % 100 = 0 → (∃ fn body d nb, FnOk C F g p fn body d nb) ∨ Qls C g p
 | [], _, g, p, h, _ => by simp at h
 | (g0, p0) :: r, h, g, p, hm, hg => by
  rcases List.mem_cons.1 hm with e | hm
  ·injection e with e1 e2
   subst e1 e2
   exact h.1 hg
  ·exact Qlr.get h.2 g p hm hg
theorem laid_of {C : Ctx} {l : List (Nat × Proc)} (hm : C.P.follows .mixedOrders = true) (h : Qlr C (look · l) l) : Laid C (look · l) :=
 ⟨hm, fun g p hp hg => h.get g p (Qsn hp) hg⟩
end Go.Vs