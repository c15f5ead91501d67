/- What is handed to a law is a typed value. -/
import Derived.Test.YtbgodlimjjgogaaDoorLkA
import Derived.WalkKit
import Derived.ProofKit
import Derived.OpenShut
import Derived.ShutString
import Derived.ChangeOld
import Derived.Below
import Derived.SizedLaws
set_option linter.unusedVariables false
set_option linter.unusedSimpArgs false
namespace Go.Tv
open Go Go.RowKit Go.Vs Go.WideShapes Go.ChangeShapes
def isI (P : Program) (t : TypeId) : Bool := match P.underlying t with | some (.int .i64) => true | _ => false
def isU8 (P : Program) (t : TypeId) : Bool := match P.underlying t with | some (.int .u8) => true | _ => false
def isB (P : Program) (t : TypeId) : Bool := match P.underlying t with | some .bool => true | _ => false
def isS (P : Program) (t : TypeId) : Bool := match P.underlying t with | some .string => true | _ => false
def slOf (P : Program) (f : TypeId → Bool) (t : TypeId) : Bool := match P.underlying t with | some (.slice e) => f e | _ => false
def flds (P : Program) (t : TypeId) (n : Nat) (l : List (Nat × (TypeId → Bool))) : Bool :=
 match P.underlying t with
 | some (.struct fs) => decide (P.cellsOf t = n) && decide (fs.size = l.length) && ((fs.toList.zip l).all fun x => decide (x.1.offset = x.2.1) && x.2.2 x.1.type)
 | _ => false
def Qto (P : Program) (t : TypeId) : Bool := decide (P.cellsOf t = 1)
def iI (P : Program) (t : TypeId) : Bool := isI P t && Qto P t
def iU (P : Program) (t : TypeId) : Bool := isU8 P t && Qto P t
def iB (P : Program) (t : TypeId) : Bool := isB P t && Qto P t
def iS (P : Program) (t : TypeId) : Bool := isS P t && Qto P t
def iSl (P : Program) (f : TypeId → Bool) (t : TypeId) : Bool := slOf P f t && Qto P t
def isExp (P : Program) (t : TypeId) : Bool := flds P t 3 [(0, iI P), (1, iI P), (2, iSl P fun e => decide (e = t))]
def tyOk (P : Program) : TC → TypeId → Bool
 | .int, t => iI P t
 | .u8, t => iU P t
 | .bool, t => iB P t
 | .str, t => iS P t
 | .quad, t => flds P t 5 [(0, iI P), (1, iI P), (2, iI P), (3, iI P), (4, iI P)]
 | .event, t => flds P t 4 [(0, iI P), (1, iI P), (2, iI P), (3, iI P)]
 | .exp, t => isExp P t
 | .stm, t => flds P t 8 [(0, iI P), (1, iI P), (2, iI P), (3, isExp P), (6, iSl P fun e => decide (e = t)), (7, iSl P fun e => decide (e = t))]
 | _, _ => false
variable {H : Type} {enc : TypeId × Value → H} {P : Program} {w : World} {fid : Nat → Nat}
def RL (fid : Nat → Nat) (w : World) (cs : List AV) (vs : List Value) : Prop := vs.length = cs.length ∧ RepL fid (Qdd w) cs (fun i => vs[i]?)
theorem Qtq {c : AV} {v : Value} {σ : Mem} (h : c.one = true) (hr : RepP fid σ c v) : v.oneCell' = true := by
 cases c <;> first | (cases h; done) | skip
 all_goals simp only [RepP] at hr
 ·rw [hr]; rfl
 ·rw [hr]; rfl
 ·rw [hr]; rfl
 ·rename_i c; rw [hr]; cases c <;> rfl
 ·obtain ⟨a, n, cap, rfl, _⟩ := hr; rfl
 ·obtain ⟨B, o, rfl, _⟩ := hr; rfl
 ·obtain ⟨vs, rfl, _⟩ := hr; rfl
 ·rename_i id _ _
  cases id with
  | none => obtain ⟨_, a, rfl⟩ := hr; rfl
  | some id => obtain ⟨_, a, cap, rfl, _⟩ := hr; rfl
theorem Qxx {k : IntKind} {t : TypeId} {fuel : Nat} {cs : List Value} {x : DataW H × List MemPlace} (ht : P.underlying t = some (.int k)) (h : DataW.trod enc P w 0 (fun _ => true) true fuel t cs = some x) :
  ∃ n, cs = [.int k n] ∧ (Lit.int k n).wf = true := by
 cases fuel with
 | zero => simp [DataW.trod] at h
 | succ m =>
  unfold DataW.trod at h
  rw [ht] at h
  split at h <;> simp_all
theorem Qxz {t : TypeId} (h : iI P t = true) : P.underlying t = some (.int .i64) ∧ P.cellsOf t = 1 := by
 simp only [iI, isI, Qto, Zw, Ze] at h
 obtain ⟨h1, h2⟩ := h
 split at h1
 ·exact ⟨‹_›, h2⟩
 ·cases h1
theorem Qzt {α : Type} {Q : Nat → α → Prop} : ∀ n : Nat, (∀ i, i < n → ∃ d, Q i d) → ∃ l : List α, l.length = n ∧ ∀ i (hi : i < l.length), Q i l[i]
 | 0, _ => ⟨[], rfl, fun i hi => by simp at hi⟩
 | m + 1, key => by
  obtain ⟨l, h1, h2⟩ := Qzt m (fun i hi => key i (by omega))
  obtain ⟨d, h3⟩ := key m (by omega)
  refine ⟨l ++ [d], by simp [h1], fun i hi => ?_⟩
  by_cases hil : i < l.length
  ·rw [List.getElem_append_left hil]; exact h2 i hil
  ·have e : i = m := by simp at hi; omega
   subst e
   rw [List.getElem_append_right (by omega)]
   simp only [h1, Nat.sub_self, List.getElem_singleton]
   exact h3
theorem sl_open {c : TC} {Wf : Den c → Prop} {t e : TypeId} {fuel : Nat} {cs : List Value} {x : DataW H × List MemPlace} (ht : P.underlying t = some (.slice e)) (hsz : P.cellsOf e = c.sz) (hpos : 0 < c.sz)
  (hone : ∀ x : Den c, (Qe c x).all AV.one = true)
  (hel : ∀ n, n < fuel → ∀ cs x, DataW.trod enc P w 0 (fun _ => true) true n e cs = some x → ∃ d : Den c, RL fid w (Qe c d) cs ∧ Wf d)
  (h : DataW.trod enc P w 0 (fun _ => true) true fuel t cs = some x) :
  ∃ (v : Value) (l : List (Den c)), cs = [v] ∧ (∃ a n cap, v = .slice a n cap) ∧ RepP fid (Qdd w) (.sl .share c.sz (l.map (Qe c))) v ∧ (l.length : Int) ≤ 9223372036854775807 ∧ ∀ d ∈ l, Wf d := by
 rcases DataW.trod_slice ht h with ⟨rfl, _⟩ | ⟨a, len, cap, elems, rest, n, hfu, rfl, _, _, hl, hm, hlen, hall, _, _⟩
 ·exact ⟨_, [], rfl, ⟨_, _, _, rfl⟩, by simp only [RepP]; exact ⟨none, 0, 0, rfl, rfl, Nat.le_refl _, (by simp), .inl rfl⟩, by simp, by simp⟩
 ·have key : ∀ i, i < len → ∃ (d : Den c) (cs' : List Value), w.cells? 0 (a.add (i * P.cellsOf e)) (P.cellsOf e) = some cs' ∧ RL fid w (Qe c d) cs' ∧ Wf d := by
   intro i hi
   have h1 := hall i hi
   rw [List.getElem?_eq_getElem (by omega)] at h1
   obtain ⟨cs', h2, h3⟩ := Option.bind_eq_some_iff.1 h1
   obtain ⟨d, h4, h5⟩ := hel n (by omega) cs' _ h3
   exact ⟨d, cs', h2, h4, h5⟩
  obtain ⟨l, h1, h2⟩ := Qzt (Q := fun i d => ∃ cs' : List Value, w.cells? 0 (a.add (i * P.cellsOf e)) (P.cellsOf e) = some cs' ∧ RL fid w (Qe c d) cs' ∧ Wf d) len fun i hi => key i hi
  refine ⟨_, l, rfl, ⟨_, _, _, rfl⟩, ?_, by rw [h1]; have e1 : maxLen = 9223372036854775807 := rfl; omega, fun d hd => ?_⟩
  ·simp only [RepP, List.length_map]
   refine ⟨some a, len, cap, rfl, h1.symm, hl, by simp, ?_⟩
   by_cases h0 : len = 0
   ·exact .inl h0
   right
   have addr : ∃ B o, a = ⟨B, o, none⟩ := by
    obtain ⟨cs', k1, k2, _⟩ := h2 0 (by omega)
    obtain ⟨_, k3, k4⟩ := World.cells?_some k1
    have := k4 0 (by omega)
    have hne : cs'[0]? = some (cs'[0]'(by omega)) := List.getElem?_eq_getElem _
    rw [hne] at this
    obtain ⟨B, o, s⟩ := a
    have hs : s = none := by simpa [Addr.add] using World.cell?_spot this
    subst hs
    exact ⟨B, o, rfl⟩
   obtain ⟨B, o, rfl⟩ := addr
   refine ⟨B, o, rfl, Qn.2 fun i r hr => ?_⟩
   rw [List.getElem?_map, Option.map_eq_some_iff] at hr
   obtain ⟨d, hd, rfl⟩ := hr
   obtain ⟨hi, hd'⟩ := List.getElem?_eq_some_iff.1 hd
   obtain ⟨cs', k1, k2, k3⟩ := h2 i hi
   rw [hd'] at k2
   refine ⟨Qdy c d, Qi.2 fun j q hq => ?_⟩
   obtain ⟨v, hv, hrep⟩ := Qi.1 k2.2 j q hq
   refine ⟨v, ?_, hrep⟩
   obtain ⟨_, k4, k5⟩ := World.cells?_some k1
   have hj : j < c.sz := by
    have := (List.getElem?_eq_some_iff.1 hq).1
    rw [Qdy] at this; exact this
   have k6 := k5 j (by omega)
   rw [hv] at k6
   apply Qbx.2
   refine ⟨?_, Qtq (List.all_eq_true.1 (hone d) q (List.mem_of_getElem? hq)) hrep⟩
   rw [← k6, hsz]
   rw [add_plain, add_plain, Nat.add_assoc]
  ·obtain ⟨i, hi, rfl⟩ := List.getElem_of_mem hd
   obtain ⟨_, _, _, k⟩ := h2 i hi
   exact k
theorem Qwk (c : TC) (x : Den c) : (Qe c x).all AV.one = true := by rw [← Qcj, Qif]; exact Qst c x
theorem Qvt {t : TypeId} {n : Nat} {l : List (Nat × (TypeId → Bool))} {fuel : Nat} {cs : List Value} {x : DataW H × List MemPlace} (ht : flds P t n l = true) (h : DataW.trod enc P w 0 (fun _ => true) true fuel t cs = some x) :
  cs.length = n ∧ ∃ m, fuel = m + 1 ∧ ∀ (i : Nat) (o : Nat) (f : TypeId → Bool), l[i]? = some (o, f) → ∃ ft y, f ft = true ∧ DataW.trod enc P w 0 (fun _ => true) true m ft ((cs.drop o).take (P.cellsOf ft)) = some y := by
 unfold flds at ht
 split at ht
 ·rename_i fs hu
  simp only [Zw, Ze] at ht
  obtain ⟨⟨h1, h2⟩, h3⟩ := ht
  obtain ⟨xs, m, rfl, _, h5, h6, h7⟩ := DataW.trod_struct hu h
  refine ⟨by omega, m, rfl, fun i o f hl => ?_⟩
  have hi : i < l.length := (List.getElem?_eq_some_iff.1 hl).1
  have hf : fs[i]? = some (fs[i]'(by omega)) := Array.getElem?_eq_getElem _
  have h8 := h7 i _ hf
  rw [List.getElem?_eq_getElem (by omega)] at h8
  rw [List.all_eq_true] at h3
  have h9 := h3 (fs[i]'(by omega), (o, f)) (by
   apply List.mem_of_getElem? (i := i)
   rw [List.getElem?_zip_eq_some]
   exact ⟨by simp, hl⟩)
  simp only [Zw, Ze] at h9
  rw [h9.1] at h8
  exact ⟨_, _, h9.2, h8⟩
 ·cases ht
theorem fldI {m o : Nat} {ft : TypeId} {cs : List Value} {y : DataW H × List MemPlace} (h : iI P ft = true) (hd : DataW.trod enc P w 0 (fun _ => true) true m ft ((cs.drop o).take (P.cellsOf ft)) = some y) : ∃ n, cs[o]? = some (.int .i64 n) ∧ wfI n := by
 obtain ⟨h1, h2⟩ := Qxz h
 rw [h2] at hd
 obtain ⟨n, h3, h4⟩ := Qxx h1 hd
 refine ⟨n, ?_, bounds_i64 h4⟩
 have := congrArg (fun l : List Value => l[0]?) h3
 simpa [List.getElem?_take, List.getElem?_drop] using this
theorem RL_ints {cs : List Value} {l : List Int} (hl : cs.length = l.length) (h : ∀ i (hi : i < l.length), cs[i]? = some (.int .i64 l[i])) : RL fid w (l.map fun n => .int .i64 n) cs := by
 refine ⟨by rw [hl, List.length_map], Qi.2 fun i c hc => ?_⟩
 rw [List.getElem?_map, Option.map_eq_some_iff] at hc
 obtain ⟨n, hn, rfl⟩ := hc
 obtain ⟨hi, hn⟩ := List.getElem?_eq_some_iff.1 hn
 exact ⟨_, h i hi, by simp [RepP, hn]⟩
theorem open_quad {t : TypeId} {fuel : Nat} {cs : List Value} {x : DataW H × List MemPlace} (ht : tyOk P .quad t = true) (h : DataW.trod enc P w 0 (fun _ => true) true fuel t cs = some x) : ∃ q : Quad, RL fid w (Qe .quad q) cs ∧ wfQ q := by
 obtain ⟨hl, m, _, hf⟩ := Qvt ht h
 obtain ⟨_, _, a0, b0⟩ := hf 0 _ _ rfl
 obtain ⟨_, _, a1, b1⟩ := hf 1 _ _ rfl
 obtain ⟨_, _, a2, b2⟩ := hf 2 _ _ rfl
 obtain ⟨_, _, a3, b3⟩ := hf 3 _ _ rfl
 obtain ⟨_, _, a4, b4⟩ := hf 4 _ _ rfl
 obtain ⟨n0, c0, w0⟩ := fldI a0 b0
 obtain ⟨n1, c1, w1⟩ := fldI a1 b1
 obtain ⟨n2, c2, w2⟩ := fldI a2 b2
 obtain ⟨n3, c3, w3⟩ := fldI a3 b3
 obtain ⟨n4, c4, w4⟩ := fldI a4 b4
 refine ⟨⟨n0, n1, n2, n3, n4⟩, RL_ints (l := [n0, n1, n2, n3, n4]) hl fun i hi => ?_, w0, w1, w2, w3, w4⟩
 match i, hi with
 | 0, _ => exact c0
 | 1, _ => exact c1
 | 2, _ => exact c2
 | 3, _ => exact c3
 | 4, _ => exact c4
def Arg (fid : Nat → Nat) (w : World) (c : TV) (v : Value) : Prop := RepP fid (Qdd w) (toAV c) v ∧ (toAV c).tipSz = none
theorem arg_int {k : IntKind} {n : Int} : Arg fid w (.int k n) (.int k n) := ⟨by simp [toAV, RepP], by simp [toAV, AV.tipSz]⟩
theorem arg_sl {c : TC} {Wf : Den c → Prop} {t e : TypeId} {v : Value} {d : DataW H} {ps : List MemPlace} {base : Nat} {r : Reach} (ht : P.underlying t = some (.slice e)) (hsz : P.cellsOf e = c.sz) (hpos : 0 < c.sz) (hv : Value.okWide P w r base t v)
  (hel : ∀ n cs x, DataW.trod enc P w 0 (fun _ => true) true n e cs = some x → ∃ d : Den c, RL fid w (Qe c d) cs ∧ Wf d)
  (h : DataW.Trod enc P w 0 (fun _ => true) true t v d ps) : ∃ l : List (Den c), Arg fid w (.sl .share c l) v ∧ (l.length : Int) ≤ 9223372036854775807 ∧ ∀ d ∈ l, Wf d := by
 obtain ⟨fuel, hf⟩ := h
 obtain ⟨a, n, cap, rfl⟩ := okWide_slice ht hv
 obtain ⟨v', l, e1, _, h2, h3, h4⟩ := sl_open ht hsz hpos (Qwk c) (fun n _ => hel n) hf
 simp only [Value.cells, List.cons.injEq, and_true] at e1
 subst e1
 exact ⟨l, ⟨by simpa [toAV, Md.sm] using h2, by simp [toAV, AV.tipSz, Md.sm]⟩, h3, h4⟩
theorem law_top {C : Ctx} {F : Nat → Option ProcT} {G : Nat → List TV} (hL : Laid C (FA F)) (hC : C.G = GA G) {g : Nat} (hg : g % 100 = 0) {tv : List TV} {args : Array Value} {w : World} (hG : GOk C (Qdd w)) (hF : ∀ x ∈ C.fx, ∃ o, w.heap[x.1]? = some o ∧ x.2 o) (hl : tv.length = args.size)
  (hr : ∀ (i : Nat) (c : TV) (v : Value), tv[i]? = some c → args[i]? = some v → Arg C.fid w c v) (h : Qbq F G Qhy g tv [] = some true) :
  Calls C.P (C.fid g) args w fun ed w' => ed = .returned (.bool true) ∧ Below w.heap.size w w' := by
 have hE := Qzv h
 rw [← hC] at hE
 refine top hL hg (c := .undef) hG hF (by simpa using hl) (fun i c v hc hv => ?_) hE
 rw [List.getElem?_map, Option.map_eq_some_iff] at hc
 obtain ⟨c', hc', rfl⟩ := hc
 exact hr i c' v hc' hv
theorem Qwa {g : Nat} : ∀ {l : List (Nat × ProcT)}, (Vs.look g l).map ProcT.er = Vs.look g (l.map fun x => (x.1, x.2.er))
 | [] => rfl
 | (h, x) :: r => by
  simp only [Vs.look, List.map_cons]
  split
  ·rfl
  ·exact Qwa
theorem FA_look (l : List (Nat × ProcT)) : FA (Vs.look · l) = (Vs.look · (l.map fun x => (x.1, x.2.er))) := by funext g; exact Qwa
theorem laidT {C : Ctx} {l : List (Nat × ProcT)} (hm : C.P.follows .mixedOrders = true) (h : Qlr C (FA (Vs.look · l)) (l.map fun x => (x.1, x.2.er))) : Laid C (FA (Vs.look · l)) := by
 rw [FA_look] at h ⊢
 exact laid_of hm h
end Go.Tv