/- A function of the program that is walked by hand: its answer is that of a closed form, where that has been shown. -/
import Derived.Test.YtbgodlimjjgogaaDoorTvRow4
import Derived.Test.YtbgodlimjjgogaaDoorPm3
import Derived.Test.YtbgodlimjjgogaaDoorPm4
set_option linter.unusedVariables false
namespace Go.Vs
open Go Go.RowKit
theorem topV {F : Nat → Option Proc} {C : Ctx} (hL : Laid C F) {g : Nat} (hg : g % 100 = 0) {tv : List AV} {args : Array Value} {w : World} {c : AV} (hG : GOk C (Qdd w)) (hF : ∀ x ∈ C.fx, ∃ o, w.heap[x.1]? = some o ∧ x.2 o) (hl : tv.length = args.size)
    (hr : ∀ (i : Nat) (c : AV) (v : Value), tv[i]? = some c → args[i]? = some v → RepP C.fid (Qdd w) c v ∧ c.tipSz = none) (hcf : c.flat = true) (hE : E F C.G g tv [] = some (.ret, [c], [])) :
    Calls C.P (C.fid g) args w fun ed w' => (∃ v σ, ed = .returned v ∧ RepP C.fid σ c v) ∧ Below w.heap.size w w' := by
  obtain ⟨k, hA⟩ := (Qql.lim g tv [] _).1 hE
  obtain ⟨_, h⟩ := (Qor hL k).1 g tv [] none _ _ _ hg (by simp) hA
  let e : Env := { w0 := w, σ0 := Qdd w, lent := fun _ => False, pbm := fun _ => none, n := 0 }
  have htt : ∀ t : Nat, ((Ql tv []).t t = .undef) ∨ ∃ c v, tv[t]? = some c ∧ args[t]? = some v ∧ (Ql tv []).t t = c := by
    intro t
    by_cases ht : t < tv.length
    · exact .inr ⟨tv[t], args[t]'(by omega), List.getElem?_eq_getElem ht, Array.getElem?_eq_getElem _, by simp [Ql, ht]⟩
    · left
      simp only [Ql, List.getD_eq_getElem?_getD]
      rw [List.getElem?_eq_none (by omega)]; rfl
  have hnt : ∀ p sz, Qd (Ql tv []) p ≠ some sz := by
    intro p sz hp
    cases p with
    | t t =>
      rcases htt t with h1 | ⟨c, v, h1, h2, h3⟩
      · simp only [Qd, h1] at hp; cases hp
      · simp only [Qd, h3, (hr t c v h1 h2).2] at hp; cases hp
    | c b i => simp [Qd, Ql] at hp
  have hen0 : Entry C e tv [] args w := by
    refine { w0 := rfl, len := hl, g := hG, fix := fun x hx => (let ⟨o, h1, h2⟩ := hF x hx; ⟨Qar h1, fun hh => hh, o, h1, h2⟩), rel := ?_ }
    refine { defers := rfl, hds := rfl, size := rfl, tmps := fun t => ?_, boxes := fun k c hk har => ?_, dead := fun k hk => rfl, ar := fun k es hk => (by simp [Ql] at hk), inj := fun k k' B h1 h2 => ?_, par := fun j B B' _ h1 h2 => ?_, newb := fun k B hk h1 => ?_,
             seenB := fun k hk => ?_, seenT := fun t k hk => ?_, mem := fun B i v hv => (Qbx.1 hv).1, one := fun B i v hv => (Qbx.1 hv).2, old := fun _ _ _ => rfl, oldσ := fun _ _ _ => rfl, leσ := Mem.le_refl _, grown := Nat.le_refl _, os := rfl, tape := rfl, output := rfl,
             tip := fun p sz hp => ?_, dist := fun p q sz sz' B hp hq h1 h2 => ?_ }
    · rcases htt t with h1 | ⟨c, v, h1, h2, h3⟩
      · rw [h1]; simp [RepT, RepP]
      · rw [h3]
        have : (⟨args, []⟩ : Act).tmps.getD t undef = v := by simp [Array.getD_eq_getD_getElem?, h2]
        rw [this]
        exact Qew (hr t c v h1 h2).1
    · simp [Ql] at hk
    · cases h1
    · cases h1
    · cases h1
    · simp [Ql] at hk
    · rcases htt t with h1 | ⟨c, v, h1, h2, h3⟩
      · rw [h1] at hk; cases hk
      · rw [h3] at hk
        have := (hr t c v h1 h2).1
        cases c <;> first | (cases hk; done) | exact this.elim
    · exact absurd hp (hnt p sz)
    · exact absurd hp (hnt p sz)
  have hen : EntryY C e tv [] none args w := hen0.toY (by simp) rfl
  refine (h e args w hen).mono fun ed w' hed => ?_
  cases ed with
  | panicked _ => exact hed.elim
  | outgrown => exact hed.elim
  | returned v =>
    have hed : Qeu C e [c] [] 0 false v w' := hed
    unfold Qeu at hed
    rw [if_neg (by simp)] at hed
    obtain ⟨n, s', a', _, _, c', hc, hr'⟩ := hed.1
    injection hc with hc
    subst hc
    rcases hr' with ⟨cs, hcs, _⟩ | ⟨hp, σ', bm', hx, hv, _⟩
    · subst hcs; cases hcf
    · exact ⟨⟨v, σ', rfl, (Qu hp).1 hv⟩, hx.os, hx.tape, hx.output, hx.grown, fun k hk => hx.old k hk (fun h => h)⟩
def Qne (C : Ctx) (g : Nat) (xs : List (List AV)) (s : List UInt8) : Prop :=
 ∀ (v : Value) (w : World), GOk C (Qdd w) → (∀ x ∈ C.fx, ∃ o, w.heap[x.1]? = some o ∧ x.2 o) → RepP C.fid (Qdd w) (.sl .share 5 xs) v →
  Calls C.P (C.fid g) #[v] w fun ed w' => ed = .returned (.string ⟨s.toArray⟩) ∧ Below w.heap.size w w'
open Classical in
noncomputable def Qzf (C : Ctx) (g : Nat) (K : List (List AV) → Option (List UInt8)) : List AV → Option AV
 | [.sl _ 5 xs] => bnd (K xs) fun s => if Qfy xs = true ∧ Qne C g xs s then some (.str s) else none
 | _ => none
theorem text_prim {C : Ctx} {g : Nat} {K : List (List AV) → Option (List UInt8)} (hk : Known C g) : Qls C g { kind := .prim, ins := [], bins := [], code := .skip, pf := Qzf C g K } := by
 refine ⟨rfl, fun tv c hpf => ⟨hk, fun e args w hen => ?_⟩, fun tv es c es' hpa => by cases hpa⟩
 replace hpf : Qzf C g K tv = some c := hpf
 unfold Qzf at hpf
 split at hpf
 rotate_left
 ·cases hpf
 rename_i m xs
 obtain ⟨s, hs, hpf⟩ := Qa.1 hpf
 split at hpf
 rotate_left
 ·cases hpf
 rename_i hgood
 injection hpf with hpf
 subst hpf
 obtain ⟨v, rfl, hv⟩ := Qpf hen
 have hv' : RepP C.fid e.σ0 (.sl m 5 xs) v := hv
 have hc : ∀ B i v, e.σ0 B i = some v → Qdd w B i = some v := fun B i v h => Qbx.2 ⟨hen.rel.mem B i v h, hen.rel.one B i v h⟩
 refine (hgood.2 v w ?_ ?_ ?_).mono ?_
 ·intro i
  exact Qbb (⟨hc, fun _ _ h => by cases h⟩ : e.σ0.bare.le (Qdd w).bare) _ _ _ (fun j v h => hc _ _ _ h) (hen.g i)
 ·intro x hx
  obtain ⟨_, _, o, h1, h2⟩ := hen.fix x hx
  exact ⟨o, by rw [← hen.w0]; exact h1, h2⟩
 ·exact Qgr hc (by simpa [AV.noTr] using hgood.1) (Qs hv')
 ·rintro ed w' ⟨rfl, hb⟩
  exact Qtl hen hb (by simp [RepP]) rfl rfl
end Go.Vs
namespace Go.Tv
open Go Go.RowKit Go.Vs
def Qqe : Sig := [⟨.ret, [.one], [], [.h .str]⟩]
theorem txt_of {F : Nat → Option ProcT} {G : Nat → List TV} {g : Nat} {tv : List TV} {x : List UInt8} (h : Qbq F G Qqe g tv [] = some x) : E (FA F) (GA G) g (tv.map toAV) [] = some (.ret, [.str x], []) := by
 obtain ⟨oc, o, b, h1, h2⟩ := Qgv h
 have := Qnn (ρ := Oc × List TV × List BT) (fun a b c => some (a, b, c)) h2
 simp only [Qqe, Qpe] at this
 injection this with this
 simp only [Zm] at this
 obtain ⟨rfl, rfl, rfl⟩ := this
 exact h1
theorem Qwu {C : Ctx} {F : Nat → Option ProcT} {G : Nat → List TV} (hL : Laid C (FA F)) (hC : C.G = GA G) {g : Nat} (hg : g % 100 = 0) {tv : List TV} {args : Array Value} {w : World} (hG : GOk C (Qdd w)) (hF : ∀ x ∈ C.fx, ∃ o, w.heap[x.1]? = some o ∧ x.2 o) (hl : tv.length = args.size)
  (hr : ∀ (i : Nat) (c : TV) (v : Value), tv[i]? = some c → args[i]? = some v → Arg C.fid w c v) {x : List UInt8} (h : Qbq F G Qqe g tv [] = some x) :
  Calls C.P (C.fid g) args w fun ed w' => ed = .returned (.string ⟨x.toArray⟩) ∧ Below w.heap.size w w' := by
 have hE := txt_of h
 rw [← hC] at hE
 refine (topV hL hg hG hF (by simpa using hl) (fun i c v hc hv => ?_) rfl hE).mono ?_
 ·rw [List.getElem?_map, Option.map_eq_some_iff] at hc
  obtain ⟨c', hc', rfl⟩ := hc
  exact hr i c' v hc' hv
 ·rintro ed w' ⟨⟨v, σ, rfl, hv⟩, hb⟩
  have : v = .string ⟨x.toArray⟩ := hv
  exact ⟨by rw [this], hb⟩
theorem Qsc {C : Ctx} {F : Nat → Option ProcT} {G : Nat → List TV} (hL : Laid C (FA F)) (hC : C.G = GA G) {g : Nat} (hg : g % 100 = 0) {tv : List TV} {args : Array Value} {w : World} (hG : GOk C (Qdd w)) (hF : ∀ x ∈ C.fx, ∃ o, w.heap[x.1]? = some o ∧ x.2 o) (hl : tv.length = args.size)
  (hr : ∀ (i : Nat) (c : TV) (v : Value), tv[i]? = some c → args[i]? = some v → Arg C.fid w c v) {x : Bool} (h : Qbq F G Qhy g tv [] = some x) :
  Calls C.P (C.fid g) args w fun ed w' => ed = .returned (.bool x) ∧ Below w.heap.size w w' := by
 have hE := Qzv h
 rw [← hC] at hE
 refine (topV hL hg hG hF (by simpa using hl) (fun i c v hc hv => ?_) rfl hE).mono ?_
 ·rw [List.getElem?_map, Option.map_eq_some_iff] at hc
  obtain ⟨c', hc', rfl⟩ := hc
  exact hr i c' v hc' hv
 ·rintro ed w' ⟨⟨v, σ, rfl, hv⟩, hb⟩
  have : v = .bool x := hv
  exact ⟨by rw [this], hb⟩
end Go.Tv
namespace Go.Tx
open Go Go.RowKit Go.Vs Go.Tv
def Qzx (q : Quad) (many : Int) : Prop :=
 (q.op = 1 ∧ (0 ≤ q.dst ∧ q.dst < 12) ∧ q.a = 0 ∧ q.b = 0 ∧ -2147483648 ≤ q.n ∧ q.n ≤ 2147483647) ∨ (q.op = 2 ∧ (0 ≤ q.dst ∧ q.dst < 12) ∧ (0 ≤ q.a ∧ q.a < 12) ∧ q.b = 0 ∧ q.n = 0) ∨
 (q.op = 3 ∧ (0 ≤ q.dst ∧ q.dst < 12) ∧ (0 ≤ q.a ∧ q.a < 12) ∧ (0 ≤ q.b ∧ q.b < 12) ∧ 1 ≤ q.n ∧ q.n ≤ 12) ∨ (q.op = 4 ∧ q.dst = 0 ∧ q.a = 0 ∧ q.b = 0 ∧ 0 ≤ q.n ∧ q.n < many) ∨
 (q.op = 5 ∧ q.dst = 0 ∧ (0 ≤ q.a ∧ q.a < 12) ∧ q.b = 0 ∧ 0 ≤ q.n ∧ q.n < many) ∨ (q.op = 6 ∧ q.dst = 0 ∧ (0 ≤ q.a ∧ q.a < 12) ∧ q.b = 0 ∧ 0 ≤ q.n ∧ q.n ≤ 2) ∨
 (q.op = 7 ∧ (0 ≤ q.dst ∧ q.dst < 12) ∧ q.a = 0 ∧ q.b = 0 ∧ 0 ≤ q.n ∧ q.n ≤ 2) ∨ (q.op = 9 ∧ q.dst = 0 ∧ (0 ≤ q.a ∧ q.a < 12) ∧ q.b = 0 ∧ q.n = 0) ∨ ((q.op = 8 ∨ q.op = 10) ∧ q.dst = 0 ∧ q.a = 0 ∧ q.b = 0 ∧ q.n = 0)
def Qsg (a : List Quad) : Prop := 1 ≤ a.length ∧ a.length ≤ 600 ∧ (∀ q ∈ a, Qzx q a.length) ∧ ∀ q, a.getLast? = some q → q.op = 10 ∨ q.op = 4
def regT (x : Int) : List UInt8 := 114 :: Lib.itoa x
def opTs : List (List UInt8) := [[124], [94], [38], [61, 61], [60], [60, 60], [62, 62], [43], [45], [42], [47], [37]]
def opT (n : Int) : List UInt8 := if 1 ≤ n ∧ n ≤ 12 then opTs.getD (n - 1).toNat [] else []
def quadT (q : Quad) : List UInt8 :=
 if q.op = 1 then regT q.dst ++ [32, 61, 32] ++ Lib.itoa q.n
 else if q.op = 2 then regT q.dst ++ [32, 61, 32] ++ regT q.a
 else if q.op = 3 then regT q.dst ++ [32, 61, 32] ++ regT q.a ++ [32] ++ opT q.n ++ [32] ++ regT q.b
 else if q.op = 4 then [106, 117, 109, 112, 32] ++ Lib.itoa q.n
 else if q.op = 5 then [122, 101, 114, 111, 32] ++ regT q.a ++ [32] ++ Lib.itoa q.n
 else if q.op = 6 then [115, 101, 110, 100, 32] ++ Lib.itoa q.n ++ [32] ++ regT q.a
 else if q.op = 7 then regT q.dst ++ [32, 61, 32, 114, 101, 99, 118, 32] ++ Lib.itoa q.n
 else if q.op = 8 then [121, 105, 101, 108, 100]
 else if q.op = 9 then [112, 114, 105, 110, 116, 32] ++ regT q.a
 else [104, 97, 108, 116]
open Classical in
noncomputable def Qyw (q : Quad) : List UInt8 := if Qzx q 600 then quadT q else []
def Qvf (it : Int → List UInt8) (qt : Quad → List UInt8) : Nat → List Quad → List UInt8
 | _, [] => []
 | i, q :: r => it i ++ [58, 32] ++ qt q ++ [10] ++ Qvf it qt (i + 1) r
open Classical in
noncomputable def Qtd (l : List Quad) : List UInt8 := if Qsg l then Qvf Lib.itoa Qyw 0 l else []
def Qjm : List (List AV) → Option (List Quad)
 | [] => some []
 | [.int .i64 o, .int .i64 d, .int .i64 a, .int .i64 b, .int .i64 n] :: r => bnd (Qjm r) fun l => some (⟨o, d, a, b, n⟩ :: l)
 | _ => none
theorem Qjb : ∀ l : List Quad, Qjm (l.map (Qe .quad)) = some l
 | [] => rfl
 | q :: l => by
  show (bnd (Qjm (l.map (Qe .quad))) fun l => some ((⟨q.op, q.dst, q.a, q.b, q.n⟩ : Quad) :: l)) = _
  rw [Qjb l]; rfl
noncomputable def ctK (xs : List (List AV)) : Option (List UInt8) := bnd (Qjm xs) fun l => some (Qtd l)
open Classical in
noncomputable def textT (C : Ctx) (g : Nat) (l : List Quad) : Option (List UInt8) := if Qne C g (l.map (Qe .quad)) (Qtd l) then some (Qtd l) else none
theorem text_pf {C : Ctx} {g : Nat} {l : List Quad} {r : List UInt8} (h : textT C g l = some r) : Qzf C g ctK ([TV.sl .share .quad l].map toAV) = some (toAV (.str r)) := by
 unfold textT at h
 split at h
 ·rename_i hg
  injection h with h
  subst h
  show (bnd (ctK (l.map (Qe .quad))) fun s => _) = _
  have e : ctK (l.map (Qe .quad)) = some (Qtd l) := by
   unfold ctK
   rw [Qjb, Qb]
  rw [e, Qb, if_pos ⟨Qej (c := .quad) rfl l, hg⟩]; rfl
 ·cases h
theorem Qji {w w1 : World} (hb : Below w.heap.size w w1) : (Qdd w).le (Qdd w1) :=
 ⟨fun B i v hv => by
  obtain ⟨h1, h2⟩ := Qbx.1 hv
  have hlt := World.block_lt_of_cell? w _ h1
  exact Qbx.2 ⟨by rw [hb.cell (p := ⟨B, i, none⟩) hlt]; exact h1, h2⟩, fun _ _ h => by cases h⟩
theorem fx_le {l : List (Nat × (Obj → Prop))} {w w1 : World} (hb : Below w.heap.size w w1) (hF : ∀ x ∈ l, ∃ o, w.heap[x.1]? = some o ∧ x.2 o) : ∀ x ∈ l, ∃ o, w1.heap[x.1]? = some o ∧ x.2 o := fun x hx => by
 obtain ⟨o, h1, h2⟩ := hF x hx
 exact ⟨o, by rw [hb.block x.1 (Array.getElem?_eq_some_iff.1 h1).1]; exact h1, h2⟩
theorem Qtu {fid : Nat → Nat} {w : World} {B o : Nat} {l : List Quad} (hrow : RepR fid (Qdd w) 5 (l.map (Qe .quad)) (fun i => Qdd w B (o + i))) (i : Nat) (q : Quad) (hq : l[i]? = some q) :
  w.cell? ⟨B, o + i * 5, none⟩ = some (.int .i64 q.op) ∧ w.cell? ⟨B, o + i * 5 + 1, none⟩ = some (.int .i64 q.dst) ∧ w.cell? ⟨B, o + i * 5 + 2, none⟩ = some (.int .i64 q.a) ∧ w.cell? ⟨B, o + i * 5 + 3, none⟩ = some (.int .i64 q.b) ∧ w.cell? ⟨B, o + i * 5 + 4, none⟩ = some (.int .i64 q.n) := by
 have h := Qi.1 (Qn.1 hrow i (Qe .quad q) (by rw [List.getElem?_map, hq]; rfl)).2
 have one : ∀ j n, (Qe .quad q)[j]? = some (.int .i64 n) → w.cell? ⟨B, o + (i * 5 + j), none⟩ = some (.int .i64 n) := by
  intro j n hj
  obtain ⟨v, h1, h2⟩ := h j _ hj
  simp only [RepP] at h2
  subst h2
  exact (Qbx.1 h1).1
 exact ⟨one 0 _ rfl, one 1 _ rfl, one 2 _ rfl, one 3 _ rfl, one 4 _ rfl⟩
def qagg (q : Quad) : Value := .agg #[.int .i64 q.op, .int .i64 q.dst, .int .i64 q.a, .int .i64 q.b, .int .i64 q.n]
theorem Qxh {fid : Nat → Nat} {w : World} (q : Quad) : Arg fid w (.agg (rowT .quad q)) (qagg q) := by
 refine ⟨?_, by simp [toAV, AV.tipSz]⟩
 simp only [toAV, Qj, Qcj, RepP]
 refine ⟨_, rfl, by simp [Qe], ?_⟩
 simp [RepL, Qe, RepP]
def Walk (C : Ctx) (g gv gi gq : Nat) : Prop :=
 ∀ (l : List Quad) (w : World) (B0 o cap : Nat), l.length ≤ 600 → B0 < w.heap.size →
  (∀ (i : Nat) (q : Quad), l[i]? = some q → w.cell? ⟨B0, o + i * 5, none⟩ = some (.int .i64 q.op) ∧ w.cell? ⟨B0, o + i * 5 + 1, none⟩ = some (.int .i64 q.dst) ∧ w.cell? ⟨B0, o + i * 5 + 2, none⟩ = some (.int .i64 q.a) ∧ w.cell? ⟨B0, o + i * 5 + 3, none⟩ = some (.int .i64 q.b) ∧ w.cell? ⟨B0, o + i * 5 + 4, none⟩ = some (.int .i64 q.n)) →
  (∀ w1, Below w.heap.size w w1 → Calls C.P (C.fid gv) #[.slice (some ⟨B0, o, none⟩) l.length cap] w1 fun e w' => e = .returned (.bool true) ∧ Below w1.heap.size w1 w') →
  (∀ (n : Nat) w1, n < 600 → Below w.heap.size w w1 → Calls C.P (C.fid gi) #[.int .i64 n] w1 fun e w' => e = .returned (.string ⟨(Lib.itoa n).toArray⟩) ∧ Below w1.heap.size w1 w') →
  (∀ q w1, q ∈ l → Below w.heap.size w w1 → Calls C.P (C.fid gq) #[qagg q] w1 fun e w' => e = .returned (.string ⟨(Qyw q).toArray⟩) ∧ Below w1.heap.size w1 w') →
  Calls C.P (C.fid g) #[.slice (some ⟨B0, o, none⟩) l.length cap] w fun e w' => e = .returned (.string ⟨(Qvf Lib.itoa Qyw 0 l).toArray⟩) ∧ Below w.heap.size w w'
def Qxe (C : Ctx) (g gv : Nat) : Prop :=
 ∀ (v : Value) (w : World), (Calls C.P (C.fid gv) #[v] w fun e w' => e = .returned (.bool false) ∧ Below w.heap.size w w') → Calls C.P (C.fid g) #[v] w fun e w' => e = .returned (.string ⟨([] : List UInt8).toArray⟩) ∧ Below w.heap.size w w'
theorem text_good {C : Ctx} {F : Nat → Option ProcT} {G : Nat → List TV} (hL : Laid C (FA F)) (hC : C.G = GA G) {g gv gi gq : Nat} (m1 : gv % 100 = 0) (m2 : gi % 100 = 0) (m3 : gq % 100 = 0) {l : List Quad}
  (hv1 : Qsg l → Qbq F G Qhy gv [.sl .share .quad l] [] = some true) (hv0 : ¬ Qsg l → Qbq F G Qhy gv [.sl .share .quad l] [] = some false)
  (hq : ∀ q, Qbq F G Qqe gq [.agg (rowT .quad q)] [] = some (Qyw q)) (hi : ∀ n : Nat, n < 600 → Qbq F G Qqe gi [.int .i64 (n : Int)] [] = some (Lib.itoa n))
  (walk : Walk C g gv gi gq) (wnone : Qxe C g gv) : Qne C g (l.map (Qe .quad)) (Qtd l) := by
 intro v w hG hF hv
 have hsl : ∀ w1, Below w.heap.size w w1 → ∀ (i : Nat) (c : TV) (u : Value), [TV.sl .share .quad l][i]? = some c → #[v][i]? = some u → Arg C.fid w1 c u := by
  intro w1 hb i c u hc hu
  match i, hc, hu with
  | 0, hc, hu =>
   simp at hc hu
   subst hc hu
   exact ⟨RepP.mono hv (Qji hb), by simp [toAV, AV.tipSz, Md.sm]⟩
  | i + 1, hc, _ => simp at hc
 unfold Qtd
 by_cases h : Qsg l
 ·rw [if_pos h]
  obtain ⟨a, n, cap, rfl, hn, hcap, _, hrow⟩ := (show RepP C.fid (Qdd w) (.sl .share 5 (l.map (Qe .quad))) v from hv)
  rw [List.length_map] at hn
  subst hn
  have h0 : l.length ≠ 0 := by have := h.1; omega
  rcases hrow with hh | ⟨B, o, rfl, hrow⟩
  ·exact absurd hh h0
  have hcell := Qtu hrow
  have hB : B < w.heap.size := World.block_lt_of_cell? w _ (hcell 0 (l[0]'(by omega)) (List.getElem?_eq_getElem _)).1
  refine walk l w B o cap h.2.1 hB hcell (fun w1 hb => ?_) (fun n w1 hn hb => ?_) (fun q w1 hq' hb => ?_)
  ·exact Qsc hL hC m1 (hG.mono (Qji hb)) (fx_le hb hF) rfl (hsl w1 hb) (hv1 h)
  ·refine Qwu hL hC m2 (hG.mono (Qji hb)) (fx_le hb hF) rfl (fun i c u hc hu => ?_) (hi n hn)
   match i, hc, hu with
   | 0, hc, hu => simp at hc hu; subst hc hu; exact arg_int
   | i + 1, hc, _ => simp at hc
  ·refine Qwu hL hC m3 (hG.mono (Qji hb)) (fx_le hb hF) rfl (fun i c u hc hu => ?_) (hq q)
   match i, hc, hu with
   | 0, hc, hu => simp at hc hu; subst hc hu; exact Qxh q
   | i + 1, hc, _ => simp at hc
 ·rw [if_neg h]
  exact wnone v w (Qsc hL hC m1 hG hF rfl (hsl w (Below.refl _ _)) (hv0 h))
end Go.Tx