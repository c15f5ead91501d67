/- Own slices: the arena, and what an operation leaves alone. -/
import Derived.Test.YtbgodlimjjgogaaDoorVs17
set_option linter.unusedVariables false
namespace Go.Vs
open Go Go.RowKit
section
variable {C : Ctx} {e e' : Env} {σ σ' τ : Mem} {bm bm' : Nat → Option Nat} {s s' : S} {a a' : Act} {w w' : World} {es : List Ent}
theorem RelX.base_le (h : RelX C.fid e σ bm s a w) : e.base ≤ w.heap.size := Nat.le_trans e.hbase h.grown
def Env.re (e : Env) (σ : Mem) (bm : Nat → Option Nat) (s : S) (a : Act) (w : World) (h : e.base ≤ w.heap.size) : Env :=
 { w0 := w, σ0 := σ, lent := Qz s bm a w, pbm := e.pbm, n := e.n, base := e.base, hbase := h, hd := σ.hd, arn := e.arn }
theorem Qz.own (h : RelX C.fid e σ bm s a w) {B : Nat} (hp : Qz s bm a w B) : e.own B ∧ B < w.heap.size := by
 rcases hp with ⟨b, hb⟩ | ⟨p, sz, hp, hB⟩
 ·refine ⟨?_, Qhx h hb⟩
  cases hs : s.b b with
  | none => rw [h.dead b hs] at hb; cases hb
  | some c =>
   obtain ⟨B', k1, _, k3, _⟩ := h.boxes b c hs (h.nar hs hb)
   rw [hb] at k1
   injection k1 with k1
   subst k1
   exact k3
 ·refine ⟨?_, Qdz h hp hB⟩
  exact Qhr (h.tip p sz hp) hB
theorem RelX.frame (h : RelX C.fid e σ bm s a w) : RelX C.fid (e.re σ bm s a w h.base_le) σ bm s a w :=
  { h with
    hds := rfl
    boxes := fun b c hb har => by
      obtain ⟨B, h1, h2, h3, h4⟩ := h.boxes b c hb har
      exact ⟨B, h1, h2, .inr (.inl ⟨b, h1⟩), h4⟩
    old := fun _ _ _ => rfl
    oldσ := fun _ _ _ => rfl
    leσ := Mem.le_refl σ
    grown := Nat.le_refl _
    os := rfl
    tape := rfl
    output := rfl
    tip := fun p sz hp => by
      obtain ⟨A, n, cap, h1, h2⟩ := h.tip p sz hp
      refine ⟨A, n, cap, h1, ?_⟩
      by_cases hc : cap = 0
      · exact .inl hc
      rcases h2 with h2 | ⟨B', o, vs, t, m, j1, j2, j3, j4, j5, j6, j7⟩
      · exact .inl h2
      · exact .inr ⟨B', o, vs, t, m, j1, j2, j3, j4, j5, .inr (.inr ⟨p, sz, hp, by rw [h1, j1]; simp [Qf, hc]⟩), j7⟩ }
theorem Qwg (h : RelX C.fid e σ bm s a w) {B : Nat} (hB : (e.re σ bm s a w h.base_le).own B) : e.own B := by
 rcases hB with hB | hB
 ·exact .inl (Nat.le_trans h.grown hB)
 ·exact (Qz.own h hB).1
theorem re_own' (h : RelX C.fid e σ bm s a w) {B : Nat} (hB : (e.re σ bm s a w h.base_le).own B) : w.heap.size ≤ B ∨ Qz s bm a w B := hB
theorem RelX.unframe (h : RelX C.fid e σ bm s a w) (h' : RelX C.fid (e.re σ bm s a w h.base_le) σ' bm' s' a' w') :
  RelX C.fid e σ' bm' s' a' w' ∧ (∀ B, B < w.heap.size → ¬ Qz s bm a w B → w'.heap[B]? = w.heap[B]? ∧ σ' B = σ B) ∧ w.heap.size ≤ w'.heap.size ∧ σ.le σ' ∧ σ'.hd = σ.hd ∧
   ∀ B, Qz s' bm' a' w' B → w.heap.size ≤ B ∨ Qz s bm a w B := by
 have np : ∀ B, B < e.w0.heap.size → ¬ e.lent B → ¬ Qz s bm a w B := by
  intro B h1 h2 hp
  rcases (Qz.own h hp).1 with k | k
  ·omega
  ·exact h2 k
 refine ⟨{ h' with
  hds := (show σ'.hd = σ.hd from h'.hds).trans h.hds
  boxes := fun b c hb har => by
   obtain ⟨B, h1, h2, h3, h4⟩ := h'.boxes b c hb har
   exact ⟨B, h1, h2, Qwg h h3, h4⟩
  old := fun B h1 h2 => (h'.old B (Nat.lt_of_lt_of_le h1 h.grown) (np B h1 h2)).trans (h.old B h1 h2)
  oldσ := fun B h1 h2 => (h'.oldσ B (Nat.lt_of_lt_of_le h1 h.grown) (np B h1 h2)).trans (h.oldσ B h1 h2)
  leσ := Mem.le_trans h.leσ h'.leσ
  grown := Nat.le_trans h.grown h'.grown
  os := h'.os.trans h.os
  tape := h'.tape.trans h.tape
  output := h'.output.trans h.output
  tip := fun p sz hp => by
   obtain ⟨A, n, cap, h1, h2⟩ := h'.tip p sz hp
   refine ⟨A, n, cap, h1, h2.imp id ?_⟩
   rintro ⟨B', o, vs, t, m, j1, j2, j3, j4, j5, j6, j7⟩
   exact ⟨B', o, vs, t, m, j1, j2, j3, j4, j5, Qwg h j6, j7⟩ }, ?_, h'.grown, h'.leσ, h'.hds, ?_⟩
 ·intro B h1 h2
  exact ⟨h'.old B h1 h2, h'.oldσ B h1 h2⟩
 ·intro B hB
  exact (Qz.own h' hB).1
theorem Qea.re (hF : Qea C e) (h : RelX C.fid e σ bm s a w) : Qea C (e.re σ bm s a w h.base_le) := by
 intro x hx
 obtain ⟨h1, h2, o, h3, h4⟩ := hF x hx
 refine ⟨Nat.lt_of_lt_of_le h1 h.grown, fun hp => ?_, o, (h.old _ h1 h2).trans h3, h4⟩
 rcases (Qz.own h hp).1 with k | k
 ·omega
 ·exact h2 k
def Qcv : Option Value → Option Nat
 | some (.slice (some x) _ cap) => if cap = 0 then none else some x.block
 | _ => none
def Qt (σ : Mem) (es : List Ent) (id : Nat) : Option Nat := match es[id]? with | some (some _) => Qcv (σ.hd id) | _ => none
def Qrs (vs : Array Value) (n : Nat) : Prop := ∀ i v, i < n → vs[i]? = some v → v.oneCell' = true
def BoxFn (vs : Array Value) (m : Nat × Nat) (n : Nat) : Prop := Qum vs m ∧ Qrs vs n
theorem Ones.to {vs : Array Value} (h : Ones vs) (n : Nat) : Qrs vs n := fun i v _ hv => h.get hv
def EntOk (fid : Nat → Nat) (e : Env) (σ : Mem) (bm : Nat → Option Nat) (s : S) (a : Act) (w : World) (id sz : Nat) (xs : List (List AV)) : Prop :=
 ∃ x cap, σ.hd id = some (.slice x xs.length cap) ∧ ((cap = 0 ∧ xs = []) ∨ (0 < cap ∧ xs.length ≤ cap ∧ ∃ B vs t m, x = some ⟨B, 0, none⟩ ∧ w.heap[B]? = some (.cells vs t m) ∧ BoxFn vs m (xs.length * sz) ∧ cap * sz ≤ vs.size ∧
  RepR fid σ sz xs (fun i => vs[i]?) ∧ e.own B ∧ (∀ i, σ B i = none) ∧ ¬ Qz s bm a w B))
structure ArOk (fid : Nat → Nat) (e : Env) (σ : Mem) (bm : Nat → Option Nat) (s : S) (a : Act) (w : World) (es : List Ent) : Prop where
 ent : ∀ (id : Nat) sz xs, es[id]? = some (some (sz, xs)) → EntOk fid e σ bm s a w id sz xs
 inj : ∀ id id' B, Qt σ es id = some B → Qt σ es id' = some B → id = id'
 fresh : ∀ id, es.length ≤ id → σ.hd id = none
def ArS (fid : Nat → Nat) (e : Env) (σ : Mem) (bm : Nat → Option Nat) (s : S) (a : Act) (w : World) : Prop := ∀ es, s.b 99 = some (.ar es) → ArOk fid e σ bm s a w es
theorem Qaw {id B : Nat} (h : Qt σ es id = some B) : ∃ sz xs, es[id]? = some (some (sz, xs)) ∧ Qcv (σ.hd id) = some B := by
 unfold Qt at h
 split at h
 ·rename_i x hx
  exact ⟨x.1, x.2, hx, h⟩
 ·cases h
theorem ArOk.blk (h : ArOk C.fid e σ bm s a w es) {id B : Nat} (hB : Qt σ es id = some B) : B < w.heap.size ∧ e.own B ∧ ¬ Qz s bm a w B ∧ (∀ i, σ B i = none) ∧ ∃ vs t m, w.heap[B]? = some (.cells vs t m) := by
 obtain ⟨sz, xs, h1, h2⟩ := Qaw hB
 obtain ⟨x, cap, k1, k2⟩ := h.ent id sz xs h1
 rw [k1] at h2
 rcases k2 with ⟨rfl, _⟩ | ⟨hc, _, B', vs, t, m, rfl, j2, j3, j4, j5, j6, j7, j8⟩
 ·cases x <;> simp [Qcv] at h2
 ·simp only [Qcv] at h2
  rw [if_neg (by omega)] at h2
  injection h2 with h2
  subst h2
  exact ⟨Qar j2, j6, j8, j7, vs, t, m, j2⟩
theorem ArOk.step (h : ArOk C.fid e σ bm s a w es) (hh : ∀ id B, Qt σ es id = some B → w'.heap[B]? = w.heap[B]? ∧ σ' B = σ B ∧ e'.own B) (hle : σ.le σ') (hhd : σ'.hd = σ.hd)
  (hpl : ∀ id B, Qt σ es id = some B → Qz s' bm' a' w' B → Qz s bm a w B) : ArOk C.fid e' σ' bm' s' a' w' es := by
 have hblk : ∀ id, Qt σ' es id = Qt σ es id := fun id => by unfold Qt; rw [hhd]
 refine ⟨fun id sz xs hx => ?_, fun id id' B h1 h2 => ?_, fun id hid => ?_⟩
 ·obtain ⟨x, cap, k1, k2⟩ := h.ent id sz xs hx
  refine ⟨x, cap, by rw [hhd]; exact k1, ?_⟩
  rcases k2 with k2 | ⟨hc, hn, B, vs, t, m, rfl, j2, j3, j4, j5, j6, j7, j8⟩
  ·exact .inl k2
  ·have hB : Qt σ es id = some B := by
    unfold Qt
    rw [hx]
    simp only [k1, Qcv]
    rw [if_neg (by omega)]
   obtain ⟨q1, q2, q3⟩ := hh id B hB
   exact .inr ⟨hc, hn, B, vs, t, m, rfl, q1.trans j2, j3, j4, Qad hle _ _ _ (fun _ _ h => h) j5, q3, fun i => by rw [q2]; exact j7 i, fun hp => j8 (hpl id B hB hp)⟩
 ·rw [hblk] at h1 h2
  exact h.inj id id' B h1 h2
 ·rw [hhd]; exact h.fresh id hid
theorem ArOk.less (h : ArOk C.fid e σ bm s a w es) {es' : List Ent} (hl : es'.length = es.length) (hx : ∀ (id : Nat) x, es'[id]? = some (some x) → es[id]? = some (some x)) : ArOk C.fid e σ bm s a w es' := by
 have hblk : ∀ id B, Qt σ es' id = some B → Qt σ es id = some B := by
  intro id B hB
  obtain ⟨sz, xs, h1, h2⟩ := Qaw hB
  unfold Qt
  rw [hx id _ h1]; exact h2
 exact ⟨fun id sz xs h1 => h.ent id sz xs (hx id _ h1), fun id id' B h1 h2 => h.inj id id' B (hblk _ _ h1) (hblk _ _ h2), fun id hid => h.fresh id (by omega)⟩
theorem Qfr : ∀ {ids : List Nat} {es : List Ent}, (Qev es ids).length = es.length ∧ ∀ (id : Nat) x, (Qev es ids)[id]? = some (some x) → es[id]? = some (some x) ∧ id ∉ ids
 | [], es => ⟨rfl, fun id x h => ⟨h, by simp⟩⟩
 | i :: ids, es => by
  obtain ⟨h1, h2⟩ := Qfr (ids := ids) (es := es.set i none)
  have e0 : Qev es (i :: ids) = Qev (es.set i none) ids := rfl
  rw [e0]
  refine ⟨by simpa using h1, fun id x hx => ?_⟩
  obtain ⟨k1, k2⟩ := h2 id x hx
  rw [List.getElem?_set] at k1
  split at k1
  ·split at k1
   ·simp at k1
   ·simp at k1
  ·rename_i hne
   exact ⟨k1, by simp only [Zo, not_or]; exact ⟨fun e => hne e.symm, k2⟩⟩
theorem Qfs {id0 : Option Nat} : (killO es id0).length = es.length ∧ ∀ (id : Nat) x, (killO es id0)[id]? = some (some x) → es[id]? = some (some x) ∧ id0 ≠ some id := by
 cases id0 with
 | none => exact ⟨rfl, fun id x h => ⟨h, by simp⟩⟩
 | some i =>
  obtain ⟨h1, h2⟩ := Qfr (ids := [i]) (es := es)
  exact ⟨h1, fun id x hx => ⟨(h2 id x hx).1, fun e => (h2 id x hx).2 (by simp; injection e with e; exact e.symm)⟩⟩
theorem Qtb : (Qec es).length = es.length ∧ ∀ (id : Nat) x, (Qec es)[id]? ≠ some (some x) := by
 refine ⟨by simp [Qec], fun id x hx => ?_⟩
 simp only [Qec, List.getElem?_replicate] at hx
 split at hx <;> simp at hx
def NoAr (e : Env) (σ : Mem) (s : S) : Prop := e.arn = false → σ.hd = e.hd ∧ s.arr = none
theorem Qds (h : s.arr = some es) : s.b 99 = some (.ar es) := by
 unfold S.arr at h
 split at h
 ·rename_i es' hes; injection h with h; subst h; exact hes
 ·cases h
theorem Qut (h : s.b 99 = some (.ar es)) : s.arr = some es := by unfold S.arr; rw [h]
theorem NoAr.has (h : NoAr e σ s) (hes : s.b 99 = some (.ar es)) {σ' : Mem} {s' : S} : NoAr e σ' s' := by
 intro he
 have := (h he).2
 rw [Qut hes] at this
 cases this
theorem NoAr.keep (h : NoAr e σ s) (hk : ∀ es, s'.b 99 = some (.ar es) → s.b 99 = some (.ar es)) (hh : σ'.hd = σ.hd) : NoAr e σ' s' := by
 intro he
 obtain ⟨h1, h2⟩ := h he
 refine ⟨hh.trans h1, ?_⟩
 cases h3 : s'.arr with
 | none => rfl
 | some es => rw [Qut (hk es (Qds h3))] at h2; cases h2
def RelY (C : Ctx) (e : Env) (s : S) (a : Act) (w : World) : Prop := ∃ σ bm, RelX C.fid { e with hd := σ.hd } σ bm s a w ∧ ArS C.fid e σ bm s a w ∧ NoAr e σ s
def Qo (C : Ctx) (e : Env) (s : S) (c : AV) (v : Value) (a : Act) (w : World) : Prop :=
 ∃ σ bm, RelX C.fid { e with hd := σ.hd } σ bm s a w ∧ ArS C.fid e σ bm s a w ∧ NoAr e σ s ∧ RepT C.fid σ bm s.b c v ∧ (∀ b, c.ref = some b → s.seen b = true) ∧
  ∀ sz, c.tipSz = some sz → Qdq e σ bm w sz v ∧ (∀ p sz' B, Qd s p = some sz' → Qf v = some B → Qf (Qg a w bm p) ≠ some B) ∧ ∀ es id B, s.b 99 = some (.ar es) → Qf v = some B → Qt σ es id ≠ some B
theorem Qdq.env {e' : Env} {sz : Nat} {v : Value} (h : Qdq e σ bm w sz v) (ho : ∀ B, e.own B → e'.own B) : Qdq e' σ bm w sz v := by
 obtain ⟨A, n, cap, h1, h2⟩ := h
 refine ⟨A, n, cap, h1, h2.imp id ?_⟩
 rintro ⟨B', o, vs, t, m, j1, j2, j3, j4, j5, j6, j7⟩
 exact ⟨B', o, vs, t, m, j1, j2, j3, j4, j5, ho _ j6, j7⟩
theorem Qo.put {c : AV} {v : Value} (h : Qo C e s c v a w) (d : Option Nat) (hd : ∀ t, d = some t → t < e.n) : RelY C e (s.put d c) (a.put d v) w := by
 obtain ⟨σ, bm, h1, h2, hN, h3, h4, h5⟩ := h
 have hb : (s.put d c).b = s.b := by cases d <;> rfl
 refine ⟨σ, bm, h1.put d hd h3 h4 (fun sz hs => ⟨(h5 sz hs).1, (h5 sz hs).2.1⟩), fun es hes => ?_, hN.keep (fun es h => by rw [hb] at h; exact h) rfl⟩
 rw [hb] at hes
 refine (h2 es hes).step (fun id B hB => ⟨rfl, rfl, ((h2 es hes).blk hB).2.1⟩) (Mem.le_refl _) rfl (fun id B hB hp => ?_)
 rcases hp with hp | ⟨p, sz, hp, hq⟩
 ·exact .inl hp
 cases d with
 | none => exact .inr ⟨p, sz, hp, hq⟩
 | some d =>
  have hlt : d < a.tmps.size := by rw [h1.size]; exact hd d rfl
  cases p with
  | c b i => exact .inr ⟨.c b i, sz, (show Qd s (.c b i) = some sz from hp), hq⟩
  | t t =>
   by_cases ht : t = d
   ·subst ht
    exfalso
    have hc : c.tipSz = some sz := by simpa [Qd, S.put, upd] using hp
    have hv : Qg (a.put (some t) v) w bm (.t t) = v := by show (a.put (some t) v).tmps.getD t undef = v; rw [Qjg hlt]; simp
    rw [hv] at hq
    exact (h5 sz hc).2.2 es id B hes hq hB
   ·refine .inr ⟨.t t, sz, ?_, ?_⟩
    ·simpa [Qd, S.put, upd, ht] using hp
    ·have hv : Qg (a.put (some d) v) w bm (.t t) = Qg a w bm (.t t) := by show (a.put (some d) v).tmps.getD t undef = _; rw [Qjg hlt]; simp [ht, Qg]
     rw [hv] at hq; exact hq
theorem Qo.lift {c : AV} {v : Value} (h : RelX C.fid { e with hd := σ.hd } σ bm s a w) (ha : ArS C.fid e σ bm s a w) (hN : NoAr e σ s) (hk : ∀ es, s'.b 99 = some (.ar es) → s.b 99 = some (.ar es))
  (hr : Qp C (({ e with hd := σ.hd } : Env).re σ bm s a w h.base_le) s' c v a w') : Qo C e s' c v a w' := by
 obtain ⟨σ', bm', h1, h2, h3, h4⟩ := hr
 obtain ⟨k1, k2, k3, k4, k5, k6⟩ := h.unframe h1
 have hx : RelX C.fid { e with hd := σ'.hd } σ' bm' s' a w' := by rw [k5]; exact k1
 have har : ∀ es, s'.b 99 = some (.ar es) → ArOk C.fid e σ' bm' s' a w' es := by
  intro es hes
  have h0 := ha es (hk es hes)
  refine h0.step (fun id B hB => ?_) k4 k5 (fun id B hB hp => ?_)
  ·obtain ⟨q1, q2, q3, q4, _⟩ := h0.blk hB
   obtain ⟨r1, r2⟩ := k2 B q1 q3
   exact ⟨r1, r2, q2⟩
  ·obtain ⟨q1, q2, q3, q4, _⟩ := h0.blk hB
   rcases k6 B hp with r | r
   ·omega
   ·exact r
 refine ⟨σ', bm', hx, har, hN.keep hk k5, h2, h3, fun sz hs => ⟨(h4 sz hs).1.env (fun B hB => Qwg h hB), (h4 sz hs).2, fun es id B hes hv hB => ?_⟩⟩
 have h0 := ha es (hk es hes)
 have hB' : Qt σ es id = some B := by
  have : Qt σ' es id = Qt σ es id := by unfold Qt; rw [k5]
  rw [← this]; exact hB
 obtain ⟨q1, q2, q3, q4, _⟩ := h0.blk hB'
 rcases re_own' h (Qhr (h4 sz hs).1 hv) with r | r
 ·omega
 ·exact q3 r
end
end Go.Vs
namespace Go.Vs
open Go Go.RowKit
section
variable {C : Ctx} {e e' : Env} {σ σ' τ : Mem} {bm bm' : Nat → Option Nat} {s s' : S} {a a' : Act} {w w' : World} {es : List Ent} {fid : Nat → Nat}
def Qaz (σ : Mem) (w : World) : List Nat → Mem
 | [] => σ
 | B :: L => { (Qaz σ w L) with c := fun B' i => if B' = B then (w.cell? ⟨B, i, none⟩).filter (·.oneCell') else Qaz σ w L B' i }
theorem Qel : ∀ (L : List Nat), (Qaz σ w L).hd = σ.hd
 | [] => rfl
 | B :: L => Qel L
theorem Qfv : ∀ (L : List Nat) (B i : Nat), (Qaz σ w L) B i = if B ∈ L then (w.cell? ⟨B, i, none⟩).filter (·.oneCell') else σ B i
 | [], B, i => by simp [Qaz]
 | B0 :: L, B, i => by
  simp only [Qaz]
  by_cases h : B = B0
  ·subst h; simp
  ·simp only [h, if_false, Zo, false_or]
   exact Qfv L B i
theorem RelX.sealed (h : RelX C.fid e σ bm s a w) : ∀ {L : List Nat}, (∀ B ∈ L, e.own B ∧ ¬ Qz s bm a w B ∧ ∃ vs t m, w.heap[B]? = some (.cells vs t m)) → RelX C.fid e (Qaz σ w L) bm s a w
 | [], _ => h
 | B :: L, hL => by
  have h1 := RelX.sealed h (L := L) (fun B' hB' => hL B' (List.mem_cons_of_mem _ hB'))
  obtain ⟨k1, k2, vs, t, m, k3⟩ := hL B (by simp)
  refine h1.touch (B := B) k1 (fun b hb => k2 (.inl ⟨b, hb⟩)) (fun p sz hp hB => k2 (.inr ⟨p, sz, hp, hB⟩)) (fun _ _ => rfl) rfl rfl rfl rfl (Mem.le_c fun B' i v hv => ?_) (fun B' i hne => by show (if B' = B then (w.cell? ⟨B, i, none⟩).filter (·.oneCell') else Qaz σ w L B' i) = _; simp [hne]) (fun i v hv => ?_)
  ·by_cases hh : B' = B
   ·subst hh; simp only [if_true]; rw [Option.filter_eq_some_iff]; exact ⟨h1.mem _ _ _ hv, h1.one _ _ _ hv⟩
   ·simp only [hh, if_false]; exact hv
  ·have hv : (if B = B then (w.cell? ⟨B, i, none⟩).filter (·.oneCell') else Qaz σ w L B i) = some v := hv
   simp only [if_true, Option.filter_eq_some_iff] at hv
   exact hv
theorem Qem (h : ∀ B i v, σ B i = some v → w.cell? ⟨B, i, none⟩ = some v) (ho : ∀ B i v, σ B i = some v → v.oneCell' = true) (L : List Nat) : σ.le (Qaz σ w L) := by
 refine ⟨fun B i v hv => ?_, fun id v hv => by rw [Qel]; exact hv⟩
 rw [Qfv]
 split
 ·rw [Option.filter_eq_some_iff]; exact ⟨h B i v hv, ho B i v hv⟩
 ·exact hv
mutual
theorem Qgr (hc : ∀ B i v, σ B i = some v → τ B i = some v) : ∀ {c : AV} {v : Value}, c.noTr = true → RepP fid σ c v → RepP fid τ c v
 | .undef, v, _, _ => by simp [RepP]
 | .int k n, v, _, hv => by simpa [RepP] using hv
 | .bool b, v, _, hv => by simpa [RepP] using hv
 | .str l, v, _, hv => by simpa [RepP] using hv
 | .con c, v, _, hv => by simpa [RepP] using hv
 | .sl m sz xs, v, hn, hv => by
  simp only [AV.noTr] at hn
  simp only [RepP] at hv ⊢
  obtain ⟨a, n, cap, rfl, h1, h2, h3, h4⟩ := hv
  refine ⟨a, n, cap, rfl, h1, h2, h3, ?_⟩
  rcases h4 with h4 | ⟨B, o, h5, h6⟩
  ·exact .inl h4
  ·exact .inr ⟨B, o, h5, Qjs hc hn (fun i v hv => hc _ _ _ hv) h6⟩
 | .agg cs, v, hn, hv => by
  simp only [AV.noTr] at hn
  simp only [RepP] at hv ⊢
  obtain ⟨vs, h1, h2, h3⟩ := hv
  exact ⟨vs, h1, h2, Qda hc hn (fun _ _ h => h) h3⟩
 | .rp cs off, v, hn, hv => by
  simp only [AV.noTr] at hn
  simp only [RepP] at hv ⊢
  obtain ⟨B, o, h1, h3⟩ := hv
  exact ⟨B, o, h1, Qda hc hn (fun _ _ hv => hc _ _ _ hv) h3⟩
 | .fn g cs, v, hn, hv => by
  simp only [AV.noTr] at hn
  simp only [RepP] at hv ⊢
  obtain ⟨vs, h1, h2, h3⟩ := hv
  exact ⟨vs, h1, h2, Qda hc hn (fun _ _ h => h) h3⟩
 | .tup cs, v, hn, hv => by
  simp only [AV.noTr] at hn
  simp only [RepP] at hv ⊢
  obtain ⟨vs, h1, h2, h3⟩ := hv
  exact ⟨vs, h1, h2, Qda hc hn (fun _ _ h => h) h3⟩
 | .bp _ _, v, _, hv => by simp [RepP] at hv
 | .bs _, v, _, hv => by simp [RepP] at hv
 | .be _ _ _, v, _, hv => by simp [RepP] at hv
 | .np _, v, _, hv => by simp [RepP] at hv
 | .tr _ _ _, v, hn, _ => by simp [AV.noTr] at hn
 | .trp _ _ _ _, v, hn, _ => by simp [AV.noTr] at hn
theorem Qda (hc : ∀ B i v, σ B i = some v → τ B i = some v) : ∀ {cs : List AV} {f g : Nat → Option Value}, Qas cs = true → (∀ i v, f i = some v → g i = some v) → RepL fid σ cs f → RepL fid τ cs g
 | [], _, _, _, _, _ => by simp [RepL]
 | c :: cs, f, g, hn, hfg, hv => by
  simp only [Qas, Zw] at hn
  simp only [RepL] at hv ⊢
  obtain ⟨⟨v, h1, h2⟩, h3⟩ := hv
  exact ⟨⟨v, hfg _ _ h1, Qgr hc hn.1 h2⟩, Qda hc hn.2 (fun i v hv => hfg _ _ hv) h3⟩
theorem Qjs (hc : ∀ B i v, σ B i = some v → τ B i = some v) {sz : Nat} : ∀ {xs : List (List AV)} {f g : Nat → Option Value}, Qfy xs = true → (∀ i v, f i = some v → g i = some v) → RepR fid σ sz xs f → RepR fid τ sz xs g
 | [], _, _, _, _, _ => by simp [RepR]
 | r :: rs, f, g, hn, hfg, hv => by
  simp only [Qfy, Zw] at hn
  simp only [RepR] at hv ⊢
  exact ⟨hv.1, Qda hc hn.1 hfg hv.2.1, Qjs hc hn.2 (fun i v hv => hfg _ _ hv) hv.2.2⟩
end
mutual
theorem Qoo : ∀ {c : AV} {v : Value}, c.flat = true → RepP fid σ c v → RepP fid τ c v
 | .int k n, v, _, hv => by simpa [RepP] using hv
 | .bool b, v, _, hv => by simpa [RepP] using hv
 | .str l, v, _, hv => by simpa [RepP] using hv
 | .agg cs, v, hn, hv => by
  simp only [AV.flat] at hn
  simp only [RepP] at hv ⊢
  obtain ⟨vs, h1, h2, h3⟩ := hv
  exact ⟨vs, h1, h2, Qjq hn h3⟩
 | .tup cs, v, hn, hv => by
  simp only [AV.flat] at hn
  simp only [RepP] at hv ⊢
  obtain ⟨vs, h1, h2, h3⟩ := hv
  exact ⟨vs, h1, h2, Qjq hn h3⟩
 | .undef, v, hn, _ | .con _, v, hn, _ | .sl _ _ _, v, hn, _ | .rp _ _, v, hn, _ | .fn _ _, v, hn, _ | .bp _ _, v, hn, _ | .bs _, v, hn, _ | .be _ _ _, v, hn, _ | .np _, v, hn, _ | .tr _ _ _, v, hn, _ | .trp _ _ _ _, v, hn, _ => by simp [AV.flat] at hn
theorem Qjq : ∀ {cs : List AV} {f : Nat → Option Value}, Qra cs = true → RepL fid σ cs f → RepL fid τ cs f
 | [], _, _, _ => by simp [RepL]
 | c :: cs, f, hn, hv => by
  simp only [Qra, Zw] at hn
  simp only [RepL] at hv ⊢
  obtain ⟨⟨v, h1, h2⟩, h3⟩ := hv
  exact ⟨⟨v, h1, Qoo hn.1 h2⟩, Qjq hn.2 h3⟩
end
mutual
theorem Qlu (hh : ∀ id v, σ.hd id = some v → τ.hd id = some v) : ∀ {c : AV} {v : Value}, c.flatT = true → RepP fid σ c v → RepP fid τ c v
 | .int k n, v, _, hv => by simpa [RepP] using hv
 | .bool b, v, _, hv => by simpa [RepP] using hv
 | .str l, v, _, hv => by simpa [RepP] using hv
 | .tr id sz n, v, _, hv => by
  simp only [RepP] at hv ⊢
  cases id with
  | none => exact hv
  | some id => exact ⟨hh _ _ hv.1, hv.2⟩
 | .agg cs, v, hn, hv => by
  simp only [AV.flatT] at hn
  simp only [RepP] at hv ⊢
  obtain ⟨vs, h1, h2, h3⟩ := hv
  exact ⟨vs, h1, h2, Qfm hh hn h3⟩
 | .tup cs, v, hn, hv => by
  simp only [AV.flatT] at hn
  simp only [RepP] at hv ⊢
  obtain ⟨vs, h1, h2, h3⟩ := hv
  exact ⟨vs, h1, h2, Qfm hh hn h3⟩
 | .undef, v, hn, _ | .con _, v, hn, _ | .sl _ _ _, v, hn, _ | .rp _ _, v, hn, _ | .fn _ _, v, hn, _ | .bp _ _, v, hn, _ | .bs _, v, hn, _ | .be _ _ _, v, hn, _ | .np _, v, hn, _ | .trp _ _ _ _, v, hn, _ => by simp [AV.flatT] at hn
theorem Qfm (hh : ∀ id v, σ.hd id = some v → τ.hd id = some v) : ∀ {cs : List AV} {f : Nat → Option Value}, Qdw cs = true → RepL fid σ cs f → RepL fid τ cs f
 | [], _, _, _ => by simp [RepL]
 | c :: cs, f, hn, hv => by
  simp only [Qdw, Zw] at hn
  simp only [RepL] at hv ⊢
  obtain ⟨⟨v, h1, h2⟩, h3⟩ := hv
  exact ⟨⟨v, h1, Qlu hh hn.1 h2⟩, Qfm hh hn.2 h3⟩
end
theorem Qsw (hh : ∀ id v, σ.hd id = some v → τ.hd id = some v) {sz : Nat} {xs : List (List AV)} {f : Nat → Option Value} (hn : xs.all Qdw = true) (h : RepR fid σ sz xs f) : RepR fid τ sz xs f := by
 rw [Qn] at h ⊢
 intro i r hr
 obtain ⟨h1, h2⟩ := h i r hr
 exact ⟨h1, Qfm hh (List.all_eq_true.1 hn r (List.mem_of_getElem? hr)) h2⟩
theorem Qmi {c : AV} (h : c.flat = true) : c.tipSz = none ∧ c.isP = false ∧ c.ref = none := by
 cases c <;> simp_all [AV.flat, AV.tipSz, AV.isP, AV.ref]
theorem Qkn {c : AV} (h : c.flatT = true) : c.tipSz = none ∧ c.isP = false ∧ c.ref = none := by
 cases c <;> simp_all [AV.flatT, AV.tipSz, AV.isP, AV.ref]
def Qgt (σ τ : Mem) (w : World) (es : List Ent) (ids : List Nat) : Prop := ∀ id ∈ ids, ∀ B, Qt σ es id = some B → ∀ i v, w.cell? ⟨B, i, none⟩ = some v → v.oneCell' = true → τ B i = some v
theorem Qgt.left {i j : List Nat} (h : Qgt σ τ w es (i ++ j)) : Qgt σ τ w es i := fun id hid => h id (List.mem_append_left _ hid)
theorem Qgt.right {i j : List Nat} (h : Qgt σ τ w es (i ++ j)) : Qgt σ τ w es j := fun id hid => h id (List.mem_append_right _ hid)
def Sees (fid : Nat → Nat) (σ τ : Mem) (w : World) (es : List Ent) (f : AV → Option (AV × List Nat)) : Prop := ∀ c c' ids, f c = some (c', ids) → Qgt σ τ w es ids → ∀ v, RepP fid σ c v → RepP fid τ c' v
theorem Qfk {f : AV → Option (AV × List Nat)} : ∀ {cs cs' : List AV} {ids : List Nat}, Qan f cs = some (cs', ids) → cs'.length = cs.length
 | [], cs', ids, h => by simp only [Qan, Zi, Zm] at h; rw [← h.1]
 | c :: cs, cs', ids, h => by
  simp only [Qan] at h
  obtain ⟨r, h1, h⟩ := Qa.1 h
  obtain ⟨q, h2, h⟩ := Qa.1 h
  simp only [Zi, Zm] at h
  rw [← h.1]
  simp [Qfk (cs' := q.1) (ids := q.2) h2]
theorem Qht {f : AV → Option (AV × List Nat)} (hf : Sees fid σ τ w es f) : ∀ {cs cs' : List AV} {ids : List Nat} {g : Nat → Option Value}, Qan f cs = some (cs', ids) → Qgt σ τ w es ids → RepL fid σ cs g → RepL fid τ cs' g
 | [], cs', ids, g, h, _, _ => by simp only [Qan, Zi, Zm] at h; rw [← h.1]; simp [RepL]
 | c :: cs, cs', ids, g, h, hs, hr => by
  simp only [Qan] at h
  obtain ⟨⟨c1, i1⟩, h1, h⟩ := Qa.1 h
  obtain ⟨⟨cs1, i2⟩, h2, h⟩ := Qa.1 h
  simp only [Zi, Zm] at h
  obtain ⟨rfl, rfl⟩ := h
  simp only [RepL] at hr ⊢
  obtain ⟨⟨v, k1, k2⟩, k3⟩ := hr
  exact ⟨⟨v, k1, hf _ _ _ h1 hs.left v k2⟩, Qht hf h2 hs.right k3⟩
theorem Qlk {f : AV → Option (AV × List Nat)} : ∀ {cs cs' : List AV} {ids : List Nat}, Qan f cs = some (cs', ids) → ∀ (i : Nat) (c' : AV), cs'[i]? = some c' → ∃ c ids', cs[i]? = some c ∧ f c = some (c', ids') ∧ ∀ id ∈ ids', id ∈ ids
 | [], cs', ids, h, i, c', hc => by simp only [Qan, Zi, Zm] at h; rw [← h.1] at hc; simp at hc
 | c :: cs, cs', ids, h, i, c', hc => by
  simp only [Qan] at h
  obtain ⟨⟨c1, i1⟩, h1, h⟩ := Qa.1 h
  obtain ⟨⟨cs1, i2⟩, h2, h⟩ := Qa.1 h
  simp only [Zi, Zm] at h
  obtain ⟨rfl, rfl⟩ := h
  cases i with
  | zero => simp at hc; subst hc; exact ⟨c, i1, rfl, h1, fun id hid => List.mem_append_left _ hid⟩
  | succ i =>
   obtain ⟨c0, ids', k1, k2, k3⟩ := Qlk h2 i c' (by simpa using hc)
   exact ⟨c0, ids', by simpa using k1, k2, fun id hid => List.mem_append_right _ (k3 id hid)⟩
theorem Qqg {f : AV → Option (AV × List Nat)} : ∀ {cs cs' : List (List AV)} {ids : List Nat}, Qgq f cs = some (cs', ids) → cs'.length = cs.length
 | [], cs', ids, h => by simp only [Qgq, Zi, Zm] at h; rw [← h.1]
 | c :: cs, cs', ids, h => by
  simp only [Qgq] at h
  obtain ⟨r, h1, h⟩ := Qa.1 h
  obtain ⟨q, h2, h⟩ := Qa.1 h
  simp only [Zi, Zm] at h
  rw [← h.1]
  simp [Qqg (cs' := q.1) (ids := q.2) h2]
theorem Qqh {f : AV → Option (AV × List Nat)} (hf : Sees fid σ τ w es f) {sz : Nat} : ∀ {xs xs' : List (List AV)} {ids : List Nat} {g : Nat → Option Value}, Qgq f xs = some (xs', ids) → Qgt σ τ w es ids → RepR fid σ sz xs g → RepR fid τ sz xs' g
 | [], cs', ids, g, h, _, _ => by simp only [Qgq, Zi, Zm] at h; rw [← h.1]; simp [RepR]
 | c :: cs, cs', ids, g, h, hs, hr => by
  simp only [Qgq] at h
  obtain ⟨⟨c1, i1⟩, h1, h⟩ := Qa.1 h
  obtain ⟨⟨cs1, i2⟩, h2, h⟩ := Qa.1 h
  simp only [Zi, Zm] at h
  obtain ⟨rfl, rfl⟩ := h
  simp only [RepR] at hr ⊢
  exact ⟨(Qfk h1).trans hr.1, Qht hf h1 hs.left hr.2.1, Qqh hf h2 hs.right hr.2.2⟩
theorem RepR_to {sz : Nat} {xs : List (List AV)} {f g : Nat → Option Value} (h : RepR fid σ sz xs f) (hg : ∀ i v, i < xs.length * sz → f i = some v → g i = some v) : RepR fid σ sz xs g := by
 rw [Qn] at h ⊢
 intro i r hr
 obtain ⟨h1, h2⟩ := h i r hr
 refine ⟨h1, Qi.2 fun j c hc => ?_⟩
 obtain ⟨v, k1, k2⟩ := Qi.1 h2 j c hc
 have hi := (List.getElem?_eq_some_iff.1 hr).1
 have hj := (List.getElem?_eq_some_iff.1 hc).1
 refine ⟨v, hg _ _ ?_ k1, k2⟩
 have : (i + 1) * sz ≤ xs.length * sz := Nat.mul_le_mul_right sz hi
 rw [Nat.add_mul] at this; omega
theorem Qip (ha : ArOk fid e σ bm s a w es) (hle : σ.le τ) : ∀ (k : Nat), Sees fid σ τ w es (Qk es k) := by
 intro k
 induction k with
 | zero =>
  intro c c' ids h hs v hv
  simp only [Qk] at h
  split at h
  ·simp only [Zi, Zm] at h
   rw [← h.1]; exact hv.mono hle
  ·cases h
 | succ k ih =>
  intro c c' ids h hs v hv
  have plain : (if c.noTr = true then some (c, ([] : List Nat)) else none) = some (c', ids) → RepP fid τ c' v := by
   intro h
   split at h
   ·simp only [Zi, Zm] at h
    rw [← h.1]; exact hv.mono hle
   ·cases h
  cases c with
  | tr id sz n =>
   cases id with
   | none =>
    simp only [Qk, Zi, Zm] at h
    rw [← h.1]
    simp only [RepP] at hv
    obtain ⟨_, x, rfl⟩ := hv
    simp only [RepP]
    exact ⟨x, 0, 0, rfl, rfl, Nat.le_refl _, ⟨fun h => (by cases h), fun h => (by cases h)⟩, .inl rfl⟩
   | some id =>
    simp only [Qk] at h
    split at h
    rotate_left
    ·cases h
    rename_i sz' xs hid
    split at h
    rotate_left
    ·cases h
    rename_i hsz
    subst hsz
    obtain ⟨⟨xs', i1⟩, h1, h⟩ := Qa.1 h
    simp only [Zi, Zm] at h
    obtain ⟨rfl, rfl⟩ := h
    simp only [RepP] at hv
    obtain ⟨hv, x0, cap0, _⟩ := hv
    obtain ⟨x, cap, k1, k2⟩ := ha.ent id _ xs hid
    have : v = .slice x xs.length cap := by rw [hv] at k1; injection k1
    subst this
    have hl := Qqg h1
    simp only [RepP]
    rcases k2 with ⟨rfl, rfl⟩ | ⟨hc, hn, B, vs, t, m, rfl, j2, j3, j4, j5, j6, j7, j8⟩
    ·exact ⟨x, 0, 0, rfl, by simpa using hl.symm, Nat.le_refl _, ⟨fun h => (by cases h), fun h => (by cases h)⟩, .inl rfl⟩
    ·have hB : Qt σ es id = some B := by
      unfold Qt
      rw [hid]
      simp only [k1, Qcv]
      rw [if_neg (by omega)]
     refine ⟨_, xs.length, cap, rfl, hl.symm, hn, ⟨fun h => (by cases h), fun h => (by cases h)⟩, .inr ⟨B, 0, rfl, ?_⟩⟩
     have hs1 : Qgt σ τ w es i1 := fun id' hid' => hs id' (List.mem_cons_of_mem _ hid')
     refine RepR_to (Qqh ih h1 hs1 j5) (fun i v hi hv => ?_)
     rw [Nat.zero_add]
     rw [hl] at hi
     exact hs id (by simp) B hB i v (by rw [Qag j2]; exact hv) (j3.2 i v hi hv)
  | agg cs =>
   simp only [Qk] at h
   obtain ⟨⟨cs', i1⟩, h1, h⟩ := Qa.1 h
   simp only [Zi, Zm] at h
   obtain ⟨rfl, rfl⟩ := h
   simp only [RepP] at hv ⊢
   obtain ⟨vs, q1, q2, q3⟩ := hv
   exact ⟨vs, q1, q2.trans (Qfk h1).symm, Qht ih h1 hs q3⟩
  | tup cs =>
   simp only [Qk] at h
   obtain ⟨⟨cs', i1⟩, h1, h⟩ := Qa.1 h
   simp only [Zi, Zm] at h
   obtain ⟨rfl, rfl⟩ := h
   simp only [RepP] at hv ⊢
   obtain ⟨vs, q1, q2, q3⟩ := hv
   exact ⟨vs, q1, q2.trans (Qfk h1).symm, Qht ih h1 hs q3⟩
  | undef | int | bool | str | con | sl | rp | fn | trp => exact plain (by simpa only [Qk] using h)
  | bp | bs | be | np => simp [RepP] at hv
def Qv (σ : Mem) (es : List Ent) (ids : List Nat) : List Nat := ids.filterMap (Qt σ es)
theorem Qim (ids : List Nat) : Qgt σ (Qaz σ w (Qv σ es ids)) w es ids := by
 intro id hid B hB i v hv ho
 have hin : B ∈ Qv σ es ids := List.mem_filterMap.2 ⟨id, hid, hB⟩
 rw [Qfv, if_pos hin, Option.filter_eq_some_iff]
 exact ⟨hv, ho⟩
theorem Qka (ha : ArOk C.fid e σ bm s a w es) (ids : List Nat) : ∀ B ∈ Qv σ es ids, e.own B ∧ ¬ Qz s bm a w B ∧ ∃ vs t m, w.heap[B]? = some (.cells vs t m) := by
 intro B hB
 obtain ⟨id, h1, h2⟩ := List.mem_filterMap.1 hB
 obtain ⟨_, k1, k2, _, k3⟩ := ha.blk h2
 exact ⟨k1, k2, k3⟩
theorem ArOk.killed (ha : ArOk C.fid e σ bm s a w es) (hm : ∀ B i v, σ B i = some v → w.cell? ⟨B, i, none⟩ = some v) (ho : ∀ B i v, σ B i = some v → v.oneCell' = true) (ids : List Nat) : ArOk C.fid e (Qaz σ w (Qv σ es ids)) bm s a w (Qev es ids) := by
 obtain ⟨k1, k2⟩ := Qfr (ids := ids) (es := es)
 have h1 : ArOk C.fid e σ bm s a w (Qev es ids) := ha.less k1 fun id x hx => (k2 id x hx).1
 refine h1.step (fun id B hB => ⟨rfl, ?_, (h1.blk hB).2.1⟩) (Qem hm ho _) (Qel _) (fun _ _ _ h => h)
 obtain ⟨sz, xs, q1, q2⟩ := Qaw hB
 obtain ⟨q3, q4⟩ := k2 id _ q1
 have hB0 : Qt σ es id = some B := by unfold Qt; rw [q3]; exact q2
 funext i
 rw [Qfv, if_neg]
 intro hm'
 obtain ⟨id', r1, r2⟩ := List.mem_filterMap.1 hm'
 have := ha.inj id id' B hB0 r2
 subst this
 exact q4 r1
end
end Go.Vs
namespace Go.Vs
open Go Go.RowKit
section
variable {C : Ctx} {e e' : Env} {σ σ' τ : Mem} {bm bm' : Nat → Option Nat} {s s' : S} {a a' : Act} {w w' : World} {es es1 : List Ent} {o : Oper} {c : AV} {v : Value} {call : Call}
def Qbu (C : Ctx) (e : Env) (s : S) (c : AV) (a : Act) (r : Result Next) : Prop :=
 (∃ v w', r = .ok (.value v) w' ∧ Qo C e s c v a w') ∨ (∃ w', r = .ok .skip w' ∧ Qo C e s c undef a w')
theorem RelX.hdUp (h : RelX C.fid e σ bm s a w) {H : Nat → Option Value} (hle : ∀ id v, σ.hd id = some v → H id = some v) : RelX C.fid { e with hd := H } { σ with hd := H } bm s a w := by
 have hl : σ.le { σ with hd := H } := ⟨fun _ _ _ h => h, hle⟩
 exact { h with
  hds := rfl
  tmps := fun t => Qgs (h.tmps t) hl
  boxes := fun b c hb har => by
   obtain ⟨B, h1, h2, h3, h4⟩ := h.boxes b c hb har
   exact ⟨B, h1, Qcx h2 hl rfl, h3, h4⟩
  leσ := Mem.le_trans h.leσ hl }
theorem Qci {B : Nat} (h : Qz (s.setA es) bm a w B) : Qz s bm a w B := by
 rcases h with h | ⟨p, sz, h1, h2⟩
 ·exact .inl h
 ·refine .inr ⟨p, sz, ?_, h2⟩
  cases p with
  | t t => exact h1
  | c b i =>
   simp only [Qd, S.setA, S.setB, Qae] at h1 ⊢
   by_cases hb : b = 99
   ·subst hb; simp at h1
   ·simpa [hb] using h1
theorem Qmp {x : Opnd} {B : Nat} (h : Qz (s.drop x) bm a w B) : Qz s bm a w B := by
 rcases h with h | ⟨p, sz, h1, h2⟩
 ·exact .inl h
 ·refine .inr ⟨p, sz, ?_, h2⟩
  cases p with
  | t t => exact (Qno h1).1
  | c b i => simp only [Qd, (Qmb s x).1] at h1 ⊢; exact h1
theorem Qbo (h : RelX C.fid e σ bm s a w) (hk : ∀ B, B < w.heap.size → w'.heap[B]? = w.heap[B]?) {B : Nat} (hp : Qz s bm a w' B) : Qz s bm a w B := by
 rcases hp with hp | ⟨p, sz, h1, h2⟩
 ·exact .inl hp
 ·refine .inr ⟨p, sz, h1, ?_⟩
  cases p with
  | t t => exact h2
  | c b i =>
   have : Qg a w' bm (.c b i) = Qg a w bm (.c b i) := by
    simp only [Qg]
    cases hb : bm b with
    | none => rfl
    | some B' => simp only [Option.bind_some]; rw [Qbc (hk B' (Qhx h hb))]
   rw [this] at h2; exact h2
theorem RelX.setA (h : RelX C.fid e σ bm s a w) (hes : s.b 99 = some (.ar es)) : RelX C.fid e σ bm (s.setA es1) a w := by
 have hn : bm 99 = none := (h.ar 99 es hes).2
 have hb : ∀ b, b ≠ 99 → (s.setA es1).b b = s.b b := fun b hb => by simp [S.setA, S.setB, upd, hb]
 have h99 : (s.setA es1).b 99 = some (.ar es1) := by simp [S.setA, S.setB, upd]
 have ht : ∀ p sz, Qd (s.setA es1) p = some sz → Qd s p = some sz := by
  intro p sz hp
  cases p with
  | t t => exact hp
  | c b i =>
   by_cases hb9 : b = 99
   ·subst hb9; simp [Qd, h99] at hp
   ·simp only [Qd, hb b hb9] at hp; exact hp
 exact { h with
  tmps := fun t => by
   have := h.tmps t
   revert this
   show RepT C.fid σ bm s.b (s.t t) _ → RepT C.fid σ bm (s.setA es1).b (s.t t) _
   cases s.t t <;> intro hh <;> first | exact hh | skip
   ·rename_i b
    intro B hB
    have hne : b ≠ 99 := fun e => by rw [e, hn] at hB; cases hB
    rw [hb _ hne]; exact hh B hB
   ·rename_i b i off
    intro B hB
    have hne : b ≠ 99 := fun e => by rw [e, hn] at hB; cases hB
    rw [hb _ hne]; exact hh B hB
  boxes := fun b c hc har => by
   by_cases hb9 : b = 99
   ·subst hb9; rw [h99] at hc; injection hc with hc; subst hc; cases har
   ·rw [hb b hb9] at hc; exact h.boxes b c hc har
  dead := fun b hc => by
   by_cases hb9 : b = 99
   ·subst hb9; exact hn
   ·rw [hb b hb9] at hc; exact h.dead b hc
  ar := fun b es' hc => by
   by_cases hb9 : b = 99
   ·subst hb9; exact ⟨rfl, hn⟩
   ·rw [hb b hb9] at hc; exact h.ar b es' hc
  seenB := fun b hc => by
   by_cases hb9 : b = 99
   ·subst hb9; exact h.seenB 99 (by rw [hes]; simp)
   ·rw [hb b hb9] at hc; exact h.seenB b hc
  tip := fun p sz hp => h.tip p sz (ht p sz hp)
  dist := fun p q sz sz' B hp hq => h.dist p q sz sz' B (ht p sz hp) (ht q sz' hq) }
def EntV (fid : Nat → Nat) (e : Env) (σ : Mem) (bm : Nat → Option Nat) (s : S) (a : Act) (w : World) (v : Value) (sz : Nat) (xs : List (List AV)) : Prop :=
 ∃ x cap, v = .slice x xs.length cap ∧ ((cap = 0 ∧ xs = []) ∨ (0 < cap ∧ xs.length ≤ cap ∧ ∃ B vs t m, x = some ⟨B, 0, none⟩ ∧ w.heap[B]? = some (.cells vs t m) ∧ BoxFn vs m (xs.length * sz) ∧ cap * sz ≤ vs.size ∧
  RepR fid σ sz xs (fun i => vs[i]?) ∧ e.own B ∧ (∀ i, σ B i = none) ∧ ¬ Qz s bm a w B))
theorem Qxp {fid : Nat → Nat} {id sz : Nat} {xs : List (List AV)} (h : EntOk fid e σ bm s a w id sz xs) : ∃ v, σ.hd id = some v ∧ EntV fid e σ bm s a w v sz xs := by
 obtain ⟨x, cap, h1, h2⟩ := h
 exact ⟨_, h1, x, cap, rfl, h2⟩
theorem EntV.ok {fid : Nat → Nat} {id sz : Nat} {xs : List (List AV)} (hv : σ.hd id = some v) (h : EntV fid e σ bm s a w v sz xs) : EntOk fid e σ bm s a w id sz xs := by
 obtain ⟨x, cap, h1, h2⟩ := h
 exact ⟨x, cap, by rw [hv, h1], h2⟩
theorem EntV.mono {fid : Nat → Nat} {sz : Nat} {xs : List (List AV)} (h : EntV fid e σ bm s a w v sz xs) (hl : σ.le τ) (hc : ∀ B, (∀ i, σ B i = none) → ∀ i, τ B i = none) (hp : ∀ B, Qz s' bm a w B → Qz s bm a w B) : EntV fid e τ bm s' a w v sz xs := by
 obtain ⟨x, cap, h1, h2⟩ := h
 refine ⟨x, cap, h1, h2.imp id ?_⟩
 rintro ⟨k1, k2, B, vs, t, m, j1, j2, j3, j4, j5, j6, j7, j8⟩
 exact ⟨k1, k2, B, vs, t, m, j1, j2, j3, j4, Qad hl _ _ _ (fun _ _ h => h) j5, j6, hc B j7, fun hh => j8 (hp B hh)⟩
theorem Qvb (h : RelX C.fid { e with hd := σ.hd } σ bm s a w) (hN : NoAr e σ s) (hes : s.b 99 = some (.ar es)) (ha : ArOk C.fid e σ bm s a w es1) (hl : es1.length = es.length) {sz n : Nat} {xs : List (List AV)}
  (hx : EntV C.fid e σ bm s a w v sz xs) (hn : n = xs.length) (hne : ∀ id B, Qt σ es1 id = some B → Qcv (some v) ≠ some B) : ∃ τ, σ.le τ ∧ RelX C.fid { e with hd := τ.hd } τ bm (s.setA (es1 ++ [some (sz, xs)])) a w ∧ ArS C.fid e τ bm (s.setA (es1 ++ [some (sz, xs)])) a w ∧ NoAr e τ (s.setA (es1 ++ [some (sz, xs)])) ∧ RepH τ (some es.length) n v := by
 subst hn
 let H : Nat → Option Value := fun id => if id = es.length then some v else σ.hd id
 have hfresh : σ.hd es.length = none := ha.fresh _ (by omega)
 have hle : ∀ id u, σ.hd id = some u → H id = some u := by
  intro id u hu
  by_cases hid : id = es.length
  ·rw [hid, hfresh] at hu; cases hu
  ·simp [H, hid, hu]
 have hl2 : σ.le { σ with hd := H } := ⟨fun _ _ _ h => h, hle⟩
 have hH : H es.length = some v := by simp [H]
 refine ⟨{ σ with hd := H }, hl2, (h.hdUp hle).setA hes, fun es' hes' => ?_, hN.has hes, ?_⟩
 ·have : es1 ++ [some (sz, xs)] = es' := by
   simp only [S.setA, S.setB, Qal, Zi, BC.ar.injEq] at hes'
   exact hes'
  subst this
  have hold : ∀ (id : Nat) x, (es1 ++ [some (sz, xs)])[id]? = some (some x) → (id < es1.length ∧ es1[id]? = some (some x)) ∨ (id = es.length ∧ x = (sz, xs)) := by
   intro id x hx
   by_cases hid : id < es1.length
   ·rw [List.getElem?_append_left hid] at hx; exact .inl ⟨hid, hx⟩
   ·rw [List.getElem?_append_right (by omega)] at hx
    have := (List.getElem?_eq_some_iff.1 hx).1
    simp at this
    rw [show id - es1.length = 0 by omega] at hx
    simp at hx
    exact .inr ⟨by omega, hx.symm⟩
  have hblk : ∀ id B, Qt { σ with hd := H } (es1 ++ [some (sz, xs)]) id = some B → (id < es1.length ∧ Qt σ es1 id = some B) ∨ (id = es.length ∧ Qcv (some v) = some B) := by
   intro id B hB
   obtain ⟨sz', xs', k1, k2⟩ := Qaw hB
   rcases hold id _ k1 with ⟨r1, r2⟩ | ⟨r1, r2⟩
   ·left
    refine ⟨r1, ?_⟩
    unfold Qt
    rw [r2]
    have k2 : Qcv (H id) = some B := k2
    simp only [H] at k2
    rw [if_neg (by omega)] at k2
    exact k2
   ·right
    refine ⟨r1, ?_⟩
    have k2 : Qcv (H id) = some B := k2
    simp only [H] at k2
    rw [if_pos r1] at k2
    exact k2
  refine ⟨fun id sz' xs' hid => ?_, fun id id' B h1 h2 => ?_, fun id hid => ?_⟩
  ·rcases hold id _ hid with ⟨r1, r2⟩ | ⟨r1, r2⟩
   ·obtain ⟨u, u1, u2⟩ := Qxp (ha.ent id sz' xs' r2)
    exact (u2.mono hl2 (fun _ h => h) (fun B hp => Qci hp)).ok (hle _ _ u1)
   ·injection r2 with r2 r3
    subst r1 r2 r3
    exact (hx.mono hl2 (fun _ h => h) (fun B hp => Qci hp)).ok hH
  ·rcases hblk id B h1 with ⟨r1, r2⟩ | ⟨r1, r2⟩ <;> rcases hblk id' B h2 with ⟨q1, q2⟩ | ⟨q1, q2⟩
   ·exact ha.inj id id' B r2 q2
   ·exact absurd q2 (hne id B r2)
   ·exact absurd r2 (hne id' B q2)
   ·omega
  ·simp at hid
   show H id = none
   simp only [H]
   rw [if_neg (by omega)]
   exact ha.fresh id (by omega)
 ·obtain ⟨x, cap, h1, h2⟩ := hx
  refine ⟨hH, x, cap, h1, ?_⟩
  rcases h2 with ⟨_, rfl⟩ | ⟨_, _, B, _, _, _, rfl, _⟩
  ·exact .inl rfl
  ·exact .inr ⟨B, rfl⟩
theorem born (h : RelX C.fid { e with hd := σ.hd } σ bm s a w) (hN : NoAr e σ s) (hes : s.b 99 = some (.ar es)) (ha : ArOk C.fid e σ bm s a w es1) (hl : es1.length = es.length) {sz n : Nat} {xs : List (List AV)}
  (hx : EntV C.fid e σ bm s a w v sz xs) (hn : n = xs.length) (hne : ∀ id B, Qt σ es1 id = some B → Qcv (some v) ≠ some B) : Qo C e (s.setA (es1 ++ [some (sz, xs)])) (.tr (some es.length) sz n) v a w := by
 obtain ⟨τ, _, h1, h2, h3, h4⟩ := Qvb h hN hes ha hl hx hn hne
 exact ⟨τ, bm, h1, h2, h3, h4, (fun b hb => by cases hb), fun sz hs => by cases hs⟩
theorem Qnj (h : RelX C.fid { e with hd := σ.hd } σ bm s a w) (hN : NoAr e σ s) (hes : s.b 99 = some (.ar es)) (ha : ArOk C.fid e σ bm s a w es1) (hl : es1.length = es.length) {sz n cap : Nat} {xs : List (List AV)} {vs : Array Value} {el : TypeId}
  (hn : n = xs.length) (hcap : n ≤ cap) (hsz : vs.size = cap * sz) (hone : Qrs vs (n * sz)) (hr : RepR C.fid σ sz xs (fun i => vs[i]?)) :
  Qo C e (s.setA (es1 ++ [some (sz, xs)])) (.tr (some es.length) sz n) (.slice (some ⟨w.heap.size, 0, none⟩) n cap) a { w with heap := w.heap.push (.cells vs el) } := by
 have hk : ∀ B, B < w.heap.size → ({ w with heap := w.heap.push (.cells vs el) } : World).heap[B]? = w.heap[B]? := fun B hB => by
  simp only []; rw [Array.getElem?_push_lt hB, Array.getElem?_eq_getElem hB]
 have h1 := h.push (.cells vs el)
 have hnone : ∀ i, σ w.heap.size i = none := by
  intro i
  cases hh : σ w.heap.size i with
  | none => rfl
  | some v => exact absurd (Mem.le_of_world h _ _ _ hh) (Nat.lt_irrefl _)
 have ha1 : ArOk C.fid e σ bm s a { w with heap := w.heap.push (.cells vs el) } es1 :=
  ha.step (fun id B hB => ⟨hk B (ha.blk hB).1, rfl, (ha.blk hB).2.1⟩) (Mem.le_refl _) rfl (fun id B hB hp => Qbo h hk hp)
 have hnp : ¬ Qz s bm a { w with heap := w.heap.push (.cells vs el) } w.heap.size := fun hp => by
  have := (Qz.own h (Qbo h hk hp)).2
  omega
 refine born h1 hN hes ha1 hl ?_ hn (fun id B hB => ?_)
 ·refine ⟨_, cap, by rw [hn], ?_⟩
  by_cases hc : cap = 0
  ·exact .inl ⟨hc, List.eq_nil_of_length_eq_zero (by omega)⟩
  ·exact .inr ⟨by omega, by omega, w.heap.size, vs, el, (0, 0), rfl, by simp, ⟨Qmm _, by rw [← hn]; exact hone⟩, by omega, hr, .inl h.grown, hnone, hnp⟩
 ·have hlt := (ha.blk hB).1
  simp only [Qcv]
  split
  ·simp
  ·intro hh; injection hh with hh; omega
theorem Qgl {sz id : Nat} {xs : List (List AV)} (h : Qbm es sz (some id) = some xs) : es[id]? = some (some (sz, xs)) := by
 simp only [Qbm] at h
 split at h
 ·rename_i sz' xs' hx
  split at h
  ·rename_i hs; subst hs; injection h with h; subst h; exact hx
  ·cases h
 ·cases h
theorem Qvv (ha : ArOk C.fid e σ bm s a w es) {id : Option Nat} {sz n : Nat} {xs : List (List AV)} (hr : Qbm es sz id = some xs) (hh : RepH σ id n v) : n = xs.length ∧ EntV C.fid e σ bm s a w v sz xs ∧
  ∀ id' B, Qt σ (killO es id) id' = some B → Qcv (some v) ≠ some B := by
 cases id with
 | none =>
  simp only [Qbm, Zi] at hr
  subst hr
  obtain ⟨rfl, x, rfl⟩ := hh
  refine ⟨rfl, ⟨x, 0, rfl, .inl ⟨rfl, rfl⟩⟩, fun id' B _ => ?_⟩
  cases x <;> simp [Qcv]
 | some id =>
  have he := Qgl hr
  obtain ⟨u, u1, u2⟩ := Qxp (ha.ent id sz xs he)
  obtain ⟨h1, x, cap, h2, _⟩ := hh
  have : u = v := by rw [h1] at u1; injection u1 with u1; exact u1.symm
  subst this
  refine ⟨?_, u2, fun id' B hB hb => ?_⟩
  ·obtain ⟨x', cap', h3, _⟩ := u2
   rw [h2] at h3
   injection h3
  ·obtain ⟨sz', xs', q1, q2⟩ := Qaw hB
   obtain ⟨k1, k2⟩ := Qfs (es := es) (id0 := some id)
   obtain ⟨q3, q4⟩ := k2 id' _ q1
   have e1 : Qt σ es id' = some B := by unfold Qt; rw [q3]; exact q2
   have e2 : Qt σ es id = some B := by unfold Qt; rw [he]; simp only [h1]; exact hb
   exact q4 (by rw [ha.inj id id' B e2 e1])
theorem ArOk.killO (ha : ArOk C.fid e σ bm s a w es) (id : Option Nat) : ArOk C.fid e σ bm s a w (killO es id) := by
 obtain ⟨k1, k2⟩ := Qfs (es := es) (id0 := id)
 exact ha.less k1 fun id' x hx => (k2 id' x hx).1
end
end Go.Vs
namespace Go.Vs
open Go Go.RowKit
section
variable {C : Ctx} {e e' : Env} {σ σ' τ : Mem} {bm bm' : Nat → Option Nat} {s s' : S} {a a' : Act} {w w' : World} {es es1 : List Ent} {o : Oper} {c : AV} {v : Value} {call : Call}
theorem op_tmk (hG : GOk C σ) (h : RelX C.fid { e with hd := σ.hd } σ bm s a w) (ha : ArS C.fid e σ bm s a w) (hN : NoAr e σ s) {sz : Nat} {zero : List AV} {xn xc : Opnd} {yn yc : Operand} {t el : TypeId} {i : TypeInfo} (ho : o.op = .makeSlice t yn yc) (hn : okO C xn yn = true) (hc : okO C xc yc = true)
  (ht : C.P.underlying t = some (.slice el)) (hi : C.P.info? el = some i) (hsz : i.size = sz) (hpos : 0 < sz) (hby : i.bytes ≤ 32768) (hz : Qde C.P zero el = true)
  (hev : evalTK call C.G s (.mk sz zero xn xc) = some (c, s')) : Qbu C e s' c a ((execOp a.eval o).run C.P w) := by
 simp only [evalTK] at hev
 obtain ⟨es, hes, hev⟩ := Qa.1 hev
 have hes := Qds hes
 have r1 := Qc hG h hn
 have r2 := Qc hG h hc
 split at hev
 rotate_left
 ·cases hev
 rename_i k1 n k2 c0 g1 g2
 split at hev
 rotate_left
 ·cases hev
 rename_i hcond
 obtain ⟨h0, rfl, hle, hzl⟩ := hcond
 simp only [Zi, Zm] at hev
 obtain ⟨rfl, rfl⟩ := hev
 rw [g1] at r1
 rw [g2] at r2
 simp only [RepT, RepP] at r1 r2
 obtain ⟨i', z, j1, j2, j3, j4⟩ := Qch hz
 rw [hi] at j1
 injection j1 with j1
 subst j1
 have hzs : z.cells.size = sz := by rw [← hzl]; simpa using (Qdn j3).symm
 have hb : (i.bytes : Int) * n ≤ 281474976710656 := by
  have h1 : (i.bytes : Int) ≤ 32768 := by omega
  have h2 : (i.bytes : Int) * n ≤ 32768 * 4294967296 := Int.mul_le_mul h1 hle h0 (by omega)
  omega
 have hrun := run_make (P := C.P) w t el i z ht hi j2 k1 k2 n n h0 (Int.le_refl _) hb (by omega)
 rw [hsz] at hrun
 have hget : ∀ j, j < n.toNat * sz → (madeCells z.cells (n.toNat * sz))[j]? = z.cells[j % sz]? := by
  intro j hj
  rw [Qef (by omega) hj, hzs]
 have hready := Qnj (C := C) (e := e) h hN hes (ha es hes) rfl (vs := madeCells z.cells (n.toNat * sz)) (el := el) (sz := sz) (n := n.toNat) (cap := n.toNat) (xs := List.replicate n.toNat (zero.map AV.share)) (by simp) (Nat.le_refl _) (by rw [size_madeCells]) (fun j v _ hj' => by
   have hlt : j < n.toNat * sz := by
    have := (Array.getElem?_eq_some_iff.1 hj').1
    rwa [size_madeCells] at this
   rw [hget j hlt] at hj'
   exact j4.get hj') (by
   rw [Qn]
   intro j r hr
   have hj : j < n.toNat := by have := (List.getElem?_eq_some_iff.1 hr).1; simpa using this
   rw [List.getElem?_replicate, if_pos hj] at hr
   injection hr with hr
   subst hr
   refine ⟨by simpa using hzl, ?_⟩
   have hrep := Qba (m := AV.share) (fun _ _ hr => Qs hr) (Qdo (fid := C.fid) (σ := σ) j3)
   rw [Qi] at hrep ⊢
   intro m c hm
   have hms : m < sz := by rw [← hzl]; simpa using (List.getElem?_eq_some_iff.1 hm).1
   obtain ⟨v, v1, v2⟩ := hrep m c hm
   refine ⟨v, ?_, v2⟩
   have : j * sz + m < n.toNat * sz := by
    have : (j + 1) * sz ≤ n.toNat * sz := Nat.mul_le_mul_right sz hj
    rw [Nat.add_mul] at this; omega
   rw [hget _ this, show (j * sz + m) % sz = m by rw [Nat.add_comm, Nat.add_mul_mod_self_right, Nat.mod_eq_of_lt hms]]
   simpa using v1)
 refine .inl ⟨_, _, ?_, hready⟩
 simp only [execOp, ho, Sem.run_bind, r1, r2, hrun, Result.andThen_ok, Sem.run_pure]
 rfl
theorem Qyr (hG : GOk C σ) (h : RelX C.fid { e with hd := σ.hd } σ bm s a w) (ha : ArS C.fid e σ bm s a w) (hN : NoAr e σ s) {sz len : Nat} {qs : Array (Nat × Operand)} {t el : TypeId} {i : TypeInfo} {z : Value} (ho : o.op = .buildSlice t len qs) (ht : C.P.underlying t = some (.slice el)) (hi : C.P.info? el = some i) (hz : i.zero = some z) (hsz : i.size = sz) (hpos : 0 < sz) (hlen : len = 0)
  (hq1 : (qs.toList.map (·.1)) = List.range len)
  (hev : evalTK call C.G s (.nil sz) = some (c, s')) : Qbu C e s' c a ((execOp a.eval o).run C.P w) := by
 simp only [evalTK, Zi, Zm] at hev
 obtain ⟨rfl, rfl⟩ := hev
 have hq0 : qs.toList = [] := by
  have := congrArg List.length hq1
  rw [hlen] at this
  simpa using this
 have hb := Qpq (call := call) hG h.frame (m := .zero) (sz := sz) (len := len) (ps := []) ho ht hi hz hsz hpos (by rw [hlen]; rfl) (by rw [hlen]; simp) hq1 (by rw [hq0]; rfl) (c := .sl .zero sz []) (s' := s) (by simp [evalK])
 have hm : ∀ {v : Value} {w' : World}, Qo C e s (.sl .zero sz []) v a w' → Qo C e s (.tr none sz 0) v a w' := by
  rintro v w' ⟨σ1, bm1, h1, h2, h3, h4, h5, h6⟩
  refine ⟨σ1, bm1, h1, h2, h3, ?_, (fun b hb => by cases hb), (fun sz hs => by cases hs)⟩
  obtain ⟨x, n, cap, rfl, k1, k2, k3, _⟩ := (show RepP C.fid σ1 (.sl .zero sz []) v from h4)
  have h0 := k3.1 rfl
  have hn : n = 0 := by simpa using k1
  subst hn h0
  exact ⟨rfl, x, rfl⟩
 rcases hb with ⟨v, w', h1, h2⟩ | ⟨w', h1, h2⟩
 ·exact .inl ⟨v, w', h1, hm (Qo.lift h ha hN (fun _ h => h) h2)⟩
 ·exact .inr ⟨w', h1, hm (Qo.lift h ha hN (fun _ h => h) h2)⟩
theorem op_tlit (hG : GOk C σ) (h : RelX C.fid { e with hd := σ.hd } σ bm s a w) (ha : ArS C.fid e σ bm s a w) (hN : NoAr e σ s) {sz len : Nat} {ps : List Opnd} {qs : Array (Nat × Operand)} {t el : TypeId} {i : TypeInfo} {z : Value} (ho : o.op = .buildSlice t len qs) (ht : C.P.underlying t = some (.slice el)) (hi : C.P.info? el = some i) (hz : i.zero = some z) (hsz : i.size = sz) (hpos : 0 < sz) (hlen : len = ps.length) (hsmall : len * sz ≤ 2 ^ 24)
  (hq1 : (qs.toList.map (·.1)) = List.range len) (hq2 : okOs C ps (qs.toList.map (·.2)) = true)
  (hev : evalTK call C.G s (.lit sz ps) = some (c, s')) : Qbu C e s' c a ((execOp a.eval o).run C.P w) := by
 simp only [evalTK] at hev
 obtain ⟨es, hes, hev⟩ := Qa.1 hev
 have hes := Qds hes
 split at hev
 ·rename_i hall
  simp only [Zi, Zm] at hev
  obtain ⟨rfl, rfl⟩ := hev
  rw [List.all_eq_true] at hall
  let vals : List Value := qs.toList.map fun q => a.eval q.2
  have hvl : vals.length = len := by
   have := congrArg List.length hq1
   simpa [vals] using this
  have hrow : ∀ (j : Nat) (x : Opnd), ps[j]? = some x → ∃ v : Value, vals[j]? = some v ∧ (∀ u ∈ v.cells.toList, u.oneCell' = true) ∧ v.cells.size = sz ∧ ((s.get C.G x).cells.map AV.share).length = sz ∧ RepL C.fid σ ((s.get C.G x).cells.map AV.share) (fun k => v.cells.toList[k]?) := by
   intro j x hx
   obtain ⟨y, hy, hok⟩ := Qft hq2 j x hx
   have hmem : x ∈ ps := List.mem_of_getElem? hx
   have hc := hall x hmem
   simp only [Zw, beq_iff_eq] at hc
   have hr := (Qu (Qbs hc.2)).1 (Qc hG h hok)
   obtain ⟨c1, c2, c3⟩ := Qdt hr hc.2
   refine ⟨a.eval y, ?_, c3, by omega, by simp [hc.1], ?_⟩
   ·simp only [vals, List.getElem?_map] at hy ⊢
    cases hq : qs.toList[j]? with
    | none => rw [hq] at hy; cases hy
    | some q => rw [hq] at hy; simp at hy; simp [hy]
   ·have := Qba (m := AV.share) (fun _ _ hr => Qs hr) c2
    simpa using this
  have hsizes : ∀ v ∈ vals, v.cells.size = sz := by
   intro v hv
   obtain ⟨j, hj⟩ := List.getElem?_of_mem hv
   have hjl : j < ps.length := by
    have := (List.getElem?_eq_some_iff.1 hj).1; omega
   obtain ⟨v', k1, _, k2, _⟩ := hrow j _ (List.getElem?_eq_getElem hjl)
   rw [hj] at k1
   injection k1 with k1
   rw [k1]; exact k2
  have hparts : (qs.toList.map fun q => (q.1, a.eval q.2)) = (vals.zipIdx 0).map fun x => (x.2, x.1) := by
   apply List.ext_getElem?
   intro j
   simp only [List.getElem?_map, List.getElem?_zipIdx, vals]
   cases hq : qs.toList[j]? with
   | none => simp
   | some q =>
    have : (qs.toList.map (·.1))[j]? = some q.1 := by simp [hq]
    rw [hq1] at this
    have hj : j = q.1 := by
     have h2 := (List.getElem?_eq_some_iff.1 this)
     obtain ⟨h3, h4⟩ := h2
     simpa using h4
    simp [hj]
  let cells : Array Value := (vals.flatMap fun v => v.cells.toList).toArray
  have hcs : cells.size = len * sz := by
   simp only [cells, List.size_toArray, List.length_flatMap]
   have : vals.map (fun v => v.cells.toList.length) = List.replicate vals.length sz := by
    apply List.ext_getElem?
    intro j
    simp only [List.getElem?_map, List.getElem?_replicate]
    cases hv : vals[j]? with
    | none => have := List.getElem?_eq_none_iff.1 hv; simp; omega
    | some v =>
     have hlt := (List.getElem?_eq_some_iff.1 hv).1
     have := hsizes v (List.mem_of_getElem? hv)
     simp [hlt, this]
   rw [this, List.sum_replicate_nat, hvl]
  have hrep : RepR C.fid σ sz (ps.map fun p => (s.get C.G p).cells.map AV.share) (fun i => cells[i]?) := by
   have : (fun i : Nat => cells[i]?) = (fun i : Nat => ((vals.map fun v => v.cells.toList).flatten)[i]?) := by
    funext i; simp [cells, List.flatMap_def]
   rw [this]
   refine Qjr (by simp [hvl, hlen]) (fun j r l hr hl => ?_)
   rw [List.getElem?_map] at hr hl
   cases hx : ps[j]? with
   | none => rw [hx] at hr; cases hr
   | some x =>
    rw [hx] at hr
    simp only [Option.map_some, Zi] at hr
    subst hr
    obtain ⟨v, k1, _, k2, k3, k4⟩ := hrow j x hx
    rw [k1] at hl
    simp only [Option.map_some, Zi] at hl
    subst hl
    exact ⟨k3, by simpa using k2, k4⟩
  have hones : Ones cells := by
   intro v hv
   simp only [cells, List.mem_flatMap] at hv
   obtain ⟨u, hu, hv⟩ := hv
   obtain ⟨j, hj⟩ := List.getElem?_of_mem hu
   have hjl : j < ps.length := by
    have := (List.getElem?_eq_some_iff.1 hj).1; omega
   obtain ⟨v', k1, k0, _⟩ := hrow j _ (List.getElem?_eq_getElem hjl)
   rw [hj] at k1
   injection k1 with k1
   subst k1
   exact k0 v hv
  have hready := Qnj (C := C) (e := e) h hN hes (ha es hes) rfl (vs := cells) (el := el) (sz := sz) (n := ps.length) (cap := ps.length) (xs := ps.map fun p => (s.get C.G p).cells.map AV.share) (by simp) (Nat.le_refl _) (by rw [hcs, hlen]) (hones.to _) hrep
  rw [← hlen] at hready ⊢
  refine .inl ⟨_, _, ?_, hready⟩
  by_cases h0 : len = 0
  ·have hq0 : qs = #[] := by
    have := congrArg List.length hq1
    simp [h0] at this
    exact this
   have hv0 : vals = [] := by simp [vals, hq0]
   simp [execOp, ho, Instr.buildSlice, run_underlying ht, sizeOf, typeInfo, hi, h0, hq0, Instr.fill, newRow, cells, hv0]
   rw [show Array.range 0 = #[] from Array.eq_empty_of_size_eq_zero (by simp), Array.map_empty]
  ·have hfill := Great.fill_whole hpos vals ((Array.range (len * i.size)).map (z.cells[· % z.cells.size]!)) hsizes (by simp [hvl, hsz])
   rw [← hparts] at hfill
   have := run_buildSlice (P := C.P) w t el len (qs.map fun (i, x) => (i, a.eval x)) cells i z ht hi hz (by rw [hsz]; omega) (by rw [hsz]; exact Nat.mul_ne_zero h0 (by omega)) (by rw [hsz]; rw [hsz] at hfill; simpa using hfill)
   simp only [execOp, ho]
   rw [Sem.run_bind, this]
   rfl
 ·cases hev
theorem Qxl {zero : List AV} {vals : List (Nat × Nat × AV)} {qs : Array (Nat × Operand)} {t : TypeId} {pl : Nat → Option (Nat × Nat)} {cs : List AV} (ho : o.op = .build t qs) (hz : Qde C.P zero t = true) (hpl : Qei C.P t = some pl)
  (hp : Parts C.fid τ pl vals (qs.toList.map fun q => (q.1, a.eval q.2))) (hf : Qkk zero vals = some cs) : ∃ out : Array Value, (execOp a.eval o).run C.P w = .ok (.value (.agg out)) w ∧ out.size = cs.length ∧ RepL C.fid τ cs (fun i => out[i]?) := by
 obtain ⟨i, z, h1, h2, h3, _⟩ := Qch hz
 obtain ⟨out, k1, k2, k3⟩ := Qsj hp (cells := z.cells) (by simpa using (Qdn h3).symm) (by simpa using Qdo (fid := C.fid) (σ := τ) h3) hf
 have hb : C.P.built t (qs.toList.map fun q => (q.1, a.eval q.2)) = some out := by
  unfold Program.built
  unfold Qei at hpl
  cases hu : C.P.underlying t with
  | none => rw [hu] at hpl; cases hpl
  | some d =>
   rw [hu] at hpl
   cases d <;> first | (cases hpl; done) | skip
   case array n el =>
    simp only at hpl
    unfold tsz at hpl
    cases hi : C.P.info? el with
    | none => rw [hi] at hpl; cases hpl
    | some ie =>
     rw [hi] at hpl
     simp only [Option.map_some, Zi] at hpl
     subst hpl
     simp only [h1, h2]
     rw [hi]
     exact k1
   case struct fields =>
    simp only at hpl
    cases hm : fields.toList.mapM (fun f => (C.P.info? f.type).map fun i => (f.offset, i.size)) with
    | none => rw [hm] at hpl; cases hpl
    | some places =>
     rw [hm] at hpl
     simp only [Option.map_some, Zi] at hpl
     subst hpl
     simp only [h1, h2]
     rw [hm]
     simpa using k1
 have hrun := run_build (P := C.P) w t (qs.map fun (i, x) => (i, a.eval x)) out (by simpa using hb)
 refine ⟨out, ?_, k2, k3⟩
 simp only [execOp, ho]
 rw [Sem.run_bind, hrun]
 rfl
theorem Qkw {b B id sz : Nat} {xs : List (List AV)} {e0 : Env} (hG : GOk C σ) (h : RelX C.fid e0 σ bm s a w) (hle : σ.le τ) (hb : s.b b = some (.rows sz xs)) (hB : bm b = some B) (hbig : 100000 ≤ b)
  (hv : RepH τ (some id) xs.length (.slice (some ⟨B, 0, none⟩) xs.length xs.length)) {pl : Nat → Option (Nat × Nat)} : ∀ {ps : List (Nat × Nat × Opnd)} {qs : List (Nat × Operand)}, Qcg C pl ps qs = true →
  Parts C.fid τ pl (ps.map fun p => (p.1, p.2.1, ownV b id sz xs.length (s.get C.G p.2.2))) (qs.map fun q => (q.1, a.eval q.2))
 | [], [], _ => .nil
 | [], _ :: _, h => by simp [Qcg] at h
 | _ :: _, [], h => by simp [Qcg] at h
 | (off, n, x) :: r, (i, y) :: q, hk => by
  simp only [Qcg, Zw, beq_iff_eq] at hk
  refine .cons hk.1.1 (fun hone => ?_) (Qkw hG h hle hb hB hbig hv hk.2)
  have hr := Qc hG h hk.1.2
  cases hg : s.get C.G x with
  | bs b' =>
   simp only [hg, ownV] at hone ⊢
   by_cases hbb : b' = b
   ·subst hbb
    rw [if_pos rfl]
    rw [hg] at hr
    obtain ⟨sz', xs', cap, q1, q2, q3⟩ := (show ∀ B, bm b' = some B → _ from hr) B hB
    rw [hb] at q1
    injection q1 with q1
    injection q1 with q1 q4
    subst q1 q4
    have := q2.2 hbig
    subst this
    rw [q3]
    exact hv
   ·rw [if_neg hbb] at hone
    have := Qbs hone
    cases this
  | _ =>
   simp only [hg, ownV] at hone hr ⊢
   exact ((Qu (Qbs hone)).1 hr).mono hle
theorem op_tbld (hG : GOk C σ) (h : RelX C.fid { e with hd := σ.hd } σ bm s a w) (ha : ArS C.fid e σ bm s a w) (hN : NoAr e σ s) {b : Nat} {zero : List AV} {ps : List (Nat × Nat × Opnd)} {qs : Array (Nat × Operand)} {t : TypeId} {pl : Nat → Option (Nat × Nat)} (ho : o.op = .build t qs)
  (hz : Qde C.P zero t = true) (hpl : Qei C.P t = some pl) (hp : Qcg C pl ps qs.toList = true)
  (hev : evalTK call C.G s (.bld b zero ps) = some (c, s')) : Qbu C e s' c a ((execOp a.eval o).run C.P w) := by
 simp only [evalTK] at hev
 obtain ⟨es, hes, hev⟩ := Qa.1 hev
 have hes := Qds hes
 split at hev
 rotate_left
 ·cases hev
 rename_i sz xs hb
 split at hev
 rotate_left
 ·cases hev
 rename_i hbig
 obtain ⟨cs, hf, hev⟩ := Qa.1 hev
 simp only [Zi, Zm] at hev
 obtain ⟨rfl, rfl⟩ := hev
 have hA := ha es hes
 obtain ⟨B, hB, ⟨vs, ty, m, j2, j3, j4, j5⟩, hown, hσ⟩ := h.boxes b _ hb rfl
 have hless : Less s { s with b := upd s.b b none } := by
  refine ⟨fun t => .inl rfl, fun b' => ?_, fun t b' _ => ?_, fun b' hb' => ?_, fun t b' hr => h.seenT t b' hr⟩
  ·by_cases hbb : b' = b
   ·right; simp [upd, hbb]
   ·left; simp [upd, hbb]
  ·by_cases hbb : b' = b
   ·left; simp [upd, hbb]
   ·right; simp [upd, hbb]
  ·by_cases hbb : b' = b
   ·simp [upd, hbb] at hb'
   ·exact h.seenB b' (by simpa [upd, hbb] using hb')
 have h1 := h.less hless
 have hbm : ∀ b' B', (if ((upd s.b b none) b').isSome then bm b' else none) = some B' → b' ≠ b ∧ bm b' = some B' := by
  intro b' B' hh
  by_cases hbb : b' = b
  ·simp [upd, hbb] at hh
  ·refine ⟨hbb, ?_⟩
   split at hh
   ·exact hh
   ·cases hh
 have hplain : ∀ B', Qz { s with b := upd s.b b none } (fun b' => if ((upd s.b b none) b').isSome then bm b' else none) a w B' → Qz s bm a w B' ∧ B' ≠ B := by
  intro B' hp
  rcases hp with ⟨b', hb'⟩ | ⟨p, sz', k1, k2⟩
  ·obtain ⟨q1, q2⟩ := hbm b' B' hb'
   refine ⟨.inl ⟨b', q2⟩, fun hh => ?_⟩
   subst hh
   exact q1 (h.inj b' b B' q2 hB)
  ·have k3 : Qd s p = some sz' ∧ Qf (Qg a w bm p) = some B' := by
    cases p with
    | t t => exact ⟨k1, k2⟩
    | c b' i =>
     simp only [Qd] at k1
     by_cases hbb : b' = b
     ·subst hbb; simp [upd] at k1
     ·have e1 : upd s.b b none b' = s.b b' := by simp [upd, hbb]
      rw [e1] at k1
      refine ⟨k1, ?_⟩
      cases hs : s.b b' with
      | none => rw [hs] at k1; cases k1
      | some cc => simpa [Qg, e1, hs] using k2
   refine ⟨.inr ⟨p, sz', k3.1, k3.2⟩, fun hh => ?_⟩
   subst hh
   obtain ⟨A, n, cap, q1, q2⟩ := h.tip p sz' k3.1
   rw [q1] at k3
   rcases q2 with q2 | ⟨B', o', vs', t', m', r1, _, _, _, _, _, r7⟩
   ·subst q2; cases A <;> simp [Qf] at k3
   ·subst r1
    simp only [Qf] at k3
    have k4 := k3.2
    split at k4
    ·cases k4
    ·injection k4 with k4
     subst k4
     exact r7 b hB
 have hes1 : ({ s with b := upd s.b b none } : S).b 99 = some (.ar es) := by
  have : (99 : Nat) ≠ b := by omega
  simp [upd, this, hes]
 have hA1 : ArOk C.fid e σ (fun b' => if ((upd s.b b none) b').isSome then bm b' else none) { s with b := upd s.b b none } a w es :=
  hA.step (fun id B hB => ⟨rfl, rfl, (hA.blk hB).2.1⟩) (Mem.le_refl _) rfl (fun id B' hB' hp => (hplain B' hp).1)
 have hx : EntV C.fid e σ (fun b' => if ((upd s.b b none) b').isSome then bm b' else none) { s with b := upd s.b b none } a w (.slice (some ⟨B, 0, none⟩) xs.length xs.length) sz xs := by
  refine ⟨_, xs.length, rfl, ?_⟩
  by_cases h0 : xs.length = 0
  ·exact .inl ⟨h0, List.eq_nil_of_length_eq_zero h0⟩
  ·exact .inr ⟨by omega, Nat.le_refl _, B, vs, ty, m, rfl, j2, ⟨j3.1, j3.2.to _⟩, j4, j5, hown, hσ, fun hp => (hplain B hp).2 rfl⟩
 obtain ⟨τ, hle, g1, g2, g3, g4⟩ := Qvb h1 (hN.has hes) hes1 hA1 rfl hx rfl (fun id B' hB' hh => by
  simp only [Qcv] at hh
  split at hh
  ·cases hh
  ·injection hh with hh
   subst hh
   exact (hA.blk hB').2.2.1 (.inl ⟨b, hB⟩))
 obtain ⟨out, k1, k2, k3⟩ := Qxl (w := w) (a := a) ho hz hpl (Qkw (a := a) (w := w) hG h hle hb hB hbig g4 hp) hf
 exact .inl ⟨.agg out, w, k1, τ, _, g1, g2, g3, ⟨out, rfl, k2, k3⟩, (fun b hb => by cases hb), fun sz hs => by cases hs⟩
end
end Go.Vs