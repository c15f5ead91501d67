/- Results. -/
import Derived.Test.YtbgodlimjjgogaaDoorVs21
import Derived.Laws.Sem
import Derived.LoopN
set_option linter.unusedVariables false
namespace Go.Vs
open Go Go.RowKit
section
variable {C : Ctx} {e : Env} {σ : Mem} {bm : Nat → Option Nat} {s s1 s2 sf : S} {a : Act} {w w' : World} {call : Call} {c : AV}
def okRV (P : Program) : RS → ResultVar → Bool
 | .keep t n, .cell u ty => t == u && tsz P ty == some n && rowT P ty == some true
 | .tmp t, .tmp u => t == u
 | .cell t n agg, .cell u ty => t == u && tsz P ty == some n && rowT P ty == some agg
 | _, _ => false
def Qjd (P : Program) : List RS → List ResultVar → Bool
 | [], [] => true
 | r :: rs, q :: qs => okRV P r q && Qjd P rs qs
 | _, _ => false
def Qet (a : Act) : ResultVar → Sem Value
 | .tmp t => pure (a.tmps.getD t undef)
 | .cell x t => do loadVar t (← asAddr (a.tmps.getD x undef))
theorem Qtz (fn : Func) (a : Act) : results fn a.tmps = (do let vs ← fn.results.toList.mapM (Qet a); pure (if h : vs.toArray.size = 1 then vs.toArray[0] else .tuple vs.toArray)) := by
 unfold results
 have : fn.results = fn.results.toList.toArray := by simp
 rw [this, List.mapM_toArray]
 simp only [map_eq_pure_bind, bind_assoc, pure_bind]
 rfl
theorem Qog {v : Value} (h : RepP C.fid σ c v) {c' : AV} (hp : resP c = some c') : RepP C.fid σ c' v ∧ c'.isP = false ∧ ∀ sz, c'.tipSz = some sz → c.tipSz = some sz ∨ Qf v = none ∧ ∃ A n, v = .slice A n 0 := by
 cases c with
 | sl m sz xs =>
  simp only [resP, Zi] at hp
  subst hp
  cases m
  ·obtain ⟨⟨A, n, h1⟩, h2⟩ := Qdi h
   exact ⟨Qlv h, rfl, fun sz hs => .inr ⟨h2, A, n, h1⟩⟩
  ·exact ⟨h, rfl, fun sz hs => .inl hs⟩
  ·exact ⟨h, rfl, fun sz hs => by cases hs⟩
  ·exact ⟨Qs h, rfl, fun sz hs => by cases hs⟩
 | agg cs =>
  simp only [resP, Zi] at hp
  subst hp
  obtain ⟨vs, h1, h2, h3⟩ := h
  exact ⟨⟨vs, h1, by simpa using h2, Qba (fun _ _ hr => Qs hr) h3⟩, rfl, fun sz hs => by cases hs⟩
 | undef | int | bool | str | con | rp | fn | tup | tr | trp =>
  simp only [resP, Zi] at hp
  subst hp
  exact ⟨h, rfl, fun sz hs => by cases hs⟩
 | bs | bp | be | np => simp [resP] at hp
theorem Qgk (h : RelX C.fid e σ bm s a w) {t n : Nat} {agg : Bool} {u : Tmp} {ty : TypeId} {r : AV × S} (hl : loadP n agg false s (s.t t) = some r) (hok : okRV C.P (.cell t n agg) (.cell u ty) = true) :
  ∃ v, (Qet a (.cell u ty)).run C.P w = .ok v w ∧ RepP C.fid σ r.1 v ∧ r.1.tipSz = none := by
 simp only [okRV, Zw, beq_iff_eq] at hok
 obtain ⟨⟨rfl, hn⟩, hr⟩ := hok
 have hrep := h.tmps t
 have fin : ∀ {cs : List AV} {off : Nat}, Qjp C.fid σ w cs off (a.tmps.getD t undef) → (bnd (part n agg cs off) fun v => some (v, s)) = some r → ∃ v, (Qet a (.cell t ty)).run C.P w = .ok v w ∧ RepP C.fid σ r.1 v ∧ r.1.tipSz = none := by
  intro cs off hb hp
  obtain ⟨v0, h1, h2⟩ := Qa.1 hp
  injection h2 with h2
  subst h2
  obtain ⟨x, k1, k2, k3⟩ := Qoe hb h1 hn hr
  refine ⟨x, ?_, k2, k3⟩
  obtain ⟨B, o, hv, _⟩ := hb
  rw [hv] at k1
  simp only [Instr.loadAt, Instr.sureAddr, Sem.run_bind, Sem.run_pure, Result.andThen_ok] at k1
  simp only [Qet, hv, asAddr, Sem.run_bind, Sem.run_pure, Result.andThen_ok]
  exact k1
 cases hs : s.t t <;> rw [hs] at hl hrep <;> simp only [loadP] at hl <;> first | (cases hl; done) | skip
 case bp b off =>
  split at hl
  ·rename_i cs hb
   simp only [Bool.false_eq_true, if_false] at hl
   exact fin (Qjz h hrep hb) hl
  ·cases hl
 case be b i off =>
  split at hl
  ·rename_i sz xs hb
   obtain ⟨cs, h1, h2⟩ := Qa.1 hl
   simp only [Bool.false_eq_true, if_false] at h2
   exact fin (Qox h hrep hb h1) h2
  ·cases hl
 case rp cs off =>
  simp only [Bool.false_eq_true, if_false] at hl
  exact fin (Qoy h hrep) hl
theorem Qtx (h : RelX C.fid e σ bm s a w) {r : RS} {q : ResultVar} (hok : okRV C.P r q = true) (hr : Qms s r = some c) : ∃ v, (Qet a q).run C.P w = .ok v w ∧ RepP C.fid σ c v ∧ c.isP = false := by
 cases r with
 | keep t n => simp [Qms] at hr
 | tmp t =>
  cases q <;> simp [okRV] at hok
  subst hok
  simp only [Qms] at hr
  have hp : (s.t t).isP = false := by
   cases hs : s.t t <;> rw [hs] at hr <;> first | rfl | (simp [resP] at hr)
  have := Qog ((Qu hp).1 (h.tmps t)) hr
  exact ⟨a.tmps.getD t undef, rfl, this.1, this.2.1⟩
 | cell t n agg =>
  cases q <;> simp only [okRV, Bool.false_eq_true] at hok
  simp only [Qms] at hr
  obtain ⟨⟨v0, s0⟩, h1, h2⟩ := Qa.1 hr
  obtain ⟨v, k1, k2, k3⟩ := Qgk h h1 (by simpa [okRV] using hok)
  have := Qog k2 h2
  exact ⟨v, k1, this.1, this.2.1⟩
theorem Qmr (h : RelX C.fid e σ bm s a w) : ∀ {rs : List RS} {qs : List ResultVar} {l : List AV}, Qjd C.P rs qs = true → Qja s rs = some l → ∃ vs : List Value, (qs.mapM (Qet a)).run C.P w = .ok vs w ∧ vs.length = l.length ∧ rs.length = l.length ∧ RepL C.fid σ l (fun i => vs[i]?)
 | [], [], l, _, hl => by
  simp only [Qja, Zi] at hl
  subst hl
  exact ⟨[], by simp, rfl, rfl, by simp [RepL]⟩
 | [], _ :: _, _, h, _ => by simp [Qjd] at h
 | _ :: _, [], _, h, _ => by simp [Qjd] at h
 | r :: rs, q :: qs, l, hok, hl => by
  simp only [Qjd, Zw] at hok
  simp only [Qja] at hl
  obtain ⟨c, h1, hl⟩ := Qa.1 hl
  obtain ⟨l', h2, hl⟩ := Qa.1 hl
  injection hl with hl
  subst hl
  obtain ⟨v, k1, k2, _⟩ := Qtx h hok.1 h1
  obtain ⟨vs, k3, k4, k5, k6⟩ := Qmr h hok.2 h2
  refine ⟨v :: vs, ?_, by simp [k4], by simp [k5], ?_⟩
  ·rw [List.mapM_cons]
   simp only [Sem.run_bind, k1, Result.andThen_ok, k3, Sem.run_pure]
  ·simp only [RepL]
   exact ⟨⟨v, by simp, Qs k2⟩, by simpa using k6⟩
theorem Qpy (h : RelX C.fid e σ bm s a w) {fn : Func} {rs : List RS} (hok : Qjd C.P rs fn.results.toList = true) (hr : Qca s rs = some c) :
  ∃ v, (results fn a.tmps).run C.P w = .ok v w ∧ ∃ s', (∀ j, j < 100 → s'.b j = s.b j) ∧
   ((∃ cs, c = .np cs ∧ ∃ b B cs', RelX C.fid e σ bm s' a w ∧ 100 ≤ b ∧ s'.b b = some (.var cs') ∧ bm b = some B ∧ v = .pointer (some ⟨B, 0, none⟩) ∧ cs = cs'.map AV.share) ∨ (c.isP = false ∧ Qp C e s' c v a w)) := by
 rw [Qtz]
 have tuple : (bnd (Qja s rs) fun l => some (AV.tup l)) = some c → rs.length ≠ 1 → ∃ v, (do let vs ← fn.results.toList.mapM (Qet a); pure (if h : vs.toArray.size = 1 then vs.toArray[0] else Value.tuple vs.toArray) : Sem Value).run C.P w = .ok v w ∧ c.isP = false ∧ Qp C e s c v a w := by
  intro hr hn
  obtain ⟨l, h1, h2⟩ := Qa.1 hr
  injection h2 with h2
  subst h2
  obtain ⟨vs, k1, k2, k3, k4⟩ := Qmr h hok h1
  refine ⟨.tuple vs.toArray, ?_, rfl, Qp.plain h ⟨vs.toArray, rfl, by simp [k2], by simpa using k4⟩ rfl⟩
  have : ¬ vs.toArray.size = 1 := by simp; omega
  simp only [Sem.run_bind, k1, Result.andThen_ok, dif_neg this, Sem.run_pure]
 have one : ∀ {q : ResultVar} {v : Value}, fn.results.toList = [q] → (Qet a q).run C.P w = .ok v w → (do let vs ← fn.results.toList.mapM (Qet a); pure (if h : vs.toArray.size = 1 then vs.toArray[0] else Value.tuple vs.toArray) : Sem Value).run C.P w = .ok v w := by
  intro q v hq hv
  rw [hq]
  simp only [List.mapM_cons, List.mapM_nil, Sem.run_bind, hv, Result.andThen_ok, Sem.run_pure]
  rfl
 match rs, hok, hr, tuple with
 | [], hok, hr, tuple =>
  obtain ⟨v, h1, h2, h3⟩ := tuple hr (by simp)
  exact ⟨v, h1, s, fun _ _ => rfl, .inr ⟨h2, h3⟩⟩
 | r1 :: r2 :: rs, hok, hr, tuple =>
  obtain ⟨v, h1, h2, h3⟩ := tuple hr (by simp)
  exact ⟨v, h1, s, fun _ _ => rfl, .inr ⟨h2, h3⟩⟩
 | [r], hok, hr, tuple =>
  clear tuple
  obtain ⟨q, hq⟩ : ∃ q, fn.results.toList = [q] := by
   match hfr : fn.results.toList with
   | [] => rw [hfr] at hok; simp [Qjd] at hok
   | [q] => exact ⟨q, rfl⟩
   | q :: q' :: qs => rw [hfr] at hok; cases r <;> simp [Qjd] at hok
  rw [hq] at hok
  simp only [Qjd, Bool.and_true] at hok
  simp only [Qca] at hr
  have plainV : ∀ {c0 : AV} {v : Value}, (Qet a q).run C.P w = .ok v w → RepP C.fid σ c0 v → resP c0 = some c → (∀ sz, c0.tipSz = some sz → ∃ t, s.t t = c0 ∧ v = a.tmps.getD t undef) →
    ∃ v, (do let vs ← fn.results.toList.mapM (Qet a); pure (if h : vs.toArray.size = 1 then vs.toArray[0] else Value.tuple vs.toArray) : Sem Value).run C.P w = .ok v w ∧ ∃ s', (∀ j, j < 100 → s'.b j = s.b j) ∧
   ((∃ cs, c = .np cs ∧ ∃ b B cs', RelX C.fid e σ bm s' a w ∧ 100 ≤ b ∧ s'.b b = some (.var cs') ∧ bm b = some B ∧ v = .pointer (some ⟨B, 0, none⟩) ∧ cs = cs'.map AV.share) ∨ (c.isP = false ∧ Qp C e s' c v a w)) := by
   intro c0 v hv hrep hp htip
   obtain ⟨k1, k2, k3⟩ := Qog hrep hp
   refine ⟨v, one hq hv, ?_⟩
   cases hc0 : c0.tipSz with
   | none =>
    refine ⟨s, fun _ _ => rfl, .inr ⟨k2, σ, bm, h, (Qu k2).2 k1, (fun b hb => by rw [Qcw k2] at hb; cases hb), fun sz hs => ?_⟩⟩
    rcases k3 sz hs with h1 | ⟨h1, A, n, rfl⟩
    ·rw [hc0] at h1; cases h1
    ·exact ⟨⟨A, n, 0, rfl, .inl rfl⟩, fun p sz' B _ hB => by rw [h1] at hB; cases hB⟩
   | some sz0 =>
    obtain ⟨t, rfl, rfl⟩ := htip sz0 hc0
    have hready := h.drop (.take t)
    refine ⟨s.drop (.take t), fun j _ => rfl, .inr ⟨k2, σ, bm, hready, (Qu k2).2 k1, (fun b hb => by rw [Qcw k2] at hb; cases hb), fun sz hs => ?_⟩⟩
    rcases k3 sz hs with h1 | ⟨h1, A, n, h2⟩
    ·refine ⟨h.tip (.t t) sz h1, fun p sz' B hp hB hB' => ?_⟩
     have hp' : Qd s p = some sz' ∧ p ≠ .t t := by
      cases p with
      | t u =>
       obtain ⟨q1, q2⟩ := Qno (x := .take t) (t := u) hp
       exact ⟨q1, fun e => q2 (by injection e with e; rw [e])⟩
      | c b i => exact ⟨hp, fun e => by cases e⟩
     exact hp'.2 (h.dist p (.t t) sz' sz B hp'.1 h1 hB' hB)
    ·exact ⟨⟨A, n, 0, h2, .inl rfl⟩, fun p sz' B _ hB => by rw [h1] at hB; cases hB⟩
  cases r with
  | keep t n =>
   cases q <;> simp only [okRV, Bool.false_eq_true] at hok
   simp only [Qwh] at hr
   obtain ⟨⟨v0, s0⟩, h1, h2⟩ := Qa.1 hr
   obtain ⟨v, k1, k2, k3⟩ := Qgk h h1 (by simpa [okRV] using hok)
   cases v0 <;> simp only [resK] at h2 <;> first | (cases h2; done) | skip
   rename_i cs
   injection h2 with h2
   subst h2
   obtain ⟨vs, q1, q2, q3⟩ := k2
   exact ⟨_, one hq k1, s, fun _ _ => rfl, .inr ⟨rfl, Qp.plain h ⟨vs, q1, by simpa using q2, Qba (fun _ _ hr => Qcl hr) q3⟩ rfl⟩⟩
  | cell t n agg =>
   cases q <;> simp only [okRV, Bool.false_eq_true] at hok
   simp only [Qwh] at hr
   obtain ⟨⟨v0, s0⟩, h1, h2⟩ := Qa.1 hr
   obtain ⟨v, k1, k2, k3⟩ := Qgk h h1 (by simpa [okRV] using hok)
   exact plainV k1 k2 h2 (fun sz hs => by rw [k3] at hs; cases hs)
  | tmp t =>
   cases q <;> simp [okRV] at hok
   subst hok
   simp only [Qwh] at hr
   have ht := h.tmps t
   have hrun : (Qet a (.tmp t)).run C.P w = .ok (a.tmps.getD t undef) w := rfl
   cases hs : s.t t with
   | bs b =>
    rw [hs] at hr ht
    simp only [resV] at hr
    split at hr
    rotate_left
    ·cases hr
    rename_i hb100
    split at hr
    rotate_left
    ·cases hr
    rename_i sz xs hb
    injection hr with hr
    subst hr
    obtain ⟨B, r1, ⟨arr, ty, m, r2, r3, r4, r5⟩, r6, r7⟩ := h.boxes b _ hb rfl
    obtain ⟨sz', xs', cap, q1, q2, q3⟩ := ht B r1
    rw [hb] at q1
    injection q1 with q1
    injection q1 with q1 q1'
    subst q1 q1'
    have hsl := h.shut_ hb r1
    have hle : σ.le { σ with c := fun B' i => if B' = B then w.cell? ⟨B, i, none⟩ else σ B' i } := by
     refine Mem.le_c ?_
     intro B' i v hv
     by_cases hh : B' = B
     ·subst hh; rw [r7 i] at hv; cases hv
     ·simp [hh, hv]
    refine ⟨_, one hq hrun, { s with b := upd s.b b none }, fun j hj => by simp only [Qae]; rw [if_neg (by omega)], .inr ⟨rfl, _, _, hsl, ?_, (fun b' hb' => by cases hb'), fun sz hs => by cases hs⟩⟩
    refine ⟨_, _, cap, q3, rfl, q2.1, ⟨fun h => (by cases h), fun h => (by cases h)⟩, .inr ⟨B, 0, rfl, ?_⟩⟩
    refine Qad hle _ _ _ (fun i v hv => ?_) r5
    simp only [if_true, Nat.zero_add]
    rw [Qag r2]; exact hv
   | bp b off =>
    rw [hs] at hr ht
    simp only [resV] at hr
    split at hr
    rotate_left
    ·cases hr
    rename_i hb100
    obtain ⟨rfl, hb100⟩ := hb100
    split at hr
    rotate_left
    ·cases hr
    rename_i cs hb
    injection hr with hr
    subst hr
    obtain ⟨B, r1, _⟩ := h.boxes b _ hb rfl
    exact ⟨_, one hq hrun, s, fun _ _ => rfl, .inl ⟨_, rfl, b, B, cs, h, hb100, hb, r1, ht B r1, rfl⟩⟩
   | be b i off => rw [hs] at hr; simp [resV, resP] at hr
   | np cs => rw [hs] at hr; simp [resV, resP] at hr
   | undef | int | bool | str | con | sl | agg | rp | fn | tup | tr | trp =>
    rw [hs] at hr ht
    exact plainV hrun ((Qu rfl).1 ht) (by simpa only [resV] using hr) (fun sz _ => ⟨t, hs, rfl⟩)
end
end Go.Vs
namespace Go.Vs
open Go Go.RowKit
section
variable {C : Ctx} {e e' : Env} {σ σ' τ : Mem} {bm bm' : Nat → Option Nat} {s s1 s' : S} {a a' : Act} {w w' : World} {es : List Ent} {c : AV} {v : Value} {fid : Nat → Nat}
theorem Qrk (h : RelX C.fid { e with hd := σ.hd } σ bm s a w) (har : ArS C.fid e σ bm s a w) (hN : NoAr e σ s) {fn : Func} {rs : List RS} (hok : Qjd C.P rs fn.results.toList = true) (hr : Qca s rs = some c) :
  ∃ v, (results fn a.tmps).run C.P w = .ok v w ∧ ∃ s', (∀ j, j < 100 → s'.b j = s.b j) ∧
   ((∃ cs, c = .np cs ∧ ∃ b B cs', RelX C.fid { e with hd := σ.hd } σ bm s' a w ∧ 100 ≤ b ∧ s'.b b = some (.var cs') ∧ bm b = some B ∧ v = .pointer (some ⟨B, 0, none⟩) ∧ cs = cs'.map AV.share) ∨ (c.isP = false ∧ Qo C e s' c v a w)) := by
 obtain ⟨v, k1, s', k2, k3⟩ := Qpy h.frame hok hr
 refine ⟨v, k1, s', k2, ?_⟩
 have hka : Qav s s' := fun es hes => by rw [← k2 99 (by omega)]; exact hes
 rcases k3 with ⟨cs, rfl, b, B, cs', q1, q2, q3, q4, q5, q6⟩ | ⟨hp, k3⟩
 ·exact .inl ⟨cs, rfl, b, B, cs', (h.unframe q1).1, q2, q3, q4, q5, q6⟩
 ·exact .inr ⟨hp, Qo.lift h har hN hka k3⟩
theorem Qqz (harn : e.arn = false) (h : Qo C e s c v a w) : Qp C e s c v a w := by
 obtain ⟨σ, bm, h1, h2, hN, h3, h4, h5⟩ := h
 rw [(hN harn).1] at h1
 exact ⟨σ, bm, h1, h3, h4, fun sz hs => ⟨(h5 sz hs).1, (h5 sz hs).2.1⟩⟩
theorem Qhl (hA : ArOk fid e σ bm s a w es) (hle : σ.le τ) : ∀ {bs : List Bool} {cs cs' : List AV} {ids : List Nat} {g : Nat → Option Value}, Qga es bs cs = some (cs', ids) → Qgt σ τ w es ids → RepL fid σ cs g → RepL fid τ cs' g ∧ cs'.length = cs.length
 | [], cs, cs', ids, g, h, hs, hr => by
  simp only [Qga, Zi, Zm] at h
  rw [← h.1]
  exact ⟨Qbb hle _ _ _ (fun _ _ h => h) hr, rfl⟩
 | true :: bs, [], cs', ids, g, h, hs, hr => by
  simp only [Qga, Zi, Zm] at h
  rw [← h.1]; exact ⟨by simp [RepL], rfl⟩
 | false :: bs, [], cs', ids, g, h, hs, hr => by
  simp only [Qga, Zi, Zm] at h
  rw [← h.1]; exact ⟨by simp [RepL], rfl⟩
 | true :: bs, c :: cs, cs', ids, g, h, hs, hr => by
  simp only [Qga] at h
  obtain ⟨⟨c1, i1⟩, h1, h⟩ := Qa.1 h
  obtain ⟨⟨cs1, i2⟩, h2, h⟩ := Qa.1 h
  simp only [Zi, Zm] at h
  obtain ⟨rfl, rfl⟩ := h
  simp only [RepL] at hr ⊢
  obtain ⟨⟨v, k1, k2⟩, k3⟩ := hr
  obtain ⟨q1, q2⟩ := Qhl hA hle h2 hs.right k3
  exact ⟨⟨⟨v, k1, Qip hA hle _ _ _ _ h1 hs.left v k2⟩, q1⟩, by simp [q2]⟩
 | false :: bs, c :: cs, cs', ids, g, h, hs, hr => by
  simp only [Qga] at h
  obtain ⟨⟨cs1, i2⟩, h2, h⟩ := Qa.1 h
  simp only [Zi, Zm] at h
  obtain ⟨rfl, rfl⟩ := h
  simp only [RepL] at hr ⊢
  obtain ⟨⟨v, k1, k2⟩, k3⟩ := hr
  obtain ⟨q1, q2⟩ := Qhl hA hle h2 hs k3
  exact ⟨⟨⟨v, k1, k2.mono hle⟩, q1⟩, by simp [q2]⟩
theorem Qvn {c' : AV} {ids : List Nat} (h : Qo C e s c v a w) (hes : s.b 99 = some (.ar es)) (hc : c'.tipSz = none) (hp : c.isP = false) (hp' : c'.isP = false)
  (hv : ∀ σ τ bm, ArOk C.fid e σ bm s a w es → σ.le τ → Qgt σ τ w es ids → RepP C.fid σ c v → RepP C.fid τ c' v) : Qo C e (s.setA (Qev es ids)) c' v a w := by
 obtain ⟨σ, bm, h1, h2, hN, h3, h4, h5⟩ := h
 have hA := h2 es hes
 have hle := Qem (σ := σ) (w := w) h1.mem h1.one (Qv σ es ids)
 have hhd : (Qaz σ w (Qv σ es ids)).hd = σ.hd := Qel _
 have hx := h1.sealed (show ∀ B ∈ Qv σ es ids, ({ e with hd := σ.hd } : Env).own B ∧ _ from Qka hA ids)
 have hx2 : RelX C.fid { e with hd := (Qaz σ w (Qv σ es ids)).hd } (Qaz σ w (Qv σ es ids)) bm s a w := by rw [hhd]; exact hx
 refine ⟨Qaz σ w (Qv σ es ids), bm, hx2.setA hes, fun es0 hes0 => ?_, hN.has hes, (Qu hp').2 (hv σ _ bm hA hle (Qim ids) ((Qu hp).1 h3)), (fun b hb => by rw [Qcw hp'] at hb; cases hb), fun sz hs => by rw [hc] at hs; cases hs⟩
 have : Qev es ids = es0 := by
  simp only [S.setA, S.setB, Qal, Zi, BC.ar.injEq] at hes0
  exact hes0
 subst this
 have hk := hA.killed h1.mem h1.one ids
 exact hk.step (fun id B hB => ⟨rfl, rfl, (hk.blk hB).2.1⟩) (Mem.le_refl _) rfl (fun id B hB hp => Qci hp)
theorem RelX.rehd (h : RelX fid e σ bm s a w) {H0 H : Nat → Option Value} {b : Bool} (hle : ∀ id v, H0 id = some v → H id = some v) (ht : ∀ t, (s.t t).noTr = true) (hb : ∀ b c, s.b b = some c → c.isAr = false → c.noTr = true) :
  RelX fid { e with σ0 := { e.σ0 with hd := H0 }, hd := H, arn := b } { σ with hd := H } bm s a w := by
 have hc : ∀ B i v, σ B i = some v → ({ σ with hd := H } : Mem) B i = some v := fun _ _ _ h => h
 exact { h with
  hds := rfl
  tmps := fun t => by
   have h1 := h.tmps t
   have h2 := ht t
   revert h1 h2
   show RepT fid σ bm s.b (s.t t) _ → _ → RepT fid { σ with hd := H } bm s.b (s.t t) _
   cases s.t t <;> intro h1 h2 <;> first | exact Qgr hc h2 h1 | exact h1
  boxes := fun b c hbc har => by
   obtain ⟨B, h1, h2, h3, h4⟩ := h.boxes b c hbc har
   refine ⟨B, h1, ?_, h3, h4⟩
   have hn := hb b c hbc har
   cases c with
   | var cs =>
    obtain ⟨vs, t, m, k1, k2, k3, k4⟩ := h2
    exact ⟨vs, t, m, k1, k2, k3, Qda hc hn (fun _ _ h => h) k4⟩
   | rows sz xs =>
    obtain ⟨vs, t, m, k1, k2, k3, k4⟩ := h2
    exact ⟨vs, t, m, k1, k2, k3, Qjs hc hn (fun _ _ h => h) k4⟩
   | ar es => cases har
  oldσ := fun B h1 h2 => h.oldσ B h1 h2
  leσ := ⟨h.leσ.1, hle⟩ }
theorem Qvj {tv : List AV} {pb : List BC} {args : Array Value} (h : EntryY C e tv pb none args w) (hn : ∀ x ∈ pb, x.isAr = false) (htv : Qas tv = true) (hpb : (pb.all BC.noTr) = true) (hfew : pb.length ≤ 99) :
  EntryY C { e with σ0 := e.σ0.bare, hd := fun _ => none, arn := true } tv pb (some []) args w := by
 have hL : ∀ {l : List AV}, Qas l = true → ∀ (i : Nat) (c : AV), l[i]? = some c → c.noTr = true := by
  intro l
  induction l with
  | nil => intro _ i c hc; simp at hc
  | cons x l ih =>
   intro hl i c hc
   simp only [Qas, Zw] at hl
   cases i with
   | zero => simp at hc; rw [← hc]; exact hl.1
   | succ i => exact ih hl.2 i c (by simpa using hc)
 have h99 : (Ql tv pb).b 99 = none := List.getElem?_eq_none hfew
 have hrel := h.rel.rehd (H0 := fun _ => none) (H := fun _ => none) (b := true) (fun _ _ h => h) (fun t => ?_) (fun b c hb _ => ?_)
 rotate_left
 ·show (tv.getD t .undef).noTr = true
  rw [List.getD_eq_getElem?_getD]
  cases hh : tv[t]? with
  | none => rfl
  | some c => exact hL htv t c hh
 ·exact List.all_eq_true.1 hpb c (List.mem_of_getElem? (show pb[b]? = some c from hb))
 refine { rel := hrel.addA h99, ar := fun es hes => ?_, arn := rfl, few := fun _ => hfew, w0 := h.w0, len := h.len, g := h.g, fix := h.fix }
 have : [] = es := by
  simp only [Qeq, Qal, Zi, BC.ar.injEq] at hes
  exact hes
 subst this
 refine ⟨fun id sz xs hx => by simp at hx, fun id id' B h1 h2 => ?_, fun id hid => rfl⟩
 obtain ⟨sz, xs, q1, _⟩ := Qaw h1
 simp at q1
theorem Qxt {c' : AV} {ids : List Nat} {pb : List BC} (he : e.hd = e.σ0.hd) (h : Qo C { e with σ0 := e.σ0.bare, hd := fun _ => none, arn := true } s c v a w) (hes : s.b 99 = some (.ar es)) (hv : Qgb es c = some (c', ids)) (hn : c'.noTr = true) (hp : c'.isP = false)
  (hpb : ∀ (j : Nat) x, pb[j]? = some x → s.b j = some x) (hnt : (pb.all BC.noTr) = true) : ∃ s', (∀ (j : Nat) x, pb[j]? = some x → s'.b j = some x) ∧ Qp C e s' c' v a w := by
 obtain ⟨σ, bm, h1, h2, hN, h3, h4, h5⟩ := h
 have hA := h2 es hes
 have hle := Qem (σ := σ) (w := w) h1.mem h1.one (Qv σ es ids)
 have hx := h1.sealed (show ∀ B ∈ Qv σ es ids, ({ e with σ0 := e.σ0.bare, hd := σ.hd, arn := true } : Env).own B ∧ _ from Qka hA ids)
 let s' : S := { t := fun _ => .undef, b := fun j => if j < pb.length then s.b j else none, seen := s.seen }
 have hless : Less s s' := by
  refine ⟨fun t => .inr (.inr rfl), fun b => ?_, fun t b hr => (by cases hr), fun b hb => ?_, fun t b hr => (by cases hr)⟩
  ·show (if b < pb.length then s.b b else none) = s.b b ∨ (if b < pb.length then s.b b else none) = none
   split
   ·exact .inl rfl
   ·exact .inr rfl
  ·have hb : (if b < pb.length then s.b b else none) ≠ none := hb
   split at hb
   ·exact h1.seenB b hb
   ·exact absurd rfl hb
 have hx2 := hx.less hless
 have hx3 := hx2.rehd (H0 := e.σ0.hd) (H := e.hd) (b := e.arn) (fun id v h => by rw [he]; exact h) (fun t => rfl) (fun b c hb _ => by
  have hb : (if b < pb.length then s.b b else none) = some c := hb
  split at hb
  ·rename_i hlt
   have := hpb b _ (List.getElem?_eq_getElem hlt)
   rw [hb] at this
   injection this with this
   rw [this]
   exact List.all_eq_true.1 hnt _ (List.getElem_mem hlt)
  ·cases hb)
 have hp0 := (Qfj hv).1 hp
 have hrep : RepP C.fid (Qaz σ w (Qv σ es ids)) c' v := Qip hA hle _ c c' ids hv (Qim ids) v ((Qu hp0).1 h3)
 refine ⟨s', fun j x hj => ?_, { (Qaz σ w (Qv σ es ids)) with hd := e.hd }, _, hx3, (Qu hp).2 (Qgr (σ := Qaz σ w (Qv σ es ids)) (τ := { (Qaz σ w (Qv σ es ids)) with hd := e.hd }) (fun _ _ _ h => h) hn hrep), (fun b hb => by rw [Qcw hp] at hb; cases hb), fun sz hs => ?_⟩
 ·show (if j < pb.length then s.b j else none) = some x
  rw [if_pos (List.getElem?_eq_some_iff.1 hj).1]
  exact hpb j x hj
 ·have hcc := (Qfj hv).2 sz hs
  subst hcc
  obtain ⟨t1, t2, t3⟩ := h5 sz hs
  refine ⟨?_, fun p sz' B hp' hB hB' => ?_⟩
  ·obtain ⟨A, n, cap, rfl, e2⟩ := t1
   by_cases hc0 : cap = 0
   ·exact ⟨A, n, cap, rfl, .inl hc0⟩
   refine ⟨A, n, cap, rfl, e2.imp (fun h => h) ?_⟩
   rintro ⟨B', o, arr, t, mk, rfl, k2, k3, k4, k5, k6, k7⟩
   refine ⟨B', o, arr, t, mk, rfl, k2, k3, k4, fun i hi => ?_, k6, fun b hb => ?_⟩
   ·show (Qaz σ w (Qv σ es ids)) B' i = none
    rw [Qfv, if_neg]
    ·exact k5 i hi
    ·intro hm
     obtain ⟨id, r1, r2⟩ := List.mem_filterMap.1 hm
     exact t3 es id B' hes (by simp [Qf, hc0]) r2
   ·have hb : (if (s'.b b).isSome = true then bm b else none) = some B' := hb
    split at hb
    ·exact k7 b hb
    ·cases hb
  ·cases p with
   | t t => cases hp'
   | c b i =>
    simp only [Qd] at hp'
    split at hp'
    rotate_left
    ·cases hp'
    rename_i cs hb
    have hb : (if b < pb.length then s.b b else none) = some (.var cs) := hb
    have hlt : b < pb.length := by
     split at hb
     ·assumption
     ·cases hb
    rw [if_pos hlt] at hb
    have hp2 : Qd s (.c b i) = some sz' := by simp only [Qd, hb]; exact hp'
    refine t2 (.c b i) sz' B hp2 hB ?_
    have : Qg a w (fun b => if (s'.b b).isSome then bm b else none) (.c b i) = Qg a w bm (.c b i) := by
     have : (s'.b b).isSome = true := by show (if b < pb.length then s.b b else none).isSome = true; rw [if_pos hlt, hb]; rfl
     simp [Qg, this]
    rw [← this]; exact hB'
end
end Go.Vs
namespace Go.Vs
open Go Go.RowKit
def exOf : Oc → Exit
 | .norm => .normal
 | .exit id => .exit id
 | .ret => .ret
def Qbf (C : Ctx) (n : Nat) (lab : Nat → Code → Bool) : AC → Code → Bool
 | .skip, .skip => true
 | .region draw ps, .region _ ops draw' => draw == draw' && Qoc C n draw ps ops
 | .seq a b, .seq x y => Qbf C n lab a x && Qbf C n lab b y
 | .cond c a b, .cond c' x y => okO C c c' && Qbf C n lab a x && Qbf C n lab b y
 | .block id a, .block id' x => id == id' && Qbf C n lab a x
 | .exit id, .exit id' => id == id'
 | .ret, .ret => true
 | .label g, c => lab g c
 | _, _ => false
def AC.noFlip : AC → Bool
 | .flip _ _ _ => false
 | .seq a b => a.noFlip && b.noFlip
 | .cond _ x y => x.noFlip && y.noFlip
 | .block _ a => a.noFlip
 | _ => true
theorem Qbe : ∀ {c : AC}, c.noFlip = true → c.other = c
 | .flip _ _ _, h => by cases h
 | .seq a b, h => by
  simp only [AC.noFlip, Zw] at h
  simp only [AC.other, Qbe h.1, Qbe h.2]
 | .cond c x y, h => by
  simp only [AC.noFlip, Zw] at h
  simp only [AC.other, Qbe h.1, Qbe h.2]
 | .block id a, h => by
  simp only [AC.noFlip] at h
  simp only [AC.other, Qbe h]
 | .skip, _ => rfl
 | .region _ _, _ => rfl
 | .exit _, _ => rfl
 | .ret, _ => rfl
 | .label _, _ => rfl
def Qay (C : Ctx) (n : Nat) (lab : Nat → Code → Bool) : AC → Code → Bool
 | .flip o ps qs, .region _ ops true => Qwe C n o ps qs ops
 | .seq a b, .seq x y => (Qay C n lab a x && b.noFlip && Qbf C n lab b y) || (a.noFlip && Qbf C n lab a x && Qay C n lab b y)
 | .cond c a b, .cond c' x y => okO C c c' && (Qay C n lab a x || (a.noFlip && Qbf C n lab a x)) && (Qay C n lab b y || (b.noFlip && Qbf C n lab b y))
 | .block id a, .block id' x => id == id' && Qay C n lab a x
 | _, _ => false
def Qrd (C : Ctx) (n : Nat) (lab : Nat → Code → Bool) (two : Bool) (ac : AC) (c : Code) : Bool := if two then Qay C n lab ac c else Qbf C n lab ac c
def Qhh (C : Ctx) (n : Nat) (F : Nat → Option Proc) : Nat → Nat → Code → Bool
 | 0, _, _ => false
 | d + 1, g, c =>
  match F g with
  | some p =>
   match p.kind with
   | .join => Qbf C n (Qhh C n F d) p.code c
   | .loop => match c with | .loop body => Qbf C n (Qhh C n F d) p.code body | _ => false
   | _ => false
  | none => false
section
variable {C : Ctx} {e : Env} {σ : Mem} {bm : Nat → Option Nat} {s s1 s2 sf : S} {a : Act} {w w' : World} {call : Call} {F : Nat → Option Proc} {Q : Exit → Act → World → Prop}
def Qxd (C : Ctx) (F : Nat → Option Proc) (call : Call) (n : Nat) (lab : Nat → Code → Bool) : Prop :=
 ∀ g c p tv bv o tv' bv', lab g c = true → F g = some p → call g tv bv = some (o, tv', bv') → p.kind = .join ∨ p.kind = .loop →
  ∀ (e : Env) (a : Act) (w : World) (Q : Exit → Act → World → Prop), e.n = n → GE C e → RelY C e (mkS p.ins tv p.bins bv) a w → (∀ a' w', RelY C e (mkS p.outs tv' p.bouts bv') a' w' → Q (exOf o) a' w') → c.wp C.P Q a w
theorem Quv {f : Nat → AV} {j : Nat} : ∀ {is : List Nat}, asT is (is.map f) j = if j ∈ is then f j else .undef
 | [] => by simp [asT]
 | i :: is => by
  simp only [List.map_cons, asT, Quv (is := is), Zo]
  by_cases h : j = i
  ·simp [h]
  ·simp [h]
theorem Qzq {j : Nat} : ∀ {is : List Nat} {bv : List BC}, Qaf s is = some bv → asB is bv j = if j ∈ is then s.b j else none
 | [], bv, h => by
  simp only [Qaf, Zi] at h
  subst h
  simp [asB]
 | i :: is, bv, h => by
  simp only [Qaf] at h
  obtain ⟨c, h1, h⟩ := Qa.1 h
  obtain ⟨r, h2, h⟩ := Qa.1 h
  injection h with h
  subst h
  simp only [asB, Qzq h2, Zo]
  by_cases hj : j = i
  ·simp [hj, h1]
  ·simp [hj]
theorem Qed : ∀ {is : List Nat} {bv : List BC}, Qaf s is = some bv → is.length = bv.length ∧ (∀ (k i : Nat) (c : BC), is[k]? = some i → bv[k]? = some c → s.b i = some c)
 | [], bv, h => by
  simp only [Qaf, Zi] at h
  subst h
  simp
 | i :: is, bv, h => by
  simp only [Qaf] at h
  obtain ⟨c, h1, h⟩ := Qa.1 h
  obtain ⟨r, h2, h⟩ := Qa.1 h
  injection h with h
  subst h
  obtain ⟨h3, h4⟩ := Qed h2
  refine ⟨by simp [h3], fun k j d hk hd => ?_⟩
  cases k with
  | zero => simp at hk hd; subst hk hd; exact h1
  | succ k => exact h4 k j d (by simpa using hk) (by simpa using hd)
theorem Qnz {ins bins : List Nat} {bv : List BC} (hb : Qaf s bins = some bv) (hi : ((ins.map s.t).all (AV.okIn bins)) = true) : Less s (mkS ins (ins.map s.t) bins bv) := by
 have ht : ∀ t, (mkS ins (ins.map s.t) bins bv).t t = if t ∈ ins then s.t t else .undef := fun t => Quv
 have hbb : ∀ b, (mkS ins (ins.map s.t) bins bv).b b = if b ∈ bins then s.b b else none := fun b => Qzq hb
 have hsn : ∀ b, (mkS ins (ins.map s.t) bins bv).seen b = bins.contains b := fun b => rfl
 refine ⟨fun t => ?_, fun b => ?_, fun t b _ => ?_, fun b h => ?_, fun t b h => ?_⟩
 ·rw [ht]
  split
  ·exact .inl rfl
  ·exact .inr (.inr rfl)
 ·rw [hbb]
  split
  ·exact .inl rfl
  ·exact .inr rfl
 ·rw [hbb]
  split
  ·exact .inr rfl
  ·exact .inl rfl
 ·rw [hbb] at h
  rw [hsn]
  split at h
  ·rename_i hm; simpa using hm
  ·exact absurd rfl h
 ·rw [ht] at h
  rw [hsn]
  split at h
  ·rename_i hm
   rw [List.all_eq_true] at hi
   have := hi (s.t t) (List.mem_map_of_mem hm)
   revert this h
   cases s.t t <;> intro h this <;> first | (cases h; done) | skip
   all_goals (simp only [AV.ref, Zi] at h; subst h; simpa [AV.okIn] using this)
  ·cases h
theorem Qtt (hl : Less s s1) {B : Nat} (hp : Qz s1 (fun b => if (s1.b b).isSome then bm b else none) a w B) : Qz s bm a w B := by
 rcases hp with ⟨b, hb⟩ | ⟨p, sz, h1, h2⟩
 ·have hb : (if (s1.b b).isSome = true then bm b else none) = some B := hb
  split at hb
  ·exact .inl ⟨b, hb⟩
  ·cases hb
 ·cases p with
  | t t =>
   refine .inr ⟨.t t, sz, ?_, h2⟩
   simp only [Qd] at h1 ⊢
   rcases hl.t t with q | q | q
   ·rw [← q]; exact h1
   ·rw [q, Qbn] at h1; cases h1
   ·rw [q] at h1; cases h1
  | c b i =>
   simp only [Qd] at h1
   rcases hl.b b with q | q
   ·refine .inr ⟨.c b i, sz, by simp only [Qd, ← q]; exact h1, ?_⟩
    have : (s1.b b).isSome = true := by
     cases hq : s1.b b with
     | none => rw [hq] at h1; cases h1
     | some c => rfl
    have e : Qg a w (fun b => if (s1.b b).isSome then bm b else none) (.c b i) = Qg a w bm (.c b i) := by simp [Qg, this]
    rw [← e]; exact h2
   ·rw [q] at h1; cases h1
theorem RelY.less (h : RelY C e s a w) (hl : Less s s1) : RelY C e s1 a w := by
 obtain ⟨σ, bm, h, ha, hN⟩ := h
 have hk : Qav s s1 := by
  intro es hes
  rcases hl.b 99 with q | q
  ·rw [← q]; exact hes
  ·rw [q] at hes; cases hes
 refine ⟨σ, _, h.less hl, fun es hes => ?_, hN.keep hk rfl⟩
 have hA := ha es (hk es hes)
 exact hA.step (fun id B hB => ⟨rfl, rfl, (hA.blk hB).2.1⟩) (Mem.le_refl _) rfl (fun id B hB hp => Qtt hl hp)
theorem Qac (hm : C.P.follows .mixedOrders = true) (hc : Qdj C call) (hG : GE C e) {lab : Nat → Code → Bool} (hl : Qxd C F call e.n lab) : ∀ {ac : AC} {c : Code} {s s' : S} {o : Oc} {a : Act} {w : World} {Q : Exit → Act → World → Prop}, Qbf C e.n lab ac c = true →
  Qam call F C.G ac s = some (o, s') → RelY C e s a w → (∀ a' w', RelY C e s' a' w' → Q (exOf o) a' w') → c.wp C.P Q a w
 | .skip, c, s, s', o, a, w, Q, hok, hev, hr, hQ => by
  cases c <;> simp only [Qbf, Bool.false_eq_true] at hok
  simp only [Qam, Zi, Zm] at hev
  obtain ⟨rfl, rfl⟩ := hev
  exact wp_skip (hQ a w hr)
 | .flip _ _ _, c, s, s', o, a, w, Q, hok, hev, hr, hQ => by cases c <;> simp only [Qbf, Bool.false_eq_true] at hok
 | .region draw ps, c, s, s', o, a, w, Q, hok, hev, hr, hQ => by
  cases c <;> simp only [Qbf, Bool.false_eq_true] at hok
  simp only [Zw, beq_iff_eq] at hok
  obtain ⟨rfl, hok⟩ := hok
  simp only [Qam] at hev
  obtain ⟨s1, h1, h2⟩ := Qa.1 hev
  simp only [Zi, Zm] at h2
  obtain ⟨rfl, rfl⟩ := h2
  exact Qpx hm hc hG hok h1 hr hQ
 | .seq x y, c, s, s', o, a, w, Q, hok, hev, hr, hQ => by
  cases c <;> simp only [Qbf, Bool.false_eq_true] at hok
  simp only [Zw] at hok
  simp only [Qam] at hev
  obtain ⟨⟨o1, s1⟩, h1, h2⟩ := Qa.1 hev
  refine wp_seq (Qac hm hc hG hl hok.1 h1 hr fun a' w' hr' => ?_)
  cases o1 with
  | norm => exact Qac hm hc hG hl hok.2 h2 hr' hQ
  | exit id =>
   simp only [Zi, Zm] at h2
   obtain ⟨rfl, rfl⟩ := h2
   exact hQ a' w' hr'
  | ret =>
   simp only [Zi, Zm] at h2
   obtain ⟨rfl, rfl⟩ := h2
   exact hQ a' w' hr'
 | .cond x y z, c, s, s', o, a, w, Q, hok, hev, hr, hQ => by
  cases c <;> simp only [Qbf, Bool.false_eq_true] at hok
  simp only [Zw] at hok
  simp only [Qam] at hev
  split at hev
  rotate_left
  ·cases hev
  rename_i t ht
  obtain ⟨σ, bm, h, hrest⟩ := hr
  have hrep := Qc (hG.1.mono h.leσ) h hok.1.1
  rw [ht] at hrep
  refine wp_cond hrep ?_
  cases t
  ·exact Qac hm hc hG hl hok.2 hev ⟨σ, bm, h, hrest⟩ hQ
  ·exact Qac hm hc hG hl hok.1.2 hev ⟨σ, bm, h, hrest⟩ hQ
 | .block id x, c, s, s', o, a, w, Q, hok, hev, hr, hQ => by
  cases c <;> simp only [Qbf, Bool.false_eq_true] at hok
  simp only [Zw, beq_iff_eq] at hok
  obtain ⟨rfl, hok⟩ := hok
  simp only [Qam] at hev
  obtain ⟨⟨o1, s1⟩, h1, h2⟩ := Qa.1 hev
  simp only [Zi] at h2
  have hs : s1 = s' := by
   cases o1 <;> simp only [Zm] at h2 <;> exact h2.2
  subst hs
  refine wp_block (Qac hm hc hG hl hok h1 hr fun a' w' hr' => ?_)
  have := hQ a' w' hr'
  cases o1 with
  | norm =>
   simp only [Zm, and_true] at h2
   rw [← h2] at this; exact this
  | ret =>
   simp only [Zm, and_true] at h2
   rw [← h2] at this; exact this
  | exit i =>
   simp only [Zm, and_true] at h2
   rw [← h2] at this
   show (if i = id then Q .normal a' w' else Q (.exit i) a' w')
   split
   ·rename_i hi; rw [if_pos hi] at this; exact this
   ·rename_i hi; rw [if_neg hi] at this; exact this
 | .exit id, c, s, s', o, a, w, Q, hok, hev, hr, hQ => by
  cases c <;> simp only [Qbf, Bool.false_eq_true] at hok
  simp only [beq_iff_eq] at hok
  subst hok
  simp only [Qam, Zi, Zm] at hev
  obtain ⟨rfl, rfl⟩ := hev
  exact wp_exit (hQ a w hr)
 | .ret, c, s, s', o, a, w, Q, hok, hev, hr, hQ => by
  cases c <;> simp only [Qbf, Bool.false_eq_true] at hok
  simp only [Qam, Zi, Zm] at hev
  obtain ⟨rfl, rfl⟩ := hev
  exact wp_ret (hQ a w hr)
 | .label g, c, s, s', o, a, w, Q, hok, hev, hr, hQ => by
  have hok : lab g c = true := by cases c <;> exact hok
  simp only [Qam] at hev
  split at hev
  rotate_left
  ·cases hev
  rename_i p hp
  split at hev
  rotate_left
  ·cases hev
  rename_i hk
  obtain ⟨bv, h1, hev⟩ := Qa.1 hev
  obtain ⟨⟨o1, tv', bv'⟩, h2, hev⟩ := Qa.1 hev
  simp only [Zi, Zm] at hev
  obtain ⟨rfl, rfl⟩ := hev
  exact hl g c p _ bv _ tv' bv' hok hp h2 hk.1 e a w Q rfl hG (hr.less (Qnz h1 hk.2)) hQ
theorem Qce (hm : C.P.follows .mixedOrders = true) (hc : Qdj C call) (hG : GE C e) {lab : Nat → Code → Bool} (hl : Qxd C F call e.n lab) : ∀ {ac : AC} {c : Code} {s s1 s2 : S} {o1 o2 : Oc} {a : Act} {w : World} {Q : Exit → Act → World → Prop}, Qay C e.n lab ac c = true →
  Qam call F C.G ac s = some (o1, s1) → Qam call F C.G ac.other s = some (o2, s2) → RelY C e s a w → (∀ a' w', RelY C e s1 a' w' → Q (exOf o1) a' w') → (∀ a' w', RelY C e s2 a' w' → Q (exOf o2) a' w') → c.wp C.P Q a w
 | .flip o ps qs, c, s, s1, s2, o1, o2, a, w, Q, hok, h1, h2, hr, hQ1, hQ2 => by
  cases c <;> first | (simp only [Qay, Bool.false_eq_true] at hok; done) | skip
  rename_i id ops draw
  cases draw
  ·simp [Qay] at hok
  simp only [Qay] at hok
  simp only [AC.other, Qam] at h1 h2
  obtain ⟨t1, f1, e1⟩ := Qa.1 h1
  obtain ⟨t2, f2, e2⟩ := Qa.1 h2
  simp only [Zi, Zm] at e1 e2
  obtain ⟨rfl, rfl⟩ := e1
  obtain ⟨rfl, rfl⟩ := e2
  exact Qtn hm hc hG hok f1 f2 hr hQ1 hQ2
 | .seq x y, c, s, s1, s2, o1, o2, a, w, Q, hok, h1, h2, hr, hQ1, hQ2 => by
  cases c <;> simp only [Qay, Bool.false_eq_true] at hok
  simp only [Bool.or_eq_true, Zw] at hok
  simp only [AC.other, Qam] at h1 h2
  obtain ⟨⟨p1, t1⟩, f1, g1⟩ := Qa.1 h1
  obtain ⟨⟨p2, t2⟩, f2, g2⟩ := Qa.1 h2
  clear h1 h2
  rcases hok with ⟨⟨k1, k2⟩, k3⟩ | ⟨⟨k1, k2⟩, k3⟩
  ·rw [Qbe k2] at g2
   refine wp_seq (Qce hm hc hG hl k1 f1 f2 hr (fun a' w' hr' => ?_) (fun a' w' hr' => ?_))
   ·cases p1 with
    | norm => exact Qac hm hc hG hl k3 g1 hr' hQ1
    | exit id =>
     simp only [Zi, Zm] at g1
     obtain ⟨rfl, rfl⟩ := g1
     exact hQ1 a' w' hr'
    | ret =>
     simp only [Zi, Zm] at g1
     obtain ⟨rfl, rfl⟩ := g1
     exact hQ1 a' w' hr'
   ·cases p2 with
    | norm => exact Qac hm hc hG hl k3 g2 hr' hQ2
    | exit id =>
     simp only [Zi, Zm] at g2
     obtain ⟨rfl, rfl⟩ := g2
     exact hQ2 a' w' hr'
    | ret =>
     simp only [Zi, Zm] at g2
     obtain ⟨rfl, rfl⟩ := g2
     exact hQ2 a' w' hr'
  ·rw [Qbe k1] at f2
   rw [f1] at f2
   simp only [Zi, Zm] at f2
   obtain ⟨rfl, rfl⟩ := f2
   refine wp_seq (Qac hm hc hG hl k2 f1 hr fun a' w' hr' => ?_)
   cases p1 with
   | norm => exact Qce hm hc hG hl k3 g1 g2 hr' hQ1 hQ2
   | exit id =>
    simp only [Zi, Zm] at g1
    obtain ⟨rfl, rfl⟩ := g1
    exact hQ1 a' w' hr'
   | ret =>
    simp only [Zi, Zm] at g1
    obtain ⟨rfl, rfl⟩ := g1
    exact hQ1 a' w' hr'
 | .cond x y z, c, s, s1, s2, o1, o2, a, w, Q, hok, h1, h2, hr, hQ1, hQ2 => by
  cases c <;> simp only [Qay, Bool.false_eq_true] at hok
  simp only [Zw, Bool.or_eq_true] at hok
  obtain ⟨⟨k0, k1⟩, k2⟩ := hok
  simp only [AC.other, Qam] at h1 h2
  split at h1
  rotate_left
  ·cases h1
  rename_i t ht
  rw [ht] at h2
  obtain ⟨σ, bm, h, hrest⟩ := hr
  have hrep := Qc (hG.1.mono h.leσ) h k0
  rw [ht] at hrep
  refine wp_cond hrep ?_
  cases t
  ·simp only [Bool.false_eq_true, if_false] at h1 h2
   rcases k2 with k2 | ⟨k2, k3⟩
   ·exact Qce hm hc hG hl k2 h1 h2 ⟨σ, bm, h, hrest⟩ hQ1 hQ2
   ·exact Qac hm hc hG hl k3 h1 ⟨σ, bm, h, hrest⟩ hQ1
  ·simp only [if_true] at h1 h2
   rcases k1 with k1 | ⟨k1, k3⟩
   ·exact Qce hm hc hG hl k1 h1 h2 ⟨σ, bm, h, hrest⟩ hQ1 hQ2
   ·exact Qac hm hc hG hl k3 h1 ⟨σ, bm, h, hrest⟩ hQ1
 | .block id x, c, s, s1, s2, o1, o2, a, w, Q, hok, h1, h2, hr, hQ1, hQ2 => by
  cases c <;> simp only [Qay, Bool.false_eq_true] at hok
  simp only [Zw, beq_iff_eq] at hok
  obtain ⟨rfl, hok⟩ := hok
  simp only [AC.other, Qam] at h1 h2
  obtain ⟨⟨p1, t1⟩, f1, g1⟩ := Qa.1 h1
  obtain ⟨⟨p2, t2⟩, f2, g2⟩ := Qa.1 h2
  clear h1 h2
  simp only [Zi] at g1 g2
  have out : ∀ {p : Oc} {t sx : S} {ox : Oc} {a' : Act} {w' : World}, (match (p, t).1 with | .exit i => (if i = id then Oc.norm else .exit i, (p, t).2) | o => (o, (p, t).2)) = (ox, sx) → (∀ a' w', RelY C e sx a' w' → Q (exOf ox) a' w') → RelY C e t a' w' → (match exOf p with | .exit i => if i = id then Q .normal a' w' else Q (.exit i) a' w' | ex => Q ex a' w') := by
   intro p t sx ox a' w' hh hQ hr'
   cases p with
   | norm =>
    simp only [Zm] at hh
    obtain ⟨rfl, rfl⟩ := hh
    exact hQ a' w' hr'
   | ret =>
    simp only [Zm] at hh
    obtain ⟨rfl, rfl⟩ := hh
    exact hQ a' w' hr'
   | exit i =>
    simp only [Zm] at hh
    obtain ⟨rfl, rfl⟩ := hh
    have := hQ a' w' hr'
    show (if i = id then Q .normal a' w' else Q (.exit i) a' w')
    split
    ·rename_i hi; rw [if_pos hi] at this; exact this
    ·rename_i hi; rw [if_neg hi] at this; exact this
  refine wp_block (Qce hm hc hG hl hok f1 f2 hr (fun a' w' hr' => ?_) (fun a' w' hr' => ?_))
  ·have := out g1 hQ1 hr'
   cases p1 <;> exact this
  ·have := out g2 hQ2 hr'
   cases p2 <;> exact this
 | .skip, c, s, s1, s2, o1, o2, a, w, Q, hok, h1, h2, hr, hQ1, hQ2 => by cases c <;> simp only [Qay, Bool.false_eq_true] at hok
 | .region _ _, c, s, s1, s2, o1, o2, a, w, Q, hok, h1, h2, hr, hQ1, hQ2 => by cases c <;> simp only [Qay, Bool.false_eq_true] at hok
 | .exit _, c, s, s1, s2, o1, o2, a, w, Q, hok, h1, h2, hr, hQ1, hQ2 => by cases c <;> simp only [Qay, Bool.false_eq_true] at hok
 | .ret, c, s, s1, s2, o1, o2, a, w, Q, hok, h1, h2, hr, hQ1, hQ2 => by cases c <;> simp only [Qay, Bool.false_eq_true] at hok
 | .label _, c, s, s1, s2, o1, o2, a, w, Q, hok, h1, h2, hr, hQ1, hQ2 => by cases c <;> simp only [Qay, Bool.false_eq_true] at hok
theorem Qqs (hm : C.P.follows .mixedOrders = true) (hc : Qdj C call) (hG : GE C e) {lab : Nat → Code → Bool} (hl : Qxd C F call e.n lab) {two : Bool} {ac : AC} {c : Code} {o : Oc} {P : Oc → S → Prop} (hok : Qrd C e.n lab two ac c = true)
  (h1 : Qam call F C.G ac s = some (o, s1)) (h2 : two = true → ∃ o' s', Qam call F C.G ac.other s = some (o', s') ∧ P o' s') (hP : P o s1) (hr : RelY C e s a w) (hQ : ∀ o' s', P o' s' → ∀ a' w', RelY C e s' a' w' → Q (exOf o') a' w') : c.wp C.P Q a w := by
 cases two with
 | false => exact Qac hm hc hG hl hok h1 hr (hQ _ _ hP)
 | true =>
  obtain ⟨o', s', h2, hP'⟩ := h2 rfl
  exact Qce hm hc hG hl hok h1 h2 hr (hQ _ _ hP) (hQ _ _ hP')
structure FnOk (C : Ctx) (F : Nat → Option Proc) (g : Nat) (p : Proc) (fn : Func) (bd : Code) (d nb : Nat) : Prop where
 kind : p.kind = .fn
 at_ : C.P.funcs[C.fid g]? = some fn
 name : (fn.name == "runtime.NumGoroutine") = false
 body : fn.body = some bd
 code : Qrd C fn.ntmps (Qhh C fn.ntmps F d) p.two p.code bd = true
 ins : p.ins = List.range p.ins.length
 bins : p.bins = List.range nb ++ (if p.bins.contains 99 then [99] else [])
 few : nb ≤ 99
 own : (p.loc && p.bins.contains 99) = false
 fits : p.ins.length ≤ fn.ntmps
 res : Qjd C.P p.res fn.results.toList = true
def Qls (C : Ctx) (g : Nat) (p : Proc) : Prop := p.kind = .prim ∧ (∀ tv c, p.pf tv = some c → Known C g ∧ ∀ e args w, Entry C e tv [] args w → Calls C.P (C.fid g) args w fun | .returned v, w' => Qom C e [c] [] 0 v w' | _, _ => False) ∧
 ∀ tv es c es', p.pa tv es = some (c, es') → Known C g ∧ ∀ e args w, EntryY C e tv [] (some es) args w → Calls C.P (C.fid g) args w fun | .returned v, w' => Qeu C e [c] [.ar es'] 0 true v w' | _, _ => False
structure Laid (C : Ctx) (F : Nat → Option Proc) : Prop where
 mixed : C.P.follows .mixedOrders = true
 fns : ∀ g p, F g = some p → g % 100 = 0 → (∃ fn body d nb, FnOk C F g p fn body d nb) ∨ Qls C g p
def Qrt (C : Ctx) (F : Nat → Option Proc) (k : Nat) : Prop :=
 ∀ n d g c p tv bv o tv' bv', Qhh C n F d g (.loop c) = true → F g = some p → A F C.G k g tv bv = some (o, tv', bv') → p.kind = .loop →
  ∀ (e : Env) (a : Act) (w : World) (Q : Exit → Act → World → Prop), e.n = n → GE C e → RelY C e (mkS p.ins tv p.bins bv) a w → (∀ a' w', RelY C e (mkS p.outs tv' p.bouts bv') a' w' → Q (exOf o) a' w') → Code.rounds C.P c Q k a w
theorem Qsl {n d g : Nat} {c : Code} {p : Proc} (h : Qhh C n F d g c = true) (hp : F g = some p) (hk : p.kind = .loop) : ∃ d' body, c = .loop body ∧ Qbf C n (Qhh C n F d') p.code body = true := by
 cases d with
 | zero => simp [Qhh] at h
 | succ d =>
  simp only [Qhh, hp, hk] at h
  split at h
  ·exact ⟨d, _, rfl, h⟩
  ·cases h
theorem Qyc {n d g : Nat} {c : Code} {p : Proc} (h : Qhh C n F d g c = true) (hp : F g = some p) (hk : p.kind = .join) : ∃ d', Qbf C n (Qhh C n F d') p.code c = true := by
 cases d with
 | zero => simp [Qhh] at h
 | succ d =>
  simp only [Qhh, hp, hk] at h
  exact ⟨d, h⟩
theorem Qib {ins bins : List Nat} {tv : List AV} {bv : List BC} (hi : ins = List.range ins.length) (hb : bins = List.range bins.length) (h1 : tv.length = ins.length) (h2 : bv.length = bins.length) : mkS ins tv bins bv = Ql tv bv := by
 have aT : ∀ (tv : List AV) (k j : Nat), asT (List.range' k tv.length) tv j = if k ≤ j then tv.getD (j - k) .undef else .undef := by
  intro tv
  induction tv with
  | nil => intro k j; simp [asT]
  | cons v tv ih =>
   intro k j
   rw [Zc, List.range'_succ, asT, ih]
   by_cases h : j = k
   ·simp [h]
   ·simp only [h, if_false]
    by_cases h3 : k ≤ j
    ·have h4 : k + 1 ≤ j := by omega
     rw [if_pos h4, if_pos h3]
     rw [show j - k = (j - (k + 1)) + 1 by omega]
     simp
    ·have h4 : ¬ k + 1 ≤ j := by omega
     rw [if_neg h4, if_neg h3]
 have aB : ∀ (bv : List BC) (k j : Nat), asB (List.range' k bv.length) bv j = if k ≤ j then bv[j - k]? else none := by
  intro bv
  induction bv with
  | nil => intro k j; simp [asB]
  | cons v bv ih =>
   intro k j
   rw [Zc, List.range'_succ, asB, ih]
   by_cases h : j = k
   ·simp [h]
   ·simp only [h, if_false]
    by_cases h3 : k ≤ j
    ·have h4 : k + 1 ≤ j := by omega
     rw [if_pos h4, if_pos h3]
     rw [show j - k = (j - (k + 1)) + 1 by omega]
     simp
    ·have h4 : ¬ k + 1 ≤ j := by omega
     rw [if_neg h4, if_neg h3]
 rw [hi, hb, ← h1, ← h2]
 unfold mkS Ql
 congr 1
 ·funext j; rw [List.range_eq_range', aT]; simp
 ·funext j; rw [List.range_eq_range', aB]; simp
 ·funext j
  rw [Bool.eq_iff_iff]
  simp
theorem Quu {pb : List BC} {x : BC} {j : Nat} : ∀ {is : List Nat} {bv : List BC}, is.length = bv.length → j ∉ is → asB (is ++ [j]) (bv ++ [x]) = upd (asB is bv) j (some x)
 | [], [], _, _ => by
  funext k
  simp only [List.nil_append, asB, Qae]
 | [], _ :: _, h, _ => by simp at h
 | _ :: _, [], h, _ => by simp at h
 | i :: is, b :: bv, h, hj => by
  simp only [Zo, not_or] at hj
  have ih := Quu (pb := pb) (x := x) (j := j) (is := is) (bv := bv) (by simpa using h) hj.2
  funext k
  simp only [List.cons_append, asB, ih, Qae]
  by_cases hk : k = i
  ·subst hk
   have : k ≠ j := fun e => hj.1 e.symm
   simp [this]
  ·simp [hk]
theorem Qvl {ins : List Nat} {nb : Nat} {tv : List AV} {pb : List BC} {es : List Ent} (hi : ins = List.range ins.length) (h1 : tv.length = ins.length) (h2 : pb.length = nb) (hn : nb ≤ 99) : mkS ins tv (List.range nb ++ [99]) (pb ++ [.ar es]) = Qeq tv pb (some es) := by
 have h0 := Qib (ins := ins) (bins := List.range nb) (tv := tv) (bv := pb) hi (by simp) h1 (by simpa using h2)
 have hb : asB (List.range nb) pb = (Ql tv pb).b := by rw [← h0]; rfl
 have ht : asT ins tv = (Ql tv pb).t := by rw [← h0]; rfl
 unfold mkS Qeq
 rw [Quu (pb := []) (by simpa using h2.symm) (by simp; omega), hb, ht]
 congr 1
 funext j
 simp only [Ql, Qae]
 by_cases hj : j = 99
 ·simp [hj]
 ·simp only [hj, if_false]
  rw [Bool.eq_iff_iff]
  simp [hj, h2]
theorem Qsz {bins : List Nat} {nb : Nat} {ar : Bool} {pb : List BC} {oa : Option (List Ent)} (hb : bins = List.range nb ++ (if ar then [99] else [])) (hn : nb ≤ 99) (hpb : ∀ x ∈ pb, x.isAr = false) (h : arOk bins (bvOf pb oa) = true) : oa.isSome = ar ∧ pb.length = nb := by
 unfold arOk at h
 rw [beq_iff_eq] at h
 subst hb
 have hfalse : ∀ n, n ≤ 99 → (List.range n).map (fun b => b == 99) = List.replicate n false := by
  intro n hn
  apply List.ext_getElem?
  intro i
  simp only [List.getElem?_map, List.getElem?_replicate]
  by_cases hi : i < n
  ·have : (i == 99) = false := by simp; omega
   simp [hi, this]
  ·simp [hi]
 have hpf : pb.map BC.isAr = List.replicate pb.length false := by
  apply List.ext_getElem?
  intro i
  simp only [List.getElem?_map, List.getElem?_replicate]
  cases hi : pb[i]? with
  | none => have := List.getElem?_eq_none_iff.1 hi; simp; omega
  | some x => simp [hpb x (List.mem_of_getElem? hi), (List.getElem?_eq_some_iff.1 hi).1]
 rw [List.map_append, hfalse nb hn] at h
 cases oa with
 | none =>
  simp only [bvOf, hpf] at h
  cases ar with
  | false =>
   have := congrArg List.length h
   simp at this
   exact ⟨rfl, this⟩
  | true =>
   exfalso
   have h2 := congrArg (fun l => true ∈ l) h
   simp at h2
 | some es =>
  simp only [bvOf, List.map_append, hpf] at h
  cases ar with
  | false =>
   exfalso
   have h2 := congrArg (fun l => true ∈ l) h
   simp [BC.isAr] at h2
  | true =>
   have := congrArg List.length h
   simp at this
   exact ⟨rfl, this⟩
theorem Qvk {args : Array Value} {n : Nat} (h : RelX C.fid { e with n := args.size } σ bm s ⟨args, []⟩ w) (hn : args.size ≤ n) :
    RelX C.fid { e with n := n } σ bm s ⟨args ++ Array.replicate (n - args.size) undef, []⟩ w := by
  have hget : ∀ t, (args ++ Array.replicate (n - args.size) undef).getD t undef = args.getD t undef := by
    intro t
    rw [Array.getD_eq_getD_getElem?, Array.getD_eq_getD_getElem?]
    by_cases ht : t < args.size
    · rw [Array.getElem?_append_left ht]
    · rw [Array.getElem?_append_right (by omega), Array.getElem?_eq_none (xs := args) (by omega), Array.getElem?_replicate]
      split <;> rfl
  have hval : ∀ p, Qg ⟨args ++ Array.replicate (n - args.size) undef, []⟩ w bm p = Qg ⟨args, []⟩ w bm p := by
    intro p
    cases p with
    | t t => exact hget t
    | c b i => rfl
  refine { defers := rfl, hds := h.hds, size := ?_, tmps := fun t => ?_, boxes := h.boxes, dead := h.dead, ar := h.ar, inj := h.inj, par := h.par, newb := h.newb, seenB := h.seenB, seenT := h.seenT, mem := h.mem, one := h.one, old := h.old,
           oldσ := h.oldσ, leσ := h.leσ, grown := h.grown, os := h.os, tape := h.tape, output := h.output, tip := fun p sz hp => ?_, dist := fun p q sz sz' B hp hq h1 h2 => ?_ }
  · simp; omega
  · show RepT C.fid σ bm _ _ ((args ++ Array.replicate (n - args.size) undef).getD t undef)
    rw [hget]; exact h.tmps t
  · rw [hval]; exact h.tip p sz hp
  · rw [hval] at h1 h2; exact h.dist p q sz sz' B hp hq h1 h2
theorem Qqt {args : Array Value} {n : Nat} {B : Nat} (hp : Qz s bm ⟨args ++ Array.replicate (n - args.size) undef, []⟩ w B) : Qz s bm ⟨args, []⟩ w B := by
 rcases hp with hp | ⟨p, sz, h1, h2⟩
 ·exact .inl hp
 ·refine .inr ⟨p, sz, h1, ?_⟩
  cases p with
  | c b i => exact h2
  | t t =>
   have : Qg ⟨args ++ Array.replicate (n - args.size) undef, []⟩ w bm (.t t) = Qg ⟨args, []⟩ w bm (.t t) := by
    show (args ++ Array.replicate (n - args.size) undef).getD t undef = args.getD t undef
    rw [Array.getD_eq_getD_getElem?, Array.getD_eq_getD_getElem?]
    by_cases ht : t < args.size
    ·rw [Array.getElem?_append_left ht]
    ·rw [Array.getElem?_append_right (by omega), Array.getElem?_eq_none (xs := args) (by omega), Array.getElem?_replicate]
     split <;> rfl
   rw [← this]; exact h2
theorem Qvi {tv : List AV} {pb : List BC} {oa : Option (List Ent)} {args : Array Value} {n : Nat} (h : EntryY C e tv pb oa args w) (hn : args.size ≤ n) (hpb : ∀ x ∈ pb, x.isAr = false) : RelY C { e with n := n } (Qeq tv pb oa) ⟨args ++ Array.replicate (n - args.size) undef, []⟩ w := by
 have hh : e.σ0.hd = e.hd := h.rel.hds
 refine ⟨e.σ0, e.pbm, ?_, fun es hes => ?_, fun harn => ⟨hh, ?_⟩⟩
 ·rw [hh]; exact Qvk h.rel hn
 ·have hA := h.ar es hes
  exact hA.step (fun id B hB => ⟨rfl, rfl, (hA.blk hB).2.1⟩) (Mem.le_refl _) rfl (fun id B hB hp => Qqt hp)
 ·have harn : e.arn = false := harn
  have : oa = none := by
   have := h.arn
   rw [harn] at this
   cases oa with
   | none => rfl
   | some es => cases this
  subst this
  cases hq : (Qeq tv pb none).arr with
  | none => rfl
  | some es => exact absurd (Qds hq) (Qmc hpb)
theorem Qqy {outs : List AV} {bv' : List BC} {nb : Nat} {v : Value} (h : Qom C e outs bv' nb v w' ∧ ∀ x ∈ bv', x.isAr = false) : Qeu C e outs bv' nb false v w' := by
 unfold Qeu; rw [if_neg (by simp)]; exact h
theorem exitY_t {outs : List AV} {bv' : List BC} {nb : Nat} {v : Value} (h : ∃ n s' a' pb es c, bv' = pb ++ [.ar es] ∧ pb.length = nb ∧ (∀ x ∈ pb, x.isAr = false) ∧ (∀ (j : Nat) x, pb[j]? = some x → s'.b j = some x) ∧ s'.b 99 = some (.ar es) ∧ outs = [c] ∧ c.isP = false ∧ Qo C { e with n := n } s' c v a' w') : Qeu C e outs bv' nb true v w' := by
 unfold Qeu; rw [if_pos rfl]; exact h
theorem Qqr {nb : Nat} {bv : List BC} (h : Qaf s (List.range nb ++ [99]) = some bv) : ∃ pb x, bv = pb ++ [x] ∧ pb.length = nb ∧ s.b 99 = some x ∧ ∀ (j : Nat) y, pb[j]? = some y → s.b j = some y := by
 obtain ⟨b1, b2⟩ := Qed h
 have hne : bv ≠ [] := by intro e; rw [e] at b1; simp at b1
 refine ⟨bv.dropLast, bv.getLast hne, (List.dropLast_concat_getLast hne).symm, by rw [List.length_dropLast, ← b1]; simp, ?_, fun j y hj => ?_⟩
 ·refine b2 nb 99 _ (by simp) ?_
  rw [List.getLast_eq_getElem, List.getElem?_eq_getElem (by rw [← b1]; simp)]
  congr 1
  congr 1
  rw [← b1]; simp
 ·have hlt := (List.getElem?_eq_some_iff.1 hj).1
  rw [List.length_dropLast, ← b1] at hlt
  simp at hlt
  refine b2 j j y (by rw [List.getElem?_append_left (by simpa using hlt)]; simp [hlt]) ?_
  rw [List.getElem?_dropLast] at hj
  split at hj
  ·exact hj
  ·cases hj
theorem Qor (hL : Laid C F) : ∀ k : Nat, Qdj C (A F C.G k) ∧ (∀ n d, Qxd C F (A F C.G k) n (Qhh C n F d)) ∧ Qrt C F k := by
 intro k
 induction k with
 | zero =>
  refine ⟨fun g tv pb oa o outs bv' _ _ h => ?_, fun n d g c p tv bv o tv' bv' _ _ h => ?_, fun n d g c p tv bv o tv' bv' _ _ h => ?_⟩ <;> cases h
 | succ k ih =>
  obtain ⟨ihC, ihL, ihR⟩ := ih
  have leave : ∀ {p : Proc} {r : Oc × S} {x : Res} {e : Env} {a : Act} {w : World}, (if ((p.outs.map r.2.t).all (AV.okIn p.bouts)) = true then bnd (Qaf r.2 p.bouts) fun bv' => some ((r.1, p.outs.map r.2.t, bv')) else none) = some x → RelY C e r.2 a w → x.1 = r.1 ∧ RelY C e (mkS p.outs x.2.1 p.bouts x.2.2) a w := by
   intro p r x e a w h hr
   split at h
   ·rename_i hin
    obtain ⟨bv', h1, h2⟩ := Qa.1 h
    injection h2 with h2
    subst h2
    exact ⟨rfl, hr.less (Qnz h1 hin)⟩
   ·cases h
  have rounds : Qrt C F (k + 1) := by
   intro n d g c p tv bv o tv' bv' hlab hp hA hk e a w Q hn hG hr hQ
   simp only [A, hp, Qb] at hA
   rw [Qdx (.inr (by rw [hk]; simp))] at hA
   simp only [Qfz, hk, Qfg] at hA
   rw [if_neg (by simp)] at hA
   split at hA
   rotate_left
   ·cases hA
   obtain ⟨⟨o1, s1⟩, h1, h2⟩ := Qa.1 hA
   obtain ⟨d', body, hb, hcode⟩ := Qsl hlab hp hk
   injection hb with hb
   subst hb
   subst hn
   rw [rounds_succ]
   refine Qac hL.mixed ihC hG (ihL e.n d') hcode h1 hr fun a' w' hr' => ?_
   cases o1 with
   | norm =>
    simp only [] at h2
    split at h2
    rotate_left
    ·cases h2
    rename_i hin
    obtain ⟨bv2, h3, h4⟩ := Qa.1 h2
    exact ihR e.n d g c p _ bv2 o tv' bv' hlab hp h4 hk e a' w' Q rfl hG (hr'.less (Qnz h3 hin)) hQ
   | exit id =>
    obtain ⟨q1, q2⟩ := leave h2 hr'
    simp only at q1
    subst q1
    exact hQ a' w' q2
   | ret =>
    obtain ⟨q1, q2⟩ := leave h2 hr'
    simp only at q1
    subst q1
    exact hQ a' w' q2
  refine ⟨?_, ?_, rounds⟩
  ·intro g tv pb oa o outs bv' hg hpb hA
   simp only [A] at hA
   obtain ⟨p, hp, hA⟩ := Qa.1 hA
   rcases hL.fns g p hp hg with ⟨fn, body, d, nb, hf⟩ | ⟨hk, hpr, hpa⟩
   ·refine ⟨⟨fn, body, hf.at_, hf.name, hf.body⟩, fun e args w hen => ?_⟩
    obtain ⟨hA, hA'⟩ := Qyt hA
    simp only [Qfz, hf.kind] at hA hA'
    rw [if_neg (by simp)] at hA
    split at hA
    rotate_left
    ·cases hA
    rename_i hlen
    obtain ⟨hl1, hl2, hst⟩ := hlen
    have hother : p.two = true → ∃ o' s', Qam (A F C.G k) F C.G p.code.other (Qqc p.loc (mkS p.ins tv p.bins (bvOf pb oa))) = some (o', s') ∧ finO p o' s' = some (o, outs, bv') := by
     intro ht
     have hA' := hA' ht trivial
     rw [if_neg (by simp), if_pos ⟨hl1, hl2, hst⟩] at hA'
     obtain ⟨⟨o2, s2⟩, h3, h4⟩ := Qa.1 hA'
     simp only [Qfg, hf.kind] at h3
     exact ⟨o2, s2, h3, h4⟩
    simp only [Qgo, hf.kind, Zw, Bool.or_eq_true, Bool.not_eq_true'] at hst
    obtain ⟨hst1, hst2⟩ := hst
    obtain ⟨hoa, hnb⟩ := Qsz hf.bins hf.few hpb hst1
    obtain ⟨⟨o1, s1⟩, h1, h2⟩ := Qa.1 hA
    simp only [Qfg, hf.kind] at h1
    have hfits : args.size ≤ fn.ntmps := by rw [← hen.len, hl1]; exact hf.fits
    refine calls_of_wp hf.at_ hf.body ?_
    cases hloc : p.loc with
    | true =>
     have har : p.bins.contains 99 = false := by have := hf.own; rw [hloc] at this; simpa using this
     rw [har] at hoa
     have hoan : oa = none := by cases oa with | none => rfl | some _ => cases hoa
     subst hoan
     have hbins : p.bins = List.range nb := by have := hf.bins; rw [har] at this; simpa using this
     rcases hst2 with hst2 | ⟨hst2, hst3⟩
     ·rw [hloc] at hst2; cases hst2
     have hentry : Qqc p.loc (mkS p.ins tv p.bins (bvOf pb none)) = Qeq tv pb (some []) := by
      rw [hloc, Qib hf.ins (by rw [hbins]; simp) hl1 hl2]
      rfl
     rw [hentry] at h1 hother
     have hen' := Qvj hen hpb hst2 hst3 (by rw [hnb]; exact hf.few)
     have hrel := Qvi (n := fn.ntmps) hen' hfits hpb
     refine Qqs (e := { ({ e with σ0 := e.σ0.bare, hd := fun _ => none, arn := true } : Env) with n := fn.ntmps }) hL.mixed ihC (⟨hen'.g, hen.fix⟩ : GE C _) (ihL fn.ntmps d) (P := fun o1 s1 => finO p o1 s1 = some (o, outs, bv')) hf.code h1 hother h2 hrel fun o1 s1 h2 a' w' hr' => ?_
     have fin : (bnd (Qca s1 p.res) fun v => Qnr p s1 v) = some (o, outs, bv') → a'.defers = [] ∧ ∃ v, (results fn a'.tmps).run C.P w' = .ok v w' ∧ Qeu C e outs bv' pb.length false v w' := by
      intro h2
      obtain ⟨c, h3, h2⟩ := Qa.1 h2
      obtain ⟨σ', bm', hx, har', hN'⟩ := hr'
      obtain ⟨v, k1, s', k2, k3⟩ := Qrk hx har' hN' hf.res h3
      simp only [Qnr, finR, hloc, if_true] at h2
      obtain ⟨q, h4, h2⟩ := Qa.1 h2
      obtain ⟨es, h5, h4⟩ := Qa.1 h4
      obtain ⟨⟨c', ids⟩, h6, h4⟩ := Qa.1 h4
      split at h4
      rotate_left
      ·cases h4
      rename_i hnt
      simp only [Zi] at h4
      subst h4
      obtain ⟨bv2, h7, h2⟩ := Qa.1 h2
      split at h2
      rotate_left
      ·cases h2
      rename_i hex
      simp only [Zw, Bool.or_eq_true, Bool.not_eq_true', Zv, Bool.false_eq_true, false_or, Bool.true_or] at hex
      obtain ⟨⟨hx1, hx2⟩, hx3⟩ := hex
      simp only [Zi, Zm] at h2
      obtain ⟨_, rfl, rfl⟩ := h2
      have hp0 := (Qfj h6).1 hx3
      rcases k3 with ⟨cs, rfl, _⟩ | ⟨_, k3⟩
      ·cases hp0
      obtain ⟨b1, b2⟩ := Qed h7
      rw [hbins] at b1 b2
      have hbl : bv2.length = nb := by rw [← b1]; simp
      have hnar : ∀ x ∈ bv2, x.isAr = false := by
       intro x hx
       have := List.all_eq_true.1 hx2 x hx
       cases x <;> first | rfl | (cases this; done)
      have hbx : ∀ (j : Nat) x, bv2[j]? = some x → s'.b j = some x := by
       intro j x hj
       have hlt := (List.getElem?_eq_some_iff.1 hj).1
       rw [k2 j (by have := hf.few; omega)]
       exact b2 j j x (List.getElem?_range (by omega)) hj
      have hes : s'.b 99 = some (.ar es) := by rw [k2 99 (by omega)]; exact Qds h5
      obtain ⟨s'', r1, r2⟩ := Qxt (e := { e with n := fn.ntmps }) hen.rel.hds.symm k3 hes h6 hnt hx3 hbx hx2
      refine ⟨hx.defers, v, k1, ?_⟩
      exact Qqy ⟨⟨fn.ntmps, s'', a', r1, by rw [hbl, hnb], c', rfl, .inr ⟨hx3, r2⟩⟩, hnar⟩
     cases o1 with
     | norm => exact fin h2
     | ret => exact fin h2
     | exit id => simp [finO] at h2
    | false =>
     simp only [Qqc, hloc, Bool.false_eq_true, if_false] at h1 hother
     cases har : p.bins.contains 99 with
     | false =>
      rw [har] at hoa
      have hoan : oa = none := by cases oa with | none => rfl | some _ => cases hoa
      subst hoan
      have hbins : p.bins = List.range nb := by have := hf.bins; rw [har] at this; simpa using this
      have hentry : mkS p.ins tv p.bins (bvOf pb none) = Qeq tv pb none := Qib hf.ins (by rw [hbins]; simp) hl1 hl2
      rw [hentry] at h1 hother
      have hrel := Qvi (n := fn.ntmps) hen hfits hpb
      refine Qqs (e := { e with n := fn.ntmps }) hL.mixed ihC (⟨hen.g, hen.fix⟩ : GE C _) (ihL fn.ntmps d) (P := fun o1 s1 => finO p o1 s1 = some (o, outs, bv')) hf.code h1 hother h2 hrel fun o1 s1 h2 a' w' hr' => ?_
      have fin : (bnd (Qca s1 p.res) fun v => Qnr p s1 v) = some (o, outs, bv') → a'.defers = [] ∧ ∃ v, (results fn a'.tmps).run C.P w' = .ok v w' ∧ Qeu C e outs bv' pb.length false v w' := by
       intro h2
       obtain ⟨c, h3, h2⟩ := Qa.1 h2
       obtain ⟨σ', bm', hx, har', hN'⟩ := hr'
       obtain ⟨v, k1, s', k2, k3⟩ := Qrk hx har' hN' hf.res h3
       have harn : e.arn = false := hen.arn
       obtain ⟨n1, n2⟩ := hN' harn
       simp only [Qnr, finR, hloc, Bool.false_eq_true, if_false] at h2
       obtain ⟨q, h4, h2⟩ := Qa.1 h2
       have hq : q = (c, s1) := by
        split at h4
        ·injection h4 with h4; exact h4.symm
        ·rw [n2] at h4; cases h4
       subst hq
       obtain ⟨bv2, h7, h2⟩ := Qa.1 h2
       split at h2
       rotate_left
       ·cases h2
       rename_i hex
       simp only [Zw] at hex
       obtain ⟨⟨hx1, _⟩, _⟩ := hex
       simp only [Zi, Zm] at h2
       obtain ⟨_, rfl, rfl⟩ := h2
       obtain ⟨b1, b2⟩ := Qed h7
       rw [hbins] at b1 b2
       have hbl : bv2.length = nb := by rw [← b1]; simp
       have hbx : ∀ (j : Nat) x, bv2[j]? = some x → s'.b j = some x := by
        intro j x hj
        have hlt := (List.getElem?_eq_some_iff.1 hj).1
        rw [k2 j (by have := hf.few; omega)]
        exact b2 j j x (List.getElem?_range (by omega)) hj
       have hnar : ∀ x ∈ bv2, x.isAr = false := by
        intro x hxm
        obtain ⟨j, hj⟩ := List.getElem?_of_mem hxm
        have hlt := (List.getElem?_eq_some_iff.1 hj).1
        have hsb : s1.b j = some x := b2 j j x (List.getElem?_range (by omega)) hj
        cases x with
        | ar es =>
         have := (hx.ar j es hsb).1
         have := hf.few
         omega
        | _ => rfl
       refine ⟨hx.defers, v, k1, ?_⟩
       refine Qqy ⟨⟨fn.ntmps, s', a', hbx, by rw [hbl, hnb], c, rfl, ?_⟩, hnar⟩
       rcases k3 with ⟨cs, rfl, b, B, cs', q1, q2, q3, q4, q5, q6⟩ | ⟨kp, k3⟩
       ·rw [n1] at q1
        exact .inl ⟨cs, rfl, σ', bm', b, B, cs', q1, q2, q3, q4, q5, q6⟩
       ·exact .inr ⟨kp, Qqz (e := { e with n := fn.ntmps }) harn k3⟩
      cases o1 with
      | norm => exact fin h2
      | ret => exact fin h2
      | exit id => simp [finO] at h2
     | true =>
      rw [har] at hoa
      obtain ⟨es0, rfl⟩ : ∃ es, oa = some es := by
       cases oa with
       | none => cases hoa
       | some es => exact ⟨es, rfl⟩
      have hbins : p.bins = List.range nb ++ [99] := by have := hf.bins; rw [har] at this; simpa using this
      have hentry : mkS p.ins tv p.bins (bvOf pb (some es0)) = Qeq tv pb (some es0) := by rw [hbins]; exact Qvl hf.ins hl1 hnb hf.few
      rw [hentry] at h1 hother
      have hrel := Qvi (n := fn.ntmps) hen hfits hpb
      refine Qqs (e := { e with n := fn.ntmps }) hL.mixed ihC (⟨hen.g, hen.fix⟩ : GE C _) (ihL fn.ntmps d) (P := fun o1 s1 => finO p o1 s1 = some (o, outs, bv')) hf.code h1 hother h2 hrel fun o1 s1 h2 a' w' hr' => ?_
      have fin : (bnd (Qca s1 p.res) fun v => Qnr p s1 v) = some (o, outs, bv') → a'.defers = [] ∧ ∃ v, (results fn a'.tmps).run C.P w' = .ok v w' ∧ Qeu C e outs bv' pb.length true v w' := by
       intro h2
       obtain ⟨c, h3, h2⟩ := Qa.1 h2
       obtain ⟨σ', bm', hx, har', hN'⟩ := hr'
       obtain ⟨v, k1, s', k2, k3⟩ := Qrk hx har' hN' hf.res h3
       simp only [Qnr] at h2
       obtain ⟨⟨c', s2⟩, h4, h2⟩ := Qa.1 h2
       obtain ⟨bv2, h7, h2⟩ := Qa.1 h2
       split at h2
       rotate_left
       ·cases h2
       rename_i hex
       simp only [Zw, har, Bool.or_true, Zv, Bool.false_or, Bool.not_eq_true'] at hex
       obtain ⟨⟨hx1, _⟩, hx3⟩ := hex
       simp only [Zi, Zm] at h2
       obtain ⟨_, rfl, rfl⟩ := h2
       rw [hbins] at h7
       obtain ⟨pb', x, rfl, hpl, h99, hbx⟩ := Qqr h7
       have hxar : ∃ es, x = .ar es := by
        rw [hbins] at hx1
        simp only [arOk, beq_iff_eq, List.map_append, List.map_cons, List.map_nil] at hx1
        have := List.append_inj_right' hx1 rfl
        simp at this
        cases x with
        | ar es => exact ⟨es, rfl⟩
        | _ => cases this
       obtain ⟨es1, rfl⟩ := hxar
       have hs2 : (∀ j, j < 99 → s2.b j = s1.b j) ∧ ((c' = c ∧ s2 = s1) ∨ ∃ es2 ids, s1.b 99 = some (.ar es2) ∧ s2 = s1.setA (Qev es2 ids) ∧ c'.tipSz = none ∧ c.isP = false ∧
         ∀ σ τ bm (s : S) (a : Act), ArOk C.fid { e with n := fn.ntmps } σ bm s a w' es2 → σ.le τ → Qgt σ τ w' es2 ids → RepP C.fid σ c v → RepP C.fid τ c' v) := by
        simp only [finR, hloc, Bool.false_eq_true, if_false] at h4
        split at h4
        ·injection h4 with h4
         injection h4 with h4 h4'
         exact ⟨fun j _ => by rw [h4'], .inl ⟨h4.symm, h4'.symm⟩⟩
        ·obtain ⟨es2, h5, h4⟩ := Qa.1 h4
         have h5 := Qds h5
         split at h4
         ·rename_i cs _
          obtain ⟨⟨cs', ids⟩, h6, h4⟩ := Qa.1 h4
          injection h4 with h4
          injection h4 with h4 h4'
          subst h4 h4'
          refine ⟨fun j hj => by simp only [S.setA, S.setB, Qae]; rw [if_neg (by omega)], .inr ⟨es2, ids, h5, rfl, rfl, rfl, fun σ τ bm s a hA hle hs hr => ?_⟩⟩
          obtain ⟨vs, v1, v2, v3⟩ := (show RepP C.fid σ (.agg cs) v from hr)
          obtain ⟨m1, m2⟩ := Qhl hA hle h6 hs v3
          exact ⟨vs, v1, v2.trans m2.symm, m1⟩
         ·rename_i cs _
          obtain ⟨⟨cs', ids⟩, h6, h4⟩ := Qa.1 h4
          injection h4 with h4
          injection h4 with h4 h4'
          subst h4 h4'
          refine ⟨fun j hj => by simp only [S.setA, S.setB, Qae]; rw [if_neg (by omega)], .inr ⟨es2, ids, h5, rfl, rfl, rfl, fun σ τ bm s a hA hle hs hr => ?_⟩⟩
          obtain ⟨vs, v1, v2, v3⟩ := (show RepP C.fid σ (.tup cs) v from hr)
          obtain ⟨m1, m2⟩ := Qhl hA hle h6 hs v3
          exact ⟨vs, v1, v2.trans m2.symm, m1⟩
         ·cases h4
       obtain ⟨hs2b, hs2⟩ := hs2
       have hpb' : ∀ x ∈ pb', x.isAr = false := by
        intro x hxm
        obtain ⟨j, hj⟩ := List.getElem?_of_mem hxm
        have hlt := (List.getElem?_eq_some_iff.1 hj).1
        have hsb : s1.b j = some x := by rw [← hs2b j (by have := hf.few; omega)]; exact hbx j x hj
        cases x with
        | ar es =>
         have := (hx.ar j es hsb).1
         have := hf.few
         omega
        | _ => rfl
       refine ⟨hx.defers, v, k1, ?_⟩
       refine exitY_t ?_
       rcases hs2 with ⟨rfl, rfl⟩ | ⟨es2, ids, q1, q2, q3, q4, q5⟩
       ·rcases k3 with ⟨cs, rfl, _⟩ | ⟨kp, k3⟩
        ·cases hx3
        exact ⟨fn.ntmps, s', a', pb', es1, c', rfl, by rw [hpl, hnb], hpb', fun j x hj => by rw [k2 j (by have := (List.getElem?_eq_some_iff.1 hj).1; have := hf.few; omega)]; exact hbx j x hj, by rw [k2 99 (by omega)]; exact h99, rfl, hx3, k3⟩
       ·rcases k3 with ⟨cs, rfl, _⟩ | ⟨kp, k3⟩
        ·cases q4
        subst q2
        have hes' : s'.b 99 = some (.ar es2) := by rw [k2 99 (by omega)]; exact q1
        have := Qvn k3 hes' q3 kp hx3 (fun σ τ bm hA hle hs hr => q5 σ τ bm s' a' hA hle hs hr)
        have hes1 : es1 = Qev es2 ids := by
         simp only [S.setA, S.setB, Qal, Zi, BC.ar.injEq] at h99
         exact h99.symm
        refine ⟨fn.ntmps, s'.setA (Qev es2 ids), a', pb', es1, c', rfl, by rw [hpl, hnb], hpb', fun j x hj => ?_, by rw [hes1]; simp [S.setA, S.setB, upd], rfl, hx3, this⟩
        have hlt := (List.getElem?_eq_some_iff.1 hj).1
        have h9 : j < 99 := by have := hf.few; omega
        have e1 : (s'.setA (Qev es2 ids)).b j = s'.b j := by simp only [S.setA, S.setB, Qae]; rw [if_neg (by omega)]
        rw [e1, k2 j (by omega), ← hs2b j h9]
        exact hbx j x hj
      cases o1 with
      | norm => exact fin h2
      | ret => exact fin h2
      | exit id => simp [finO] at h2
   ·rw [Qdx (.inr (by rw [hk]; simp))] at hA
    simp only [Qfz, hk, if_true] at hA
    cases oa with
    | none =>
     have hbv : bvOf pb none = pb := rfl
     rw [hbv] at hA
     cases pb with
     | cons x pb =>
      cases pb with
      | nil =>
       have := hpb x (by simp)
       cases x <;> first | (cases this; done) | (simp [Qrf] at hA)
      | cons y pb => cases x <;> simp [Qrf] at hA
     | nil =>
     simp only [Qrf] at hA
     obtain ⟨c, h1, h2⟩ := Qa.1 hA
     simp only [Zi, Zm] at h2
     obtain ⟨_, rfl, rfl⟩ := h2
     obtain ⟨q1, q2⟩ := hpr tv c h1
     refine ⟨q1, fun e args w hen => ?_⟩
     refine (q2 e args w { rel := hen.rel, w0 := hen.w0, len := hen.len, g := hen.g, fix := hen.fix }).mono fun ed w' hed => ?_
     cases ed with
     | panicked _ => exact hed.elim
     | outgrown => exact hed.elim
     | returned v =>
      show Qeu C e [c] [] 0 false v w'
      exact Qqy ⟨hed, by simp⟩
    | some es =>
     cases pb with
     | cons x pb =>
      exfalso
      simp only [bvOf, List.cons_append] at hA
      cases pb <;> cases x <;> simp [Qrf] at hA
     | nil =>
     simp only [bvOf, List.nil_append, Qrf] at hA
     obtain ⟨⟨c, es'⟩, h1, h2⟩ := Qa.1 hA
     simp only [Zi, Zm] at h2
     obtain ⟨_, rfl, rfl⟩ := h2
     obtain ⟨q1, q2⟩ := hpa tv es c es' h1
     exact ⟨q1, fun e args w hen => q2 e args w hen⟩
  ·intro n d g c p tv bv o tv' bv' hlab hp hA hk e a w Q hn hG hr hQ
   rcases hk with hk | hk
   ·obtain ⟨d', hcode⟩ := Qyc hlab hp hk
    simp only [A, hp, Qb] at hA
    rw [Qdx (.inr (by rw [hk]; simp))] at hA
    simp only [Qfz, hk, Qfg] at hA
    rw [if_neg (by simp)] at hA
    split at hA
    rotate_left
    ·cases hA
    obtain ⟨⟨o1, s1⟩, h1, h2⟩ := Qa.1 hA
    subst hn
    refine Qac hL.mixed ihC hG (ihL e.n d') hcode h1 hr fun a' w' hr' => ?_
    obtain ⟨q1, q2⟩ := leave (r := (o1, s1)) h2 hr'
    simp only at q1
    subst q1
    exact hQ a' w' q2
   ·obtain ⟨d', body, hb, hcode⟩ := Qsl hlab hp hk
    subst hb
    exact wp_loop_rounds (k + 1) (rounds n d g body p tv bv o tv' bv' hlab hp hA hk e a w Q hn hG hr hQ)
end
end Go.Vs