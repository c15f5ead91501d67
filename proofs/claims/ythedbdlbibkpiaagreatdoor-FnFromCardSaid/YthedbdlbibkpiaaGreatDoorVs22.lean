/- Results. -/
import Derived.Test.YthedbdlbibkpiaaGreatDoorVs21
import Derived.Laws.Sem
set_option linter.unusedVariables false
namespace Go.Vs
open Go Go.RowKit

section
variable {C : Ctx} {e : Env} {σ : Mem} {bm : Nat → Option Nat} {s s1 s2 sf : S} {a : Act} {w w' : World} {call : Call} {c : AV}

def okRV (P : Program) : RS → ResultVar → Bool
  | .keep t n, .cell u ty => t == u && tsz P ty == some n && rowT P ty == some true
  | .tmp t, .tmp u => t == u
  | .cell t n agg, .cell u ty => t == u && tsz P ty == some n && rowT P ty == some agg
  | _, _ => false
def okRes (P : Program) : List RS → List ResultVar → Bool
  | [], [] => true
  | r :: rs, q :: qs => okRV P r q && okRes P rs qs
  | _, _ => false

def resRun (a : Act) : ResultVar → Sem Value
  | .tmp t => pure (a.tmps.getD t undef)
  | .cell x t => do loadVar t (← asAddr (a.tmps.getD x undef))

theorem results_eq (fn : Func) (a : Act) : results fn a.tmps = (do let vs ← fn.results.toList.mapM (resRun a); pure (if h : vs.toArray.size = 1 then vs.toArray[0] else .tuple vs.toArray)) := by
  unfold results
  have : fn.results = fn.results.toList.toArray := by simp
  rw [this, List.mapM_toArray]
  simp only [map_eq_pure_bind, bind_assoc, pure_bind]
  rfl

theorem resP_rep {v : Value} (h : RepP C.fid σ c v) {c' : AV} (hp : resP c = some c') : RepP C.fid σ c' v ∧ c'.isP = false ∧ ∀ sz, c'.tipSz = some sz → c.tipSz = some sz ∨ tipBlk v = none ∧ ∃ A n, v = .slice A n 0 := by
  cases c with
  | sl m sz xs =>
    simp only [resP, Option.some.injEq] at hp
    subst hp
    cases m
    · obtain ⟨⟨A, n, h1⟩, h2⟩ := zero_tipBlk h
      exact ⟨RepP_toTip h, rfl, fun sz hs => .inr ⟨h2, A, n, h1⟩⟩
    · exact ⟨h, rfl, fun sz hs => .inl hs⟩
    · exact ⟨h, rfl, fun sz hs => by cases hs⟩
    · exact ⟨RepP_share h, rfl, fun sz hs => by cases hs⟩
  | agg cs =>
    simp only [resP, Option.some.injEq] at hp
    subst hp
    obtain ⟨vs, h1, h2, h3⟩ := h
    exact ⟨⟨vs, h1, by simpa using h2, RepL_map (fun _ _ hr => RepP_share hr) h3⟩, rfl, fun sz hs => by cases hs⟩
  | undef | int | bool | str | con | rp | fn | tup =>
    simp only [resP, Option.some.injEq] at hp
    subst hp
    exact ⟨h, rfl, fun sz hs => by cases hs⟩
  | bs | bp | be | np => simp [resP] at hp

theorem resRun_cell (h : RelX C.fid e σ bm s a w) {t n : Nat} {agg : Bool} {u : Tmp} {ty : TypeId} {r : AV × S} (hl : loadP n agg false s (s.t t) = some r) (hok : okRV C.P (.cell t n agg) (.cell u ty) = true) :
    ∃ v, (resRun a (.cell u ty)).run C.P w = .ok v w ∧ RepP C.fid σ r.1 v ∧ r.1.tipSz = none := by
  simp only [okRV, Bool.and_eq_true, beq_iff_eq] at hok
  obtain ⟨⟨rfl, hn⟩, hr⟩ := hok
  have hrep := h.tmps t
  have fin : ∀ {cs : List AV} {off : Nat}, Behind C.fid σ w cs off (a.tmps.getD t undef) → (bnd (part n agg cs off) fun v => some (v, s)) = some r → ∃ v, (resRun a (.cell t ty)).run C.P w = .ok v w ∧ RepP C.fid σ r.1 v ∧ r.1.tipSz = none := by
    intro cs off hb hp
    obtain ⟨v0, h1, h2⟩ := bnd_is.1 hp
    injection h2 with h2
    subst h2
    obtain ⟨x, k1, k2, k3⟩ := part_rep hb h1 hn hr
    refine ⟨x, ?_, k2, k3⟩
    obtain ⟨B, o, hv, _⟩ := hb
    rw [hv] at k1
    simp only [Instr.loadAt, Instr.sureAddr, Sem.run_bind, Sem.run_pure, Result.andThen_ok] at k1
    simp only [resRun, hv, asAddr, Sem.run_bind, Sem.run_pure, Result.andThen_ok]
    exact k1
  cases hs : s.t t <;> rw [hs] at hl hrep <;> simp only [loadP] at hl <;> first | (cases hl; done) | skip
  case bp b off =>
    split at hl
    · rename_i cs hb
      simp only [Bool.false_eq_true, if_false] at hl
      exact fin (behind_bp h hrep hb) hl
    · cases hl
  case be b i off =>
    split at hl
    · rename_i sz xs hb
      obtain ⟨cs, h1, h2⟩ := bnd_is.1 hl
      simp only [Bool.false_eq_true, if_false] at h2
      exact fin (behind_be h hrep hb h1) h2
    · cases hl
  case rp cs off =>
    simp only [Bool.false_eq_true, if_false] at hl
    exact fin (behind_rp h hrep) hl

theorem resOf1_run (h : RelX C.fid e σ bm s a w) {r : RS} {q : ResultVar} (hok : okRV C.P r q = true) (hr : resOf1 s r = some c) : ∃ v, (resRun a q).run C.P w = .ok v w ∧ RepP C.fid σ c v ∧ c.isP = false := by
  cases r with
  | keep t n => simp [resOf1] at hr
  | tmp t =>
    cases q <;> simp [okRV] at hok
    subst hok
    simp only [resOf1] at hr
    have hp : (s.t t).isP = false := by
      cases hs : s.t t <;> rw [hs] at hr <;> first | rfl | (simp [resP] at hr)
    have := resP_rep ((RepT_of hp).1 (h.tmps t)) hr
    exact ⟨a.tmps.getD t undef, rfl, this.1, this.2.1⟩
  | cell t n agg =>
    cases q <;> simp only [okRV, Bool.false_eq_true] at hok
    simp only [resOf1] at hr
    obtain ⟨⟨v0, s0⟩, h1, h2⟩ := bnd_is.1 hr
    obtain ⟨v, k1, k2, k3⟩ := resRun_cell h h1 (by simpa [okRV] using hok)
    have := resP_rep k2 h2
    exact ⟨v, k1, this.1, this.2.1⟩

theorem resAll_run (h : RelX C.fid e σ bm s a w) : ∀ {rs : List RS} {qs : List ResultVar} {l : List AV}, okRes C.P rs qs = true → resAll s rs = some l → ∃ vs : List Value, (qs.mapM (resRun a)).run C.P w = .ok vs w ∧ vs.length = l.length ∧ rs.length = l.length ∧ RepL C.fid σ l (fun i => vs[i]?)
  | [], [], l, _, hl => by
    simp only [resAll, Option.some.injEq] at hl
    subst hl
    exact ⟨[], by simp, rfl, rfl, by simp [RepL]⟩
  | [], _ :: _, _, h, _ => by simp [okRes] at h
  | _ :: _, [], _, h, _ => by simp [okRes] at h
  | r :: rs, q :: qs, l, hok, hl => by
    simp only [okRes, Bool.and_eq_true] at hok
    simp only [resAll] at hl
    obtain ⟨c, h1, hl⟩ := bnd_is.1 hl
    obtain ⟨l', h2, hl⟩ := bnd_is.1 hl
    injection hl with hl
    subst hl
    obtain ⟨v, k1, k2, _⟩ := resOf1_run h hok.1 h1
    obtain ⟨vs, k3, k4, k5, k6⟩ := resAll_run h hok.2 h2
    refine ⟨v :: vs, ?_, by simp [k4], by simp [k5], ?_⟩
    · rw [List.mapM_cons]
      simp only [Sem.run_bind, k1, Result.andThen_ok, k3, Sem.run_pure]
    · simp only [RepL]
      exact ⟨⟨v, by simp, RepP_share k2⟩, by simpa using k6⟩

/-- A function's result. -/
theorem result_sound (h : RelX C.fid e σ bm s a w) {fn : Func} {rs : List RS} (hok : okRes C.P rs fn.results.toList = true) (hr : resultOf s rs = some c) :
    ∃ v, (results fn a.tmps).run C.P w = .ok v w ∧ ∃ s', (∀ j, j < 100 → s'.b j = s.b j) ∧
      ((∃ cs, c = .np cs ∧ ∃ b B cs', RelX C.fid e σ bm s' a w ∧ 100 ≤ b ∧ s'.b b = some (.var cs') ∧ bm b = some B ∧ v = .pointer (some ⟨B, 0, none⟩) ∧ cs = cs'.map AV.share) ∨ (c.isP = false ∧ Ready C e s' c v a w)) := by
  rw [results_eq]
  have tuple : (bnd (resAll s rs) fun l => some (AV.tup l)) = some c → rs.length ≠ 1 → ∃ v, (do let vs ← fn.results.toList.mapM (resRun a); pure (if h : vs.toArray.size = 1 then vs.toArray[0] else Value.tuple vs.toArray) : Sem Value).run C.P w = .ok v w ∧ c.isP = false ∧ Ready C e s c v a w := by
    intro hr hn
    obtain ⟨l, h1, h2⟩ := bnd_is.1 hr
    injection h2 with h2
    subst h2
    obtain ⟨vs, k1, k2, k3, k4⟩ := resAll_run h hok h1
    refine ⟨.tuple vs.toArray, ?_, rfl, Ready.plain h ⟨vs.toArray, rfl, by simp [k2], by simpa using k4⟩ rfl⟩
    have : ¬ vs.toArray.size = 1 := by simp; omega
    simp only [Sem.run_bind, k1, Result.andThen_ok, dif_neg this, Sem.run_pure]
  have one : ∀ {q : ResultVar} {v : Value}, fn.results.toList = [q] → (resRun a q).run C.P w = .ok v w → (do let vs ← fn.results.toList.mapM (resRun a); pure (if h : vs.toArray.size = 1 then vs.toArray[0] else Value.tuple vs.toArray) : Sem Value).run C.P w = .ok v w := by
    intro q v hq hv
    rw [hq]
    simp only [List.mapM_cons, List.mapM_nil, Sem.run_bind, hv, Result.andThen_ok, Sem.run_pure]
    rfl
  match rs, hok, hr, tuple with
  | [], hok, hr, tuple =>
    obtain ⟨v, h1, h2, h3⟩ := tuple hr (by simp)
    exact ⟨v, h1, s, fun _ _ => rfl, .inr ⟨h2, h3⟩⟩
  | r1 :: r2 :: rs, hok, hr, tuple =>
    obtain ⟨v, h1, h2, h3⟩ := tuple hr (by simp)
    exact ⟨v, h1, s, fun _ _ => rfl, .inr ⟨h2, h3⟩⟩
  | [r], hok, hr, tuple =>
    clear tuple
    obtain ⟨q, hq⟩ : ∃ q, fn.results.toList = [q] := by
      match hfr : fn.results.toList with
      | [] => rw [hfr] at hok; simp [okRes] at hok
      | [q] => exact ⟨q, rfl⟩
      | q :: q' :: qs => rw [hfr] at hok; cases r <;> simp [okRes] at hok
    rw [hq] at hok
    simp only [okRes, Bool.and_true] at hok
    simp only [resultOf] at hr
    -- from a value that is no pointer
    have plainV : ∀ {c0 : AV} {v : Value}, (resRun a q).run C.P w = .ok v w → RepP C.fid σ c0 v → resP c0 = some c → (∀ sz, c0.tipSz = some sz → ∃ t, s.t t = c0 ∧ v = a.tmps.getD t undef) →
        ∃ v, (do let vs ← fn.results.toList.mapM (resRun a); pure (if h : vs.toArray.size = 1 then vs.toArray[0] else Value.tuple vs.toArray) : Sem Value).run C.P w = .ok v w ∧ ∃ s', (∀ j, j < 100 → s'.b j = s.b j) ∧
      ((∃ cs, c = .np cs ∧ ∃ b B cs', RelX C.fid e σ bm s' a w ∧ 100 ≤ b ∧ s'.b b = some (.var cs') ∧ bm b = some B ∧ v = .pointer (some ⟨B, 0, none⟩) ∧ cs = cs'.map AV.share) ∨ (c.isP = false ∧ Ready C e s' c v a w)) := by
      intro c0 v hv hrep hp htip
      obtain ⟨k1, k2, k3⟩ := resP_rep hrep hp
      refine ⟨v, one hq hv, ?_⟩
      cases hc0 : c0.tipSz with
      | none =>
        refine ⟨s, fun _ _ => rfl, .inr ⟨k2, σ, bm, h, (RepT_of k2).2 k1, (fun b hb => by rw [ref_none k2] at hb; cases hb), fun sz hs => ?_⟩⟩
        rcases k3 sz hs with h1 | ⟨h1, A, n, rfl⟩
        · rw [hc0] at h1; cases h1
        · exact ⟨⟨A, n, 0, rfl, .inl rfl⟩, fun p sz' B _ hB => by rw [h1] at hB; cases hB⟩
      | some sz0 =>
        obtain ⟨t, rfl, rfl⟩ := htip sz0 hc0
        have hready := h.drop (.take t)
        refine ⟨s.drop (.take t), fun j _ => rfl, .inr ⟨k2, σ, bm, hready, (RepT_of k2).2 k1, (fun b hb => by rw [ref_none k2] at hb; cases hb), fun sz hs => ?_⟩⟩
        rcases k3 sz hs with h1 | ⟨h1, A, n, h2⟩
        · refine ⟨h.tip (.t t) sz h1, fun p sz' B hp hB hB' => ?_⟩
          have hp' : tipAt s p = some sz' ∧ p ≠ .t t := by
            cases p with
            | t u =>
              obtain ⟨q1, q2⟩ := drop_tip (x := .take t) (t := u) hp
              exact ⟨q1, fun e => q2 (by injection e with e; rw [e])⟩
            | c b i => exact ⟨hp, fun e => by cases e⟩
          exact hp'.2 (h.dist p (.t t) sz' sz B hp'.1 h1 hB' hB)
        · exact ⟨⟨A, n, 0, h2, .inl rfl⟩, fun p sz' B _ hB => by rw [h1] at hB; cases hB⟩
    cases r with
    | keep t n =>
      cases q <;> simp only [okRV, Bool.false_eq_true] at hok
      simp only [resOf] at hr
      obtain ⟨⟨v0, s0⟩, h1, h2⟩ := bnd_is.1 hr
      obtain ⟨v, k1, k2, k3⟩ := resRun_cell h h1 (by simpa [okRV] using hok)
      cases v0 <;> simp only [resK] at h2 <;> first | (cases h2; done) | skip
      rename_i cs
      injection h2 with h2
      subst h2
      obtain ⟨vs, q1, q2, q3⟩ := k2
      exact ⟨_, one hq k1, s, fun _ _ => rfl, .inr ⟨rfl, Ready.plain h ⟨vs, q1, by simpa using q2, RepL_map (fun _ _ hr => RepP_dem hr) q3⟩ rfl⟩⟩
    | cell t n agg =>
      cases q <;> simp only [okRV, Bool.false_eq_true] at hok
      simp only [resOf] at hr
      obtain ⟨⟨v0, s0⟩, h1, h2⟩ := bnd_is.1 hr
      obtain ⟨v, k1, k2, k3⟩ := resRun_cell h h1 (by simpa [okRV] using hok)
      exact plainV k1 k2 h2 (fun sz hs => by rw [k3] at hs; cases hs)
    | tmp t =>
      cases q <;> simp [okRV] at hok
      subst hok
      simp only [resOf] at hr
      have ht := h.tmps t
      have hrun : (resRun a (.tmp t)).run C.P w = .ok (a.tmps.getD t undef) w := rfl
      cases hs : s.t t with
      | bs b =>
        rw [hs] at hr ht
        simp only [resV] at hr
        split at hr
        rotate_left
        · cases hr
        rename_i hb100
        split at hr
        rotate_left
        · cases hr
        rename_i sz xs hb
        injection hr with hr
        subst hr
        obtain ⟨B, r1, ⟨arr, ty, m, r2, r3, r4, r5⟩, r6, r7⟩ := h.boxes b _ hb
        obtain ⟨sz', xs', cap, q1, q2, q3⟩ := ht B r1
        rw [hb] at q1
        injection q1 with q1
        injection q1 with q1 q1'
        subst q1 q1'
        have hsl := h.shut_ hb r1
        have hle : σ.le (fun B' i => if B' = B then w.cell? ⟨B, i, none⟩ else σ B' i) := by
          intro B' i v hv
          by_cases hh : B' = B
          · subst hh; rw [r7 i] at hv; cases hv
          · simp [hh, hv]
        refine ⟨_, one hq hrun, { s with b := upd s.b b none }, fun j hj => by simp only [upd_at]; rw [if_neg (by omega)], .inr ⟨rfl, _, _, hsl, ?_, (fun b' hb' => by cases hb'), fun sz hs => by cases hs⟩⟩
        refine ⟨_, _, cap, q3, rfl, q2, ⟨fun h => (by cases h), fun h => (by cases h)⟩, .inr ⟨B, 0, rfl, ?_⟩⟩
        refine RepR_mono hle _ _ _ (fun i v hv => ?_) r5
        simp only [if_true, Nat.zero_add]
        rw [cell_of r2]; exact hv
      | bp b off =>
        rw [hs] at hr ht
        simp only [resV] at hr
        split at hr
        rotate_left
        · cases hr
        rename_i hb100
        obtain ⟨rfl, hb100⟩ := hb100
        split at hr
        rotate_left
        · cases hr
        rename_i cs hb
        injection hr with hr
        subst hr
        obtain ⟨B, r1, _⟩ := h.boxes b _ hb
        exact ⟨_, one hq hrun, s, fun _ _ => rfl, .inl ⟨_, rfl, b, B, cs, h, hb100, hb, r1, ht B r1, rfl⟩⟩
      | be b i off => rw [hs] at hr; simp [resV, resP] at hr
      | np cs => rw [hs] at hr; simp [resV, resP] at hr
      | undef | int | bool | str | con | sl | agg | rp | fn | tup =>
        rw [hs] at hr ht
        exact plainV hrun ((RepT_of rfl).1 ht) (by simpa only [resV] using hr) (fun sz _ => ⟨t, hs, rfl⟩)
end
end Go.Vs
