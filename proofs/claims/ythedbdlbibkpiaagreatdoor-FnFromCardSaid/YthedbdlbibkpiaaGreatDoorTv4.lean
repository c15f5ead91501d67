/- Operations, steps and code. -/
import Derived.Test.YthedbdlbibkpiaaGreatDoorTv3
set_option linter.unusedVariables false
set_option linter.unusedSimpArgs false
namespace Go.Tv
open Go Go.RowKit Go.Vs

variable {ρ : Type} {Φ : CT ρ} {call : Vs.Call} {G : Nat → List TV}

theorem bndT_is {s : TS} {x : Option OpT} {d n : Int} (h : bndT G s x d = some n) : (∃ k, x.map (s.get G) = some (.int k n)) ∨ x = none ∧ n = d := by
  cases x with
  | none => simp [bndT] at h; exact .inr ⟨rfl, h.symm⟩
  | some x =>
    left
    simp only [bndT] at h
    split at h
    · rename_i k m hg
      injection h with h
      subst h
      exact ⟨k, by simp [hg]⟩
    · cases h
theorem natO_is {s : TS} {x : Option OpT} {d n : Int} (h : bndT G s x d = some n) (h0 : 0 ≤ n) : ∃ o, natO (GA G) (toS s) (erO x) = some o ∧ o.getD d.toNat = n.toNat := by
  cases x with
  | none => simp [bndT] at h; subst h; exact ⟨none, rfl, rfl⟩
  | some x =>
    rcases bndT_is h with ⟨k, hk⟩ | ⟨hx, _⟩
    · simp only [Option.map_some, Option.some.injEq] at hk
      exact ⟨some n.toNat, by simp [erO, natO, toS_get, hk, toAV, natOf, h0], rfl⟩
    · cases hx
theorem cut_is {α : Type} {l r : List α} {a b : Int} (h : cutL l a b = some r) : 0 ≤ a ∧ a ≤ b ∧ b ≤ l.length ∧ r = (l.take b.toNat).drop a.toNat := by
  unfold cutL at h
  split at h
  · rename_i hc; injection h with h; exact ⟨hc.1, hc.2.1, hc.2.2, h.symm⟩
  · cases h
theorem app_is {α : Type} {x y r : List α} (h : appL x y = some r) : x.length + y.length ≤ 4294967296 ∧ r = x ++ y := by
  unfold appL at h
  split at h
  · rename_i hc; injection h with h; exact ⟨hc, h.symm⟩
  · cases h

theorem appM_is {α : Type} {m : Md} {x y r : List α} (h : appM m x y = some r) : m.sm ≠ .share ∧ (m.sm = .full → y ≠ []) ∧ x.length + y.length ≤ 4294967296 ∧ r = x ++ y := by
  unfold appM at h
  split at h
  · cases h
  · rename_i b
    obtain ⟨h1, h2⟩ := app_is h
    cases b <;> exact ⟨by simp [Md.sm], by simp [Md.sm], h1, h2⟩
  · split at h
    · cases h
    · obtain ⟨h1, h2⟩ := app_is h
      exact ⟨by simp [Md.sm], by simp, h1, h2⟩
theorem evalKT_is (hΦ : PhiOk Φ call) {s : TS} {op : KT} {k : TV → TS → Option ρ} {r : ρ} (h : evalKT Φ G s op k = some r) :
    ∃ v s', evalK call (GA G) (toS s) op.er = some (toAV v, toS s') ∧ k v s' = some r := by
  cases op with
  | mv x => exact ⟨_, _, by simp only [KT.er, evalK, toS_get, toS_drop], h⟩
  | pick c x y =>
    simp only [evalKT] at h
    split at h
    · rename_i b hc
      cases b
      · exact ⟨_, _, by simp [KT.er, evalK, toS_get, hc, toAV, toS_drop], h⟩
      · exact ⟨_, _, by simp [KT.er, evalK, toS_get, hc, toAV, toS_drop], h⟩
    · cases h
  | alloc b z =>
    simp only [evalKT, forceL_eq, bnd_is] at h
    obtain ⟨s', h1, h2⟩ := h
    refine ⟨_, _, ?_, h2⟩
    have := newB_is h1
    simp only [toBC] at this
    simp only [KT.er, evalK, this, bnd_some, toAV]
  | box b x =>
    simp only [evalKT] at h
    split at h
    · rename_i hc
      rw [forceL_eq, bnd_is] at h
      obtain ⟨s', h1, h2⟩ := h
      refine ⟨_, _, ?_, h2⟩
      have := newB_is h1
      simp only [toBC, toAVs_eq] at this
      simp only [KT.er, evalK, toS_get, av_cells, map_one, hc, if_true, map_dem, this, bnd_some, toAV]
    · cases h
  | build z ps =>
    simp only [evalKT, bnd_is] at h
    obtain ⟨cs, h1, h2⟩ := h
    refine ⟨_, _, ?_, h2⟩
    have e : ((ps.map fun p => (p.1, p.2.1, p.2.2.er)).map fun p => (p.1, p.2.1, (toS s).get (GA G) p.2.2)) = (ps.map fun p => (p.1, p.2.1, s.get G p.2.2)).map fun p => (p.1, p.2.1, toAV p.2.2) := by
      simp [List.map_map, Function.comp_def, toS_get]
    simp only [KT.er, evalK, e, toAVs_eq, av_fill, h1, Option.map_some, bnd_some, toAV]
  | buildS m c ps =>
    simp only [evalKT, bnd_is] at h
    obtain ⟨l, h1, h2⟩ := h
    have hz : (m.sm = .zero → ps.map OpT.er = []) ∧ k (.sl m c l) s = some r := by
      split at h2
      · cases h2
      · rename_i m' ps' hn
        refine ⟨fun hm => ?_, h2⟩
        cases m with
        | share => cases hm
        | full => cases hm
        | own b =>
          cases b
          · cases ps with
            | nil => rfl
            | cons p q => exact (hn p q rfl rfl).elim
          · cases hm
    obtain ⟨hz, h2⟩ := hz
    refine ⟨_, _, ?_, h2⟩
    obtain ⟨h3, h4⟩ := mapDec_is h1
    have hc : ((ps.map OpT.er).all fun p => ((toS s).get (GA G) p).cells.length == c.sz && ((toS s).get (GA G) p).cells.all AV.one) = true := by
      rw [List.all_map, List.all_eq_true]
      intro p hp
      simp only [Function.comp, toS_get, (h4 p hp).1, (h4 p hp).2, beq_self_eq_true, Bool.and_self]
    have e : ((ps.map OpT.er).map fun p => ((toS s).get (GA G) p).cells.map AV.share) = l.map (rowAV c) := by
      rw [← h3, List.map_map]
      simp only [Function.comp_def, toS_get]
    have hz' : (m.sm = .zero → ps.map OpT.er = []) = True := eq_true hz
    simp only [KT.er, evalK, hc, hz', and_self, if_true, e, toAV]
  | load n a t x =>
    simp only [evalKT] at h
    obtain ⟨v, s', h1, h2⟩ := loadT_is h
    exact ⟨v, s', by simp only [KT.er, evalK, toS_get, h1], h2⟩
  | store n x v =>
    simp only [evalKT] at h
    obtain ⟨s', h1, h2⟩ := storeT_is h
    refine ⟨_, _, ?_, h2⟩
    simp only [KT.er, evalK, toS_get, ← toS_drop, h1, bnd_some, toAV, toAVs]
  | nilck x =>
    simp only [evalKT] at h
    split at h
    · rename_i b o hx
      split at h
      · rename_i hb
        refine ⟨_, _, ?_, h⟩
        simp only [KT.er, evalK, toS_get, hx, toAV, some_toS hb, if_true]
      · cases h
    · rename_i b i o hx
      split at h
      · rename_i hb
        refine ⟨_, _, ?_, h⟩
        simp only [KT.er, evalK, toS_get, hx, toAV, some_toS hb, if_true]
      · cases h
    · rename_i cs o hx
      exact ⟨_, _, by simp only [KT.er, evalK, toS_get, hx, toAV], h⟩
    · rename_i cs o hx
      exact ⟨_, _, by simp only [KT.er, evalK, toS_get, hx, toAV], h⟩
    · rename_i cs o hx
      exact ⟨_, _, by simp only [KT.er, evalK, toS_get, hx, toAV], h⟩
    · cases h
  | bin op x y =>
    simp only [evalKT] at h
    obtain ⟨v, h1, h2⟩ := binT_is h
    exact ⟨v, s, by simp only [KT.er, evalK, toS_get, h1, bnd_some], h2⟩
  | eqb q x y =>
    simp only [evalKT] at h
    split at h
    · rename_i a b hx hy
      refine ⟨_, _, ?_, h⟩
      simp only [KT.er, evalK, toS_get, hx, hy, toAV]
      cases q <;> simp
    · cases h
  | eqs q n x y =>
    simp only [evalKT] at h
    split at h
    · rename_i a b hx hy
      split at h
      · rename_i hn
        rw [bnd_is] at h
        obtain ⟨z, h1, h2⟩ := h
        refine ⟨_, _, ?_, h2⟩
        simp only [KT.er, evalK, toS_get, hx, hy, toAV, toAVs_eq, List.length_map, hn, and_self, if_true, av_eqInts, h1, bnd_some]
        cases q <;> simp
      · cases h
    · cases h
  | un op x =>
    simp only [evalKT, unT] at h
    split at h
    · rename_i kx n hx
      exact ⟨_, _, by simp only [KT.er, evalK, toS_get, hx, toAV, Vs.un, bnd_some, wrT_eq], h⟩
    · rename_i b hx
      exact ⟨_, _, by simp only [KT.er, evalK, toS_get, hx, toAV, Vs.un, bnd_some], h⟩
    · cases h
  | conv c x =>
    simp only [evalKT] at h
    obtain ⟨v, s', h1, h2⟩ := convT_is h
    exact ⟨v, s', by simp only [KT.er, evalK, toS_get, h1], h2⟩
  | mkfn g ps =>
    simp only [evalKT, bnd_is] at h
    obtain ⟨q, h1, h2⟩ := h
    refine ⟨_, _, ?_, h2⟩
    have := captT_is h1
    simp only [KT.er, evalK, toS_gets, this, bnd_some, toAV, toAVs_eq]
  | mksl b c n m =>
    simp only [evalKT] at h
    split at h
    · rename_i k1 n' k2 m' hn hm
      rw [bnd_is] at h
      obtain ⟨a, h1, h⟩ := h
      split at h
      · rename_i e
        have e : n' = m' := by
          unfold sameT at e
          split at e
          · have := Nat.eq_of_beq_eq_true e
            subst this
            rw [hn] at hm
            injection hm
          · have := of_decide_eq_true e
            simp only [TS.get, TV.int.injEq] at hn hm
            omega
          · cases e
        subst e
        rw [bnd_is] at h
        obtain ⟨s', h2, h3⟩ := h
        refine ⟨_, _, ?_, h3⟩
        unfold made at h1
        split at h1
        · rename_i hc
          injection h1 with h1
          subst h1
          have := newB_is h2
          simp only [toBC, List.map_replicate] at this
          simp only [KT.er, evalK, toS_get, hn, hm, toAV, hc.1, hc.2, rowAV_len, and_self, if_true, this, bnd_some]
        · cases h1
      · cases h
    · cases h
  | mkz c n m =>
    simp only [evalKT] at h
    split at h
    · rename_i k1 n' k2 m' hn hm
      rw [bnd_is] at h
      obtain ⟨a, h1, h⟩ := h
      split at h
      · rename_i e
        have e : n' = m' := by
          unfold sameT at e
          split at e
          · have := Nat.eq_of_beq_eq_true e
            subst this
            rw [hn] at hm
            injection hm
          · have := of_decide_eq_true e
            simp only [TS.get, TV.int.injEq] at hn hm
            omega
          · cases e
        subst e
        refine ⟨_, _, ?_, h⟩
        unfold made at h1
        split at h1
        · rename_i hc
          injection h1 with h1
          subst h1
          simp only [KT.er, evalK, toS_get, hn, hm, toAV, hc.1, hc.2, rowAV_len, and_self, if_true, rowAV_share, List.map_replicate, Md.sm]
        · cases h1
      · cases h
    · cases h
  | slc sz x lo hi mx =>
    simp only [evalKT] at h
    split at h
    · cases h
    split at h
    · rename_i m c l hx
      split at h
      · rename_i hs
        simp only [bnd_is] at h
        obtain ⟨a, h1, b, h2, l', h3, h4⟩ := h
        obtain ⟨c1, c2, c3, rfl⟩ := cut_is h3
        refine ⟨_, _, ?_, h4⟩
        obtain ⟨o1, e1, e2⟩ := natO_is h1 c1
        obtain ⟨o2, e3, e4⟩ := natO_is h2 (by omega)
        simp only [Int.toNat_zero, Int.toNat_natCast] at e2 e4
        have c4 : a.toNat ≤ b.toNat ∧ b.toNat ≤ l.length := by omega
        have e5 : (erO none : Option Opnd) = none := rfl
        have e6 : natO (GA G) (toS s) none = some none := rfl
        simp only [KT.er, e5, evalK, Option.isSome_none, Bool.false_and, Bool.false_eq_true, if_false, e1, e3, e6, bnd_some, toS_get, hx, toAV, sliceOf, hs, List.length_map, e2, e4, c4.1, c4.2, and_self, if_true, Md.sm, List.map_take, List.map_drop]
      · cases h
    · cases h
  | slcS x lo hi =>
    simp only [evalKT] at h
    split at h
    · rename_i l hx
      simp only [bnd_is] at h
      obtain ⟨a, h1, b, h2, l', h3, h4⟩ := h
      obtain ⟨c1, c2, c3, rfl⟩ := cut_is h3
      refine ⟨_, _, ?_, h4⟩
      obtain ⟨o1, e1, e2⟩ := natO_is h1 c1
      obtain ⟨o2, e3, e4⟩ := natO_is h2 (by omega)
      simp only [Int.toNat_zero, Int.toNat_natCast] at e2 e4
      have c4 : a.toNat ≤ b.toNat ∧ b.toNat ≤ l.length := by omega
      simp only [KT.er, evalK, e1, e3, bnd_some, toS_get, hx, toAV, sliceStr, e2, e4, c4.1, c4.2, and_self, if_true]
    · cases h
  | fadr off x =>
    simp only [evalKT] at h
    split at h
    · rename_i b o hx
      split at h
      · rename_i hb
        refine ⟨_, _, ?_, h⟩
        simp only [KT.er, evalK, toS_get, hx, toAV, some_toS hb, if_true]
      · cases h
    · rename_i b i o hx
      split at h
      · rename_i hb
        refine ⟨_, _, ?_, h⟩
        simp only [KT.er, evalK, toS_get, hx, toAV, some_toS hb, if_true]
      · cases h
    · rename_i cs o hx
      exact ⟨_, _, by simp only [KT.er, evalK, toS_get, hx, toAV], h⟩
    · cases h
  | fld off n agg x =>
    simp only [evalKT] at h
    split at h
    · rename_i cs hx
      rw [bnd_is] at h
      obtain ⟨v, h1, h2⟩ := h
      refine ⟨_, _, ?_, h2⟩
      simp only [KT.er, evalK, toS_get, hx, toAV, toAVs_eq, partT_is h1, bnd_some]
    · cases h
  | iadr sz x i =>
    simp only [evalKT] at h
    split at h
    · rename_i m c l hx
      split at h
      · rename_i hs
        split at h
        · rename_i k' n hi
          obtain ⟨y, h1, h2⟩ := pickR_is h
          refine ⟨_, _, ?_, h2⟩
          simp only [KT.er, evalK, toS_get, hx, hi, toAV, hs, if_true, geti_nat h1, bnd_some, List.getElem?_map, (geti_is h1).2, Option.map_some, toAVs_eq, rowT_av]
        · cases h
      · cases h
    · rename_i b hx
      split at h
      · rename_i c l hb
        split at h
        · rename_i hs
          split at h
          · rename_i k' n hi
            rw [bnd_is] at h
            obtain ⟨y, h1, h2⟩ := h
            refine ⟨_, _, ?_, h2⟩
            have hl : n.toNat < l.length := by
              have := (geti_is h1).2
              exact (List.getElem?_eq_some_iff.1 this).1
            simp only [KT.er, evalK, toS_get, hx, hi, toAV, toS_b, hb, Option.map_some, toBC, hs, if_true, geti_nat h1, bnd_some, List.length_map, hl]
          · cases h
        · cases h
      · cases h
    · cases h
  | iadrA sz len x i =>
    simp only [evalKT] at h
    split at h
    · rename_i cs hx
      split at h
      · rename_i hs
        obtain ⟨rfl, hs⟩ := hs
        rw [bnd_is] at h
        obtain ⟨l, h0, h⟩ := h
        split at h
        · rename_i k' n hi
          rw [bnd_is] at h
          obtain ⟨y, h1, h2⟩ := h
          refine ⟨_, _, ?_, h2⟩
          have hl : n.toNat < l.length := by
            have := (geti_is h1).2
            exact (List.getElem?_eq_some_iff.1 this).1
          have e := strsOf_is h0
          have hl' : n.toNat < len := by rw [← hs, e, List.length_map]; exact hl
          have e2 : toAVs cs = l.map AV.str := by rw [toAVs_eq, e, List.map_map]; congr 1; try (funext s; simp [toAV])
          simp only [KT.er, evalK, toS_get, hx, hi, toAV, geti_nat h1, bnd_some, hl', if_true, e2, Nat.mul_one, Nat.zero_add]
        · cases h
      · cases h
    · cases h
  | idxS x i =>
    simp only [evalKT] at h
    split at h
    · rename_i l k' n hx hi
      rw [bnd_is] at h
      obtain ⟨y, h1, h2⟩ := h
      refine ⟨_, _, ?_, h2⟩
      simp only [KT.er, evalK, toS_get, hx, hi, toAV, geti_nat h1, bnd_some, (geti_is h1).2]
    · cases h
  | idxA sz len n agg x i =>
    simp only [evalKT] at h
    split at h
    · rename_i cs hx
      split at h
      · rename_i hs
        obtain ⟨rfl, rfl, rfl, hs⟩ := hs
        rw [bnd_is] at h
        obtain ⟨l, h0, h⟩ := h
        split at h
        · rename_i k' n hi
          rw [bnd_is] at h
          obtain ⟨y, h1, h2⟩ := h
          refine ⟨_, _, ?_, h2⟩
          have hl : n.toNat < l.length := by
            have := (geti_is h1).2
            exact (List.getElem?_eq_some_iff.1 this).1
          have e := strsOf_is h0
          have hl' : n.toNat < len := by rw [← hs, e, List.length_map]; exact hl
          have e2 : toAVs cs = l.map AV.str := by rw [toAVs_eq, e, List.map_map]; congr 1; try (funext s; simp [toAV])
          simp [KT.er, evalK, toS_get, hx, hi, toAV, geti_nat h1, hl', e2, Vs.part, (geti_is h1).2, AV.dem]
        · cases h
      · cases h
    · cases h
  | len x =>
    simp only [evalKT] at h
    split at h
    · rename_i m c l hx
      exact ⟨_, _, by simp only [KT.er, evalK, toS_get, hx, toAV, List.length_map], h⟩
    · rename_i b hx
      split at h
      · rename_i c l hb
        exact ⟨_, _, by simp only [KT.er, evalK, toS_get, hx, toAV, toS_b, hb, Option.map_some, toBC, List.length_map], h⟩
      · cases h
    · cases h
  | lenS x =>
    simp only [evalKT] at h
    split at h
    · rename_i l hx
      exact ⟨_, _, by simp only [KT.er, evalK, toS_get, hx, toAV], h⟩
    · cases h
  | app sz x y =>
    simp only [evalKT] at h
    split at h
    · rename_i b c l m c' l' hx hy
      split at h
      · rename_i hs
        simp only [bnd_is] at h
        obtain ⟨l2, h1, z, h2, h3⟩ := h
        obtain ⟨e, h1⟩ := castD_is h1
        subst e
        simp only at h1
        subst h1
        obtain ⟨hm, hfull, h4, rfl⟩ := appM_is h2
        refine ⟨_, _, ?_, h3⟩
        have hfull : (b.sm = SM.full → l'.map (rowAV c') ≠ []) = True := eq_true fun hh hn => hfull hh (by simpa using hn)
        have hm2 : (Md.own true).sm = SM.tip := rfl
        simp only [KT.er, evalK, toS_get, hx, hy, toAV, hs, hm, hfull, h4, toS_drop, hm2, List.length_map, List.map_append, ne_eq, not_false_eq_true, and_self, if_true]
      · cases h
    · cases h
  | ext i x =>
    simp only [evalKT] at h
    split at h
    · rename_i vs hx
      rw [bnd_is] at h
      obtain ⟨v, h1, h2⟩ := h
      split at h2
      · cases h2
      · rename_i hp
        refine ⟨_, _, ?_, h2⟩
        simp only [KT.er, evalK, toS_get, hx, toAV, toAVs_eq, List.getElem?_map, h1, Option.map_some, bnd_some, av_isP, hp, Bool.false_eq_true, if_false, av_shr]
    · cases h
  | call g site args =>
    simp only [evalKT] at h
    split at h
    · rename_i ht
      obtain ⟨v, s', h1, h2⟩ := callT_is hΦ h
      refine ⟨v, s', ?_, h2⟩
      rw [toS_drops, ← toS_args] at h1
      simp only [KT.er, evalK, takesOkT_is, ht, if_true, h1]
    · cases h
  | callv f args =>
    simp only [evalKT] at h
    split at h
    · rename_i g cap hf
      split at h
      · rename_i ht
        obtain ⟨v, s', h1, h2⟩ := callT_is hΦ h
        refine ⟨v, s', ?_, h2⟩
        rw [toS_drops, List.map_append, ← toS_args, ← map_shr] at h1
        simp only [KT.er, evalK, toS_get, hf, toAV, toAVs_eq, takesOkT_is, ht, and_self, if_true, h1]
      · cases h
    · cases h
  | mx args =>
    simp only [evalKT, bnd_is] at h
    obtain ⟨l, h1, h2⟩ := h
    split at h2
    · cases h2
    · rename_i x r
      refine ⟨_, _, ?_, h2⟩
      simp only [KT.er, evalK, toS_gets, av_asInts, h1, bnd_some, toAV]
  | mn args =>
    simp only [evalKT, bnd_is] at h
    obtain ⟨l, h1, h2⟩ := h
    split at h2
    · cases h2
    · rename_i x r
      refine ⟨_, _, ?_, h2⟩
      simp only [KT.er, evalK, toS_gets, av_asInts, h1, bnd_some, toAV]

theorem upd_known {s : TS} {t : Nat} {b : Bool} (h : s.t t = .bool b) : s.setT t (.bool b) = s := by
  cases s
  simp only [TS.setT, TS.mk.injEq, and_true]
  funext j; unfold upd; split
  · subst_vars; exact h.symm
  · rfl
theorem stepT_is (hΦ : PhiOk Φ call) {draw : Bool} {s : TS} {o : AOpT} {k : TS → Option ρ} {r : ρ} (h : stepT Φ G draw s o k = some r) :
    ∃ s', (if draw then stepD call (GA G) (toS s) o.er else stepA call (GA G) (toS s) o.er) = some (toS s') ∧ k s' = some r := by
  unfold stepT at h
  have yes : ∀ s : TS, wantedA (toS s) o.g = some true → (match (generalizing := false) draw with
    | false => evalKT Φ G s o.k fun v s' => forceV v fun v => k (s'.put o.d v)
    | true => evalKT Φ G (s.mask o.er.reads o.fp) o.k fun v s' => forceV v fun v => k ((s.merge o.er.takes o.er.k.mods o.fp s').put o.d v)) = some r →
    ∃ s', (if draw then stepD call (GA G) (toS s) o.er else stepA call (GA G) (toS s) o.er) = some (toS s') ∧ k s' = some r := by
    intro s hw h
    cases draw
    · simp only [] at h
      obtain ⟨v, s', h1, h2⟩ := evalKT_is hΦ h
      rw [forceV_eq] at h2
      refine ⟨_, ?_, h2⟩
      have hw' : wantedA (toS s) o.er.g = some true := hw
      have h1' : evalK call (GA G) (toS s) o.er.k = _ := h1
      simp only [Bool.false_eq_true, if_false, stepA, hw', bnd_some, if_true, h1', toS_put]
      rfl
    · simp only [] at h
      obtain ⟨v, s', h1, h2⟩ := evalKT_is hΦ h
      rw [forceV_eq] at h2
      refine ⟨_, ?_, h2⟩
      have hw' : wantedA (toS s) o.er.g = some true := hw
      rw [toS_mask] at h1
      have h1' : evalK call (GA G) ((toS s).mask o.er.reads o.er.fp) o.er.k = _ := h1
      have e := toS_merge s o.er s'
      simp only [if_true, stepD, hw', bnd_some, h1', toS_put]
      rw [← e]
      rfl
  have no : ∀ s : TS, wantedA (toS s) o.g = some false → k (s.put o.d (.tup [])) = some r →
    ∃ s', (if draw then stepD call (GA G) (toS s) o.er else stepA call (GA G) (toS s) o.er) = some (toS s') ∧ k s' = some r := by
    intro s hw h
    have hw' : wantedA (toS s) o.er.g = some false := hw
    refine ⟨_, ?_, h⟩
    have e : (toS s).put o.er.d (.tup []) = toS (s.put o.d (.tup [])) := by
      rw [toS_put]; simp only [toAV, toAVs]; rfl
    cases draw
    · simp only [Bool.false_eq_true, if_false, stepA, hw', bnd_some, e]
    · simp only [if_true, stepD, hw', bnd_some, Bool.false_eq_true, if_false, e]
  unfold guardT at h
  split at h
  · rename_i hg
    exact yes s (by simp [hg, wantedA]) h
  · rename_i t want hg
    split at h
    · rename_i b hb
      have hb' : (toS s).t t = .bool b := by simp [toS, hb, toAV]
      split at h
      · cases b
        · rw [upd_known hb] at h
          exact no s (by simp [hg, wantedA, hb']) h
        · simp only [] at h
          rw [upd_known hb] at h
          exact yes s (by simp [hg, wantedA, hb']) h
      · cases b
        · simp only [] at h
          rw [upd_known hb] at h
          exact yes s (by simp [hg, wantedA, hb']) h
        · rw [upd_known hb] at h
          exact no s (by simp [hg, wantedA, hb']) h
    · rename_i l hb
      have hb' : (toS s).t t = .tup (toAVs l) := by simp [toS, hb, toAV]
      exact no s (by simp [hg, wantedA, hb']) h
    · cases h
theorem opsT_is (hΦ : PhiOk Φ call) {draw : Bool} : ∀ {os : List AOpT} {s : TS} {k : TS → Option ρ} {r : ρ}, opsT Φ G draw os s k = some r →
    ∃ s', (if draw then opsD call (GA G) (os.map AOpT.er) (toS s) else opsA call (GA G) (os.map AOpT.er) (toS s)) = some (toS s') ∧ k s' = some r
  | [], s, k, r, h => ⟨s, by cases draw <;> rfl, h⟩
  | o :: os, s, k, r, h => by
    simp only [opsT] at h
    obtain ⟨s1, h1, h2⟩ := stepT_is hΦ h
    obtain ⟨s2, h3, h4⟩ := opsT_is hΦ h2
    refine ⟨s2, ?_, h4⟩
    cases draw
    · simp only [Bool.false_eq_true, if_false] at h1 h3 ⊢
      simp only [List.map_cons, opsA, h1, bnd_some, h3]
    · simp only [if_true] at h1 h3 ⊢
      simp only [List.map_cons, opsD, h1, bnd_some, h3]

variable {F : Nat → Option ProcT}
def FA (F : Nat → Option ProcT) : Nat → Option Proc := fun g => (F g).map ProcT.er
theorem map_okIn (bins : List Nat) (l : List TV) : (l.map toAV).all (AV.okIn bins) = l.all (TV.okIn bins) := by simp [List.all_map, Function.comp_def, av_okIn]
theorem toS_ts (s : TS) (l : List Nat) : l.map (toS s).t = (l.map s.t).map toAV := by simp [toS]
theorem know_is {s : TS} {c : OpT} {b : Bool} (h : s.get G c = .bool b) : toS (knowT s c b) = toS s := by
  cases c with
  | tmp t =>
    have : s.t t = .bool b := by
      simp only [TS.get] at h
      cases hv : s.t t <;> rw [hv] at h <;> simp [TV.dem] at h ⊢
      exact h
    simp only [knowT, upd_known this]
  | _ => rfl
theorem runC_is (hΦ : PhiOk Φ call) : ∀ (ac : ACT) {s : TS} {k : Oc → TS → Option ρ} {r : ρ}, runC Φ F G ac s k = some r →
    ∃ oc s', evalC call (FA F) (GA G) ac.er (toS s) = some (oc, toS s') ∧ k oc s' = some r
  | .skip, s, k, r, h => ⟨_, _, rfl, h⟩
  | .exit _, s, k, r, h => ⟨_, _, rfl, h⟩
  | .ret, s, k, r, h => ⟨_, _, rfl, h⟩
  | .region draw ops, s, k, r, h => by
    simp only [runC] at h
    obtain ⟨s', h1, h2⟩ := opsT_is hΦ h
    exact ⟨_, s', by simp only [ACT.er, evalC, h1, bnd_some], h2⟩
  | .seq a b, s, k, r, h => by
    simp only [runC] at h
    obtain ⟨oc, s1, h1, h2⟩ := runC_is hΦ a h
    cases oc with
    | norm =>
      obtain ⟨oc2, s2, h3, h4⟩ := runC_is hΦ b h2
      exact ⟨oc2, s2, by simp only [ACT.er, evalC, h1, bnd_some, h3], h4⟩
    | exit i => exact ⟨_, _, by simp only [ACT.er, evalC, h1, bnd_some], h2⟩
    | ret => exact ⟨_, _, by simp only [ACT.er, evalC, h1, bnd_some], h2⟩
  | .cond c x y, s, k, r, h => by
    simp only [runC] at h
    split at h
    · rename_i b hb
      have hb' := toS_get G s c
      rw [hb] at hb'
      cases b
      · simp only [] at h
        obtain ⟨oc, s1, h1, h2⟩ := runC_is hΦ y h
        rw [know_is hb] at h1
        exact ⟨oc, s1, by simp [ACT.er, evalC, hb', toAV, h1], h2⟩
      · simp only [] at h
        obtain ⟨oc, s1, h1, h2⟩ := runC_is hΦ x h
        rw [know_is hb] at h1
        exact ⟨oc, s1, by simp [ACT.er, evalC, hb', toAV, h1], h2⟩
    · cases h
  | .block id a, s, k, r, h => by
    simp only [runC] at h
    obtain ⟨oc, s1, h1, h2⟩ := runC_is hΦ a h
    refine ⟨_, s1, ?_, h2⟩
    simp only [ACT.er, evalC, h1, bnd_some]
    cases oc <;> simp only [unblock]
  | .label g, s, k, r, h => by
    simp only [runC] at h
    split at h
    · rename_i p hp
      split at h
      · rename_i hc
        rw [bnd_is] at h
        obtain ⟨bv, h1, h2⟩ := h
        obtain ⟨o, outs, bv', h3, h4⟩ := hΦ _ _ _ _ _ h2
        refine ⟨o, _, ?_, h4⟩
        have hp' : FA F g = some p.er := by simp [FA, hp]
        have hc' : (p.er.kind = .join ∨ p.er.kind = .loop) ∧ ((p.er.ins.map (toS s).t).all (AV.okIn p.er.bins)) = true := by
          refine ⟨hc.1, ?_⟩
          rw [toS_ts, map_okIn]; exact hc.2
        have h1' : boxesOf (toS s) p.er.bins = some (bv.map toBC) := boxesT_is h1
        have h3' : call g (p.er.ins.map (toS s).t) (bv.map toBC) = some (o, outs.map toAV, bv'.map toBC) := by rw [toS_ts]; exact h3
        simp only [ACT.er, evalC, hp', hc', and_self, if_true, h1', bnd_some, h3', toS_mk]
        rfl
      · cases h
    · cases h

theorem resPT_is {v w : TV} (h : resPT v = some w) : resP (toAV v) = some (toAV w) := by
  unfold resPT at h
  split at h <;> first
    | (cases h; done)
    | skip
  · injection h with h; subst h
    rename_i m c l
    cases m with
    | own b => cases b <;> simp [toAV, resP, Md.sm, Md.res]
    | _ => simp [toAV, resP, Md.sm, Md.res]
  · injection h with h; subst h
    simp only [toAV, resP, toAVs_eq, map_shr]
  · injection h with h; subst h
    rename_i a1 a2 a3 a4 a5 a6
    cases v with
    | sl m c l => exact (a1 m c l rfl).elim
    | _ => simp_all [toAV, resP]
theorem loadOf_is {n : Nat} {agg : Bool} {s : TS} {p v : TV} (h : (loadT n agg false s p fun v _ => resPT v) = some v) : (bnd (loadP n agg false (toS s) (toAV p)) fun r => resP r.1) = some (toAV v) := by
  obtain ⟨w, s', h1, h2⟩ := loadT_is h
  rw [h1, bnd_some]
  exact resPT_is h2
theorem resOf1T_is {s : TS} {x : RS} {v : TV} (h : resOf1T s x = some v) : resOf1 (toS s) x = some (toAV v) := by
  cases x with
  | keep t n => simp [resOf1T] at h
  | tmp t => exact resPT_is h
  | cell t n agg => exact loadOf_is h
theorem resVT_is {s : TS} {v w : TV} (h : resVT s v = some w) : resV (toS s) (toAV v) = some (toAV w) := by
  unfold resVT at h
  split at h
  · split at h
    · rename_i b hb
      split at h
      · rename_i c l hs
        injection h with h; subst h
        simp [toAV, resV, hb, toS_b, hs, toBC, Md.sm]
      · cases h
    · cases h
  · split at h
    · rename_i b off hb
      split at h
      · rename_i cs hs
        injection h with h; subst h
        simp [toAV, resV, hb, toS_b, hs, toBC, toAVs_eq, av_shr]
      · cases h
    · cases h
  · have := resPT_is h
    cases v <;> simp_all [toAV, resV]
theorem resOfT_is {s : TS} {x : RS} {v : TV} (h : resOfT s x = some v) : resOf (toS s) x = some (toAV v) := by
  cases x with
  | keep t n =>
    simp only [resOfT] at h
    obtain ⟨w, s', h1, h2⟩ := loadT_is h
    split at h2
    · rename_i cs
      injection h2 with h2
      subst h2
      show (bnd (loadP n true false (toS s) (toAV (s.t t))) fun r => resK r.1) = _
      rw [h1, bnd_some]
      simp only [toAV, resK, toAVs_eq, map_dem]
    · cases h2
  | tmp t => exact resVT_is h
  | cell t n agg => exact loadOf_is h
theorem resAllT_is {s : TS} : ∀ {rs : List RS} {l : List TV}, resAllT s rs = some l → resAll (toS s) rs = some (l.map toAV)
  | [], l, h => by simp [resAllT] at h; subst h; rfl
  | x :: rs, l, h => by
    simp only [resAllT, bnd_is] at h
    obtain ⟨v, h1, l', h2, h3⟩ := h
    injection h3 with h3
    subst h3
    simp only [resAll, resOf1T_is h1, resAllT_is h2, bnd_some, List.map_cons, av_shr]
theorem resultT_is {s : TS} {rs : List RS} {v : TV} (h : resultT s rs = some v) : resultOf (toS s) rs = some (toAV v) := by
  unfold resultT at h
  split at h
  · exact resOfT_is h
  · rename_i hn
    rw [bnd_is] at h
    obtain ⟨l, h1, h2⟩ := h
    injection h2 with h2
    subst h2
    have := resAllT_is h1
    unfold resultOf
    split
    · exact absurd rfl (hn _)
    · rw [this]; simp [toAV, toAVs_eq]
end Go.Tv
