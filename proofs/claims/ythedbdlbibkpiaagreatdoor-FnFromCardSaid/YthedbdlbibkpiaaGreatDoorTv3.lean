/- What the typed evaluator tells is what the plain one tells. -/
import Derived.Test.YthedbdlbibkpiaaGreatDoorTv2
set_option linter.unusedVariables false
set_option linter.unusedSimpArgs false
namespace Go.Tv
open Go Go.RowKit Go.Vs

variable {ρ : Type}
/-- Calls are answered as the plain machine answers them. -/
def PhiOk (Φ : CT ρ) (call : Vs.Call) : Prop :=
  ∀ g tv bv k r, Φ g tv bv k = some r → ∃ o outs bv', call g (tv.map toAV) (bv.map toBC) = some (o, outs.map toAV, bv'.map toBC) ∧ k o outs bv' = some r

theorem geti_is {α : Type} {l : List α} {n : Int} {x : α} (h : geti l n = some x) : 0 ≤ n ∧ l[n.toNat]? = some x := by
  unfold geti at h; split at h
  · exact ⟨‹_›, h⟩
  · cases h
theorem geti_nat {α : Type} {l : List α} {k : IntKind} {n : Int} {x : α} (h : geti l n = some x) : natOf (.int k n) = some n.toNat := by
  simp [natOf, (geti_is h).1]
theorem partT_is {n : Nat} {agg : Bool} {cs : List TV} {off : Nat} {v : TV} (h : partT n agg cs off = some v) : Vs.part n agg (cs.map toAV) off = some (toAV v) := by
  rw [av_part, h]; rfl
theorem overT_is {cs vs r : List TV} {off : Nat} (h : overT cs off vs = some r) : Vs.over (cs.map toAV) off (vs.map toAV) = some (r.map toAV) := by rw [av_over, h]; rfl
theorem newB_is {s s' : TS} {b : Nat} {c : BT} (h : s.newB b c = some s') : (toS s).newB b (toBC c) = some (toS s') := by rw [toS_newB, h]; rfl
theorem some_toS {s : TS} {b : Nat} (h : (s.b b).isSome = true) : ((toS s).b b).isSome = true := by simpa [toS_b] using h

mutual
theorem forceV_eq : ∀ (v : TV) (k : TV → Option ρ), forceV v k = k v
  | .undef, k | .int a n, k | .bool b, k | .str l, k | .con c, k | .sl m c l, k | .bp b o, k | .bs b, k | .be b i o, k | .rs l i, k => by simp only [forceV]
  | .agg cs, k | .rp cs _, k | .fn _ cs, k | .tup cs, k | .np cs, k => by simp only [forceV, forceL_eq cs]
theorem forceL_eq : ∀ (l : List TV) (k : List TV → Option ρ), forceL l k = k l
  | [], k => by simp only [forceL]
  | v :: r, k => by simp only [forceL, forceV_eq v, forceL_eq r]
end
theorem loadT_is {n : Nat} {agg take : Bool} {s : TS} {p : TV} {k : TV → TS → Option ρ} {r : ρ} (h : loadT n agg take s p k = some r) : ∃ v s', loadP n agg take (toS s) (toAV p) = some (toAV v, toS s') ∧ k v s' = some r := by
  unfold loadT at h
  split at h
  · rename_i b off
    split at h
    · rename_i cs hb
      split at h
      · split at h
        · cases h
        · split at h
          · rename_i hn
            rw [bnd_is] at h
            obtain ⟨v, h1, h2⟩ := h
            split at h2
            · cases h2
            · rename_i hp
              refine ⟨v, _, ?_, h2⟩
              simp only [toAV, loadP, toS_b, hb, Option.map_some, toBC, toAVs_eq, if_true, Bool.false_eq_true, if_false, hn, List.getElem?_map, h1, bnd_some, av_isP, hp, toS_setB, List.map_set, av_dem]
          · cases h
      · rw [bnd_is] at h
        obtain ⟨v, h1, h2⟩ := h
        refine ⟨v, s, ?_, h2⟩
        simp only [toAV, loadP, toS_b, hb, Option.map_some, toBC, toAVs_eq, Bool.false_eq_true, if_false, partT_is h1, bnd_some]
    · cases h
  · rename_i b i off
    split at h
    · rename_i c l hb
      split at h
      · cases h
      · rw [bnd_is] at h
        obtain ⟨x, h1, h⟩ := h
        rw [bnd_is] at h
        obtain ⟨v, h2, h3⟩ := h
        refine ⟨v, s, ?_, h3⟩
        have := partT_is h2
        rw [rowT_av] at this
        simp only [toAV, loadP, toS_b, hb, Option.map_some, toBC, List.getElem?_map, h1, bnd_some, Bool.false_eq_true, if_false, this]
    · cases h
  · split at h
    · cases h
    · rw [bnd_is] at h
      obtain ⟨v, h2, h3⟩ := h
      refine ⟨v, s, ?_, h3⟩
      simp only [toAV, loadP, toAVs_eq, Bool.false_eq_true, if_false, partT_is h2, bnd_some]
  · split at h
    · cases h
    · split at h
      · cases h
      · split at h
        · rename_i hn
          rw [bnd_is] at h
          obtain ⟨v, h2, h3⟩ := h
          refine ⟨.str v, s, ?_, h3⟩
          simp only [toAV, loadP, Vs.part, Bool.false_eq_true, if_false, hn, if_true, List.getElem?_map, h2, Option.map_some, bnd_some, AV.dem]
        · cases h
  · cases h

theorem storeT_is {n : Nat} {s : TS} {p v : TV} {k : TS → Option ρ} {r : ρ} (h : storeT n s p v k = some r) : ∃ s', storeP n (toS s) (toAV p) (toAV v) = some (toS s') ∧ k s' = some r := by
  unfold storeT at h
  split at h
  · rename_i hc
    have hc' : (toAV v).cells.length = n ∧ (toAV v).cells.all AV.one = true := by rw [av_cells, List.length_map, map_one]; exact hc
    unfold storeP
    rw [if_pos hc']
    split at h
    · rename_i b off
      split at h
      · rename_i cs hb
        rw [bnd_is] at h
        obtain ⟨cs', h1, h2⟩ := h
        rw [forceL_eq] at h2
        refine ⟨_, ?_, h2⟩
        simp only [toAV, toS_b, hb, Option.map_some, toBC, toAVs_eq, av_scells, overT_is h1, bnd_some, toS_setB]
      · cases h
    · rename_i b i off
      split at h
      · rename_i c l hb
        simp only [bnd_is] at h
        obtain ⟨x, h1, cs', h2, y, h3, h4⟩ := h
        refine ⟨_, ?_, h4⟩
        have e := overT_is h2
        rw [rowT_av, ← map_shr, ← av_cells, decRow_is h3, rowT_av] at e
        simp only [toAV, toS_b, hb, Option.map_some, toBC, List.getElem?_map, h1, bnd_some, e, toS_setB, List.map_set]
      · cases h
    · cases h
  · cases h

theorem binT_is {op : BinOp} {x y : TV} {k : TV → Option ρ} {r : ρ} (h : binT op x y k = some r) : ∃ v, bin op (toAV x) (toAV y) = some (toAV v) ∧ k v = some r := by
  unfold binT at h
  split at h
  · rename_i kx a ky b
    split at h
    · rw [bnd_is] at h
      obtain ⟨n, h1, h2⟩ := h
      refine ⟨_, ?_, h2⟩
      unfold shlI at h1
      split at h1
      · cases h1
      · rename_i hb
        injection h1 with h1
        rw [wrT_eq] at h1
        simp [toAV, bin, shiftI, hb, h1]
    · rw [bnd_is] at h
      obtain ⟨n, h1, h2⟩ := h
      refine ⟨_, ?_, h2⟩
      unfold shrI at h1
      split at h1
      · cases h1
      · rename_i hb
        injection h1 with h1
        simp [toAV, bin, shiftI, hb, h1]
    · split at h
      · rename_i hk
        subst hk
        split at h <;> first
          | (cases h; done)
          | exact ⟨_, by simp [toAV, bin, binI, wrT_eq], h⟩
          | (rw [bnd_is] at h
             obtain ⟨n, h1, h2⟩ := h
             refine ⟨_, ?_, h2⟩
             unfold quoI at h1
             split at h1
             · cases h1
             · rename_i hb
               injection h1 with h1
               rw [wrT_eq] at h1
               simp [toAV, bin, binI, hb, h1])
          | (rw [bnd_is] at h
             obtain ⟨n, h1, h2⟩ := h
             refine ⟨_, ?_, h2⟩
             unfold remI at h1
             split at h1
             · cases h1
             · rename_i hb
               injection h1 with h1
               simp [toAV, bin, binI, hb, h1])
      · cases h
  · split at h
    · rw [bnd_is] at h
      obtain ⟨n, h1, h2⟩ := h
      refine ⟨_, ?_, h2⟩
      unfold catS at h1
      split at h1
      · rename_i hl
        injection h1 with h1
        simp [toAV, bin, binS, hl, h1]
      · cases h1
    · exact ⟨_, by simp [toAV, bin, binS], h⟩
    · exact ⟨_, by simp [toAV, bin, binS], h⟩
    · cases h
  · cases h

theorem lendT_is {s : TS} : ∀ {as : List TV} {j : Nat} {q : List TV × List BT × List Nat}, lendT s as j = some q → lend (toS s) (as.map toAV) j = some (q.1.map toAV, q.2.1.map toBC, q.2.2)
  | [], j, q, h => by simp [lendT] at h; subst h; rfl
  | v :: r, j, q, h => by
    by_cases hv : ∃ b off, v = .bp b off
    · obtain ⟨b, off, rfl⟩ := hv
      simp only [lendT] at h
      split at h
      · rename_i hc
        split at h
        · rename_i cs hb
          rw [bnd_is] at h
          obtain ⟨q', h1, h2⟩ := h
          split at h2
          · cases h2
          · rename_i hn
            injection h2 with h2
            subst h2
            simp only [List.map_cons, toAV, lend, hc, and_self, if_true, toS_b, hb, Option.map_some, toBC, lendT_is h1, bnd_some, hn, Bool.false_eq_true, if_false, toAVs_eq]
            try simp
        · cases h
      · cases h
    · have h' : (match v.isP with | true => none | false => bnd (lendT s r j) fun q => some (v :: q.1, q.2.1, q.2.2)) = some q := by
        cases v with
        | bp b off => exact absurd ⟨b, off, rfl⟩ hv
        | _ => simp only [lendT] at h; exact h
      split at h'
      · cases h'
      · rename_i hp
        rw [bnd_is] at h'
        obtain ⟨q', h1, h2⟩ := h'
        injection h2 with h2
        subst h2
        have e : lend (toS s) (toAV v :: r.map toAV) j = (if (toAV v).isP then none else bnd (lend (toS s) (r.map toAV) j) fun (tv, bv, ls) => some ((toAV v :: tv, bv, ls))) := by
          cases v with
          | bp b off => exact absurd ⟨b, off, rfl⟩ hv
          | _ => simp only [toAV, lend]; rfl
        rw [List.map_cons, e, av_isP, hp, lendT_is h1]
        simp
theorem giveT_is : ∀ {bs : List Nat} {cs : List BT} {s s' : TS}, giveT s bs cs = some s' → giveBack (toS s) bs (cs.map toBC) = some (toS s')
  | [], [], s, s', h => by simp [giveT] at h; subst h; rfl
  | [], c :: cs, s, s', h => by simp [giveT] at h
  | b :: bs, [], s, s', h => by simp [giveT] at h
  | b :: bs, c :: cs, s, s', h => by
    simp only [giveT] at h
    simp only [List.map_cons, giveBack, ← toS_setB]
    exact giveT_is h
theorem callT_is {Φ : CT ρ} {call : Vs.Call} (hΦ : PhiOk Φ call) {s : TS} {g site : Nat} {as : List TV} {k : TV → TS → Option ρ} {r : ρ} (h : callT Φ s g site as k = some r) :
    ∃ v s', callF call (toS s) g site (as.map toAV) = some (toAV v, toS s') ∧ k v s' = some r := by
  unfold callT at h
  rw [bnd_is] at h
  obtain ⟨q, h1, h⟩ := h
  obtain ⟨o, outs, bv', h2, h⟩ := hΦ _ _ _ _ _ h
  rw [bnd_is] at h
  obtain ⟨s1, h3, h⟩ := h
  unfold callF
  rw [lendT_is h1, bnd_some]
  simp only []
  rw [h2, bnd_some]
  simp only []
  rw [giveT_is h3, bnd_some]
  split at h
  · rename_i v
    split at h
    · rename_i cs
      rw [bnd_is] at h
      obtain ⟨s2, h4, h5⟩ := h
      refine ⟨_, s2, ?_, h5⟩
      have := newB_is h4
      simp only [toBC] at this
      simp only [List.map_cons, List.map_nil, toAV, this, bnd_some]
    · split at h
      · cases h
      · rename_i hnp _ hp
        refine ⟨v, s1, ?_, h⟩
        have hp' : (toAV v).isP = false := by rw [av_isP]; exact hp
        cases v with
        | np cs => exact absurd rfl (hnp cs)
        | _ => simp only [List.map_cons, List.map_nil, toAV] at hp' ⊢; simp [hp']
  · cases h
theorem takesOkT_is : ∀ (xs : List OpT), takesOk (xs.map OpT.er) = takesOkT xs
  | [] => rfl
  | x :: xs => by
    have e : ∀ (t : Nat), ((xs.map OpT.er).all fun x => match x with | .take u => u != t | _ => true) = (xs.all fun x => match x with | .take u => u != t | _ => true) := by
      intro t
      rw [List.all_map]
      congr 1
      funext y
      cases y <;> rfl
    cases x <;> simp only [List.map_cons, OpT.er, takesOk, takesOkT, takesOkT_is xs]
    rename_i t
    exact congrArg (· && takesOkT xs) (e t)
theorem captT_is : ∀ {vs : List TV} {s : TS} {q : List TV × TS}, captT s vs = some q → capture (toS s) (vs.map toAV) = some (q.1.map toAV, toS q.2)
  | [], s, q, h => by simp [captT] at h; subst h; rfl
  | v :: r, s, q, h => by
    by_cases hv : ∃ b off, v = .bp b off
    · obtain ⟨b, off, rfl⟩ := hv
      simp only [captT] at h
      split at h
      · rename_i hc
        split at h
        · rename_i cs hb
          rw [bnd_is] at h
          obtain ⟨q', h1, h2⟩ := h
          injection h2 with h2
          subst h2
          have e : toS { s with b := upd s.b b none } = { toS s with b := upd (toS s).b b none } := by
            have e : (fun j => (upd s.b b none j).map toBC) = upd (fun j => (s.b j).map toBC) b none := map_upd (Option.map toBC) s.b b none
            simp only [toS, e]
          have h3 := captT_is h1
          rw [e] at h3
          simp only [List.map_cons, toAV, capture, hc, if_true, toS_b, hb, Option.map_some, toBC, h3, bnd_some, toAVs_eq, map_shr]
        · cases h
      · cases h
    · have h' : (match v.isP with | true => none | false => bnd (captT s r) fun q => some (v.shr :: q.1, q.2)) = some q := by
        cases v with
        | bp b off => exact absurd ⟨b, off, rfl⟩ hv
        | _ => simp only [captT] at h; exact h
      split at h'
      · cases h'
      · rename_i hp
        rw [bnd_is] at h'
        obtain ⟨q', h1, h2⟩ := h'
        injection h2 with h2
        subst h2
        have e : capture (toS s) (toAV v :: r.map toAV) = (if (toAV v).isP then none else bnd (capture (toS s) (r.map toAV)) fun (vs, s') => some (((toAV v).share :: vs, s'))) := by
          cases v with
          | bp b off => exact absurd ⟨b, off, rfl⟩ hv
          | _ => simp only [toAV, capture]; rfl
        rw [List.map_cons, e, av_isP, hp, captT_is h1]
        simp [av_shr]
theorem convT_is {s : TS} {c : CK} {x : TV} {k : TV → TS → Option ρ} {r : ρ} (h : convT s c x k = some r) : ∃ v s', convK (toS s) c (toAV x) = some (toAV v, toS s') ∧ k v s' = some r := by
  unfold convT at h
  split at h
  · exact ⟨_, _, by simp [convK, toAV, wrT_eq], h⟩
  · exact ⟨_, _, by simp [convK, toAV], h⟩
  · rename_i m l
    refine ⟨_, _, ?_, h⟩
    have : rowAV .u8 = fun n => [.int .u8 n] := rfl
    simp only [convK, toAV, TC.sz, this, av_bytes, bnd_some]
  · rename_i b
    split at h
    · rename_i l hb
      refine ⟨_, _, ?_, h⟩
      have : rowAV .u8 = fun n => [.int .u8 n] := rfl
      simp only [convK, toAV, toS_b, hb, Option.map_some, toBC, TC.sz, this, av_bytes, bnd_some]
    · cases h
  · rename_i b l
    rw [bnd_is] at h
    obtain ⟨s1, h1, h2⟩ := h
    refine ⟨_, _, ?_, h2⟩
    have := newB_is h1
    have e : (toBC (.rows .u8 (unbytes l))) = .rows 1 (l.map fun c => [.int .u8 (c.toNat : Int)]) := by
      simp only [toBC, unbytes, List.map_map]; rfl
    rw [e] at this
    simp only [convK, toAV, this, bnd_some]
  · rename_i k' n
    rw [bnd_is] at h
    obtain ⟨l, h1, h2⟩ := h
    refine ⟨_, _, ?_, h2⟩
    unfold rune at h1
    split at h1
    · rename_i hn
      injection h1 with h1
      subst h1
      simp [convK, toAV, hn]
    · cases h1
  · cases h
theorem mapDec_is {c : TC} {G : Nat → List TV} {s : TS} : ∀ {ps : List OpT} {l : List (Den c)}, (ps.mapM fun p => decRow c ((s.get G p).cells.map TV.shr)) = some l →
    (ps.map fun p => (toAV (s.get G p)).cells.map AV.share) = l.map (rowAV c) ∧ ∀ p ∈ ps, (toAV (s.get G p)).cells.length = c.sz ∧ (toAV (s.get G p)).cells.all AV.one = true
  | [], l, h => by simp at h; subst h; simp
  | p :: ps, l, h => by
    simp only [List.mapM_cons, bind, Option.bind_eq_some_iff, pure, Option.some.injEq] at h
    obtain ⟨x, h1, l', h2, rfl⟩ := h
    obtain ⟨h3, h4⟩ := mapDec_is h2
    have e := decRow_is h1
    have e2 : (toAV (s.get G p)).cells.map AV.share = rowAV c x := by rw [av_cells, map_shr, e, rowT_av]
    refine ⟨by simp only [List.map_cons, e2, h3], fun q hq => ?_⟩
    rcases List.mem_cons.1 hq with rfl | hq
    · constructor
      · have := congrArg List.length e2
        rw [List.length_map, rowAV_len] at this
        exact this
      · rw [av_cells, map_one]
        have h5 := rowT_one c x
        rw [← e, List.all_map] at h5
        rw [List.all_eq_true] at h5 ⊢
        intro v hv
        have := h5 v hv
        cases v <;> simp_all [TV.one, TV.shr]
    · exact h4 q hq
end Go.Tv
