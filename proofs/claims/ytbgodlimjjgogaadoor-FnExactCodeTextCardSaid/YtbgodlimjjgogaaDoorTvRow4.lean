/- Laid variables: what a row's condition gives. -/
import Derived.Test.YtbgodlimjjgogaaDoorTvRow
import Derived.Test.YtbgodlimjjgogaaDoorPm3
import Derived.LaidLaws
import Derived.LaidHandle
import Derived.Lay
import Derived.OpenVars
import Derived.LaidMore
import Derived.Stop.Joined
set_option linter.unusedVariables false
namespace Go.Tv
open Go Go.RowKit Go.Vs
theorem Qnu {P : Program} {W : World} : ∀ {l : List (String × DataW Unit)} {ps : List MemPlace}, DataW.LaidVars P W l ps → ∀ x ∈ l,
  ∃ g t cs fuel p, P.globalNamed x.1 = some g ∧ (P.globals[g]?).map (·.type) = some t ∧ W.var? P x.1 = some cs ∧ DataW.trod (fun _ => ()) P W 0 (fun _ => true) false fuel t cs.toList = some (x.2, p)
 | [], _, _, x, hx => by cases hx
 | (n, d) :: r, ps, h, x, hx => by
  obtain ⟨g, t, cs, fuel, p, q, h1, h2, h3, h4, h5, _⟩ := h
  rcases List.mem_cons.1 hx with rfl | hx
  ·exact ⟨g, t, cs, fuel, p, h1, h2, h3, h4⟩
  ·exact Qnu h5 x hx
theorem Qnm {H : Type} {enc : TypeId × Value → H} {P : Program} {w : World} {base : Nat} {sp : Nat → Bool} {held : Bool} {fuel : Nat} {t e : TypeId} {n : Nat} {cs : List Value} {zs : List (List UInt8)} {p : List MemPlace}
  (ht : P.underlying t = some (.array n e)) (he : P.underlying e = some .string) (hce : P.cellsOf e = 1) (hct : P.cellsOf t = n)
  (h : DataW.trod enc P w base sp held fuel t cs = some (.agg (zs.map fun z => .lit (.string z)), p)) : cs = zs.map fun z => Value.string ⟨z.toArray⟩ := by
 cases fuel with
 | zero => simp [DataW.trod] at h
 | succ fuel =>
  simp only [DataW.trod, ht, hce, hct, Nat.mul_one] at h
  split at h
  ·rename_i hl
   obtain ⟨xs, hm, hx⟩ := Option.map_eq_some_iff.1 h
   have hxs : xs.map (·.1) = zs.map fun z => (DataW.lit (.string z) : DataW H) := by
    have := congrArg Prod.fst hx
    simpa using this
   have hxl : xs.length = n := by simpa using Lib.mapM_length hm
   have hzl : zs.length = n := by
    have := congrArg List.length hxs
    simp at this
    omega
   apply List.ext_getElem?
   intro i
   by_cases hi : i < n
   ·obtain ⟨b, hb, hf⟩ := Lib.mapM_at hm i i (by simp [hi])
    obtain ⟨z, hc, rfl, _⟩ := DataW.trod_string he hf
    have h1 : cs[i]? = some (.string z) := by
     have := congrArg (·[0]?) hc
     simpa [List.getElem?_take, List.getElem?_drop] using this
    have h2 : (xs.map (·.1))[i]? = some (DataW.lit (.string z.data.toList) : DataW H) := by simp [hb]
    rw [hxs] at h2
    simp only [List.getElem?_map, Option.map_eq_some_iff, DataW.lit.injEq, Lit.string.injEq] at h2
    obtain ⟨z', hz', rfl⟩ := h2
    simp [h1, hz']
   ·rw [List.getElem?_eq_none (by omega), List.getElem?_eq_none (by simp; omega)]
  ·cases h
theorem laid_strs {P : Program} {W : World} {laid : List (String × DataW Unit)} (h : laidMet P laid W) {name : String} {zs : List (List UInt8)} (hm : (name, .agg (zs.map fun z => .lit (.string z))) ∈ laid)
  {g : Nat} {t e : TypeId} {n : Nat} (hg : P.globalNamed name = some g) (hty : (P.globals[g]?).map (·.type) = some t) (ht : P.underlying t = some (.array n e)) (he : P.underlying e = some .string) (hce : P.cellsOf e = 1) (hct : P.cellsOf t = n) :
  ∀ (j : Nat) z, zs[j]? = some z → W.cell? ⟨g, j, none⟩ = some (.string ⟨z.toArray⟩) := by
 obtain ⟨ps, hv, _⟩ := h
 obtain ⟨g', t', cs, fuel, p, h1, h2, h3, h4⟩ := Qnu hv _ hm
 simp only at h1 h2 h3 h4
 obtain rfl := Option.some.inj (hg.symm.trans h1)
 obtain rfl := Option.some.inj (hty.symm.trans h2)
 have hcs := Qnm ht he hce hct h4
 intro j z hz
 rw [World.var?_cell hg h3 j, ← Array.getElem?_toList, hcs, List.getElem?_map, hz]; rfl
theorem laid_pow {P : Program} {W : World} {laid : List (String × DataW Unit)} (h : laidMet P laid W) {name : String} (hm : (name, Lib.tabData .u64 Lib.pow10Tab) ∈ laid)
  {g : Nat} {t e : TypeId} {n : Nat} (hg : P.globalNamed name = some g) (hty : (P.globals[g]?).map (·.type) = some t) (ht : P.underlying t = some (.array n e)) (he : P.underlying e = some (.int .u64)) (hce : P.cellsOf e = 1) (hct : P.cellsOf t = n) :
  ∃ o, W.heap[g]? = some o ∧ powFx o := by
 obtain ⟨ps, hv, _⟩ := h
 obtain ⟨g', t', cs, fuel, p, h1, h2, h3, h4⟩ := Qnu hv _ hm
 simp only at h1 h2 h3 h4
 obtain rfl := Option.some.inj (hg.symm.trans h1)
 obtain rfl := Option.some.inj (hty.symm.trans h2)
 have hcs := Lib.cells_of_tab ht he hce hct h4
 simp only [World.var?, hg, Option.bind_some] at h3
 split at h3
 ·rename_i cs' t' m hh
  injection h3 with h3
  subst h3
  refine ⟨_, hh, t', m, ?_⟩
  rw [← hcs]
 ·cases h3
theorem Qyx {fid : Nat → Nat} {σ : Mem} : ∀ {zs : List (List UInt8)} {f : Nat → Option Value}, (∀ (j : Nat) z, zs[j]? = some z → f j = some (.string ⟨z.toArray⟩)) → RepL fid σ (Qbp (zs.map TV.str)) f
 | [], f, h => by simp [Qbp, RepL]
 | z :: zs, f, h => by
  simp only [List.map_cons, Qbp, toAV, RepL]
  exact ⟨⟨_, h 0 z rfl, by simp [RepP]⟩, Qyx fun j z' hz => h (j + 1) z' (by simpa using hz)⟩
end Go.Tv