/- The statement FnExactCodeText is proved: the law answers true whatever the input; under no condition but that the listed variables hold what the program's text lays, which the card ties. -/
import Derived.Test.YtbgodlimjjgogaaDoorRows
import Derived.Test.YtbgodlimjjgogaaDoorTie
import Derived.Test.YtbgodlimjjgogaaDoorCards
import Derived.Test.YtbgodlimjjgogaaDoorFFnExactCodeText
import Derived.Test.YtbgodlimjjgogaaDoorTvRow
import Derived.KernelRfl
import Derived.SevenTiedAt
import Derived.Test.YtbgodlimjjgogaaDoorTvRow4
import Derived.Test.YtbgodlimjjgogaaDoorBd
import Derived.Test.YtbgodlimjjgogaaDoorShelf
import Derived.Test.YtbgodlimjjgogaaDoorPm1
import Derived.Test.YtbgodlimjjgogaaDoorPm3
namespace Go.Proofs.YtbgodlimjjgogaaDoor.fnExactCodeText
open Go Go.Vs Go.Tv Go.ChangeShapes Go.WideShapes Go.ChangeAt Go.RowKit Go.TFnExactCodeText
open Go.ChangeMaps (open_string shut_string)
set_option linter.unusedVariables false
theorem own : ownKnob Tryd.prog.godebug = none := by kernel_rfl
theorem laidOut : laidOutB Tryd.prog = true := by kernel_rfl
def oF (p : ProcT) (f : Func) : Prop := okFn ctx (FA Tb) 8 p.er f = true
theorem aL {g n : Nat} {f : Func} (e : ctx.fid g = n) (h : Tryd.prog.funcs[n]? = some f) : ctx.P.funcs[ctx.fid g]? = some f := by rw [e]; exact h
theorem ok1000 : oF p1000 Tryd.f29 := by unfold oF; kernel_rfl
theorem ok1600 : oF p1600 Tryd.f38 := by unfold oF; kernel_rfl
theorem ok1700 : oF p1700 Tryd.f37 := by unfold oF; kernel_rfl
theorem ok5000 : oF p5000 Tryd.f28 := by unfold oF; kernel_rfl
theorem ok6400 : oF p6400 Tryd.f36 := by unfold oF; kernel_rfl
theorem ok11800 : oF p11800 Tryd.f43 := by unfold oF; kernel_rfl
theorem ok11900 : oF p11900 Tryd.f35 := by unfold oF; kernel_rfl
theorem ok12000 : oF p12000 Tryd.f18 := by unfold oF; kernel_rfl
theorem ok12100 : oF p12100 Tryd.f8 := by unfold oF; kernel_rfl
theorem ok12200 : oF p12200 Tryd.f27 := by unfold oF; kernel_rfl
theorem ok12300 : oF p12300 Tryd.f11 := by unfold oF; kernel_rfl
theorem ok14600 : oF p14600 Tryd.f13 := by unfold oF; kernel_rfl
theorem ok14700 : oF p14700 Tryd.f30 := by unfold oF; kernel_rfl
theorem ok14800 : oF p14800 Tryd.f15 := by unfold oF; kernel_rfl
theorem ok14900 : oF p14900 Tryd.f31 := by unfold oF; kernel_rfl
theorem ok15000 : oF p15000 Tryd.f34 := by unfold oF; kernel_rfl
theorem ok15100 : oF p15100 Tryd.f17 := by unfold oF; kernel_rfl
theorem ok20500 : oF p20500 Tryd.f20 := by unfold oF; kernel_rfl
theorem ok20600 : oF p20600 Tryd.f19 := by unfold oF; kernel_rfl
theorem ok20700 : oF p20700 Tryd.f21 := by unfold oF; kernel_rfl
theorem ok20800 : oF p20800 Tryd.f7 := by unfold oF; kernel_rfl
theorem ok20900 : oF p20900 Tryd.f22 := by unfold oF; kernel_rfl
theorem ok21000 : oF p21000 Tryd.f24 := by unfold oF; kernel_rfl
theorem ok21100 : oF p21100 Tryd.f9 := by unfold oF; kernel_rfl
theorem ok21700 : oF p21700 Tryd.f14 := by unfold oF; kernel_rfl
theorem ok21900 : oF p21900 Tryd.f6 := by unfold oF; kernel_rfl
theorem at21800 : ctx.P.funcs[ctx.fid 21800]? = some Tryd.f16 := by
 have e : ctx.fid 21800 = 16 := by kernel_rfl
 rw [e]; exact Tryd.func16
theorem at22000 : ctx.P.funcs[ctx.fid 22000]? = some Tryd.f23 := by
 have e : ctx.fid 22000 = 23 := by kernel_rfl
 rw [e]; exact Tryd.func23
theorem prim21800 : Qls ctx 21800 p21800.er := text_prim ⟨⟨Tryd.f16, _, at21800, by kernel_rfl, rfl⟩⟩
theorem prim22000 : Qls ctx 22000 p22000.er := by
 have e : ctx.fid 22000 = 23 := by kernel_rfl
 refine itoa_prim (gp := 1) ⟨⟨Tryd.f23, _, at22000, by kernel_rfl, rfl⟩⟩ (by kernel_rfl) (List.mem_cons_self ..) ?_
 rw [e]
 intro n w h0 h1 ht
 refine (Tryd.strconv_Itoa n h0 h1 w ht).mono ?_
 rintro ed w' ⟨rfl, k, os, rfl⟩
 exact ⟨rfl, by simp [Go.Sort.grow, World.drewN], fun B hB => by simp only [Go.Sort.grow, World.drewN]; rw [Array.getElem?_append_left hB], rfl, rfl, rfl⟩
theorem laid : Laid ctx (FA Tb) := by
 refine laidT (l := tab) (by kernel_rfl) ?_
 have e : tab.map (fun x => (x.1, x.2.er)) = [(1000, p1000.er), (1600, p1600.er), (1700, p1700.er), (5000, p5000.er), (6400, p6400.er), (11800, p11800.er), (11900, p11900.er), (12000, p12000.er), (12100, p12100.er), (12200, p12200.er), (12300, p12300.er), (14600, p14600.er), (14700, p14700.er), (14701, p14701.er), (14800, p14800.er), (14801, p14801.er), (14900, p14900.er), (14901, p14901.er), (15000, p15000.er), (15100, p15100.er), (15101, p15101.er), (20500, p20500.er), (20600, p20600.er), (20700, p20700.er), (20800, p20800.er), (20900, p20900.er), (21000, p21000.er), (21100, p21100.er), (21700, p21700.er), (21701, p21701.er), (21800, p21800.er), (21900, p21900.er), (22000, p22000.er)] := by kernel_rfl
 rw [e]
 exact ⟨fun _ => okFn_spec (aL (by kernel_rfl) Tryd.func29) ok1000, ⟨fun _ => okFn_spec (aL (by kernel_rfl) Tryd.func38) ok1600, ⟨fun _ => okFn_spec (aL (by kernel_rfl) Tryd.func37) ok1700, ⟨fun _ => okFn_spec (aL (by kernel_rfl) Tryd.func28) ok5000, ⟨fun _ => okFn_spec (aL (by kernel_rfl) Tryd.func36) ok6400, ⟨fun _ => okFn_spec (aL (by kernel_rfl) Tryd.func43) ok11800, ⟨fun _ => okFn_spec (aL (by kernel_rfl) Tryd.func35) ok11900, ⟨fun _ => okFn_spec (aL (by kernel_rfl) Tryd.func18) ok12000, ⟨fun _ => okFn_spec (aL (by kernel_rfl) Tryd.func8) ok12100, ⟨fun _ => okFn_spec (aL (by kernel_rfl) Tryd.func27) ok12200, ⟨fun _ => okFn_spec (aL (by kernel_rfl) Tryd.func11) ok12300, ⟨fun _ => okFn_spec (aL (by kernel_rfl) Tryd.func13) ok14600, ⟨fun _ => okFn_spec (aL (by kernel_rfl) Tryd.func30) ok14700, ⟨fun h => absurd h (by decide), ⟨fun _ => okFn_spec (aL (by kernel_rfl) Tryd.func15) ok14800, ⟨fun h => absurd h (by decide), ⟨fun _ => okFn_spec (aL (by kernel_rfl) Tryd.func31) ok14900, ⟨fun h => absurd h (by decide), ⟨fun _ => okFn_spec (aL (by kernel_rfl) Tryd.func34) ok15000, ⟨fun _ => okFn_spec (aL (by kernel_rfl) Tryd.func17) ok15100, ⟨fun h => absurd h (by decide), ⟨fun _ => okFn_spec (aL (by kernel_rfl) Tryd.func20) ok20500, ⟨fun _ => okFn_spec (aL (by kernel_rfl) Tryd.func19) ok20600, ⟨fun _ => okFn_spec (aL (by kernel_rfl) Tryd.func21) ok20700, ⟨fun _ => okFn_spec (aL (by kernel_rfl) Tryd.func7) ok20800, ⟨fun _ => okFn_spec (aL (by kernel_rfl) Tryd.func22) ok20900, ⟨fun _ => okFn_spec (aL (by kernel_rfl) Tryd.func24) ok21000, ⟨fun _ => okFn_spec (aL (by kernel_rfl) Tryd.func9) ok21100, ⟨fun _ => okFn_spec (aL (by kernel_rfl) Tryd.func14) ok21700, ⟨fun h => absurd h (by decide), ⟨fun _ => .inr prim21800, ⟨fun _ => okFn_spec (aL (by kernel_rfl) Tryd.func6) ok21900, ⟨fun _ => .inr prim22000, trivial⟩⟩⟩⟩⟩⟩⟩⟩⟩⟩⟩⟩⟩⟩⟩⟩⟩⟩⟩⟩⟩⟩⟩⟩⟩⟩⟩⟩⟩⟩⟩⟩⟩
def opS : List (List UInt8) := [[124], [94], [38], [61, 61], [60], [60, 60], [62, 62], [43], [45], [42], [47], [37]]
theorem gok {W : World} (h : laidMet Tryd.prog Rows.fnExactCodeTextRow.laid W) : GOk ctx (Qdd W) := by
 have hc := laid_strs h (name := "loop.example/cothreads/impl.opTexts") (zs := opS) (by right; right; right; exact List.mem_cons_self ..) (g := 0) (by kernel_rfl) (by kernel_rfl) Tryd.underlying59 Tryd.underlying9 (by kernel_rfl) (by kernel_rfl)
 intro i
 by_cases hi : i = 0
 ·subst hi
  have e : ctx.G 0 = Qbp (opS.map TV.str) := by kernel_rfl
  have e2 : ctx.gm 0 = 0 := by kernel_rfl
  rw [e, e2]
  exact Qyx (zs := opS) fun j z hz => Qbx.2 ⟨hc j z hz, rfl⟩
 ·have e : ctx.G i = [] := by
   show GA GT i = []
   unfold GA GT; rw [if_neg hi]; rfl
  rw [e]; trivial
theorem fixed {W : World} (h : laidMet Tryd.prog Rows.fnExactCodeTextRow.laid W) : ∀ x ∈ ctx.fx, ∃ o, W.heap[x.1]? = some o ∧ x.2 o := by
 intro x hx
 obtain rfl := List.mem_singleton.1 hx
 have e : Rows.laid_internal_strconv_uint64pow10 = Lib.tabData (H := Unit) .u64 Lib.pow10Tab := by kernel_rfl
 exact laid_pow h (name := "internal/strconv.uint64pow10") (by rw [← e]; right; right; exact List.mem_cons_self ..) (g := 1) (by kernel_rfl) (by kernel_rfl) Tryd.underlying78 Tryd.underlying72 (by kernel_rfl) (by kernel_rfl)
theorem hct (l : List Quad) (hl : (l.length : Int) ≤ 4294967296) : impl_CodeText l = some (Go.Tx.Qtd l) := by
 obtain ⟨c1, c2, c3, c4, c5⟩ := Go.TFnExactCodeText.ct_parts
 have e1 : ctx.fid 21800 = 16 := by kernel_rfl
 have e2 : ctx.fid 14900 = 31 := by kernel_rfl
 have e3 : ctx.fid 22000 = 23 := by kernel_rfl
 have e4 : ctx.fid 21100 = 9 := by kernel_rfl
 have hg : Qne ctx 21800 (l.map (Qe .quad)) (Go.Tx.Qtd l) := by
  refine Go.Tx.text_good (F := Tb) (G := GT) (gv := 14900) (gi := 22000) (gq := 21100) laid rfl (by decide) (by decide) (by decide) (c1 l hl) (c2 l hl) c3 (fun n hn => (c4 n hn).1) ?_ ?_
  ·unfold Go.Tx.Walk
   rw [e1, e2, e3, e4]
   intro l w B0 o cap h1 h2 h3 HV HI HQ
   exact Tryd.ct_walk Lib.itoa Go.Tx.Qyw l w B0 o cap h1 h2 h3 (fun n hn => (c4 n hn).2) c5 HV HI HQ
  ·unfold Go.Tx.Qxe
   rw [e1, e2]
   exact Tryd.ct_none
 apply impl_CodeText_le
 unfold Go.Tx.textT
 rw [if_pos hg]
set_option maxRecDepth 100000 in
theorem lifted (os : Os) (started : os.Started) (H : Type) (enc : TypeId × Value → H) :
  ReturnsInHanded {} Tryd.checked os 6 .any (fun w args => (Rows.fnExactCodeTextSpec.pre enc Tryd.prog Tryd.f6 Rows.fnExactCodeTextRow.domain false w args ∧ laidMetH Tryd.prog Rows.fnExactCodeTextRow.laid w) ∧ sizedMet enc Tryd.prog Tryd.f6 (OpenSpec.ofChange Rows.fnExactCodeTextSpec) false w args)
   (Rows.fnExactCodeTextSpec.post enc Tryd.prog Tryd.f6 false true false false) := by
 refine returnsInHanded_of_change_and (C := Tryd.checked) (X := fun w _ => laidMetH Tryd.prog Rows.fnExactCodeTextRow.laid w) (fun _ _ _ hh h => h.of_heap hh) own started (by kernel_rfl) Tryd.func6
  (ChangeSpec.witness_shaped (enc := enc) (C := Tryd.checked) (os := os) (X := fun w _ => laidMetH Tryd.prog Rows.fnExactCodeTextRow.laid w) false (World.laidAll Tryd.prog os Rows.fnExactCodeTextRow.laid) #[.slice none 0 0] 8 rfl (World.shaped_of_RefB (by kernel_rfl) (by kernel_rfl)) (by kernel_rfl) (by kernel_rfl) (by kernel_rfl)
   (by rw [MakeChecks.laidMetH_plain _ _ _ (by kernel_rfl)]; exact laidMet_laidAll _ (by kernel_rfl) (by kernel_rfl))) ?_
 intro W base args ds gs before hval0 hW _ _ hL0 _
 have hval : ∀ (j : Nat) t v, Tryd.f6.params[j]? = some t → args[j]? = some v → Value.okWide Tryd.prog W .any base t v := hval0
 have hL : laidMet Tryd.prog Rows.fnExactCodeTextRow.laid W := by rw [MakeChecks.laidMetH_plain _ _ _ (by kernel_rfl)] at hL0; exact hL0
 have hW' := hW
 obtain ⟨p, q, hA0, hV, rfl, hfz, hnd⟩ := hW
 have hA : DataW.TrodAll enc Tryd.prog W 0 (fun _ => true) true Tryd.f6.params.toList args.toList ds p := hA0
 have hV' := hV
 rw [Tryd.params6] at hA hval
 obtain ⟨v0, vs0, d0, ds0, p0, q0, hargs, rfl, rfl, h0, r0⟩ := trodAll_cons hA
 obtain ⟨rfl, rfl, rfl⟩ := trodAll_nil r0
 obtain rfl : args = #[v0] := by cases args; simp_all
 obtain ⟨g1, rfl⟩ : ∃ g1, gs = [g1] := by
  match gs, hV' with
  | [g1], _ => exact ⟨g1, rfl⟩
  | [], h => exact h.elim
  | _ :: _ :: _, h => obtain ⟨_, _, _, _, _, _, _, _, _, _, h2, _⟩ := h; exact h2.elim
 have k0 := h0
 have lt0 : ∀ x ∈ p0, x.block < W.heap.size := by obtain ⟨m, hm⟩ := k0; exact DataW.trod_lt m _ _ _ hm
 obtain ⟨a0, y0, l0, w0⟩ := arg_sl (c := .quad) (fid := ctx.fid) Tryd.underlying34 (by kernel_rfl) (by decide) (hval 0 34 v0 rfl rfl) (fun n cs x hx => open_quad (by kernel_rfl) hx) h0
 have hE : Qbq Tb GT Qhy 21900 [.sl .share .quad a0] [] = some true := Go.TFnExactCodeText.laws_FnExactCodeText_eq hct a0 l0 w0
 have hrun := law_top (C := ctx) laid rfl (g := 21900) (by decide) (args := #[v0]) (gok hL) (fixed hL) rfl (by
  intro i c v hc hv
  match i, hc, hv with
  | 0, hc, hv => simp at hc hv; subst hc hv; exact y0
  | i + 1, hc, _ => simp at hc) hE
 have efid : ctx.fid 21900 = 6 := by kernel_rfl
 rw [efid] at hrun
 refine hrun.mono fun e W' ⟨he, bel⟩ => ?_
 subst he
 exact ⟨_, rfl, _, _, _, [], _, _, hW', trodAll_mk1 (shut_bool Tryd.underlying4 _), (trodAll_cons_mk (Below.trod laidOut (by kernel_rfl) (of_decide_eq_true (by kernel_rfl)) k0 bel lt0) trodAll_mk0), Below.trodVars laidOut bel (by kernel_rfl) hV, bel.frame _, fun h => by cases h⟩
theorem over : Rows.fnExactCodeTextRow.holds Tryd.pinned (OpenSpec.ofChange Rows.fnExactCodeTextSpec) :=
 OpenClaim.holds_of_wide 6 Tryd.f6 rfl rfl rfl rfl rfl rfl rfl ⟨rfl, rfl, rfl, rfl, rfl⟩ rfl rfl rfl rfl rfl (by kernel_rfl) Tryd.func6 (by kernel_rfl)
  (of_decide_eq_true (by kernel_rfl)) (by unfold Func.isWrapper; first | (rw [if_pos (by decide +kernel)]; kernel_rfl) | (rw [if_neg (by decide +kernel)]; exact ⟨rfl, rfl⟩))
  (fun os started H enc _ => lifted os started H enc)
theorem card : Rows.FnExactCodeTextCardSaid :=
 Claim7.holds_tied_plain_at .later [] [.data, .data, .data, .data] true (true, "e1d34944e1ff66184accfddc45cda2a16216b2ef3f5b61a825029330b56ecb7f") false
  over (fun _ h => by cases h) (by kernel_rfl) (fun _ h => by cases h) fnExactCodeText_row_tie rfl ⟨rfl, rfl⟩ (by kernel_rfl) rfl
  (fun f fn hf hfn => by
   obtain rfl : f = 6 := Option.some.inj ((show Tryd.prog.funcNamed "loop.example/cothreads/laws.FnExactCodeText" = some 6 by kernel_rfl).symm.trans hf) |>.symm
   obtain rfl : fn = Tryd.f6 := (Option.some.inj (Tryd.func6.symm.trans hfn)).symm
   exact ⟨by kernel_rfl, fun j t ht => by
    rw [Tryd.params6] at ht
    have hm : t ∈ [34] := by simpa using Array.mem_of_getElem? ht
    have hall : ([34].all fun u => !Tryd.prog.wantsStandIn u) = true := by kernel_rfl
    exact (show Tryd.prog.wantsStandIn t = false by simpa using List.all_eq_true.1 hall t hm)⟩)
  (by kernel_rfl)
end Go.Proofs.YtbgodlimjjgogaaDoor.fnExactCodeText
namespace Go.Proofs.YtbgodlimjjgogaaDoor
theorem fnExactCodeText_holds : Rows.FnExactCodeTextCardSaid := fnExactCodeText.card
#print axioms fnExactCodeText_holds
end Go.Proofs.YtbgodlimjjgogaaDoor