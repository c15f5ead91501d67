/- The statement FnQuadTextOther is proved: the law answers true whatever the input; under no condition but that the listed variables hold what the program's text lays, which the card ties. -/
import Derived.Test.YtbgodlimjjgogaaDoorRows
import Derived.Test.YtbgodlimjjgogaaDoorTie
import Derived.Test.YtbgodlimjjgogaaDoorCards
import Derived.Test.YtbgodlimjjgogaaDoorFFnQuadTextOther
import Derived.Test.YtbgodlimjjgogaaDoorTvRow
import Derived.KernelRfl
import Derived.SevenTiedAt
import Derived.Test.YtbgodlimjjgogaaDoorTvRow4
import Derived.Test.YtbgodlimjjgogaaDoorShelf
import Derived.Test.YtbgodlimjjgogaaDoorPm1
import Derived.Test.YtbgodlimjjgogaaDoorPm3
namespace Go.Proofs.YtbgodlimjjgogaaDoor.fnQuadTextOther
open Go Go.Vs Go.Tv Go.ChangeShapes Go.WideShapes Go.ChangeAt Go.RowKit Go.TFnQuadTextOther
open Go.ChangeMaps (open_string shut_string)
set_option linter.unusedVariables false
theorem own : ownKnob Tryd.prog.godebug = none := by kernel_rfl
theorem laidOut : laidOutB Tryd.prog = true := by kernel_rfl
def fids : List (Nat × Nat) := [(100, 26), (200, 41), (600, 47), (1000, 29), (1600, 38), (1700, 37), (3700, 53), (3800, 46), (5000, 28), (6400, 36), (11800, 43), (11900, 35), (12000, 18), (12200, 27), (12300, 11), (15300, 45), (15400, 40), (15500, 25), (20500, 20), (20600, 19), (20700, 21), (20800, 7), (20900, 22), (21000, 24), (21100, 9), (21300, 10), (21400, 4), (22000, 23)]
noncomputable def ctx : Ctx := { P := Tryd.prog, fid := fun g => (Vs.look g fids).getD 0, gm := fun i => if i = 0 then 0 else 1000000, G := GA GT, fx := [(1, powFx)] }
theorem ok100 : okFn ctx (FA Tb) 8 p100.er Tryd.f26 = true := by kernel_rfl
theorem ok200 : okFn ctx (FA Tb) 8 p200.er Tryd.f41 = true := by kernel_rfl
theorem ok600 : okFn ctx (FA Tb) 8 p600.er Tryd.f47 = true := by kernel_rfl
theorem ok1000 : okFn ctx (FA Tb) 8 p1000.er Tryd.f29 = true := by kernel_rfl
theorem ok1600 : okFn ctx (FA Tb) 8 p1600.er Tryd.f38 = true := by kernel_rfl
theorem ok1700 : okFn ctx (FA Tb) 8 p1700.er Tryd.f37 = true := by kernel_rfl
theorem ok3700 : okFn ctx (FA Tb) 8 p3700.er Tryd.f53 = true := by kernel_rfl
theorem ok3800 : okFn ctx (FA Tb) 8 p3800.er Tryd.f46 = true := by kernel_rfl
theorem ok5000 : okFn ctx (FA Tb) 8 p5000.er Tryd.f28 = true := by kernel_rfl
theorem ok6400 : okFn ctx (FA Tb) 8 p6400.er Tryd.f36 = true := by kernel_rfl
theorem ok11800 : okFn ctx (FA Tb) 8 p11800.er Tryd.f43 = true := by kernel_rfl
theorem ok11900 : okFn ctx (FA Tb) 8 p11900.er Tryd.f35 = true := by kernel_rfl
theorem ok12000 : okFn ctx (FA Tb) 8 p12000.er Tryd.f18 = true := by kernel_rfl
theorem ok12200 : okFn ctx (FA Tb) 8 p12200.er Tryd.f27 = true := by kernel_rfl
theorem ok12300 : okFn ctx (FA Tb) 8 p12300.er Tryd.f11 = true := by kernel_rfl
theorem ok15300 : okFn ctx (FA Tb) 8 p15300.er Tryd.f45 = true := by kernel_rfl
theorem ok15400 : okFn ctx (FA Tb) 8 p15400.er Tryd.f40 = true := by kernel_rfl
theorem ok15500 : okFn ctx (FA Tb) 8 p15500.er Tryd.f25 = true := by kernel_rfl
theorem ok20500 : okFn ctx (FA Tb) 8 p20500.er Tryd.f20 = true := by kernel_rfl
theorem ok20600 : okFn ctx (FA Tb) 8 p20600.er Tryd.f19 = true := by kernel_rfl
theorem ok20700 : okFn ctx (FA Tb) 8 p20700.er Tryd.f21 = true := by kernel_rfl
theorem ok20800 : okFn ctx (FA Tb) 8 p20800.er Tryd.f7 = true := by kernel_rfl
theorem ok20900 : okFn ctx (FA Tb) 8 p20900.er Tryd.f22 = true := by kernel_rfl
theorem ok21000 : okFn ctx (FA Tb) 8 p21000.er Tryd.f24 = true := by kernel_rfl
theorem ok21100 : okFn ctx (FA Tb) 8 p21100.er Tryd.f9 = true := by kernel_rfl
theorem ok21300 : okFn ctx (FA Tb) 8 p21300.er Tryd.f10 = true := by kernel_rfl
theorem ok21400 : okFn ctx (FA Tb) 8 p21400.er Tryd.f4 = true := by kernel_rfl
theorem at100 : ctx.P.funcs[ctx.fid 100]? = some Tryd.f26 := by
  have e : ctx.fid 100 = 26 := by kernel_rfl
  rw [e]; exact Tryd.func26
theorem at200 : ctx.P.funcs[ctx.fid 200]? = some Tryd.f41 := by
  have e : ctx.fid 200 = 41 := by kernel_rfl
  rw [e]; exact Tryd.func41
theorem at600 : ctx.P.funcs[ctx.fid 600]? = some Tryd.f47 := by
  have e : ctx.fid 600 = 47 := by kernel_rfl
  rw [e]; exact Tryd.func47
theorem at1000 : ctx.P.funcs[ctx.fid 1000]? = some Tryd.f29 := by
  have e : ctx.fid 1000 = 29 := by kernel_rfl
  rw [e]; exact Tryd.func29
theorem at1600 : ctx.P.funcs[ctx.fid 1600]? = some Tryd.f38 := by
  have e : ctx.fid 1600 = 38 := by kernel_rfl
  rw [e]; exact Tryd.func38
theorem at1700 : ctx.P.funcs[ctx.fid 1700]? = some Tryd.f37 := by
  have e : ctx.fid 1700 = 37 := by kernel_rfl
  rw [e]; exact Tryd.func37
theorem at3700 : ctx.P.funcs[ctx.fid 3700]? = some Tryd.f53 := by
  have e : ctx.fid 3700 = 53 := by kernel_rfl
  rw [e]; exact Tryd.func53
theorem at3800 : ctx.P.funcs[ctx.fid 3800]? = some Tryd.f46 := by
  have e : ctx.fid 3800 = 46 := by kernel_rfl
  rw [e]; exact Tryd.func46
theorem at5000 : ctx.P.funcs[ctx.fid 5000]? = some Tryd.f28 := by
  have e : ctx.fid 5000 = 28 := by kernel_rfl
  rw [e]; exact Tryd.func28
theorem at6400 : ctx.P.funcs[ctx.fid 6400]? = some Tryd.f36 := by
  have e : ctx.fid 6400 = 36 := by kernel_rfl
  rw [e]; exact Tryd.func36
theorem at11800 : ctx.P.funcs[ctx.fid 11800]? = some Tryd.f43 := by
  have e : ctx.fid 11800 = 43 := by kernel_rfl
  rw [e]; exact Tryd.func43
theorem at11900 : ctx.P.funcs[ctx.fid 11900]? = some Tryd.f35 := by
  have e : ctx.fid 11900 = 35 := by kernel_rfl
  rw [e]; exact Tryd.func35
theorem at12000 : ctx.P.funcs[ctx.fid 12000]? = some Tryd.f18 := by
  have e : ctx.fid 12000 = 18 := by kernel_rfl
  rw [e]; exact Tryd.func18
theorem at12200 : ctx.P.funcs[ctx.fid 12200]? = some Tryd.f27 := by
  have e : ctx.fid 12200 = 27 := by kernel_rfl
  rw [e]; exact Tryd.func27
theorem at12300 : ctx.P.funcs[ctx.fid 12300]? = some Tryd.f11 := by
  have e : ctx.fid 12300 = 11 := by kernel_rfl
  rw [e]; exact Tryd.func11
theorem at15300 : ctx.P.funcs[ctx.fid 15300]? = some Tryd.f45 := by
  have e : ctx.fid 15300 = 45 := by kernel_rfl
  rw [e]; exact Tryd.func45
theorem at15400 : ctx.P.funcs[ctx.fid 15400]? = some Tryd.f40 := by
  have e : ctx.fid 15400 = 40 := by kernel_rfl
  rw [e]; exact Tryd.func40
theorem at15500 : ctx.P.funcs[ctx.fid 15500]? = some Tryd.f25 := by
  have e : ctx.fid 15500 = 25 := by kernel_rfl
  rw [e]; exact Tryd.func25
theorem at20500 : ctx.P.funcs[ctx.fid 20500]? = some Tryd.f20 := by
  have e : ctx.fid 20500 = 20 := by kernel_rfl
  rw [e]; exact Tryd.func20
theorem at20600 : ctx.P.funcs[ctx.fid 20600]? = some Tryd.f19 := by
  have e : ctx.fid 20600 = 19 := by kernel_rfl
  rw [e]; exact Tryd.func19
theorem at20700 : ctx.P.funcs[ctx.fid 20700]? = some Tryd.f21 := by
  have e : ctx.fid 20700 = 21 := by kernel_rfl
  rw [e]; exact Tryd.func21
theorem at20800 : ctx.P.funcs[ctx.fid 20800]? = some Tryd.f7 := by
  have e : ctx.fid 20800 = 7 := by kernel_rfl
  rw [e]; exact Tryd.func7
theorem at20900 : ctx.P.funcs[ctx.fid 20900]? = some Tryd.f22 := by
  have e : ctx.fid 20900 = 22 := by kernel_rfl
  rw [e]; exact Tryd.func22
theorem at21000 : ctx.P.funcs[ctx.fid 21000]? = some Tryd.f24 := by
  have e : ctx.fid 21000 = 24 := by kernel_rfl
  rw [e]; exact Tryd.func24
theorem at21100 : ctx.P.funcs[ctx.fid 21100]? = some Tryd.f9 := by
  have e : ctx.fid 21100 = 9 := by kernel_rfl
  rw [e]; exact Tryd.func9
theorem at21300 : ctx.P.funcs[ctx.fid 21300]? = some Tryd.f10 := by
  have e : ctx.fid 21300 = 10 := by kernel_rfl
  rw [e]; exact Tryd.func10
theorem at21400 : ctx.P.funcs[ctx.fid 21400]? = some Tryd.f4 := by
  have e : ctx.fid 21400 = 4 := by kernel_rfl
  rw [e]; exact Tryd.func4
theorem at22000 : ctx.P.funcs[ctx.fid 22000]? = some Tryd.f23 := by
  have e : ctx.fid 22000 = 23 := by kernel_rfl
  rw [e]; exact Tryd.func23
theorem prim22000 : PrimOk ctx 22000 p22000.er := by
  have e : ctx.fid 22000 = 23 := by kernel_rfl
  refine itoa_prim (gp := 1) ⟨⟨Tryd.f23, _, at22000, by kernel_rfl, rfl⟩⟩ (by kernel_rfl) (List.mem_cons_self ..) ?_
  rw [e]
  intro n w h0 h1 ht
  refine (Tryd.strconv_Itoa n h0 h1 w ht).mono ?_
  rintro ed w' ⟨rfl, k, os, rfl⟩
  exact ⟨rfl, by simp [Go.Sort.grow, World.drewN], fun B hB => by simp only [Go.Sort.grow, World.drewN]; rw [Array.getElem?_append_left hB], rfl, rfl, rfl⟩
theorem laid : Laid ctx (FA Tb) := by
  refine laidT (l := tab) (by kernel_rfl) ?_
  have e : tab.map (fun x => (x.1, x.2.er)) = [(100, p100.er), (200, p200.er), (600, p600.er), (1000, p1000.er), (1600, p1600.er), (1700, p1700.er), (3700, p3700.er), (3800, p3800.er), (5000, p5000.er), (6400, p6400.er), (11800, p11800.er), (11900, p11900.er), (12000, p12000.er), (12200, p12200.er), (12300, p12300.er), (15300, p15300.er), (15400, p15400.er), (15500, p15500.er), (20500, p20500.er), (20600, p20600.er), (20700, p20700.er), (20800, p20800.er), (20900, p20900.er), (21000, p21000.er), (21100, p21100.er), (21300, p21300.er), (21400, p21400.er), (22000, p22000.er)] := by kernel_rfl
  rw [e]
  exact ⟨fun _ => okFn_spec at100 ok100, ⟨fun _ => okFn_spec at200 ok200, ⟨fun _ => okFn_spec at600 ok600, ⟨fun _ => okFn_spec at1000 ok1000, ⟨fun _ => okFn_spec at1600 ok1600, ⟨fun _ => okFn_spec at1700 ok1700, ⟨fun _ => okFn_spec at3700 ok3700, ⟨fun _ => okFn_spec at3800 ok3800, ⟨fun _ => okFn_spec at5000 ok5000, ⟨fun _ => okFn_spec at6400 ok6400, ⟨fun _ => okFn_spec at11800 ok11800, ⟨fun _ => okFn_spec at11900 ok11900, ⟨fun _ => okFn_spec at12000 ok12000, ⟨fun _ => okFn_spec at12200 ok12200, ⟨fun _ => okFn_spec at12300 ok12300, ⟨fun _ => okFn_spec at15300 ok15300, ⟨fun _ => okFn_spec at15400 ok15400, ⟨fun _ => okFn_spec at15500 ok15500, ⟨fun _ => okFn_spec at20500 ok20500, ⟨fun _ => okFn_spec at20600 ok20600, ⟨fun _ => okFn_spec at20700 ok20700, ⟨fun _ => okFn_spec at20800 ok20800, ⟨fun _ => okFn_spec at20900 ok20900, ⟨fun _ => okFn_spec at21000 ok21000, ⟨fun _ => okFn_spec at21100 ok21100, ⟨fun _ => okFn_spec at21300 ok21300, ⟨fun _ => okFn_spec at21400 ok21400, ⟨fun _ => .inr prim22000, trivial⟩⟩⟩⟩⟩⟩⟩⟩⟩⟩⟩⟩⟩⟩⟩⟩⟩⟩⟩⟩⟩⟩⟩⟩⟩⟩⟩⟩
def opS : List (List UInt8) := [[124], [94], [38], [61, 61], [60], [60, 60], [62, 62], [43], [45], [42], [47], [37]]
theorem gok {W : World} (h : laidMet Tryd.prog Rows.fnQuadTextOtherRow.laid W) : GOk ctx (memOf W) := by
  have hc := laid_strs h (name := "loop.example/cothreads/impl.opTexts") (zs := opS) (by right; right; right; exact List.mem_cons_self ..) (g := 0) (by kernel_rfl) (by kernel_rfl) Tryd.underlying59 Tryd.underlying9 (by kernel_rfl) (by kernel_rfl)
  intro i
  by_cases hi : i = 0
  · subst hi
    have e : ctx.G 0 = toAVs (opS.map TV.str) := by kernel_rfl
    have e2 : ctx.gm 0 = 0 := by kernel_rfl
    rw [e, e2]
    exact rep_strs (zs := opS) fun j z hz => memOf_iff.2 ⟨hc j z hz, rfl⟩
  · have e : ctx.G i = [] := by
      show GA GT i = []
      unfold GA GT; rw [if_neg hi]; rfl
    rw [e]; trivial
theorem fixed {W : World} (h : laidMet Tryd.prog Rows.fnQuadTextOtherRow.laid W) : ∀ x ∈ ctx.fx, ∃ o, W.heap[x.1]? = some o ∧ x.2 o := by
  intro x hx
  obtain rfl := List.mem_singleton.1 hx
  have e : Rows.laid_internal_strconv_uint64pow10 = Lib.tabData (H := Unit) .u64 Lib.pow10Tab := by kernel_rfl
  exact laid_pow h (name := "internal/strconv.uint64pow10") (by rw [← e]; right; right; exact List.mem_cons_self ..) (g := 1) (by kernel_rfl) (by kernel_rfl) Tryd.underlying78 Tryd.underlying72 (by kernel_rfl) (by kernel_rfl)
set_option maxRecDepth 100000 in
theorem lifted (os : Os) (started : os.Started) (H : Type) (enc : TypeId × Value → H) :
    ReturnsInHanded {} Tryd.checked os 4 .any (fun w args => (Rows.fnQuadTextOtherSpec.pre enc Tryd.prog Tryd.f4 Rows.fnQuadTextOtherRow.domain false w args ∧ laidMetH Tryd.prog Rows.fnQuadTextOtherRow.laid w) ∧ sizedMet enc Tryd.prog Tryd.f4 (OpenSpec.ofChange Rows.fnQuadTextOtherSpec) false w args)
      (Rows.fnQuadTextOtherSpec.post enc Tryd.prog Tryd.f4 false true false false) := by
  refine returnsInHanded_of_change_and (C := Tryd.checked) (X := fun w _ => laidMetH Tryd.prog Rows.fnQuadTextOtherRow.laid w) (fun _ _ _ hh h => h.of_heap hh) own started (by kernel_rfl) Tryd.func4
    (ChangeSpec.witness_shaped (enc := enc) (C := Tryd.checked) (os := os) (X := fun w _ => laidMetH Tryd.prog Rows.fnQuadTextOtherRow.laid w) false (World.laidAll Tryd.prog os Rows.fnQuadTextOtherRow.laid) #[.slice none 0 0, .slice none 0 0] 8 rfl (World.shaped_of_RefB (by kernel_rfl) (by kernel_rfl)) (by kernel_rfl) (by kernel_rfl) (by kernel_rfl)
      (by rw [MakeChecks.laidMetH_plain _ _ _ (by kernel_rfl)]; exact laidMet_laidAll _ (by kernel_rfl) (by kernel_rfl))) ?_
  intro W base args ds gs before hval0 hW _ _ hL0 _
  have hval : ∀ (j : Nat) t v, Tryd.f4.params[j]? = some t → args[j]? = some v → Value.okWide Tryd.prog W .any base t v := hval0
  have hL : laidMet Tryd.prog Rows.fnQuadTextOtherRow.laid W := by rw [MakeChecks.laidMetH_plain _ _ _ (by kernel_rfl)] at hL0; exact hL0
  have hW' := hW
  obtain ⟨p, q, hA0, hV, rfl, hfz, hnd⟩ := hW
  have hA : DataW.TrodAll enc Tryd.prog W 0 (fun _ => true) true Tryd.f4.params.toList args.toList ds p := hA0
  have hV' := hV
  rw [Tryd.params4] at hA hval
  obtain ⟨v0, vs0, d0, ds0, p0, q0, hargs, rfl, rfl, h0, r0⟩ := trodAll_cons hA
  obtain ⟨v1, vs1, d1, ds1, p1, q1, rfl, rfl, rfl, h1, r1⟩ := trodAll_cons r0
  obtain ⟨rfl, rfl, rfl⟩ := trodAll_nil r1
  obtain rfl : args = #[v0, v1] := by cases args; simp_all
  obtain ⟨g1, rfl⟩ : ∃ g1, gs = [g1] := by
    match gs, hV' with
    | [g1], _ => exact ⟨g1, rfl⟩
    | [], h => exact h.elim
    | _ :: _ :: _, h => obtain ⟨_, _, _, _, _, _, _, _, _, _, h2, _⟩ := h; exact h2.elim
  have k0 := h0
  have lt0 : ∀ x ∈ p0, x.block < W.heap.size := by obtain ⟨m, hm⟩ := k0; exact DataW.trod_lt m _ _ _ hm
  obtain ⟨a0, y0, w0⟩ := arg_bytes (fid := ctx.fid) Tryd.underlying28 (by kernel_rfl) (hval 0 28 v0 rfl rfl) h0
  have k1 := h1
  have lt1 : ∀ x ∈ p1, x.block < W.heap.size := by obtain ⟨m, hm⟩ := k1; exact DataW.trod_lt m _ _ _ hm
  obtain ⟨a1, y1, w1⟩ := arg_bytes (fid := ctx.fid) Tryd.underlying28 (by kernel_rfl) (hval 1 28 v1 rfl rfl) h1
  have hE : callTy Tb GT boolSig 21400 [.sl .share .u8 a0, .sl .share .u8 a1] [] = some true := Go.TFnQuadTextOther.laws_FnQuadTextOther_eq a0 w0 a1 w1
  have hrun := law_top (C := ctx) laid rfl (g := 21400) (by decide) (args := #[v0, v1]) (gok hL) (fixed hL) rfl (by
    intro i c v hc hv
    match i, hc, hv with
    | 0, hc, hv => simp at hc hv; subst hc hv; exact y0
    | 1, hc, hv => simp at hc hv; subst hc hv; exact y1
    | i + 2, hc, _ => simp at hc) hE
  have efid : ctx.fid 21400 = 4 := by kernel_rfl
  rw [efid] at hrun
  refine hrun.mono fun e W' ⟨he, bel⟩ => ?_
  subst he
  exact ⟨_, rfl, _, _, _, [], _, _, hW', trodAll_mk1 (shut_bool Tryd.underlying4 _), (trodAll_cons_mk (Below.trod laidOut (by kernel_rfl) (of_decide_eq_true (by kernel_rfl)) k0 bel lt0) (trodAll_cons_mk (Below.trod laidOut (by kernel_rfl) (of_decide_eq_true (by kernel_rfl)) k1 bel lt1) trodAll_mk0)), Below.trodVars laidOut bel (by kernel_rfl) hV, bel.frame _, fun h => by cases h⟩
theorem over : Rows.fnQuadTextOtherRow.holds Tryd.pinned (OpenSpec.ofChange Rows.fnQuadTextOtherSpec) :=
  OpenClaim.holds_of_wide 4 Tryd.f4 rfl rfl rfl rfl rfl rfl rfl ⟨rfl, rfl, rfl, rfl, rfl⟩ rfl rfl rfl rfl rfl (by kernel_rfl) Tryd.func4 (by kernel_rfl)
    (of_decide_eq_true (by kernel_rfl)) (by unfold Func.isWrapper; first | (rw [if_pos (by decide +kernel)]; kernel_rfl) | (rw [if_neg (by decide +kernel)]; exact ⟨rfl, rfl⟩))
    (fun os started H enc _ => lifted os started H enc)
theorem card : Rows.FnQuadTextOtherCardSaid :=
  Claim7.holds_tied_plain_at .later [] [.data, .data, .data, .data] true (true, "e1d34944e1ff66184accfddc45cda2a16216b2ef3f5b61a825029330b56ecb7f") false
    over (fun _ h => by cases h) (by kernel_rfl) (fun _ h => by cases h) fnQuadTextOther_row_tie rfl ⟨rfl, rfl⟩ (by kernel_rfl) rfl
    (fun f fn hf hfn => by
      obtain rfl : f = 4 := Option.some.inj ((show Tryd.prog.funcNamed "loop.example/cothreads/laws.FnQuadTextOther" = some 4 by kernel_rfl).symm.trans hf) |>.symm
      obtain rfl : fn = Tryd.f4 := (Option.some.inj (Tryd.func4.symm.trans hfn)).symm
      exact ⟨by kernel_rfl, fun j t ht => by
        rw [Tryd.params4] at ht
        have hm : t ∈ [28] := by simpa using Array.mem_of_getElem? ht
        have hall : ([28].all fun u => !Tryd.prog.wantsStandIn u) = true := by kernel_rfl
        exact (show Tryd.prog.wantsStandIn t = false by simpa using List.all_eq_true.1 hall t hm)⟩)
    (by kernel_rfl)
end Go.Proofs.YtbgodlimjjgogaaDoor.fnQuadTextOther
namespace Go.Proofs.YtbgodlimjjgogaaDoor
/-- The card. -/
theorem fnQuadTextOther_holds : Rows.FnQuadTextOtherCardSaid := fnQuadTextOther.card
#print axioms fnQuadTextOther_holds
end Go.Proofs.YtbgodlimjjgogaaDoor
