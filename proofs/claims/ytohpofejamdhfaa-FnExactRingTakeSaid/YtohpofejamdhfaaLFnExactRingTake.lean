/- The statement FnExactRingTake is proved: the law answers true whatever the input; under no condition. -/
import Derived.Test.YtohpofejamdhfaaRows
import Derived.Test.YtohpofejamdhfaaFFnExactRingTake
import Derived.Test.YtohpofejamdhfaaTvRow5
import Derived.KernelRfl
import Derived.Test.YtohpofejamdhfaaShelf
import Derived.Test.YtohpofejamdhfaaPm1
import Derived.Test.YtohpofejamdhfaaPm3
namespace Go.Proofs.Ytohpofejamdhfaa.fnExactRingTake
open Go Go.Vs Go.Tv Go.ChangeShapes Go.WideShapes Go.ChangeAt Go.RowKit Go.TFnExactRingTake
open Go.ChangeMaps (open_string shut_string)
set_option linter.unusedVariables false
theorem own : ownKnob Try.prog.godebug = none := by kernel_rfl
theorem laidOut : laidOutB Try.prog = true := by kernel_rfl
def fids : List (Nat × Nat) := [(1600, 57), (5000, 52), (5100, 55), (6400, 54), (6500, 58), (7200, 40), (7800, 42), (8400, 44), (10600, 46), (16200, 13), (16300, 41), (16400, 14), (16500, 15), (16600, 36), (16700, 43), (16800, 16), (16900, 17), (17100, 19), (17200, 3), (38200, 43), (38700, 45), (39100, 15), (39200, 16), (39300, 18), (39600, 42)]
noncomputable def ctx : Ctx := { P := Try.prog, fid := fun g => (Vs.look g fids).getD 0, gm := fun _ => 0, G := GA GT }
theorem ok1600 : okFn ctx (FA Tb) 8 p1600.er Try.f57 = true := by kernel_rfl
theorem ok5000 : okFn ctx (FA Tb) 8 p5000.er Try.f52 = true := by kernel_rfl
theorem ok5100 : okFn ctx (FA Tb) 8 p5100.er Try.f55 = true := by kernel_rfl
theorem ok6400 : okFn ctx (FA Tb) 8 p6400.er Try.f54 = true := by kernel_rfl
theorem ok6500 : okFn ctx (FA Tb) 8 p6500.er Try.f58 = true := by kernel_rfl
theorem ok7200 : okFn ctx (FA Tb) 8 p7200.er Try.f40 = true := by kernel_rfl
theorem ok7800 : okFn ctx (FA Tb) 8 p7800.er Try.f42 = true := by kernel_rfl
theorem ok8400 : okFn ctx (FA Tb) 8 p8400.er Try.f44 = true := by kernel_rfl
theorem ok10600 : okFn ctx (FA Tb) 8 p10600.er Try.f46 = true := by kernel_rfl
theorem ok16200 : okFn ctx (FA Tb) 8 p16200.er Try.f13 = true := by kernel_rfl
theorem ok16300 : okFn ctx (FA Tb) 8 p16300.er Try.f41 = true := by kernel_rfl
theorem ok16400 : okFn ctx (FA Tb) 8 p16400.er Try.f14 = true := by kernel_rfl
theorem ok16500 : okFn ctx (FA Tb) 8 p16500.er Try.f15 = true := by kernel_rfl
theorem ok16600 : okFn ctx (FA Tb) 8 p16600.er Try.f36 = true := by kernel_rfl
theorem ok16800 : okFn ctx (FA Tb) 8 p16800.er Try.f16 = true := by kernel_rfl
theorem ok16900 : okFn ctx (FA Tb) 8 p16900.er Try.f17 = true := by kernel_rfl
theorem ok17100 : okFn ctx (FA Tb) 8 p17100.er Try.f19 = true := by kernel_rfl
theorem ok17200 : okFn ctx (FA Tb) 8 p17200.er Try.f3 = true := by kernel_rfl
theorem ok38700 : okFn ctx (FA Tb) 8 p38700.er Try.f45 = true := by kernel_rfl
theorem ok39100 : okFn ctx (FA Tb) 8 p39100.er Try.f15 = true := by kernel_rfl
theorem ok39200 : okFn ctx (FA Tb) 8 p39200.er Try.f16 = true := by kernel_rfl
theorem ok39300 : okFn ctx (FA Tb) 8 p39300.er Try.f18 = true := by kernel_rfl
theorem ok39600 : okFn ctx (FA Tb) 8 p39600.er Try.f42 = true := by kernel_rfl
theorem at1600 : ctx.P.funcs[ctx.fid 1600]? = some Try.f57 := by
  have e : ctx.fid 1600 = 57 := by kernel_rfl
  rw [e]; exact Try.func57
theorem at5000 : ctx.P.funcs[ctx.fid 5000]? = some Try.f52 := by
  have e : ctx.fid 5000 = 52 := by kernel_rfl
  rw [e]; exact Try.func52
theorem at5100 : ctx.P.funcs[ctx.fid 5100]? = some Try.f55 := by
  have e : ctx.fid 5100 = 55 := by kernel_rfl
  rw [e]; exact Try.func55
theorem at6400 : ctx.P.funcs[ctx.fid 6400]? = some Try.f54 := by
  have e : ctx.fid 6400 = 54 := by kernel_rfl
  rw [e]; exact Try.func54
theorem at6500 : ctx.P.funcs[ctx.fid 6500]? = some Try.f58 := by
  have e : ctx.fid 6500 = 58 := by kernel_rfl
  rw [e]; exact Try.func58
theorem at7200 : ctx.P.funcs[ctx.fid 7200]? = some Try.f40 := by
  have e : ctx.fid 7200 = 40 := by kernel_rfl
  rw [e]; exact Try.func40
theorem at7800 : ctx.P.funcs[ctx.fid 7800]? = some Try.f42 := by
  have e : ctx.fid 7800 = 42 := by kernel_rfl
  rw [e]; exact Try.func42
theorem at8400 : ctx.P.funcs[ctx.fid 8400]? = some Try.f44 := by
  have e : ctx.fid 8400 = 44 := by kernel_rfl
  rw [e]; exact Try.func44
theorem at10600 : ctx.P.funcs[ctx.fid 10600]? = some Try.f46 := by
  have e : ctx.fid 10600 = 46 := by kernel_rfl
  rw [e]; exact Try.func46
theorem at16200 : ctx.P.funcs[ctx.fid 16200]? = some Try.f13 := by
  have e : ctx.fid 16200 = 13 := by kernel_rfl
  rw [e]; exact Try.func13
theorem at16300 : ctx.P.funcs[ctx.fid 16300]? = some Try.f41 := by
  have e : ctx.fid 16300 = 41 := by kernel_rfl
  rw [e]; exact Try.func41
theorem at16400 : ctx.P.funcs[ctx.fid 16400]? = some Try.f14 := by
  have e : ctx.fid 16400 = 14 := by kernel_rfl
  rw [e]; exact Try.func14
theorem at16500 : ctx.P.funcs[ctx.fid 16500]? = some Try.f15 := by
  have e : ctx.fid 16500 = 15 := by kernel_rfl
  rw [e]; exact Try.func15
theorem at16600 : ctx.P.funcs[ctx.fid 16600]? = some Try.f36 := by
  have e : ctx.fid 16600 = 36 := by kernel_rfl
  rw [e]; exact Try.func36
theorem at16700 : ctx.P.funcs[ctx.fid 16700]? = some Try.f43 := by
  have e : ctx.fid 16700 = 43 := by kernel_rfl
  rw [e]; exact Try.func43
theorem at16800 : ctx.P.funcs[ctx.fid 16800]? = some Try.f16 := by
  have e : ctx.fid 16800 = 16 := by kernel_rfl
  rw [e]; exact Try.func16
theorem at16900 : ctx.P.funcs[ctx.fid 16900]? = some Try.f17 := by
  have e : ctx.fid 16900 = 17 := by kernel_rfl
  rw [e]; exact Try.func17
theorem at17100 : ctx.P.funcs[ctx.fid 17100]? = some Try.f19 := by
  have e : ctx.fid 17100 = 19 := by kernel_rfl
  rw [e]; exact Try.func19
theorem at17200 : ctx.P.funcs[ctx.fid 17200]? = some Try.f3 := by
  have e : ctx.fid 17200 = 3 := by kernel_rfl
  rw [e]; exact Try.func3
theorem at38200 : ctx.P.funcs[ctx.fid 38200]? = some Try.f43 := by
  have e : ctx.fid 38200 = 43 := by kernel_rfl
  rw [e]; exact Try.func43
theorem at38700 : ctx.P.funcs[ctx.fid 38700]? = some Try.f45 := by
  have e : ctx.fid 38700 = 45 := by kernel_rfl
  rw [e]; exact Try.func45
theorem at39100 : ctx.P.funcs[ctx.fid 39100]? = some Try.f15 := by
  have e : ctx.fid 39100 = 15 := by kernel_rfl
  rw [e]; exact Try.func15
theorem at39200 : ctx.P.funcs[ctx.fid 39200]? = some Try.f16 := by
  have e : ctx.fid 39200 = 16 := by kernel_rfl
  rw [e]; exact Try.func16
theorem at39300 : ctx.P.funcs[ctx.fid 39300]? = some Try.f18 := by
  have e : ctx.fid 39300 = 18 := by kernel_rfl
  rw [e]; exact Try.func18
theorem at39600 : ctx.P.funcs[ctx.fid 39600]? = some Try.f42 := by
  have e : ctx.fid 39600 = 42 := by kernel_rfl
  rw [e]; exact Try.func42
theorem prim16700 : PrimOk ctx 16700 p16700.er := by
  have e : ctx.fid 16700 = 43 := by kernel_rfl
  refine clone_prim (T := 3) ⟨⟨Try.f43, _, at16700, by kernel_rfl, rfl⟩⟩ ?_
  rw [e]
  exact ⟨fun b off n c zs w h1 h2 h3 => Try.slices_Clone_int b off n c zs w h1 h2 h3, fun n c w => Try.slices_Clone_int_nil n c w, fun a c w => Try.slices_Clone_int_zero a c w⟩
theorem prim38200 : PrimOk ctx 38200 p38200.er := by
  have e : ctx.fid 38200 = 43 := by kernel_rfl
  refine clone_prim (T := 3) ⟨⟨Try.f43, _, at38200, by kernel_rfl, rfl⟩⟩ ?_
  rw [e]
  exact ⟨fun b off n c zs w h1 h2 h3 => Try.slices_Clone_int b off n c zs w h1 h2 h3, fun n c w => Try.slices_Clone_int_nil n c w, fun a c w => Try.slices_Clone_int_zero a c w⟩
theorem laid : Laid ctx (FA Tb) := by
  refine laidT (l := tab) (by kernel_rfl) ?_
  have e : tab.map (fun x => (x.1, x.2.er)) = [(1600, p1600.er), (5000, p5000.er), (5100, p5100.er), (5101, p5101.er), (6400, p6400.er), (6500, p6500.er), (6501, p6501.er), (7200, p7200.er), (7800, p7800.er), (7801, p7801.er), (8400, p8400.er), (8401, p8401.er), (10600, p10600.er), (10601, p10601.er), (16200, p16200.er), (16300, p16300.er), (16400, p16400.er), (16500, p16500.er), (16600, p16600.er), (16700, p16700.er), (16800, p16800.er), (16900, p16900.er), (17100, p17100.er), (17200, p17200.er), (38200, p38200.er), (38700, p38700.er), (38701, p38701.er), (39100, p39100.er), (39200, p39200.er), (39300, p39300.er), (39600, p39600.er), (39601, p39601.er)] := by kernel_rfl
  rw [e]
  exact ⟨fun _ => okFn_spec at1600 ok1600, ⟨fun _ => okFn_spec at5000 ok5000, ⟨fun _ => okFn_spec at5100 ok5100, ⟨fun h => absurd h (by decide), ⟨fun _ => okFn_spec at6400 ok6400, ⟨fun _ => okFn_spec at6500 ok6500, ⟨fun h => absurd h (by decide), ⟨fun _ => okFn_spec at7200 ok7200, ⟨fun _ => okFn_spec at7800 ok7800, ⟨fun h => absurd h (by decide), ⟨fun _ => okFn_spec at8400 ok8400, ⟨fun h => absurd h (by decide), ⟨fun _ => okFn_spec at10600 ok10600, ⟨fun h => absurd h (by decide), ⟨fun _ => okFn_spec at16200 ok16200, ⟨fun _ => okFn_spec at16300 ok16300, ⟨fun _ => okFn_spec at16400 ok16400, ⟨fun _ => okFn_spec at16500 ok16500, ⟨fun _ => okFn_spec at16600 ok16600, ⟨fun _ => .inr prim16700, ⟨fun _ => okFn_spec at16800 ok16800, ⟨fun _ => okFn_spec at16900 ok16900, ⟨fun _ => okFn_spec at17100 ok17100, ⟨fun _ => okFn_spec at17200 ok17200, ⟨fun _ => .inr prim38200, ⟨fun _ => okFn_spec at38700 ok38700, ⟨fun h => absurd h (by decide), ⟨fun _ => okFn_spec at39100 ok39100, ⟨fun _ => okFn_spec at39200 ok39200, ⟨fun _ => okFn_spec at39300 ok39300, ⟨fun _ => okFn_spec at39600 ok39600, ⟨fun h => absurd h (by decide), trivial⟩⟩⟩⟩⟩⟩⟩⟩⟩⟩⟩⟩⟩⟩⟩⟩⟩⟩⟩⟩⟩⟩⟩⟩⟩⟩⟩⟩⟩⟩⟩⟩
theorem gok {W : World} : GOk ctx (memOf W) := by
  intro i
  show RepL ctx.fid (memOf W) (GA GT i) _
  simp [GA, GT, toAVs, RepL]
set_option maxRecDepth 100000 in
theorem lifted (os : Os) (started : os.Started) (H : Type) (enc : TypeId × Value → H) :
    ReturnsInHanded {} Try.checked os 3 .any (Rows.fnExactRingTakeSpec.pre6 enc Try.prog Try.f3 Rows.fnExactRingTakeRow.domain false) (Rows.fnExactRingTakeSpec.post enc Try.prog Try.f3 false true false false) := by
  refine returnsInHanded_of_change_sized (C := Try.checked) own started (by kernel_rfl) Try.func3
    (ChangeSpec.witness6 (enc := enc) (C := Try.checked) false ⟨#[], #[.agg #[.int .i64 0, .int .i64 0, .int .i64 0, .slice none 0 0]], []⟩ 8 (by kernel_rfl) (by kernel_rfl) (by kernel_rfl) (by kernel_rfl)) ?_
  intro W base args ds gs before hval0 hW hcnd hsz0 _
  have hval : ∀ (j : Nat) t v, Try.f3.params[j]? = some t → args[j]? = some v → Value.okWide Try.prog W .any base t v := hval0
  have hW' := hW
  obtain ⟨p, q, hA0, hV, rfl, hfz, hnd⟩ := hW
  have hA : DataW.TrodAll enc Try.prog W 0 (fun _ => true) true Try.f3.params.toList args.toList ds p := hA0
  have hV' := hV
  rw [Try.params3] at hA hval
  obtain ⟨v0, vs0, d0, ds0, p0, q0, hargs, rfl, rfl, h0, r0⟩ := trodAll_cons hA
  obtain ⟨rfl, rfl, rfl⟩ := trodAll_nil r0
  obtain rfl : args = #[v0] := by cases args; simp_all
  obtain ⟨rfl, rfl⟩ := trodVars_none hV
  have k0 := h0
  have lt0 : ∀ x ∈ p0, x.block < W.heap.size := by obtain ⟨m, hm⟩ := k0; exact DataW.trod_lt m _ _ _ hm
  obtain ⟨fu0, hf0⟩ := h0
  obtain ⟨a0, z0, w0⟩ := open_rg (fid := ctx.fid) (P := Try.prog) (t := 24) (by kernel_rfl) hf0
  have y0 := arg_agg Try.underlying23 (hval 0 24 v0 rfl rfl) z0
  have hE : callTy Tb GT boolSig 17200 [.agg (rowT .rg a0)] [] = some true := Go.TFnExactRingTake.laws_FnExactRingTake_eq a0 w0
  have hrun := law_top (C := ctx) laid rfl (g := 17200) (by decide) (args := #[v0]) gok (fun _ h => by cases h) rfl (by
    intro i c v hc hv
    match i, hc, hv with
    | 0, hc, hv => simp at hc hv; subst hc hv; exact y0
    | i + 1, hc, _ => simp at hc) hE
  have efid : ctx.fid 17200 = 3 := by kernel_rfl
  rw [efid] at hrun
  refine hrun.mono fun e W' ⟨he, bel⟩ => ?_
  subst he
  exact ⟨_, rfl, _, _, _, [], _, [], hW', trodAll_mk1 (shut_bool Try.underlying4 _), (trodAll_cons_mk (Below.trod laidOut (by kernel_rfl) (of_decide_eq_true (by kernel_rfl)) k0 bel lt0) trodAll_mk0), rfl, bel.frame _, fun h => by cases h⟩
theorem over : Rows.fnExactRingTakeRow.holds Try.pinned (OpenSpec.ofChange Rows.fnExactRingTakeSpec) :=
  OpenClaim.holds_of_wide 3 Try.f3 rfl rfl rfl rfl rfl rfl rfl ⟨rfl, rfl, rfl, rfl, rfl⟩ rfl rfl rfl rfl rfl (by kernel_rfl) Try.func3 (by kernel_rfl)
    (of_decide_eq_true (by kernel_rfl)) (by unfold Func.isWrapper; first | (rw [if_pos (by decide +kernel)]; kernel_rfl) | (rw [if_neg (by decide +kernel)]; exact ⟨rfl, rfl⟩))
    (fun os started H enc _ => lifted os started H enc)
end Go.Proofs.Ytohpofejamdhfaa.fnExactRingTake
namespace Go.Proofs.Ytohpofejamdhfaa
/-- The row. -/
theorem fnExactRingTake_holds : Rows.FnExactRingTakeSaid := fnExactRingTake.over
#print axioms fnExactRingTake_holds
end Go.Proofs.Ytohpofejamdhfaa
