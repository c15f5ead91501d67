/- The statement FnExactRingBox is proved: the law answers true whatever the input; under no condition. -/
import Derived.Test.YtohpofejamdhfaaRows
import Derived.Test.YtohpofejamdhfaaFFnExactRingBox
import Derived.Test.YtohpofejamdhfaaTvRow5
import Derived.KernelRfl
namespace Go.Proofs.Ytohpofejamdhfaa.fnExactRingBox
open Go Go.Vs Go.Tv Go.ChangeShapes Go.WideShapes Go.ChangeAt Go.RowKit Go.TFnExactRingBox
open Go.ChangeMaps (open_string shut_string)
set_option linter.unusedVariables false
theorem own : ownKnob Try.prog.godebug = none := by kernel_rfl
theorem laidOut : laidOutB Try.prog = true := by kernel_rfl
def fids : List (Nat × Nat) := [(1600, 57), (5000, 52), (5100, 55), (6400, 54), (6500, 58), (7200, 40), (7800, 42), (8400, 44), (10600, 46), (16200, 13), (16300, 41), (16500, 15), (16600, 36), (16900, 17), (18800, 29), (18900, 30), (19000, 31), (19200, 33), (19300, 7), (38700, 45), (39100, 15), (39300, 18), (39400, 30), (39500, 32), (39600, 42)]
noncomputable def ctx : Ctx := { P := Try.prog, fid := fun g => (Vs.look g fids).getD 0, gm := fun _ => 0, G := GA GT }
theorem ok1600 : okFn ctx (FA Tb) 8 p1600.er Try.f57 = true := by kernel_rfl
theorem ok5000 : okFn ctx (FA Tb) 8 p5000.er Try.f52 = true := by kernel_rfl
theorem ok5100 : okFn ctx (FA Tb) 8 p5100.er Try.f55 = true := by kernel_rfl
theorem ok6400 : okFn ctx (FA Tb) 8 p6400.er Try.f54 = true := by kernel_rfl
theorem ok6500 : okFn ctx (FA Tb) 8 p6500.er Try.f58 = true := by kernel_rfl
theorem ok7200 : okFn ctx (FA Tb) 8 p7200.er Try.f40 = true := by kernel_rfl
theorem ok7800 : okFn ctx (FA Tb) 8 p7800.er Try.f42 = true := by kernel_rfl
theorem ok8400 : okFn ctx (FA Tb) 8 p8400.er Try.f44 = true := by kernel_rfl
theorem ok10600 : okFn ctx (FA Tb) 8 p10600.er Try.f46 = true := by kernel_rfl
theorem ok16200 : okFn ctx (FA Tb) 8 p16200.er Try.f13 = true := by kernel_rfl
theorem ok16300 : okFn ctx (FA Tb) 8 p16300.er Try.f41 = true := by kernel_rfl
theorem ok16500 : okFn ctx (FA Tb) 8 p16500.er Try.f15 = true := by kernel_rfl
theorem ok16600 : okFn ctx (FA Tb) 8 p16600.er Try.f36 = true := by kernel_rfl
theorem ok16900 : okFn ctx (FA Tb) 8 p16900.er Try.f17 = true := by kernel_rfl
theorem ok18800 : okFn ctx (FA Tb) 8 p18800.er Try.f29 = true := by kernel_rfl
theorem ok18900 : okFn ctx (FA Tb) 8 p18900.er Try.f30 = true := by kernel_rfl
theorem ok19000 : okFn ctx (FA Tb) 8 p19000.er Try.f31 = true := by kernel_rfl
theorem ok19200 : okFn ctx (FA Tb) 8 p19200.er Try.f33 = true := by kernel_rfl
theorem ok19300 : okFn ctx (FA Tb) 8 p19300.er Try.f7 = true := by kernel_rfl
theorem ok38700 : okFn ctx (FA Tb) 8 p38700.er Try.f45 = true := by kernel_rfl
theorem ok39100 : okFn ctx (FA Tb) 8 p39100.er Try.f15 = true := by kernel_rfl
theorem ok39300 : okFn ctx (FA Tb) 8 p39300.er Try.f18 = true := by kernel_rfl
theorem ok39400 : okFn ctx (FA Tb) 8 p39400.er Try.f30 = true := by kernel_rfl
theorem ok39500 : okFn ctx (FA Tb) 8 p39500.er Try.f32 = true := by kernel_rfl
theorem ok39600 : okFn ctx (FA Tb) 8 p39600.er Try.f42 = true := by kernel_rfl
theorem at1600 : ctx.P.funcs[ctx.fid 1600]? = some Try.f57 := by
  have e : ctx.fid 1600 = 57 := by kernel_rfl
  rw [e]; exact Try.func57
theorem at5000 : ctx.P.funcs[ctx.fid 5000]? = some Try.f52 := by
  have e : ctx.fid 5000 = 52 := by kernel_rfl
  rw [e]; exact Try.func52
theorem at5100 : ctx.P.funcs[ctx.fid 5100]? = some Try.f55 := by
  have e : ctx.fid 5100 = 55 := by kernel_rfl
  rw [e]; exact Try.func55
theorem at6400 : ctx.P.funcs[ctx.fid 6400]? = some Try.f54 := by
  have e : ctx.fid 6400 = 54 := by kernel_rfl
  rw [e]; exact Try.func54
theorem at6500 : ctx.P.funcs[ctx.fid 6500]? = some Try.f58 := by
  have e : ctx.fid 6500 = 58 := by kernel_rfl
  rw [e]; exact Try.func58
theorem at7200 : ctx.P.funcs[ctx.fid 7200]? = some Try.f40 := by
  have e : ctx.fid 7200 = 40 := by kernel_rfl
  rw [e]; exact Try.func40
theorem at7800 : ctx.P.funcs[ctx.fid 7800]? = some Try.f42 := by
  have e : ctx.fid 7800 = 42 := by kernel_rfl
  rw [e]; exact Try.func42
theorem at8400 : ctx.P.funcs[ctx.fid 8400]? = some Try.f44 := by
  have e : ctx.fid 8400 = 44 := by kernel_rfl
  rw [e]; exact Try.func44
theorem at10600 : ctx.P.funcs[ctx.fid 10600]? = some Try.f46 := by
  have e : ctx.fid 10600 = 46 := by kernel_rfl
  rw [e]; exact Try.func46
theorem at16200 : ctx.P.funcs[ctx.fid 16200]? = some Try.f13 := by
  have e : ctx.fid 16200 = 13 := by kernel_rfl
  rw [e]; exact Try.func13
theorem at16300 : ctx.P.funcs[ctx.fid 16300]? = some Try.f41 := by
  have e : ctx.fid 16300 = 41 := by kernel_rfl
  rw [e]; exact Try.func41
theorem at16500 : ctx.P.funcs[ctx.fid 16500]? = some Try.f15 := by
  have e : ctx.fid 16500 = 15 := by kernel_rfl
  rw [e]; exact Try.func15
theorem at16600 : ctx.P.funcs[ctx.fid 16600]? = some Try.f36 := by
  have e : ctx.fid 16600 = 36 := by kernel_rfl
  rw [e]; exact Try.func36
theorem at16900 : ctx.P.funcs[ctx.fid 16900]? = some Try.f17 := by
  have e : ctx.fid 16900 = 17 := by kernel_rfl
  rw [e]; exact Try.func17
theorem at18800 : ctx.P.funcs[ctx.fid 18800]? = some Try.f29 := by
  have e : ctx.fid 18800 = 29 := by kernel_rfl
  rw [e]; exact Try.func29
theorem at18900 : ctx.P.funcs[ctx.fid 18900]? = some Try.f30 := by
  have e : ctx.fid 18900 = 30 := by kernel_rfl
  rw [e]; exact Try.func30
theorem at19000 : ctx.P.funcs[ctx.fid 19000]? = some Try.f31 := by
  have e : ctx.fid 19000 = 31 := by kernel_rfl
  rw [e]; exact Try.func31
theorem at19200 : ctx.P.funcs[ctx.fid 19200]? = some Try.f33 := by
  have e : ctx.fid 19200 = 33 := by kernel_rfl
  rw [e]; exact Try.func33
theorem at19300 : ctx.P.funcs[ctx.fid 19300]? = some Try.f7 := by
  have e : ctx.fid 19300 = 7 := by kernel_rfl
  rw [e]; exact Try.func7
theorem at38700 : ctx.P.funcs[ctx.fid 38700]? = some Try.f45 := by
  have e : ctx.fid 38700 = 45 := by kernel_rfl
  rw [e]; exact Try.func45
theorem at39100 : ctx.P.funcs[ctx.fid 39100]? = some Try.f15 := by
  have e : ctx.fid 39100 = 15 := by kernel_rfl
  rw [e]; exact Try.func15
theorem at39300 : ctx.P.funcs[ctx.fid 39300]? = some Try.f18 := by
  have e : ctx.fid 39300 = 18 := by kernel_rfl
  rw [e]; exact Try.func18
theorem at39400 : ctx.P.funcs[ctx.fid 39400]? = some Try.f30 := by
  have e : ctx.fid 39400 = 30 := by kernel_rfl
  rw [e]; exact Try.func30
theorem at39500 : ctx.P.funcs[ctx.fid 39500]? = some Try.f32 := by
  have e : ctx.fid 39500 = 32 := by kernel_rfl
  rw [e]; exact Try.func32
theorem at39600 : ctx.P.funcs[ctx.fid 39600]? = some Try.f42 := by
  have e : ctx.fid 39600 = 42 := by kernel_rfl
  rw [e]; exact Try.func42
theorem laid : Laid ctx (FA Tb) := by
  refine laidT (l := tab) (by kernel_rfl) ?_
  have e : tab.map (fun x => (x.1, x.2.er)) = [(1600, p1600.er), (5000, p5000.er), (5100, p5100.er), (5101, p5101.er), (6400, p6400.er), (6500, p6500.er), (6501, p6501.er), (7200, p7200.er), (7800, p7800.er), (7801, p7801.er), (8400, p8400.er), (8401, p8401.er), (10600, p10600.er), (10601, p10601.er), (16200, p16200.er), (16300, p16300.er), (16500, p16500.er), (16600, p16600.er), (16900, p16900.er), (18800, p18800.er), (18801, p18801.er), (18900, p18900.er), (18901, p18901.er), (19000, p19000.er), (19200, p19200.er), (19300, p19300.er), (38700, p38700.er), (38701, p38701.er), (39100, p39100.er), (39300, p39300.er), (39400, p39400.er), (39401, p39401.er), (39500, p39500.er), (39600, p39600.er), (39601, p39601.er)] := by kernel_rfl
  rw [e]
  exact ⟨fun _ => okFn_spec at1600 ok1600, ⟨fun _ => okFn_spec at5000 ok5000, ⟨fun _ => okFn_spec at5100 ok5100, ⟨fun h => absurd h (by decide), ⟨fun _ => okFn_spec at6400 ok6400, ⟨fun _ => okFn_spec at6500 ok6500, ⟨fun h => absurd h (by decide), ⟨fun _ => okFn_spec at7200 ok7200, ⟨fun _ => okFn_spec at7800 ok7800, ⟨fun h => absurd h (by decide), ⟨fun _ => okFn_spec at8400 ok8400, ⟨fun h => absurd h (by decide), ⟨fun _ => okFn_spec at10600 ok10600, ⟨fun h => absurd h (by decide), ⟨fun _ => okFn_spec at16200 ok16200, ⟨fun _ => okFn_spec at16300 ok16300, ⟨fun _ => okFn_spec at16500 ok16500, ⟨fun _ => okFn_spec at16600 ok16600, ⟨fun _ => okFn_spec at16900 ok16900, ⟨fun _ => okFn_spec at18800 ok18800, ⟨fun h => absurd h (by decide), ⟨fun _ => okFn_spec at18900 ok18900, ⟨fun h => absurd h (by decide), ⟨fun _ => okFn_spec at19000 ok19000, ⟨fun _ => okFn_spec at19200 ok19200, ⟨fun _ => okFn_spec at19300 ok19300, ⟨fun _ => okFn_spec at38700 ok38700, ⟨fun h => absurd h (by decide), ⟨fun _ => okFn_spec at39100 ok39100, ⟨fun _ => okFn_spec at39300 ok39300, ⟨fun _ => okFn_spec at39400 ok39400, ⟨fun h => absurd h (by decide), ⟨fun _ => okFn_spec at39500 ok39500, ⟨fun _ => okFn_spec at39600 ok39600, ⟨fun h => absurd h (by decide), trivial⟩⟩⟩⟩⟩⟩⟩⟩⟩⟩⟩⟩⟩⟩⟩⟩⟩⟩⟩⟩⟩⟩⟩⟩⟩⟩⟩⟩⟩⟩⟩⟩⟩⟩⟩
theorem gok {W : World} : GOk ctx (memOf W) := by
  intro i
  show RepL ctx.fid (memOf W) (GA GT i) _
  simp [GA, GT, toAVs, RepL]
set_option maxRecDepth 100000 in
theorem lifted (os : Os) (started : os.Started) (H : Type) (enc : TypeId × Value → H) :
    ReturnsInHanded {} Try.checked os 7 .any (Rows.fnExactRingBoxSpec.pre6 enc Try.prog Try.f7 Rows.fnExactRingBoxRow.domain false) (Rows.fnExactRingBoxSpec.post enc Try.prog Try.f7 false true false false) := by
  refine returnsInHanded_of_change_sized (C := Try.checked) own started (by kernel_rfl) Try.func7
    (ChangeSpec.witness6 (enc := enc) (C := Try.checked) false ⟨#[], #[.agg #[.int .i64 0, .int .i64 0, .int .i64 0, .slice none 0 0]], []⟩ 8 (by kernel_rfl) (by kernel_rfl) (by kernel_rfl) (by kernel_rfl)) ?_
  intro W base args ds gs before hval0 hW hcnd hsz0 _
  have hval : ∀ (j : Nat) t v, Try.f7.params[j]? = some t → args[j]? = some v → Value.okWide Try.prog W .any base t v := hval0
  have hW' := hW
  obtain ⟨p, q, hA0, hV, rfl, hfz, hnd⟩ := hW
  have hA : DataW.TrodAll enc Try.prog W 0 (fun _ => true) true Try.f7.params.toList args.toList ds p := hA0
  have hV' := hV
  rw [Try.params7] at hA hval
  obtain ⟨v0, vs0, d0, ds0, p0, q0, hargs, rfl, rfl, h0, r0⟩ := trodAll_cons hA
  obtain ⟨rfl, rfl, rfl⟩ := trodAll_nil r0
  obtain rfl : args = #[v0] := by cases args; simp_all
  obtain ⟨rfl, rfl⟩ := trodVars_none hV
  have k0 := h0
  have lt0 : ∀ x ∈ p0, x.block < W.heap.size := by obtain ⟨m, hm⟩ := k0; exact DataW.trod_lt m _ _ _ hm
  obtain ⟨fu0, hf0⟩ := h0
  obtain ⟨a0, z0, w0⟩ := open_rg (fid := ctx.fid) (P := Try.prog) (t := 24) (by kernel_rfl) hf0
  have y0 := arg_agg Try.underlying23 (hval 0 24 v0 rfl rfl) z0
  have hE : callTy Tb GT boolSig 19300 [.agg (rowT .rg a0)] [] = some true := Go.TFnExactRingBox.laws_FnExactRingBox_eq a0 w0
  have hrun := law_top (C := ctx) laid rfl (g := 19300) (by decide) (args := #[v0]) gok (fun _ h => by cases h) rfl (by
    intro i c v hc hv
    match i, hc, hv with
    | 0, hc, hv => simp at hc hv; subst hc hv; exact y0
    | i + 1, hc, _ => simp at hc) hE
  have efid : ctx.fid 19300 = 7 := by kernel_rfl
  rw [efid] at hrun
  refine hrun.mono fun e W' ⟨he, bel⟩ => ?_
  subst he
  exact ⟨_, rfl, _, _, _, [], _, [], hW', trodAll_mk1 (shut_bool Try.underlying4 _), (trodAll_cons_mk (Below.trod laidOut (by kernel_rfl) (of_decide_eq_true (by kernel_rfl)) k0 bel lt0) trodAll_mk0), rfl, bel.frame _, fun h => by cases h⟩
theorem over : Rows.fnExactRingBoxRow.holds Try.pinned (OpenSpec.ofChange Rows.fnExactRingBoxSpec) :=
  OpenClaim.holds_of_wide 7 Try.f7 rfl rfl rfl rfl rfl rfl rfl ⟨rfl, rfl, rfl, rfl, rfl⟩ rfl rfl rfl rfl rfl (by kernel_rfl) Try.func7 (by kernel_rfl)
    (of_decide_eq_true (by kernel_rfl)) (by unfold Func.isWrapper; first | (rw [if_pos (by decide +kernel)]; kernel_rfl) | (rw [if_neg (by decide +kernel)]; exact ⟨rfl, rfl⟩))
    (fun os started H enc _ => lifted os started H enc)
end Go.Proofs.Ytohpofejamdhfaa.fnExactRingBox
namespace Go.Proofs.Ytohpofejamdhfaa
/-- The row. -/
theorem fnExactRingBox_holds : Rows.FnExactRingBoxSaid := fnExactRingBox.over
#print axioms fnExactRingBox_holds
end Go.Proofs.Ytohpofejamdhfaa
