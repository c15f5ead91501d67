/- The statement FnRingSlots is proved: the law answers true whatever the input; under no condition. -/
import Derived.Test.YtohpofejamdhfaaRows
import Derived.Test.YtohpofejamdhfaaFFnRingSlots
import Derived.Test.YtohpofejamdhfaaTvRow
import Derived.KernelRfl
import Derived.Test.YtohpofejamdhfaaShelf
import Derived.Test.YtohpofejamdhfaaPm1
import Derived.Test.YtohpofejamdhfaaPm3
namespace Go.Proofs.Ytohpofejamdhfaa.fnRingSlots
open Go Go.Vs Go.Tv Go.ChangeShapes Go.WideShapes Go.ChangeAt Go.RowKit Go.TFnRingSlots
open Go.ChangeMaps (open_string shut_string)
set_option linter.unusedVariables false
theorem own : ownKnob Try.prog.godebug = none := by kernel_rfl
theorem laidOut : laidOutB Try.prog = true := by kernel_rfl
def fids : List (Nat × Nat) := [(100, 47), (200, 49), (1600, 57), (3700, 60), (3800, 50), (5000, 52), (5100, 55), (6400, 54), (6500, 58), (9700, 25), (16300, 41), (16600, 36), (16700, 43), (16800, 16), (17300, 59), (18300, 53), (19500, 56), (19700, 35), (19900, 37), (20000, 38), (20100, 39), (20200, 10), (38200, 43)]
noncomputable def ctx : Ctx := { P := Try.prog, fid := fun g => (Vs.look g fids).getD 0, gm := fun _ => 0, G := GA GT }
theorem ok100 : okFn ctx (FA Tb) 8 p100.er Try.f47 = true := by kernel_rfl
theorem ok200 : okFn ctx (FA Tb) 8 p200.er Try.f49 = true := by kernel_rfl
theorem ok1600 : okFn ctx (FA Tb) 8 p1600.er Try.f57 = true := by kernel_rfl
theorem ok3700 : okFn ctx (FA Tb) 8 p3700.er Try.f60 = true := by kernel_rfl
theorem ok3800 : okFn ctx (FA Tb) 8 p3800.er Try.f50 = true := by kernel_rfl
theorem ok5000 : okFn ctx (FA Tb) 8 p5000.er Try.f52 = true := by kernel_rfl
theorem ok5100 : okFn ctx (FA Tb) 8 p5100.er Try.f55 = true := by kernel_rfl
theorem ok6400 : okFn ctx (FA Tb) 8 p6400.er Try.f54 = true := by kernel_rfl
theorem ok6500 : okFn ctx (FA Tb) 8 p6500.er Try.f58 = true := by kernel_rfl
theorem ok9700 : okFn ctx (FA Tb) 8 p9700.er Try.f25 = true := by kernel_rfl
theorem ok16300 : okFn ctx (FA Tb) 8 p16300.er Try.f41 = true := by kernel_rfl
theorem ok16600 : okFn ctx (FA Tb) 8 p16600.er Try.f36 = true := by kernel_rfl
theorem ok16800 : okFn ctx (FA Tb) 8 p16800.er Try.f16 = true := by kernel_rfl
theorem ok17300 : okFn ctx (FA Tb) 8 p17300.er Try.f59 = true := by kernel_rfl
theorem ok18300 : okFn ctx (FA Tb) 8 p18300.er Try.f53 = true := by kernel_rfl
theorem ok19500 : okFn ctx (FA Tb) 8 p19500.er Try.f56 = true := by kernel_rfl
theorem ok19700 : okFn ctx (FA Tb) 8 p19700.er Try.f35 = true := by kernel_rfl
theorem ok19900 : okFn ctx (FA Tb) 8 p19900.er Try.f37 = true := by kernel_rfl
theorem ok20000 : okFn ctx (FA Tb) 8 p20000.er Try.f38 = true := by kernel_rfl
theorem ok20100 : okFn ctx (FA Tb) 8 p20100.er Try.f39 = true := by kernel_rfl
theorem ok20200 : okFn ctx (FA Tb) 8 p20200.er Try.f10 = true := by kernel_rfl
theorem at100 : ctx.P.funcs[ctx.fid 100]? = some Try.f47 := by
  have e : ctx.fid 100 = 47 := by kernel_rfl
  rw [e]; exact Try.func47
theorem at200 : ctx.P.funcs[ctx.fid 200]? = some Try.f49 := by
  have e : ctx.fid 200 = 49 := by kernel_rfl
  rw [e]; exact Try.func49
theorem at1600 : ctx.P.funcs[ctx.fid 1600]? = some Try.f57 := by
  have e : ctx.fid 1600 = 57 := by kernel_rfl
  rw [e]; exact Try.func57
theorem at3700 : ctx.P.funcs[ctx.fid 3700]? = some Try.f60 := by
  have e : ctx.fid 3700 = 60 := by kernel_rfl
  rw [e]; exact Try.func60
theorem at3800 : ctx.P.funcs[ctx.fid 3800]? = some Try.f50 := by
  have e : ctx.fid 3800 = 50 := by kernel_rfl
  rw [e]; exact Try.func50
theorem at5000 : ctx.P.funcs[ctx.fid 5000]? = some Try.f52 := by
  have e : ctx.fid 5000 = 52 := by kernel_rfl
  rw [e]; exact Try.func52
theorem at5100 : ctx.P.funcs[ctx.fid 5100]? = some Try.f55 := by
  have e : ctx.fid 5100 = 55 := by kernel_rfl
  rw [e]; exact Try.func55
theorem at6400 : ctx.P.funcs[ctx.fid 6400]? = some Try.f54 := by
  have e : ctx.fid 6400 = 54 := by kernel_rfl
  rw [e]; exact Try.func54
theorem at6500 : ctx.P.funcs[ctx.fid 6500]? = some Try.f58 := by
  have e : ctx.fid 6500 = 58 := by kernel_rfl
  rw [e]; exact Try.func58
theorem at9700 : ctx.P.funcs[ctx.fid 9700]? = some Try.f25 := by
  have e : ctx.fid 9700 = 25 := by kernel_rfl
  rw [e]; exact Try.func25
theorem at16300 : ctx.P.funcs[ctx.fid 16300]? = some Try.f41 := by
  have e : ctx.fid 16300 = 41 := by kernel_rfl
  rw [e]; exact Try.func41
theorem at16600 : ctx.P.funcs[ctx.fid 16600]? = some Try.f36 := by
  have e : ctx.fid 16600 = 36 := by kernel_rfl
  rw [e]; exact Try.func36
theorem at16700 : ctx.P.funcs[ctx.fid 16700]? = some Try.f43 := by
  have e : ctx.fid 16700 = 43 := by kernel_rfl
  rw [e]; exact Try.func43
theorem at16800 : ctx.P.funcs[ctx.fid 16800]? = some Try.f16 := by
  have e : ctx.fid 16800 = 16 := by kernel_rfl
  rw [e]; exact Try.func16
theorem at17300 : ctx.P.funcs[ctx.fid 17300]? = some Try.f59 := by
  have e : ctx.fid 17300 = 59 := by kernel_rfl
  rw [e]; exact Try.func59
theorem at18300 : ctx.P.funcs[ctx.fid 18300]? = some Try.f53 := by
  have e : ctx.fid 18300 = 53 := by kernel_rfl
  rw [e]; exact Try.func53
theorem at19500 : ctx.P.funcs[ctx.fid 19500]? = some Try.f56 := by
  have e : ctx.fid 19500 = 56 := by kernel_rfl
  rw [e]; exact Try.func56
theorem at19700 : ctx.P.funcs[ctx.fid 19700]? = some Try.f35 := by
  have e : ctx.fid 19700 = 35 := by kernel_rfl
  rw [e]; exact Try.func35
theorem at19900 : ctx.P.funcs[ctx.fid 19900]? = some Try.f37 := by
  have e : ctx.fid 19900 = 37 := by kernel_rfl
  rw [e]; exact Try.func37
theorem at20000 : ctx.P.funcs[ctx.fid 20000]? = some Try.f38 := by
  have e : ctx.fid 20000 = 38 := by kernel_rfl
  rw [e]; exact Try.func38
theorem at20100 : ctx.P.funcs[ctx.fid 20100]? = some Try.f39 := by
  have e : ctx.fid 20100 = 39 := by kernel_rfl
  rw [e]; exact Try.func39
theorem at20200 : ctx.P.funcs[ctx.fid 20200]? = some Try.f10 := by
  have e : ctx.fid 20200 = 10 := by kernel_rfl
  rw [e]; exact Try.func10
theorem at38200 : ctx.P.funcs[ctx.fid 38200]? = some Try.f43 := by
  have e : ctx.fid 38200 = 43 := by kernel_rfl
  rw [e]; exact Try.func43
theorem prim16700 : PrimOk ctx 16700 p16700.er := by
  have e : ctx.fid 16700 = 43 := by kernel_rfl
  refine clone_prim (T := 3) ⟨⟨Try.f43, _, at16700, by kernel_rfl, rfl⟩⟩ ?_
  rw [e]
  exact ⟨fun b off n c zs w h1 h2 h3 => Try.slices_Clone_int b off n c zs w h1 h2 h3, fun n c w => Try.slices_Clone_int_nil n c w, fun a c w => Try.slices_Clone_int_zero a c w⟩
theorem prim38200 : PrimOk ctx 38200 p38200.er := by
  have e : ctx.fid 38200 = 43 := by kernel_rfl
  refine clone_prim (T := 3) ⟨⟨Try.f43, _, at38200, by kernel_rfl, rfl⟩⟩ ?_
  rw [e]
  exact ⟨fun b off n c zs w h1 h2 h3 => Try.slices_Clone_int b off n c zs w h1 h2 h3, fun n c w => Try.slices_Clone_int_nil n c w, fun a c w => Try.slices_Clone_int_zero a c w⟩
theorem laid : Laid ctx (FA Tb) := by
  refine laidT (l := tab) (by kernel_rfl) ?_
  have e : tab.map (fun x => (x.1, x.2.er)) = [(100, p100.er), (200, p200.er), (1600, p1600.er), (3700, p3700.er), (3800, p3800.er), (5000, p5000.er), (5100, p5100.er), (5101, p5101.er), (6400, p6400.er), (6500, p6500.er), (6501, p6501.er), (9700, p9700.er), (9701, p9701.er), (16300, p16300.er), (16600, p16600.er), (16700, p16700.er), (16800, p16800.er), (17300, p17300.er), (17301, p17301.er), (18300, p18300.er), (19500, p19500.er), (19700, p19700.er), (19900, p19900.er), (20000, p20000.er), (20100, p20100.er), (20200, p20200.er), (20201, p20201.er), (38200, p38200.er)] := by kernel_rfl
  rw [e]
  exact ⟨fun _ => okFn_spec at100 ok100, ⟨fun _ => okFn_spec at200 ok200, ⟨fun _ => okFn_spec at1600 ok1600, ⟨fun _ => okFn_spec at3700 ok3700, ⟨fun _ => okFn_spec at3800 ok3800, ⟨fun _ => okFn_spec at5000 ok5000, ⟨fun _ => okFn_spec at5100 ok5100, ⟨fun h => absurd h (by decide), ⟨fun _ => okFn_spec at6400 ok6400, ⟨fun _ => okFn_spec at6500 ok6500, ⟨fun h => absurd h (by decide), ⟨fun _ => okFn_spec at9700 ok9700, ⟨fun h => absurd h (by decide), ⟨fun _ => okFn_spec at16300 ok16300, ⟨fun _ => okFn_spec at16600 ok16600, ⟨fun _ => .inr prim16700, ⟨fun _ => okFn_spec at16800 ok16800, ⟨fun _ => okFn_spec at17300 ok17300, ⟨fun h => absurd h (by decide), ⟨fun _ => okFn_spec at18300 ok18300, ⟨fun _ => okFn_spec at19500 ok19500, ⟨fun _ => okFn_spec at19700 ok19700, ⟨fun _ => okFn_spec at19900 ok19900, ⟨fun _ => okFn_spec at20000 ok20000, ⟨fun _ => okFn_spec at20100 ok20100, ⟨fun _ => okFn_spec at20200 ok20200, ⟨fun h => absurd h (by decide), ⟨fun _ => .inr prim38200, trivial⟩⟩⟩⟩⟩⟩⟩⟩⟩⟩⟩⟩⟩⟩⟩⟩⟩⟩⟩⟩⟩⟩⟩⟩⟩⟩⟩⟩
theorem gok {W : World} : GOk ctx (memOf W) := by
  intro i
  show RepL ctx.fid (memOf W) (GA GT i) _
  simp [GA, GT, toAVs, RepL]
set_option maxRecDepth 100000 in
theorem lifted (os : Os) (started : os.Started) (H : Type) (enc : TypeId × Value → H) :
    ReturnsInHanded {} Try.checked os 10 .any (Rows.fnRingSlotsSpec.pre6 enc Try.prog Try.f10 Rows.fnRingSlotsRow.domain false) (Rows.fnRingSlotsSpec.post enc Try.prog Try.f10 false true false false) := by
  refine returnsInHanded_of_change_sized (C := Try.checked) own started (by kernel_rfl) Try.func10
    (ChangeSpec.witness6 (enc := enc) (C := Try.checked) false ⟨#[], #[.slice none 0 0], []⟩ 8 (by kernel_rfl) (by kernel_rfl) (by kernel_rfl) (by kernel_rfl)) ?_
  intro W base args ds gs before hval0 hW hcnd hsz0 _
  have hval : ∀ (j : Nat) t v, Try.f10.params[j]? = some t → args[j]? = some v → Value.okWide Try.prog W .any base t v := hval0
  have hW' := hW
  obtain ⟨p, q, hA0, hV, rfl, hfz, hnd⟩ := hW
  have hA : DataW.TrodAll enc Try.prog W 0 (fun _ => true) true Try.f10.params.toList args.toList ds p := hA0
  have hV' := hV
  rw [Try.params10] at hA hval
  obtain ⟨v0, vs0, d0, ds0, p0, q0, hargs, rfl, rfl, h0, r0⟩ := trodAll_cons hA
  obtain ⟨rfl, rfl, rfl⟩ := trodAll_nil r0
  obtain rfl : args = #[v0] := by cases args; simp_all
  obtain ⟨rfl, rfl⟩ := trodVars_none hV
  have k0 := h0
  have lt0 : ∀ x ∈ p0, x.block < W.heap.size := by obtain ⟨m, hm⟩ := k0; exact DataW.trod_lt m _ _ _ hm
  obtain ⟨a0, y0, w0⟩ := arg_bytes (fid := ctx.fid) Try.underlying33 (by kernel_rfl) (hval 0 33 v0 rfl rfl) h0
  have hE : callTy Tb GT boolSig 20200 [.sl .share .u8 a0] [] = some true := Go.TFnRingSlots.laws_FnRingSlots_eq a0 w0
  have hrun := law_top (C := ctx) laid rfl (g := 20200) (by decide) (args := #[v0]) gok (fun _ h => by cases h) rfl (by
    intro i c v hc hv
    match i, hc, hv with
    | 0, hc, hv => simp at hc hv; subst hc hv; exact y0
    | i + 1, hc, _ => simp at hc) hE
  have efid : ctx.fid 20200 = 10 := by kernel_rfl
  rw [efid] at hrun
  refine hrun.mono fun e W' ⟨he, bel⟩ => ?_
  subst he
  exact ⟨_, rfl, _, _, _, [], _, [], hW', trodAll_mk1 (shut_bool Try.underlying4 _), (trodAll_cons_mk (Below.trod laidOut (by kernel_rfl) (of_decide_eq_true (by kernel_rfl)) k0 bel lt0) trodAll_mk0), rfl, bel.frame _, fun h => by cases h⟩
theorem over : Rows.fnRingSlotsRow.holds Try.pinned (OpenSpec.ofChange Rows.fnRingSlotsSpec) :=
  OpenClaim.holds_of_wide 10 Try.f10 rfl rfl rfl rfl rfl rfl rfl ⟨rfl, rfl, rfl, rfl, rfl⟩ rfl rfl rfl rfl rfl (by kernel_rfl) Try.func10 (by kernel_rfl)
    (of_decide_eq_true (by kernel_rfl)) (by unfold Func.isWrapper; first | (rw [if_pos (by decide +kernel)]; kernel_rfl) | (rw [if_neg (by decide +kernel)]; exact ⟨rfl, rfl⟩))
    (fun os started H enc _ => lifted os started H enc)
end Go.Proofs.Ytohpofejamdhfaa.fnRingSlots
namespace Go.Proofs.Ytohpofejamdhfaa
/-- The row. -/
theorem fnRingSlots_holds : Rows.FnRingSlotsSaid := fnRingSlots.over
#print axioms fnRingSlots_holds
end Go.Proofs.Ytohpofejamdhfaa
