/- The statement FnExactTaskValid is proved: the law answers true whatever the input; under no condition. -/
import Derived.Test.YtbgodlimjjgogaaRows
import Derived.Test.YtbgodlimjjgogaaFFnExactTaskValid
import Derived.Test.YtbgodlimjjgogaaTvRow2
import Derived.KernelRfl
namespace Go.Proofs.Ytbgodlimjjgogaa.fnExactTaskValid
open Go Go.Vs Go.Tv Go.ChangeShapes Go.WideShapes Go.ChangeAt Go.RowKit Go.TFnExactTaskValid
open Go.ChangeMaps (open_string shut_string)
set_option linter.unusedVariables false
theorem own : ownKnob Try.prog.godebug = none := by kernel_rfl
theorem laidOut : laidOutB Try.prog = true := by kernel_rfl
def fids : List (Nat × Nat) := [(1000, 91), (1100, 73), (1200, 40), (1600, 44), (1700, 92), (1800, 74), (1900, 43), (4000, 81), (5000, 97), (5100, 78), (5200, 105), (5300, 98), (5400, 79), (5500, 50), (5600, 20), (5700, 107), (5800, 108), (5900, 113), (6000, 106), (6100, 99), (6200, 80), (6300, 51), (6400, 82), (6500, 52), (6600, 21), (6800, 100), (6900, 87), (7000, 61), (7100, 31), (7200, 53), (7300, 22), (7400, 101), (7500, 88), (7600, 62), (7700, 32), (7800, 54), (7900, 23), (8000, 102), (8100, 89), (8200, 63), (8300, 33), (8400, 55), (8500, 24), (8600, 8), (11100, 112)]
noncomputable def ctx : Ctx := { P := Try.prog, fid := fun g => (Vs.look g fids).getD 0, gm := fun _ => 0, G := GA GT }
theorem ok1000 : okFn ctx (FA Tb) 8 p1000.er Try.f91 = true := by kernel_rfl
theorem ok1100 : okFn ctx (FA Tb) 8 p1100.er Try.f73 = true := by kernel_rfl
theorem ok1200 : okFn ctx (FA Tb) 8 p1200.er Try.f40 = true := by kernel_rfl
theorem ok1600 : okFn ctx (FA Tb) 8 p1600.er Try.f44 = true := by kernel_rfl
theorem ok1700 : okFn ctx (FA Tb) 8 p1700.er Try.f92 = true := by kernel_rfl
theorem ok1800 : okFn ctx (FA Tb) 8 p1800.er Try.f74 = true := by kernel_rfl
theorem ok1900 : okFn ctx (FA Tb) 8 p1900.er Try.f43 = true := by kernel_rfl
theorem ok4000 : okFn ctx (FA Tb) 8 p4000.er Try.f81 = true := by kernel_rfl
theorem ok5000 : okFn ctx (FA Tb) 8 p5000.er Try.f97 = true := by kernel_rfl
theorem ok5100 : okFn ctx (FA Tb) 8 p5100.er Try.f78 = true := by kernel_rfl
theorem ok5200 : okFn ctx (FA Tb) 8 p5200.er Try.f105 = true := by kernel_rfl
theorem ok5300 : okFn ctx (FA Tb) 8 p5300.er Try.f98 = true := by kernel_rfl
theorem ok5400 : okFn ctx (FA Tb) 8 p5400.er Try.f79 = true := by kernel_rfl
theorem ok5500 : okFn ctx (FA Tb) 8 p5500.er Try.f50 = true := by kernel_rfl
theorem ok5600 : okFn ctx (FA Tb) 8 p5600.er Try.f20 = true := by kernel_rfl
theorem ok5700 : okFn ctx (FA Tb) 8 p5700.er Try.f107 = true := by kernel_rfl
theorem ok5800 : okFn ctx (FA Tb) 8 p5800.er Try.f108 = true := by kernel_rfl
theorem ok5900 : okFn ctx (FA Tb) 8 p5900.er Try.f113 = true := by kernel_rfl
theorem ok6000 : okFn ctx (FA Tb) 8 p6000.er Try.f106 = true := by kernel_rfl
theorem ok6100 : okFn ctx (FA Tb) 8 p6100.er Try.f99 = true := by kernel_rfl
theorem ok6200 : okFn ctx (FA Tb) 8 p6200.er Try.f80 = true := by kernel_rfl
theorem ok6300 : okFn ctx (FA Tb) 8 p6300.er Try.f51 = true := by kernel_rfl
theorem ok6400 : okFn ctx (FA Tb) 8 p6400.er Try.f82 = true := by kernel_rfl
theorem ok6500 : okFn ctx (FA Tb) 8 p6500.er Try.f52 = true := by kernel_rfl
theorem ok6600 : okFn ctx (FA Tb) 8 p6600.er Try.f21 = true := by kernel_rfl
theorem ok6800 : okFn ctx (FA Tb) 8 p6800.er Try.f100 = true := by kernel_rfl
theorem ok6900 : okFn ctx (FA Tb) 8 p6900.er Try.f87 = true := by kernel_rfl
theorem ok7000 : okFn ctx (FA Tb) 8 p7000.er Try.f61 = true := by kernel_rfl
theorem ok7100 : okFn ctx (FA Tb) 8 p7100.er Try.f31 = true := by kernel_rfl
theorem ok7200 : okFn ctx (FA Tb) 8 p7200.er Try.f53 = true := by kernel_rfl
theorem ok7300 : okFn ctx (FA Tb) 8 p7300.er Try.f22 = true := by kernel_rfl
theorem ok7400 : okFn ctx (FA Tb) 8 p7400.er Try.f101 = true := by kernel_rfl
theorem ok7500 : okFn ctx (FA Tb) 8 p7500.er Try.f88 = true := by kernel_rfl
theorem ok7600 : okFn ctx (FA Tb) 8 p7600.er Try.f62 = true := by kernel_rfl
theorem ok7700 : okFn ctx (FA Tb) 8 p7700.er Try.f32 = true := by kernel_rfl
theorem ok7800 : okFn ctx (FA Tb) 8 p7800.er Try.f54 = true := by kernel_rfl
theorem ok7900 : okFn ctx (FA Tb) 8 p7900.er Try.f23 = true := by kernel_rfl
theorem ok8000 : okFn ctx (FA Tb) 8 p8000.er Try.f102 = true := by kernel_rfl
theorem ok8100 : okFn ctx (FA Tb) 8 p8100.er Try.f89 = true := by kernel_rfl
theorem ok8200 : okFn ctx (FA Tb) 8 p8200.er Try.f63 = true := by kernel_rfl
theorem ok8300 : okFn ctx (FA Tb) 8 p8300.er Try.f33 = true := by kernel_rfl
theorem ok8400 : okFn ctx (FA Tb) 8 p8400.er Try.f55 = true := by kernel_rfl
theorem ok8500 : okFn ctx (FA Tb) 8 p8500.er Try.f24 = true := by kernel_rfl
theorem ok8600 : okFn ctx (FA Tb) 8 p8600.er Try.f8 = true := by kernel_rfl
theorem ok11100 : okFn ctx (FA Tb) 8 p11100.er Try.f112 = true := by kernel_rfl
theorem at1000 : ctx.P.funcs[ctx.fid 1000]? = some Try.f91 := by
  have e : ctx.fid 1000 = 91 := by kernel_rfl
  rw [e]; exact Try.func91
theorem at1100 : ctx.P.funcs[ctx.fid 1100]? = some Try.f73 := by
  have e : ctx.fid 1100 = 73 := by kernel_rfl
  rw [e]; exact Try.func73
theorem at1200 : ctx.P.funcs[ctx.fid 1200]? = some Try.f40 := by
  have e : ctx.fid 1200 = 40 := by kernel_rfl
  rw [e]; exact Try.func40
theorem at1600 : ctx.P.funcs[ctx.fid 1600]? = some Try.f44 := by
  have e : ctx.fid 1600 = 44 := by kernel_rfl
  rw [e]; exact Try.func44
theorem at1700 : ctx.P.funcs[ctx.fid 1700]? = some Try.f92 := by
  have e : ctx.fid 1700 = 92 := by kernel_rfl
  rw [e]; exact Try.func92
theorem at1800 : ctx.P.funcs[ctx.fid 1800]? = some Try.f74 := by
  have e : ctx.fid 1800 = 74 := by kernel_rfl
  rw [e]; exact Try.func74
theorem at1900 : ctx.P.funcs[ctx.fid 1900]? = some Try.f43 := by
  have e : ctx.fid 1900 = 43 := by kernel_rfl
  rw [e]; exact Try.func43
theorem at4000 : ctx.P.funcs[ctx.fid 4000]? = some Try.f81 := by
  have e : ctx.fid 4000 = 81 := by kernel_rfl
  rw [e]; exact Try.func81
theorem at5000 : ctx.P.funcs[ctx.fid 5000]? = some Try.f97 := by
  have e : ctx.fid 5000 = 97 := by kernel_rfl
  rw [e]; exact Try.func97
theorem at5100 : ctx.P.funcs[ctx.fid 5100]? = some Try.f78 := by
  have e : ctx.fid 5100 = 78 := by kernel_rfl
  rw [e]; exact Try.func78
theorem at5200 : ctx.P.funcs[ctx.fid 5200]? = some Try.f105 := by
  have e : ctx.fid 5200 = 105 := by kernel_rfl
  rw [e]; exact Try.func105
theorem at5300 : ctx.P.funcs[ctx.fid 5300]? = some Try.f98 := by
  have e : ctx.fid 5300 = 98 := by kernel_rfl
  rw [e]; exact Try.func98
theorem at5400 : ctx.P.funcs[ctx.fid 5400]? = some Try.f79 := by
  have e : ctx.fid 5400 = 79 := by kernel_rfl
  rw [e]; exact Try.func79
theorem at5500 : ctx.P.funcs[ctx.fid 5500]? = some Try.f50 := by
  have e : ctx.fid 5500 = 50 := by kernel_rfl
  rw [e]; exact Try.func50
theorem at5600 : ctx.P.funcs[ctx.fid 5600]? = some Try.f20 := by
  have e : ctx.fid 5600 = 20 := by kernel_rfl
  rw [e]; exact Try.func20
theorem at5700 : ctx.P.funcs[ctx.fid 5700]? = some Try.f107 := by
  have e : ctx.fid 5700 = 107 := by kernel_rfl
  rw [e]; exact Try.func107
theorem at5800 : ctx.P.funcs[ctx.fid 5800]? = some Try.f108 := by
  have e : ctx.fid 5800 = 108 := by kernel_rfl
  rw [e]; exact Try.func108
theorem at5900 : ctx.P.funcs[ctx.fid 5900]? = some Try.f113 := by
  have e : ctx.fid 5900 = 113 := by kernel_rfl
  rw [e]; exact Try.func113
theorem at6000 : ctx.P.funcs[ctx.fid 6000]? = some Try.f106 := by
  have e : ctx.fid 6000 = 106 := by kernel_rfl
  rw [e]; exact Try.func106
theorem at6100 : ctx.P.funcs[ctx.fid 6100]? = some Try.f99 := by
  have e : ctx.fid 6100 = 99 := by kernel_rfl
  rw [e]; exact Try.func99
theorem at6200 : ctx.P.funcs[ctx.fid 6200]? = some Try.f80 := by
  have e : ctx.fid 6200 = 80 := by kernel_rfl
  rw [e]; exact Try.func80
theorem at6300 : ctx.P.funcs[ctx.fid 6300]? = some Try.f51 := by
  have e : ctx.fid 6300 = 51 := by kernel_rfl
  rw [e]; exact Try.func51
theorem at6400 : ctx.P.funcs[ctx.fid 6400]? = some Try.f82 := by
  have e : ctx.fid 6400 = 82 := by kernel_rfl
  rw [e]; exact Try.func82
theorem at6500 : ctx.P.funcs[ctx.fid 6500]? = some Try.f52 := by
  have e : ctx.fid 6500 = 52 := by kernel_rfl
  rw [e]; exact Try.func52
theorem at6600 : ctx.P.funcs[ctx.fid 6600]? = some Try.f21 := by
  have e : ctx.fid 6600 = 21 := by kernel_rfl
  rw [e]; exact Try.func21
theorem at6800 : ctx.P.funcs[ctx.fid 6800]? = some Try.f100 := by
  have e : ctx.fid 6800 = 100 := by kernel_rfl
  rw [e]; exact Try.func100
theorem at6900 : ctx.P.funcs[ctx.fid 6900]? = some Try.f87 := by
  have e : ctx.fid 6900 = 87 := by kernel_rfl
  rw [e]; exact Try.func87
theorem at7000 : ctx.P.funcs[ctx.fid 7000]? = some Try.f61 := by
  have e : ctx.fid 7000 = 61 := by kernel_rfl
  rw [e]; exact Try.func61
theorem at7100 : ctx.P.funcs[ctx.fid 7100]? = some Try.f31 := by
  have e : ctx.fid 7100 = 31 := by kernel_rfl
  rw [e]; exact Try.func31
theorem at7200 : ctx.P.funcs[ctx.fid 7200]? = some Try.f53 := by
  have e : ctx.fid 7200 = 53 := by kernel_rfl
  rw [e]; exact Try.func53
theorem at7300 : ctx.P.funcs[ctx.fid 7300]? = some Try.f22 := by
  have e : ctx.fid 7300 = 22 := by kernel_rfl
  rw [e]; exact Try.func22
theorem at7400 : ctx.P.funcs[ctx.fid 7400]? = some Try.f101 := by
  have e : ctx.fid 7400 = 101 := by kernel_rfl
  rw [e]; exact Try.func101
theorem at7500 : ctx.P.funcs[ctx.fid 7500]? = some Try.f88 := by
  have e : ctx.fid 7500 = 88 := by kernel_rfl
  rw [e]; exact Try.func88
theorem at7600 : ctx.P.funcs[ctx.fid 7600]? = some Try.f62 := by
  have e : ctx.fid 7600 = 62 := by kernel_rfl
  rw [e]; exact Try.func62
theorem at7700 : ctx.P.funcs[ctx.fid 7700]? = some Try.f32 := by
  have e : ctx.fid 7700 = 32 := by kernel_rfl
  rw [e]; exact Try.func32
theorem at7800 : ctx.P.funcs[ctx.fid 7800]? = some Try.f54 := by
  have e : ctx.fid 7800 = 54 := by kernel_rfl
  rw [e]; exact Try.func54
theorem at7900 : ctx.P.funcs[ctx.fid 7900]? = some Try.f23 := by
  have e : ctx.fid 7900 = 23 := by kernel_rfl
  rw [e]; exact Try.func23
theorem at8000 : ctx.P.funcs[ctx.fid 8000]? = some Try.f102 := by
  have e : ctx.fid 8000 = 102 := by kernel_rfl
  rw [e]; exact Try.func102
theorem at8100 : ctx.P.funcs[ctx.fid 8100]? = some Try.f89 := by
  have e : ctx.fid 8100 = 89 := by kernel_rfl
  rw [e]; exact Try.func89
theorem at8200 : ctx.P.funcs[ctx.fid 8200]? = some Try.f63 := by
  have e : ctx.fid 8200 = 63 := by kernel_rfl
  rw [e]; exact Try.func63
theorem at8300 : ctx.P.funcs[ctx.fid 8300]? = some Try.f33 := by
  have e : ctx.fid 8300 = 33 := by kernel_rfl
  rw [e]; exact Try.func33
theorem at8400 : ctx.P.funcs[ctx.fid 8400]? = some Try.f55 := by
  have e : ctx.fid 8400 = 55 := by kernel_rfl
  rw [e]; exact Try.func55
theorem at8500 : ctx.P.funcs[ctx.fid 8500]? = some Try.f24 := by
  have e : ctx.fid 8500 = 24 := by kernel_rfl
  rw [e]; exact Try.func24
theorem at8600 : ctx.P.funcs[ctx.fid 8600]? = some Try.f8 := by
  have e : ctx.fid 8600 = 8 := by kernel_rfl
  rw [e]; exact Try.func8
theorem at11100 : ctx.P.funcs[ctx.fid 11100]? = some Try.f112 := by
  have e : ctx.fid 11100 = 112 := by kernel_rfl
  rw [e]; exact Try.func112
theorem laid : Laid ctx (FA Tb) := by
  refine laidT (l := tab) (by kernel_rfl) ?_
  have e : tab.map (fun x => (x.1, x.2.er)) = [(1000, p1000.er), (1100, p1100.er), (1200, p1200.er), (1600, p1600.er), (1700, p1700.er), (1800, p1800.er), (1900, p1900.er), (4000, p4000.er), (4001, p4001.er), (5000, p5000.er), (5100, p5100.er), (5101, p5101.er), (5200, p5200.er), (5300, p5300.er), (5301, p5301.er), (5400, p5400.er), (5500, p5500.er), (5501, p5501.er), (5600, p5600.er), (5700, p5700.er), (5800, p5800.er), (5900, p5900.er), (6000, p6000.er), (6100, p6100.er), (6200, p6200.er), (6201, p6201.er), (6300, p6300.er), (6400, p6400.er), (6500, p6500.er), (6501, p6501.er), (6600, p6600.er), (6601, p6601.er), (6800, p6800.er), (6801, p6801.er), (6900, p6900.er), (7000, p7000.er), (7100, p7100.er), (7101, p7101.er), (7200, p7200.er), (7300, p7300.er), (7400, p7400.er), (7401, p7401.er), (7500, p7500.er), (7600, p7600.er), (7700, p7700.er), (7701, p7701.er), (7800, p7800.er), (7801, p7801.er), (7900, p7900.er), (8000, p8000.er), (8001, p8001.er), (8100, p8100.er), (8200, p8200.er), (8300, p8300.er), (8301, p8301.er), (8400, p8400.er), (8401, p8401.er), (8500, p8500.er), (8600, p8600.er), (11100, p11100.er)] := by kernel_rfl
  rw [e]
  exact ⟨fun _ => okFn_spec at1000 ok1000, ⟨fun _ => okFn_spec at1100 ok1100, ⟨fun _ => okFn_spec at1200 ok1200, ⟨fun _ => okFn_spec at1600 ok1600, ⟨fun _ => okFn_spec at1700 ok1700, ⟨fun _ => okFn_spec at1800 ok1800, ⟨fun _ => okFn_spec at1900 ok1900, ⟨fun _ => okFn_spec at4000 ok4000, ⟨fun h => absurd h (by decide), ⟨fun _ => okFn_spec at5000 ok5000, ⟨fun _ => okFn_spec at5100 ok5100, ⟨fun h => absurd h (by decide), ⟨fun _ => okFn_spec at5200 ok5200, ⟨fun _ => okFn_spec at5300 ok5300, ⟨fun h => absurd h (by decide), ⟨fun _ => okFn_spec at5400 ok5400, ⟨fun _ => okFn_spec at5500 ok5500, ⟨fun h => absurd h (by decide), ⟨fun _ => okFn_spec at5600 ok5600, ⟨fun _ => okFn_spec at5700 ok5700, ⟨fun _ => okFn_spec at5800 ok5800, ⟨fun _ => okFn_spec at5900 ok5900, ⟨fun _ => okFn_spec at6000 ok6000, ⟨fun _ => okFn_spec at6100 ok6100, ⟨fun _ => okFn_spec at6200 ok6200, ⟨fun h => absurd h (by decide), ⟨fun _ => okFn_spec at6300 ok6300, ⟨fun _ => okFn_spec at6400 ok6400, ⟨fun _ => okFn_spec at6500 ok6500, ⟨fun h => absurd h (by decide), ⟨fun _ => okFn_spec at6600 ok6600, ⟨fun h => absurd h (by decide), ⟨fun _ => okFn_spec at6800 ok6800, ⟨fun h => absurd h (by decide), ⟨fun _ => okFn_spec at6900 ok6900, ⟨fun _ => okFn_spec at7000 ok7000, ⟨fun _ => okFn_spec at7100 ok7100, ⟨fun h => absurd h (by decide), ⟨fun _ => okFn_spec at7200 ok7200, ⟨fun _ => okFn_spec at7300 ok7300, ⟨fun _ => okFn_spec at7400 ok7400, ⟨fun h => absurd h (by decide), ⟨fun _ => okFn_spec at7500 ok7500, ⟨fun _ => okFn_spec at7600 ok7600, ⟨fun _ => okFn_spec at7700 ok7700, ⟨fun h => absurd h (by decide), ⟨fun _ => okFn_spec at7800 ok7800, ⟨fun h => absurd h (by decide), ⟨fun _ => okFn_spec at7900 ok7900, ⟨fun _ => okFn_spec at8000 ok8000, ⟨fun h => absurd h (by decide), ⟨fun _ => okFn_spec at8100 ok8100, ⟨fun _ => okFn_spec at8200 ok8200, ⟨fun _ => okFn_spec at8300 ok8300, ⟨fun h => absurd h (by decide), ⟨fun _ => okFn_spec at8400 ok8400, ⟨fun h => absurd h (by decide), ⟨fun _ => okFn_spec at8500 ok8500, ⟨fun _ => okFn_spec at8600 ok8600, ⟨fun _ => okFn_spec at11100 ok11100, trivial⟩⟩⟩⟩⟩⟩⟩⟩⟩⟩⟩⟩⟩⟩⟩⟩⟩⟩⟩⟩⟩⟩⟩⟩⟩⟩⟩⟩⟩⟩⟩⟩⟩⟩⟩⟩⟩⟩⟩⟩⟩⟩⟩⟩⟩⟩⟩⟩⟩⟩⟩⟩⟩⟩⟩⟩⟩⟩⟩⟩
theorem gok {W : World} : GOk ctx (memOf W) := by
  intro i
  show RepL ctx.fid (memOf W) (GA GT i) _
  simp [GA, GT, toAVs, RepL]
set_option maxRecDepth 100000 in
theorem lifted (os : Os) (started : os.Started) (H : Type) (enc : TypeId × Value → H) :
    ReturnsInHanded {} Try.checked os 8 .any (Rows.fnExactTaskValidSpec.pre6 enc Try.prog Try.f8 Rows.fnExactTaskValidRow.domain false) (Rows.fnExactTaskValidSpec.post enc Try.prog Try.f8 false true false false) := by
  refine returnsInHanded_of_change_sized (C := Try.checked) own started (by kernel_rfl) Try.func8
    (ChangeSpec.witness6 (enc := enc) (C := Try.checked) false ⟨#[], #[.agg #[.slice none 0 0, .slice none 0 0]], []⟩ 8 (by kernel_rfl) (by kernel_rfl) (by kernel_rfl) (by kernel_rfl)) ?_
  intro W base args ds gs before hval0 hW hcnd hsz0 _
  have hval : ∀ (j : Nat) t v, Try.f8.params[j]? = some t → args[j]? = some v → Value.okWide Try.prog W .any base t v := hval0
  have hW' := hW
  obtain ⟨p, q, hA0, hV, rfl, hfz, hnd⟩ := hW
  have hA : DataW.TrodAll enc Try.prog W 0 (fun _ => true) true Try.f8.params.toList args.toList ds p := hA0
  rw [Try.params8] at hA hval
  obtain ⟨v0, vs0, d0, ds0, p0, q0, hargs, rfl, rfl, h0, r0⟩ := trodAll_cons hA
  obtain ⟨rfl, rfl, rfl⟩ := trodAll_nil r0
  obtain rfl : args = #[v0] := by cases args; simp_all
  obtain ⟨rfl, rfl⟩ := trodVars_none hV
  have k0 := h0
  have lt0 : ∀ x ∈ p0, x.block < W.heap.size := by obtain ⟨m, hm⟩ := k0; exact DataW.trod_lt m _ _ _ hm
  obtain ⟨fu0, hf0⟩ := h0
  obtain ⟨a0, z0, w0⟩ := open_tk (fid := ctx.fid) (P := Try.prog) (t := 48) (by kernel_rfl) hf0
  have y0 := arg_agg Try.underlying47 (hval 0 48 v0 rfl rfl) z0
  have hE : callTy Tb GT boolSig 8600 [.agg (rowT .tk a0)] [] = some true := Go.TFnExactTaskValid.laws_FnExactTaskValid_eq a0 w0
  have hrun := law_top (C := ctx) laid rfl (g := 8600) (by decide) (args := #[v0]) gok rfl (by
    intro i c v hc hv
    match i, hc, hv with
    | 0, hc, hv => simp at hc hv; subst hc hv; exact y0
    | i + 1, hc, _ => simp at hc) hE
  have efid : ctx.fid 8600 = 8 := by kernel_rfl
  rw [efid] at hrun
  refine hrun.mono fun e W' ⟨he, bel⟩ => ?_
  subst he
  exact ⟨_, rfl, _, _, _, [], _, [], hW', trodAll_mk1 (shut_bool Try.underlying4 _), (trodAll_cons_mk (Below.trod laidOut (by kernel_rfl) (of_decide_eq_true (by kernel_rfl)) k0 bel lt0) trodAll_mk0), rfl, bel.frame _, fun h => by cases h⟩
theorem over : Rows.fnExactTaskValidRow.holds Try.pinned (OpenSpec.ofChange Rows.fnExactTaskValidSpec) :=
  OpenClaim.holds_of_wide 8 Try.f8 rfl rfl rfl rfl rfl rfl rfl ⟨rfl, rfl, rfl, rfl, rfl⟩ rfl rfl rfl rfl rfl (by kernel_rfl) Try.func8 (by kernel_rfl)
    (of_decide_eq_true (by kernel_rfl)) (by unfold Func.isWrapper; first | (rw [if_pos (by decide +kernel)]; kernel_rfl) | (rw [if_neg (by decide +kernel)]; exact ⟨rfl, rfl⟩))
    (fun os started H enc _ => lifted os started H enc)
end Go.Proofs.Ytbgodlimjjgogaa.fnExactTaskValid
namespace Go.Proofs.Ytbgodlimjjgogaa
/-- The row. -/
theorem fnExactTaskValid_holds : Rows.FnExactTaskValidSaid := fnExactTaskValid.over
#print axioms fnExactTaskValid_holds
end Go.Proofs.Ytbgodlimjjgogaa
