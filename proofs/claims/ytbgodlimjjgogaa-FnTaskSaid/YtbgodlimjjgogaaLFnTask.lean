/- The statement FnTask is proved: the law answers true whatever the input; under no condition. -/
import Derived.Test.YtbgodlimjjgogaaRows
import Derived.Test.YtbgodlimjjgogaaFFnTask
import Derived.Test.YtbgodlimjjgogaaTvRow
import Derived.KernelRfl
namespace Go.Proofs.Ytbgodlimjjgogaa.fnTask
open Go Go.Vs Go.Tv Go.ChangeShapes Go.WideShapes Go.ChangeAt Go.RowKit Go.TFnTask
open Go.ChangeMaps (open_string shut_string)
set_option linter.unusedVariables false
theorem own : ownKnob Try.prog.godebug = none := by kernel_rfl
theorem laidOut : laidOutB Try.prog = true := by kernel_rfl
def fids : List (Nat × Nat) := [(100, 37), (200, 39), (300, 72), (400, 69), (500, 70), (600, 71), (700, 68), (1000, 91), (1100, 73), (1200, 40), (1600, 44), (1700, 92), (1800, 74), (1900, 43), (3700, 103), (3800, 95), (3900, 76), (4000, 81), (4100, 84), (4200, 109), (4300, 110), (4400, 111), (4500, 104), (4600, 96), (4800, 49), (4900, 19), (5000, 97), (5100, 78), (5200, 105), (5300, 98), (5400, 79), (5500, 50), (5600, 20), (5700, 107), (5800, 108), (5900, 113), (6000, 106), (6100, 99), (6200, 80), (6300, 51), (6400, 82), (6500, 52), (6600, 21), (6700, 7), (11100, 112), (38000, 77), (38100, 96)]
noncomputable def ctx : Ctx := { P := Try.prog, fid := fun g => (Vs.look g fids).getD 0, gm := fun _ => 0, G := GA GT }
theorem ok100 : okFn ctx (FA Tb) 8 p100.er Try.f37 = true := by kernel_rfl
theorem ok200 : okFn ctx (FA Tb) 8 p200.er Try.f39 = true := by kernel_rfl
theorem ok300 : okFn ctx (FA Tb) 8 p300.er Try.f72 = true := by kernel_rfl
theorem ok400 : okFn ctx (FA Tb) 8 p400.er Try.f69 = true := by kernel_rfl
theorem ok500 : okFn ctx (FA Tb) 8 p500.er Try.f70 = true := by kernel_rfl
theorem ok600 : okFn ctx (FA Tb) 8 p600.er Try.f71 = true := by kernel_rfl
theorem ok700 : okFn ctx (FA Tb) 8 p700.er Try.f68 = true := by kernel_rfl
theorem ok1000 : okFn ctx (FA Tb) 8 p1000.er Try.f91 = true := by kernel_rfl
theorem ok1100 : okFn ctx (FA Tb) 8 p1100.er Try.f73 = true := by kernel_rfl
theorem ok1200 : okFn ctx (FA Tb) 8 p1200.er Try.f40 = true := by kernel_rfl
theorem ok1600 : okFn ctx (FA Tb) 8 p1600.er Try.f44 = true := by kernel_rfl
theorem ok1700 : okFn ctx (FA Tb) 8 p1700.er Try.f92 = true := by kernel_rfl
theorem ok1800 : okFn ctx (FA Tb) 8 p1800.er Try.f74 = true := by kernel_rfl
theorem ok1900 : okFn ctx (FA Tb) 8 p1900.er Try.f43 = true := by kernel_rfl
theorem ok3700 : okFn ctx (FA Tb) 8 p3700.er Try.f103 = true := by kernel_rfl
theorem ok3800 : okFn ctx (FA Tb) 8 p3800.er Try.f95 = true := by kernel_rfl
theorem ok3900 : okFn ctx (FA Tb) 8 p3900.er Try.f76 = true := by kernel_rfl
theorem ok4000 : okFn ctx (FA Tb) 8 p4000.er Try.f81 = true := by kernel_rfl
theorem ok4100 : okFn ctx (FA Tb) 8 p4100.er Try.f84 = true := by kernel_rfl
theorem ok4200 : okFn ctx (FA Tb) 8 p4200.er Try.f109 = true := by kernel_rfl
theorem ok4300 : okFn ctx (FA Tb) 8 p4300.er Try.f110 = true := by kernel_rfl
theorem ok4400 : okFn ctx (FA Tb) 8 p4400.er Try.f111 = true := by kernel_rfl
theorem ok4500 : okFn ctx (FA Tb) 8 p4500.er Try.f104 = true := by kernel_rfl
theorem ok4600 : okFn ctx (FA Tb) 8 p4600.er Try.f96 = true := by kernel_rfl
theorem ok4800 : okFn ctx (FA Tb) 8 p4800.er Try.f49 = true := by kernel_rfl
theorem ok4900 : okFn ctx (FA Tb) 8 p4900.er Try.f19 = true := by kernel_rfl
theorem ok5000 : okFn ctx (FA Tb) 8 p5000.er Try.f97 = true := by kernel_rfl
theorem ok5100 : okFn ctx (FA Tb) 8 p5100.er Try.f78 = true := by kernel_rfl
theorem ok5200 : okFn ctx (FA Tb) 8 p5200.er Try.f105 = true := by kernel_rfl
theorem ok5300 : okFn ctx (FA Tb) 8 p5300.er Try.f98 = true := by kernel_rfl
theorem ok5400 : okFn ctx (FA Tb) 8 p5400.er Try.f79 = true := by kernel_rfl
theorem ok5500 : okFn ctx (FA Tb) 8 p5500.er Try.f50 = true := by kernel_rfl
theorem ok5600 : okFn ctx (FA Tb) 8 p5600.er Try.f20 = true := by kernel_rfl
theorem ok5700 : okFn ctx (FA Tb) 8 p5700.er Try.f107 = true := by kernel_rfl
theorem ok5800 : okFn ctx (FA Tb) 8 p5800.er Try.f108 = true := by kernel_rfl
theorem ok5900 : okFn ctx (FA Tb) 8 p5900.er Try.f113 = true := by kernel_rfl
theorem ok6000 : okFn ctx (FA Tb) 8 p6000.er Try.f106 = true := by kernel_rfl
theorem ok6100 : okFn ctx (FA Tb) 8 p6100.er Try.f99 = true := by kernel_rfl
theorem ok6200 : okFn ctx (FA Tb) 8 p6200.er Try.f80 = true := by kernel_rfl
theorem ok6300 : okFn ctx (FA Tb) 8 p6300.er Try.f51 = true := by kernel_rfl
theorem ok6400 : okFn ctx (FA Tb) 8 p6400.er Try.f82 = true := by kernel_rfl
theorem ok6500 : okFn ctx (FA Tb) 8 p6500.er Try.f52 = true := by kernel_rfl
theorem ok6600 : okFn ctx (FA Tb) 8 p6600.er Try.f21 = true := by kernel_rfl
theorem ok6700 : okFn ctx (FA Tb) 8 p6700.er Try.f7 = true := by kernel_rfl
theorem ok11100 : okFn ctx (FA Tb) 8 p11100.er Try.f112 = true := by kernel_rfl
theorem ok38000 : okFn ctx (FA Tb) 8 p38000.er Try.f77 = true := by kernel_rfl
theorem ok38100 : okFn ctx (FA Tb) 8 p38100.er Try.f96 = true := by kernel_rfl
theorem at100 : ctx.P.funcs[ctx.fid 100]? = some Try.f37 := by
  have e : ctx.fid 100 = 37 := by kernel_rfl
  rw [e]; exact Try.func37
theorem at200 : ctx.P.funcs[ctx.fid 200]? = some Try.f39 := by
  have e : ctx.fid 200 = 39 := by kernel_rfl
  rw [e]; exact Try.func39
theorem at300 : ctx.P.funcs[ctx.fid 300]? = some Try.f72 := by
  have e : ctx.fid 300 = 72 := by kernel_rfl
  rw [e]; exact Try.func72
theorem at400 : ctx.P.funcs[ctx.fid 400]? = some Try.f69 := by
  have e : ctx.fid 400 = 69 := by kernel_rfl
  rw [e]; exact Try.func69
theorem at500 : ctx.P.funcs[ctx.fid 500]? = some Try.f70 := by
  have e : ctx.fid 500 = 70 := by kernel_rfl
  rw [e]; exact Try.func70
theorem at600 : ctx.P.funcs[ctx.fid 600]? = some Try.f71 := by
  have e : ctx.fid 600 = 71 := by kernel_rfl
  rw [e]; exact Try.func71
theorem at700 : ctx.P.funcs[ctx.fid 700]? = some Try.f68 := by
  have e : ctx.fid 700 = 68 := by kernel_rfl
  rw [e]; exact Try.func68
theorem at1000 : ctx.P.funcs[ctx.fid 1000]? = some Try.f91 := by
  have e : ctx.fid 1000 = 91 := by kernel_rfl
  rw [e]; exact Try.func91
theorem at1100 : ctx.P.funcs[ctx.fid 1100]? = some Try.f73 := by
  have e : ctx.fid 1100 = 73 := by kernel_rfl
  rw [e]; exact Try.func73
theorem at1200 : ctx.P.funcs[ctx.fid 1200]? = some Try.f40 := by
  have e : ctx.fid 1200 = 40 := by kernel_rfl
  rw [e]; exact Try.func40
theorem at1600 : ctx.P.funcs[ctx.fid 1600]? = some Try.f44 := by
  have e : ctx.fid 1600 = 44 := by kernel_rfl
  rw [e]; exact Try.func44
theorem at1700 : ctx.P.funcs[ctx.fid 1700]? = some Try.f92 := by
  have e : ctx.fid 1700 = 92 := by kernel_rfl
  rw [e]; exact Try.func92
theorem at1800 : ctx.P.funcs[ctx.fid 1800]? = some Try.f74 := by
  have e : ctx.fid 1800 = 74 := by kernel_rfl
  rw [e]; exact Try.func74
theorem at1900 : ctx.P.funcs[ctx.fid 1900]? = some Try.f43 := by
  have e : ctx.fid 1900 = 43 := by kernel_rfl
  rw [e]; exact Try.func43
theorem at3700 : ctx.P.funcs[ctx.fid 3700]? = some Try.f103 := by
  have e : ctx.fid 3700 = 103 := by kernel_rfl
  rw [e]; exact Try.func103
theorem at3800 : ctx.P.funcs[ctx.fid 3800]? = some Try.f95 := by
  have e : ctx.fid 3800 = 95 := by kernel_rfl
  rw [e]; exact Try.func95
theorem at3900 : ctx.P.funcs[ctx.fid 3900]? = some Try.f76 := by
  have e : ctx.fid 3900 = 76 := by kernel_rfl
  rw [e]; exact Try.func76
theorem at4000 : ctx.P.funcs[ctx.fid 4000]? = some Try.f81 := by
  have e : ctx.fid 4000 = 81 := by kernel_rfl
  rw [e]; exact Try.func81
theorem at4100 : ctx.P.funcs[ctx.fid 4100]? = some Try.f84 := by
  have e : ctx.fid 4100 = 84 := by kernel_rfl
  rw [e]; exact Try.func84
theorem at4200 : ctx.P.funcs[ctx.fid 4200]? = some Try.f109 := by
  have e : ctx.fid 4200 = 109 := by kernel_rfl
  rw [e]; exact Try.func109
theorem at4300 : ctx.P.funcs[ctx.fid 4300]? = some Try.f110 := by
  have e : ctx.fid 4300 = 110 := by kernel_rfl
  rw [e]; exact Try.func110
theorem at4400 : ctx.P.funcs[ctx.fid 4400]? = some Try.f111 := by
  have e : ctx.fid 4400 = 111 := by kernel_rfl
  rw [e]; exact Try.func111
theorem at4500 : ctx.P.funcs[ctx.fid 4500]? = some Try.f104 := by
  have e : ctx.fid 4500 = 104 := by kernel_rfl
  rw [e]; exact Try.func104
theorem at4600 : ctx.P.funcs[ctx.fid 4600]? = some Try.f96 := by
  have e : ctx.fid 4600 = 96 := by kernel_rfl
  rw [e]; exact Try.func96
theorem at4800 : ctx.P.funcs[ctx.fid 4800]? = some Try.f49 := by
  have e : ctx.fid 4800 = 49 := by kernel_rfl
  rw [e]; exact Try.func49
theorem at4900 : ctx.P.funcs[ctx.fid 4900]? = some Try.f19 := by
  have e : ctx.fid 4900 = 19 := by kernel_rfl
  rw [e]; exact Try.func19
theorem at5000 : ctx.P.funcs[ctx.fid 5000]? = some Try.f97 := by
  have e : ctx.fid 5000 = 97 := by kernel_rfl
  rw [e]; exact Try.func97
theorem at5100 : ctx.P.funcs[ctx.fid 5100]? = some Try.f78 := by
  have e : ctx.fid 5100 = 78 := by kernel_rfl
  rw [e]; exact Try.func78
theorem at5200 : ctx.P.funcs[ctx.fid 5200]? = some Try.f105 := by
  have e : ctx.fid 5200 = 105 := by kernel_rfl
  rw [e]; exact Try.func105
theorem at5300 : ctx.P.funcs[ctx.fid 5300]? = some Try.f98 := by
  have e : ctx.fid 5300 = 98 := by kernel_rfl
  rw [e]; exact Try.func98
theorem at5400 : ctx.P.funcs[ctx.fid 5400]? = some Try.f79 := by
  have e : ctx.fid 5400 = 79 := by kernel_rfl
  rw [e]; exact Try.func79
theorem at5500 : ctx.P.funcs[ctx.fid 5500]? = some Try.f50 := by
  have e : ctx.fid 5500 = 50 := by kernel_rfl
  rw [e]; exact Try.func50
theorem at5600 : ctx.P.funcs[ctx.fid 5600]? = some Try.f20 := by
  have e : ctx.fid 5600 = 20 := by kernel_rfl
  rw [e]; exact Try.func20
theorem at5700 : ctx.P.funcs[ctx.fid 5700]? = some Try.f107 := by
  have e : ctx.fid 5700 = 107 := by kernel_rfl
  rw [e]; exact Try.func107
theorem at5800 : ctx.P.funcs[ctx.fid 5800]? = some Try.f108 := by
  have e : ctx.fid 5800 = 108 := by kernel_rfl
  rw [e]; exact Try.func108
theorem at5900 : ctx.P.funcs[ctx.fid 5900]? = some Try.f113 := by
  have e : ctx.fid 5900 = 113 := by kernel_rfl
  rw [e]; exact Try.func113
theorem at6000 : ctx.P.funcs[ctx.fid 6000]? = some Try.f106 := by
  have e : ctx.fid 6000 = 106 := by kernel_rfl
  rw [e]; exact Try.func106
theorem at6100 : ctx.P.funcs[ctx.fid 6100]? = some Try.f99 := by
  have e : ctx.fid 6100 = 99 := by kernel_rfl
  rw [e]; exact Try.func99
theorem at6200 : ctx.P.funcs[ctx.fid 6200]? = some Try.f80 := by
  have e : ctx.fid 6200 = 80 := by kernel_rfl
  rw [e]; exact Try.func80
theorem at6300 : ctx.P.funcs[ctx.fid 6300]? = some Try.f51 := by
  have e : ctx.fid 6300 = 51 := by kernel_rfl
  rw [e]; exact Try.func51
theorem at6400 : ctx.P.funcs[ctx.fid 6400]? = some Try.f82 := by
  have e : ctx.fid 6400 = 82 := by kernel_rfl
  rw [e]; exact Try.func82
theorem at6500 : ctx.P.funcs[ctx.fid 6500]? = some Try.f52 := by
  have e : ctx.fid 6500 = 52 := by kernel_rfl
  rw [e]; exact Try.func52
theorem at6600 : ctx.P.funcs[ctx.fid 6600]? = some Try.f21 := by
  have e : ctx.fid 6600 = 21 := by kernel_rfl
  rw [e]; exact Try.func21
theorem at6700 : ctx.P.funcs[ctx.fid 6700]? = some Try.f7 := by
  have e : ctx.fid 6700 = 7 := by kernel_rfl
  rw [e]; exact Try.func7
theorem at11100 : ctx.P.funcs[ctx.fid 11100]? = some Try.f112 := by
  have e : ctx.fid 11100 = 112 := by kernel_rfl
  rw [e]; exact Try.func112
theorem at38000 : ctx.P.funcs[ctx.fid 38000]? = some Try.f77 := by
  have e : ctx.fid 38000 = 77 := by kernel_rfl
  rw [e]; exact Try.func77
theorem at38100 : ctx.P.funcs[ctx.fid 38100]? = some Try.f96 := by
  have e : ctx.fid 38100 = 96 := by kernel_rfl
  rw [e]; exact Try.func96
theorem laid : Laid ctx (FA Tb) := by
  refine laidT (l := tab) (by kernel_rfl) ?_
  have e : tab.map (fun x => (x.1, x.2.er)) = [(100, p100.er), (200, p200.er), (300, p300.er), (400, p400.er), (500, p500.er), (600, p600.er), (700, p700.er), (1000, p1000.er), (1100, p1100.er), (1200, p1200.er), (1600, p1600.er), (1700, p1700.er), (1800, p1800.er), (1900, p1900.er), (3700, p3700.er), (3800, p3800.er), (3900, p3900.er), (3901, p3901.er), (4000, p4000.er), (4001, p4001.er), (4100, p4100.er), (4200, p4200.er), (4300, p4300.er), (4400, p4400.er), (4500, p4500.er), (4600, p4600.er), (4601, p4601.er), (4800, p4800.er), (4900, p4900.er), (5000, p5000.er), (5100, p5100.er), (5101, p5101.er), (5200, p5200.er), (5300, p5300.er), (5301, p5301.er), (5400, p5400.er), (5500, p5500.er), (5501, p5501.er), (5600, p5600.er), (5700, p5700.er), (5800, p5800.er), (5900, p5900.er), (6000, p6000.er), (6100, p6100.er), (6200, p6200.er), (6201, p6201.er), (6300, p6300.er), (6400, p6400.er), (6500, p6500.er), (6501, p6501.er), (6600, p6600.er), (6601, p6601.er), (6700, p6700.er), (11100, p11100.er), (38000, p38000.er), (38001, p38001.er), (38100, p38100.er), (38101, p38101.er)] := by kernel_rfl
  rw [e]
  exact ⟨fun _ => okFn_spec at100 ok100, ⟨fun _ => okFn_spec at200 ok200, ⟨fun _ => okFn_spec at300 ok300, ⟨fun _ => okFn_spec at400 ok400, ⟨fun _ => okFn_spec at500 ok500, ⟨fun _ => okFn_spec at600 ok600, ⟨fun _ => okFn_spec at700 ok700, ⟨fun _ => okFn_spec at1000 ok1000, ⟨fun _ => okFn_spec at1100 ok1100, ⟨fun _ => okFn_spec at1200 ok1200, ⟨fun _ => okFn_spec at1600 ok1600, ⟨fun _ => okFn_spec at1700 ok1700, ⟨fun _ => okFn_spec at1800 ok1800, ⟨fun _ => okFn_spec at1900 ok1900, ⟨fun _ => okFn_spec at3700 ok3700, ⟨fun _ => okFn_spec at3800 ok3800, ⟨fun _ => okFn_spec at3900 ok3900, ⟨fun h => absurd h (by decide), ⟨fun _ => okFn_spec at4000 ok4000, ⟨fun h => absurd h (by decide), ⟨fun _ => okFn_spec at4100 ok4100, ⟨fun _ => okFn_spec at4200 ok4200, ⟨fun _ => okFn_spec at4300 ok4300, ⟨fun _ => okFn_spec at4400 ok4400, ⟨fun _ => okFn_spec at4500 ok4500, ⟨fun _ => okFn_spec at4600 ok4600, ⟨fun h => absurd h (by decide), ⟨fun _ => okFn_spec at4800 ok4800, ⟨fun _ => okFn_spec at4900 ok4900, ⟨fun _ => okFn_spec at5000 ok5000, ⟨fun _ => okFn_spec at5100 ok5100, ⟨fun h => absurd h (by decide), ⟨fun _ => okFn_spec at5200 ok5200, ⟨fun _ => okFn_spec at5300 ok5300, ⟨fun h => absurd h (by decide), ⟨fun _ => okFn_spec at5400 ok5400, ⟨fun _ => okFn_spec at5500 ok5500, ⟨fun h => absurd h (by decide), ⟨fun _ => okFn_spec at5600 ok5600, ⟨fun _ => okFn_spec at5700 ok5700, ⟨fun _ => okFn_spec at5800 ok5800, ⟨fun _ => okFn_spec at5900 ok5900, ⟨fun _ => okFn_spec at6000 ok6000, ⟨fun _ => okFn_spec at6100 ok6100, ⟨fun _ => okFn_spec at6200 ok6200, ⟨fun h => absurd h (by decide), ⟨fun _ => okFn_spec at6300 ok6300, ⟨fun _ => okFn_spec at6400 ok6400, ⟨fun _ => okFn_spec at6500 ok6500, ⟨fun h => absurd h (by decide), ⟨fun _ => okFn_spec at6600 ok6600, ⟨fun h => absurd h (by decide), ⟨fun _ => okFn_spec at6700 ok6700, ⟨fun _ => okFn_spec at11100 ok11100, ⟨fun _ => okFn_spec at38000 ok38000, ⟨fun h => absurd h (by decide), ⟨fun _ => okFn_spec at38100 ok38100, ⟨fun h => absurd h (by decide), trivial⟩⟩⟩⟩⟩⟩⟩⟩⟩⟩⟩⟩⟩⟩⟩⟩⟩⟩⟩⟩⟩⟩⟩⟩⟩⟩⟩⟩⟩⟩⟩⟩⟩⟩⟩⟩⟩⟩⟩⟩⟩⟩⟩⟩⟩⟩⟩⟩⟩⟩⟩⟩⟩⟩⟩⟩⟩⟩
theorem gok {W : World} : GOk ctx (memOf W) := by
  intro i
  show RepL ctx.fid (memOf W) (GA GT i) _
  simp [GA, GT, toAVs, RepL]
set_option maxRecDepth 100000 in
theorem lifted (os : Os) (started : os.Started) (H : Type) (enc : TypeId × Value → H) :
    ReturnsInHanded {} Try.checked os 7 .any (Rows.fnTaskSpec.pre6 enc Try.prog Try.f7 Rows.fnTaskRow.domain false) (Rows.fnTaskSpec.post enc Try.prog Try.f7 false true false false) := by
  refine returnsInHanded_of_change_sized (C := Try.checked) own started (by kernel_rfl) Try.func7
    (ChangeSpec.witness6 (enc := enc) (C := Try.checked) false ⟨#[], #[.slice none 0 0, .slice none 0 0], []⟩ 8 (by kernel_rfl) (by kernel_rfl) (by kernel_rfl) (by kernel_rfl)) ?_
  intro W base args ds gs before hval0 hW hcnd hsz0 _
  have hval : ∀ (j : Nat) t v, Try.f7.params[j]? = some t → args[j]? = some v → Value.okWide Try.prog W .any base t v := hval0
  have hW' := hW
  obtain ⟨p, q, hA0, hV, rfl, hfz, hnd⟩ := hW
  have hA : DataW.TrodAll enc Try.prog W 0 (fun _ => true) true Try.f7.params.toList args.toList ds p := hA0
  have hV' := hV
  rw [Try.params7] at hA hval
  obtain ⟨v0, vs0, d0, ds0, p0, q0, hargs, rfl, rfl, h0, r0⟩ := trodAll_cons hA
  obtain ⟨v1, vs1, d1, ds1, p1, q1, rfl, rfl, rfl, h1, r1⟩ := trodAll_cons r0
  obtain ⟨rfl, rfl, rfl⟩ := trodAll_nil r1
  obtain rfl : args = #[v0, v1] := by cases args; simp_all
  obtain ⟨rfl, rfl⟩ := trodVars_none hV
  have k0 := h0
  have lt0 : ∀ x ∈ p0, x.block < W.heap.size := by obtain ⟨m, hm⟩ := k0; exact DataW.trod_lt m _ _ _ hm
  obtain ⟨a0, y0, w0⟩ := arg_bytes (fid := ctx.fid) Try.underlying22 (by kernel_rfl) (hval 0 22 v0 rfl rfl) h0
  have k1 := h1
  have lt1 : ∀ x ∈ p1, x.block < W.heap.size := by obtain ⟨m, hm⟩ := k1; exact DataW.trod_lt m _ _ _ hm
  obtain ⟨a1, y1, w1⟩ := arg_bytes (fid := ctx.fid) Try.underlying22 (by kernel_rfl) (hval 1 22 v1 rfl rfl) h1
  have hE : callTy Tb GT boolSig 6700 [.sl .share .u8 a0, .sl .share .u8 a1] [] = some true := Go.TFnTask.laws_FnTask_eq a0 w0 a1 w1
  have hrun := law_top (C := ctx) laid rfl (g := 6700) (by decide) (args := #[v0, v1]) gok (fun _ h => by cases h) rfl (by
    intro i c v hc hv
    match i, hc, hv with
    | 0, hc, hv => simp at hc hv; subst hc hv; exact y0
    | 1, hc, hv => simp at hc hv; subst hc hv; exact y1
    | i + 2, hc, _ => simp at hc) hE
  have efid : ctx.fid 6700 = 7 := by kernel_rfl
  rw [efid] at hrun
  refine hrun.mono fun e W' ⟨he, bel⟩ => ?_
  subst he
  exact ⟨_, rfl, _, _, _, [], _, [], hW', trodAll_mk1 (shut_bool Try.underlying4 _), (trodAll_cons_mk (Below.trod laidOut (by kernel_rfl) (of_decide_eq_true (by kernel_rfl)) k0 bel lt0) (trodAll_cons_mk (Below.trod laidOut (by kernel_rfl) (of_decide_eq_true (by kernel_rfl)) k1 bel lt1) trodAll_mk0)), rfl, bel.frame _, fun h => by cases h⟩
theorem over : Rows.fnTaskRow.holds Try.pinned (OpenSpec.ofChange Rows.fnTaskSpec) :=
  OpenClaim.holds_of_wide 7 Try.f7 rfl rfl rfl rfl rfl rfl rfl ⟨rfl, rfl, rfl, rfl, rfl⟩ rfl rfl rfl rfl rfl (by kernel_rfl) Try.func7 (by kernel_rfl)
    (of_decide_eq_true (by kernel_rfl)) (by unfold Func.isWrapper; first | (rw [if_pos (by decide +kernel)]; kernel_rfl) | (rw [if_neg (by decide +kernel)]; exact ⟨rfl, rfl⟩))
    (fun os started H enc _ => lifted os started H enc)
end Go.Proofs.Ytbgodlimjjgogaa.fnTask
namespace Go.Proofs.Ytbgodlimjjgogaa
/-- The row. -/
theorem fnTask_holds : Rows.FnTaskSaid := fnTask.over
#print axioms fnTask_holds
end Go.Proofs.Ytbgodlimjjgogaa
