/- The statement FnExactExprFrom is proved: the law answers true whatever the input; under no condition but that the listed variables hold what the program's text lays, which the card ties. -/
import Derived.Test.YthedbdlbibkpiaaDoorRows
import Derived.Test.YthedbdlbibkpiaaDoorTie
import Derived.Test.YthedbdlbibkpiaaDoorCards
import Derived.Test.YthedbdlbibkpiaaDoorFFnExactExprFrom
import Derived.Test.YthedbdlbibkpiaaDoorTvRow
import Derived.KernelRfl
import Derived.SevenTiedAt
import Derived.Test.YthedbdlbibkpiaaDoorTvRow4
import Derived.Test.YthedbdlbibkpiaaDoorShelf
import Derived.Test.YthedbdlbibkpiaaDoorPm1
import Derived.Test.YthedbdlbibkpiaaDoorPm3
namespace Go.Proofs.YthedbdlbibkpiaaDoor.fnExactExprFrom
open Go Go.Vs Go.Tv Go.ChangeShapes Go.WideShapes Go.ChangeAt Go.RowKit Go.TFnExactExprFrom
open Go.ChangeMaps (open_string shut_string)
set_option linter.unusedVariables false
theorem own : ownKnob Tryd.prog.godebug = none := by kernel_rfl
theorem laidOut : laidOutB Tryd.prog = true := by kernel_rfl
def fids : List (Nat × Nat) := [(300, 63), (500, 51), (1000, 87), (1100, 58), (1200, 30), (1600, 79), (1700, 78), (1800, 52), (1900, 27), (8000, 31), (8100, 13), (10700, 33), (20700, 73), (31800, 46), (31900, 74), (32000, 75), (32100, 47), (32200, 25), (32300, 76), (32400, 70), (32500, 77), (32600, 48), (32700, 49), (32800, 50), (32900, 26), (33000, 11), (33100, 80), (33200, 81), (33300, 53), (33400, 28), (33500, 56), (33600, 94), (33700, 84), (33800, 95), (33900, 85), (34000, 86), (34100, 54), (34200, 55), (34300, 57), (34400, 29), (34500, 12), (34700, 15), (34800, 3), (37500, 82), (37600, 83), (37700, 96), (41300, 32), (43600, 14), (43700, 12), (43800, 29), (43900, 54)]
noncomputable def ctx : Ctx := { P := Tryd.prog, fid := fun g => (Vs.look g fids).getD 0, gm := fun i => if i = 0 then 0 else 1000000, G := GA GT, fx := [(2, powFx)] }
theorem ok300 : okFn ctx (FA Tb) 8 p300.er Tryd.f63 = true := by kernel_rfl
theorem ok500 : okFn ctx (FA Tb) 8 p500.er Tryd.f51 = true := by kernel_rfl
theorem ok1000 : okFn ctx (FA Tb) 8 p1000.er Tryd.f87 = true := by kernel_rfl
theorem ok1100 : okFn ctx (FA Tb) 8 p1100.er Tryd.f58 = true := by kernel_rfl
theorem ok1200 : okFn ctx (FA Tb) 8 p1200.er Tryd.f30 = true := by kernel_rfl
theorem ok1600 : okFn ctx (FA Tb) 8 p1600.er Tryd.f79 = true := by kernel_rfl
theorem ok1700 : okFn ctx (FA Tb) 8 p1700.er Tryd.f78 = true := by kernel_rfl
theorem ok1800 : okFn ctx (FA Tb) 8 p1800.er Tryd.f52 = true := by kernel_rfl
theorem ok1900 : okFn ctx (FA Tb) 8 p1900.er Tryd.f27 = true := by kernel_rfl
theorem ok8000 : okFn ctx (FA Tb) 8 p8000.er Tryd.f31 = true := by kernel_rfl
theorem ok8100 : okFn ctx (FA Tb) 8 p8100.er Tryd.f13 = true := by kernel_rfl
theorem ok10700 : okFn ctx (FA Tb) 8 p10700.er Tryd.f33 = true := by kernel_rfl
theorem ok20700 : okFn ctx (FA Tb) 8 p20700.er Tryd.f73 = true := by kernel_rfl
theorem ok31800 : okFn ctx (FA Tb) 8 p31800.er Tryd.f46 = true := by kernel_rfl
theorem ok31900 : okFn ctx (FA Tb) 8 p31900.er Tryd.f74 = true := by kernel_rfl
theorem ok32000 : okFn ctx (FA Tb) 8 p32000.er Tryd.f75 = true := by kernel_rfl
theorem ok32100 : okFn ctx (FA Tb) 8 p32100.er Tryd.f47 = true := by kernel_rfl
theorem ok32200 : okFn ctx (FA Tb) 8 p32200.er Tryd.f25 = true := by kernel_rfl
theorem ok32300 : okFn ctx (FA Tb) 8 p32300.er Tryd.f76 = true := by kernel_rfl
theorem ok32400 : okFn ctx (FA Tb) 8 p32400.er Tryd.f70 = true := by kernel_rfl
theorem ok32500 : okFn ctx (FA Tb) 8 p32500.er Tryd.f77 = true := by kernel_rfl
theorem ok32600 : okFn ctx (FA Tb) 8 p32600.er Tryd.f48 = true := by kernel_rfl
theorem ok32700 : okFn ctx (FA Tb) 8 p32700.er Tryd.f49 = true := by kernel_rfl
theorem ok32800 : okFn ctx (FA Tb) 8 p32800.er Tryd.f50 = true := by kernel_rfl
theorem ok32900 : okFn ctx (FA Tb) 8 p32900.er Tryd.f26 = true := by kernel_rfl
theorem ok33000 : okFn ctx (FA Tb) 8 p33000.er Tryd.f11 = true := by kernel_rfl
theorem ok33100 : okFn ctx (FA Tb) 8 p33100.er Tryd.f80 = true := by kernel_rfl
theorem ok33200 : okFn ctx (FA Tb) 8 p33200.er Tryd.f81 = true := by kernel_rfl
theorem ok33300 : okFn ctx (FA Tb) 8 p33300.er Tryd.f53 = true := by kernel_rfl
theorem ok33400 : okFn ctx (FA Tb) 8 p33400.er Tryd.f28 = true := by kernel_rfl
theorem ok33500 : okFn ctx (FA Tb) 8 p33500.er Tryd.f56 = true := by kernel_rfl
theorem ok33600 : okFn ctx (FA Tb) 8 p33600.er Tryd.f94 = true := by kernel_rfl
theorem ok33700 : okFn ctx (FA Tb) 8 p33700.er Tryd.f84 = true := by kernel_rfl
theorem ok33800 : okFn ctx (FA Tb) 8 p33800.er Tryd.f95 = true := by kernel_rfl
theorem ok33900 : okFn ctx (FA Tb) 8 p33900.er Tryd.f85 = true := by kernel_rfl
theorem ok34000 : okFn ctx (FA Tb) 8 p34000.er Tryd.f86 = true := by kernel_rfl
theorem ok34100 : okFn ctx (FA Tb) 8 p34100.er Tryd.f54 = true := by kernel_rfl
theorem ok34200 : okFn ctx (FA Tb) 8 p34200.er Tryd.f55 = true := by kernel_rfl
theorem ok34300 : okFn ctx (FA Tb) 8 p34300.er Tryd.f57 = true := by kernel_rfl
theorem ok34400 : okFn ctx (FA Tb) 8 p34400.er Tryd.f29 = true := by kernel_rfl
theorem ok34500 : okFn ctx (FA Tb) 8 p34500.er Tryd.f12 = true := by kernel_rfl
theorem ok34700 : okFn ctx (FA Tb) 8 p34700.er Tryd.f15 = true := by kernel_rfl
theorem ok34800 : okFn ctx (FA Tb) 8 p34800.er Tryd.f3 = true := by kernel_rfl
theorem ok41300 : okFn ctx (FA Tb) 8 p41300.er Tryd.f32 = true := by kernel_rfl
theorem ok43600 : okFn ctx (FA Tb) 8 p43600.er Tryd.f14 = true := by kernel_rfl
theorem ok43700 : okFn ctx (FA Tb) 8 p43700.er Tryd.f12 = true := by kernel_rfl
theorem ok43800 : okFn ctx (FA Tb) 8 p43800.er Tryd.f29 = true := by kernel_rfl
theorem ok43900 : okFn ctx (FA Tb) 8 p43900.er Tryd.f54 = true := by kernel_rfl
theorem at300 : ctx.P.funcs[ctx.fid 300]? = some Tryd.f63 := by
  have e : ctx.fid 300 = 63 := by kernel_rfl
  rw [e]; exact Tryd.func63
theorem at500 : ctx.P.funcs[ctx.fid 500]? = some Tryd.f51 := by
  have e : ctx.fid 500 = 51 := by kernel_rfl
  rw [e]; exact Tryd.func51
theorem at1000 : ctx.P.funcs[ctx.fid 1000]? = some Tryd.f87 := by
  have e : ctx.fid 1000 = 87 := by kernel_rfl
  rw [e]; exact Tryd.func87
theorem at1100 : ctx.P.funcs[ctx.fid 1100]? = some Tryd.f58 := by
  have e : ctx.fid 1100 = 58 := by kernel_rfl
  rw [e]; exact Tryd.func58
theorem at1200 : ctx.P.funcs[ctx.fid 1200]? = some Tryd.f30 := by
  have e : ctx.fid 1200 = 30 := by kernel_rfl
  rw [e]; exact Tryd.func30
theorem at1600 : ctx.P.funcs[ctx.fid 1600]? = some Tryd.f79 := by
  have e : ctx.fid 1600 = 79 := by kernel_rfl
  rw [e]; exact Tryd.func79
theorem at1700 : ctx.P.funcs[ctx.fid 1700]? = some Tryd.f78 := by
  have e : ctx.fid 1700 = 78 := by kernel_rfl
  rw [e]; exact Tryd.func78
theorem at1800 : ctx.P.funcs[ctx.fid 1800]? = some Tryd.f52 := by
  have e : ctx.fid 1800 = 52 := by kernel_rfl
  rw [e]; exact Tryd.func52
theorem at1900 : ctx.P.funcs[ctx.fid 1900]? = some Tryd.f27 := by
  have e : ctx.fid 1900 = 27 := by kernel_rfl
  rw [e]; exact Tryd.func27
theorem at8000 : ctx.P.funcs[ctx.fid 8000]? = some Tryd.f31 := by
  have e : ctx.fid 8000 = 31 := by kernel_rfl
  rw [e]; exact Tryd.func31
theorem at8100 : ctx.P.funcs[ctx.fid 8100]? = some Tryd.f13 := by
  have e : ctx.fid 8100 = 13 := by kernel_rfl
  rw [e]; exact Tryd.func13
theorem at10700 : ctx.P.funcs[ctx.fid 10700]? = some Tryd.f33 := by
  have e : ctx.fid 10700 = 33 := by kernel_rfl
  rw [e]; exact Tryd.func33
theorem at20700 : ctx.P.funcs[ctx.fid 20700]? = some Tryd.f73 := by
  have e : ctx.fid 20700 = 73 := by kernel_rfl
  rw [e]; exact Tryd.func73
theorem at31800 : ctx.P.funcs[ctx.fid 31800]? = some Tryd.f46 := by
  have e : ctx.fid 31800 = 46 := by kernel_rfl
  rw [e]; exact Tryd.func46
theorem at31900 : ctx.P.funcs[ctx.fid 31900]? = some Tryd.f74 := by
  have e : ctx.fid 31900 = 74 := by kernel_rfl
  rw [e]; exact Tryd.func74
theorem at32000 : ctx.P.funcs[ctx.fid 32000]? = some Tryd.f75 := by
  have e : ctx.fid 32000 = 75 := by kernel_rfl
  rw [e]; exact Tryd.func75
theorem at32100 : ctx.P.funcs[ctx.fid 32100]? = some Tryd.f47 := by
  have e : ctx.fid 32100 = 47 := by kernel_rfl
  rw [e]; exact Tryd.func47
theorem at32200 : ctx.P.funcs[ctx.fid 32200]? = some Tryd.f25 := by
  have e : ctx.fid 32200 = 25 := by kernel_rfl
  rw [e]; exact Tryd.func25
theorem at32300 : ctx.P.funcs[ctx.fid 32300]? = some Tryd.f76 := by
  have e : ctx.fid 32300 = 76 := by kernel_rfl
  rw [e]; exact Tryd.func76
theorem at32400 : ctx.P.funcs[ctx.fid 32400]? = some Tryd.f70 := by
  have e : ctx.fid 32400 = 70 := by kernel_rfl
  rw [e]; exact Tryd.func70
theorem at32500 : ctx.P.funcs[ctx.fid 32500]? = some Tryd.f77 := by
  have e : ctx.fid 32500 = 77 := by kernel_rfl
  rw [e]; exact Tryd.func77
theorem at32600 : ctx.P.funcs[ctx.fid 32600]? = some Tryd.f48 := by
  have e : ctx.fid 32600 = 48 := by kernel_rfl
  rw [e]; exact Tryd.func48
theorem at32700 : ctx.P.funcs[ctx.fid 32700]? = some Tryd.f49 := by
  have e : ctx.fid 32700 = 49 := by kernel_rfl
  rw [e]; exact Tryd.func49
theorem at32800 : ctx.P.funcs[ctx.fid 32800]? = some Tryd.f50 := by
  have e : ctx.fid 32800 = 50 := by kernel_rfl
  rw [e]; exact Tryd.func50
theorem at32900 : ctx.P.funcs[ctx.fid 32900]? = some Tryd.f26 := by
  have e : ctx.fid 32900 = 26 := by kernel_rfl
  rw [e]; exact Tryd.func26
theorem at33000 : ctx.P.funcs[ctx.fid 33000]? = some Tryd.f11 := by
  have e : ctx.fid 33000 = 11 := by kernel_rfl
  rw [e]; exact Tryd.func11
theorem at33100 : ctx.P.funcs[ctx.fid 33100]? = some Tryd.f80 := by
  have e : ctx.fid 33100 = 80 := by kernel_rfl
  rw [e]; exact Tryd.func80
theorem at33200 : ctx.P.funcs[ctx.fid 33200]? = some Tryd.f81 := by
  have e : ctx.fid 33200 = 81 := by kernel_rfl
  rw [e]; exact Tryd.func81
theorem at33300 : ctx.P.funcs[ctx.fid 33300]? = some Tryd.f53 := by
  have e : ctx.fid 33300 = 53 := by kernel_rfl
  rw [e]; exact Tryd.func53
theorem at33400 : ctx.P.funcs[ctx.fid 33400]? = some Tryd.f28 := by
  have e : ctx.fid 33400 = 28 := by kernel_rfl
  rw [e]; exact Tryd.func28
theorem at33500 : ctx.P.funcs[ctx.fid 33500]? = some Tryd.f56 := by
  have e : ctx.fid 33500 = 56 := by kernel_rfl
  rw [e]; exact Tryd.func56
theorem at33600 : ctx.P.funcs[ctx.fid 33600]? = some Tryd.f94 := by
  have e : ctx.fid 33600 = 94 := by kernel_rfl
  rw [e]; exact Tryd.func94
theorem at33700 : ctx.P.funcs[ctx.fid 33700]? = some Tryd.f84 := by
  have e : ctx.fid 33700 = 84 := by kernel_rfl
  rw [e]; exact Tryd.func84
theorem at33800 : ctx.P.funcs[ctx.fid 33800]? = some Tryd.f95 := by
  have e : ctx.fid 33800 = 95 := by kernel_rfl
  rw [e]; exact Tryd.func95
theorem at33900 : ctx.P.funcs[ctx.fid 33900]? = some Tryd.f85 := by
  have e : ctx.fid 33900 = 85 := by kernel_rfl
  rw [e]; exact Tryd.func85
theorem at34000 : ctx.P.funcs[ctx.fid 34000]? = some Tryd.f86 := by
  have e : ctx.fid 34000 = 86 := by kernel_rfl
  rw [e]; exact Tryd.func86
theorem at34100 : ctx.P.funcs[ctx.fid 34100]? = some Tryd.f54 := by
  have e : ctx.fid 34100 = 54 := by kernel_rfl
  rw [e]; exact Tryd.func54
theorem at34200 : ctx.P.funcs[ctx.fid 34200]? = some Tryd.f55 := by
  have e : ctx.fid 34200 = 55 := by kernel_rfl
  rw [e]; exact Tryd.func55
theorem at34300 : ctx.P.funcs[ctx.fid 34300]? = some Tryd.f57 := by
  have e : ctx.fid 34300 = 57 := by kernel_rfl
  rw [e]; exact Tryd.func57
theorem at34400 : ctx.P.funcs[ctx.fid 34400]? = some Tryd.f29 := by
  have e : ctx.fid 34400 = 29 := by kernel_rfl
  rw [e]; exact Tryd.func29
theorem at34500 : ctx.P.funcs[ctx.fid 34500]? = some Tryd.f12 := by
  have e : ctx.fid 34500 = 12 := by kernel_rfl
  rw [e]; exact Tryd.func12
theorem at34700 : ctx.P.funcs[ctx.fid 34700]? = some Tryd.f15 := by
  have e : ctx.fid 34700 = 15 := by kernel_rfl
  rw [e]; exact Tryd.func15
theorem at34800 : ctx.P.funcs[ctx.fid 34800]? = some Tryd.f3 := by
  have e : ctx.fid 34800 = 3 := by kernel_rfl
  rw [e]; exact Tryd.func3
theorem at37500 : ctx.P.funcs[ctx.fid 37500]? = some Tryd.f82 := by
  have e : ctx.fid 37500 = 82 := by kernel_rfl
  rw [e]; exact Tryd.func82
theorem at37600 : ctx.P.funcs[ctx.fid 37600]? = some Tryd.f83 := by
  have e : ctx.fid 37600 = 83 := by kernel_rfl
  rw [e]; exact Tryd.func83
theorem at37700 : ctx.P.funcs[ctx.fid 37700]? = some Tryd.f96 := by
  have e : ctx.fid 37700 = 96 := by kernel_rfl
  rw [e]; exact Tryd.func96
theorem at41300 : ctx.P.funcs[ctx.fid 41300]? = some Tryd.f32 := by
  have e : ctx.fid 41300 = 32 := by kernel_rfl
  rw [e]; exact Tryd.func32
theorem at43600 : ctx.P.funcs[ctx.fid 43600]? = some Tryd.f14 := by
  have e : ctx.fid 43600 = 14 := by kernel_rfl
  rw [e]; exact Tryd.func14
theorem at43700 : ctx.P.funcs[ctx.fid 43700]? = some Tryd.f12 := by
  have e : ctx.fid 43700 = 12 := by kernel_rfl
  rw [e]; exact Tryd.func12
theorem at43800 : ctx.P.funcs[ctx.fid 43800]? = some Tryd.f29 := by
  have e : ctx.fid 43800 = 29 := by kernel_rfl
  rw [e]; exact Tryd.func29
theorem at43900 : ctx.P.funcs[ctx.fid 43900]? = some Tryd.f54 := by
  have e : ctx.fid 43900 = 54 := by kernel_rfl
  rw [e]; exact Tryd.func54
theorem prim37500 : PrimOk ctx 37500 p37500.er := by
  have e : ctx.fid 37500 = 82 := by kernel_rfl
  refine prefix_prim ⟨⟨Tryd.f82, _, at37500, by kernel_rfl, rfl⟩⟩ ?_
  rw [e]
  exact fun s p w => Tryd.strings_HasPrefix s p w
theorem prim37600 : PrimOk ctx 37600 p37600.er := by
  have e : ctx.fid 37600 = 83 := by kernel_rfl
  refine index_prim ⟨⟨Tryd.f83, _, at37600, by kernel_rfl, rfl⟩⟩ ?_
  rw [e]
  exact fun s c w => Tryd.strings_IndexByte s c w
theorem prim37700 : PrimOk ctx 37700 p37700.er := by
  have e : ctx.fid 37700 = 96 := by kernel_rfl
  refine atoi_prim ⟨⟨Tryd.f96, _, at37700, by kernel_rfl, rfl⟩⟩ ?_
  rw [e]
  intro s n w h0 h1
  refine (Tryd.strconv_Atoi s n h0 h1 w).mono ?_
  rintro ed w' ⟨rfl, t, rfl⟩
  exact ⟨rfl, below_bytes w _ t⟩
theorem laid : Laid ctx (FA Tb) := by
  refine laidT (l := tab) (by kernel_rfl) ?_
  have e : tab.map (fun x => (x.1, x.2.er)) = [(300, p300.er), (500, p500.er), (1000, p1000.er), (1100, p1100.er), (1200, p1200.er), (1600, p1600.er), (1700, p1700.er), (1800, p1800.er), (1900, p1900.er), (8000, p8000.er), (8001, p8001.er), (8100, p8100.er), (10700, p10700.er), (10701, p10701.er), (20700, p20700.er), (31800, p31800.er), (31801, p31801.er), (31900, p31900.er), (31901, p31901.er), (32000, p32000.er), (32100, p32100.er), (32200, p32200.er), (32201, p32201.er), (32300, p32300.er), (32301, p32301.er), (32400, p32400.er), (32500, p32500.er), (32501, p32501.er), (32600, p32600.er), (32700, p32700.er), (32800, p32800.er), (32801, p32801.er), (32900, p32900.er), (32901, p32901.er), (33000, p33000.er), (33100, p33100.er), (33200, p33200.er), (33300, p33300.er), (33301, p33301.er), (33302, p33302.er), (33303, p33303.er), (33400, p33400.er), (33401, p33401.er), (33500, p33500.er), (33600, p33600.er), (33700, p33700.er), (33800, p33800.er), (33900, p33900.er), (34000, p34000.er), (34100, p34100.er), (34200, p34200.er), (34201, p34201.er), (34300, p34300.er), (34400, p34400.er), (34401, p34401.er), (34500, p34500.er), (34700, p34700.er), (34800, p34800.er), (37500, p37500.er), (37600, p37600.er), (37700, p37700.er), (41300, p41300.er), (41301, p41301.er), (43600, p43600.er), (43700, p43700.er), (43800, p43800.er), (43801, p43801.er), (43900, p43900.er)] := by kernel_rfl
  rw [e]
  exact ⟨fun _ => okFn_spec at300 ok300, ⟨fun _ => okFn_spec at500 ok500, ⟨fun _ => okFn_spec at1000 ok1000, ⟨fun _ => okFn_spec at1100 ok1100, ⟨fun _ => okFn_spec at1200 ok1200, ⟨fun _ => okFn_spec at1600 ok1600, ⟨fun _ => okFn_spec at1700 ok1700, ⟨fun _ => okFn_spec at1800 ok1800, ⟨fun _ => okFn_spec at1900 ok1900, ⟨fun _ => okFn_spec at8000 ok8000, ⟨fun h => absurd h (by decide), ⟨fun _ => okFn_spec at8100 ok8100, ⟨fun _ => okFn_spec at10700 ok10700, ⟨fun h => absurd h (by decide), ⟨fun _ => okFn_spec at20700 ok20700, ⟨fun _ => okFn_spec at31800 ok31800, ⟨fun h => absurd h (by decide), ⟨fun _ => okFn_spec at31900 ok31900, ⟨fun h => absurd h (by decide), ⟨fun _ => okFn_spec at32000 ok32000, ⟨fun _ => okFn_spec at32100 ok32100, ⟨fun _ => okFn_spec at32200 ok32200, ⟨fun h => absurd h (by decide), ⟨fun _ => okFn_spec at32300 ok32300, ⟨fun h => absurd h (by decide), ⟨fun _ => okFn_spec at32400 ok32400, ⟨fun _ => okFn_spec at32500 ok32500, ⟨fun h => absurd h (by decide), ⟨fun _ => okFn_spec at32600 ok32600, ⟨fun _ => okFn_spec at32700 ok32700, ⟨fun _ => okFn_spec at32800 ok32800, ⟨fun h => absurd h (by decide), ⟨fun _ => okFn_spec at32900 ok32900, ⟨fun h => absurd h (by decide), ⟨fun _ => okFn_spec at33000 ok33000, ⟨fun _ => okFn_spec at33100 ok33100, ⟨fun _ => okFn_spec at33200 ok33200, ⟨fun _ => okFn_spec at33300 ok33300, ⟨fun h => absurd h (by decide), ⟨fun h => absurd h (by decide), ⟨fun h => absurd h (by decide), ⟨fun _ => okFn_spec at33400 ok33400, ⟨fun h => absurd h (by decide), ⟨fun _ => okFn_spec at33500 ok33500, ⟨fun _ => okFn_spec at33600 ok33600, ⟨fun _ => okFn_spec at33700 ok33700, ⟨fun _ => okFn_spec at33800 ok33800, ⟨fun _ => okFn_spec at33900 ok33900, ⟨fun _ => okFn_spec at34000 ok34000, ⟨fun _ => okFn_spec at34100 ok34100, ⟨fun _ => okFn_spec at34200 ok34200, ⟨fun h => absurd h (by decide), ⟨fun _ => okFn_spec at34300 ok34300, ⟨fun _ => okFn_spec at34400 ok34400, ⟨fun h => absurd h (by decide), ⟨fun _ => okFn_spec at34500 ok34500, ⟨fun _ => okFn_spec at34700 ok34700, ⟨fun _ => okFn_spec at34800 ok34800, ⟨fun _ => .inr prim37500, ⟨fun _ => .inr prim37600, ⟨fun _ => .inr prim37700, ⟨fun _ => okFn_spec at41300 ok41300, ⟨fun h => absurd h (by decide), ⟨fun _ => okFn_spec at43600 ok43600, ⟨fun _ => okFn_spec at43700 ok43700, ⟨fun _ => okFn_spec at43800 ok43800, ⟨fun h => absurd h (by decide), ⟨fun _ => okFn_spec at43900 ok43900, trivial⟩⟩⟩⟩⟩⟩⟩⟩⟩⟩⟩⟩⟩⟩⟩⟩⟩⟩⟩⟩⟩⟩⟩⟩⟩⟩⟩⟩⟩⟩⟩⟩⟩⟩⟩⟩⟩⟩⟩⟩⟩⟩⟩⟩⟩⟩⟩⟩⟩⟩⟩⟩⟩⟩⟩⟩⟩⟩⟩⟩⟩⟩⟩⟩⟩⟩⟩⟩
def opS : List (List UInt8) := [[124], [94], [38], [61, 61], [60], [60, 60], [62, 62], [43], [45], [42], [47], [37]]
theorem gok {W : World} (h : laidMet Tryd.prog Rows.fnExactExprFromRow.laid W) : GOk ctx (memOf W) := by
  have hc := laid_strs h (name := "loop.example/cothreads/impl.opTexts") (zs := opS) (by right; right; right; right; right; exact List.mem_cons_self ..) (g := 0) (by kernel_rfl) (by kernel_rfl) Tryd.underlying84 Tryd.underlying9 (by kernel_rfl) (by kernel_rfl)
  intro i
  by_cases hi : i = 0
  · subst hi
    have e : ctx.G 0 = toAVs (opS.map TV.str) := by kernel_rfl
    have e2 : ctx.gm 0 = 0 := by kernel_rfl
    rw [e, e2]
    exact rep_strs (zs := opS) fun j z hz => memOf_iff.2 ⟨hc j z hz, rfl⟩
  · have e : ctx.G i = [] := by
      show GA GT i = []
      unfold GA GT; rw [if_neg hi]; rfl
    rw [e]; trivial
theorem fixed {W : World} (h : laidMet Tryd.prog Rows.fnExactExprFromRow.laid W) : ∀ x ∈ ctx.fx, ∃ o, W.heap[x.1]? = some o ∧ x.2 o := by
  intro x hx
  obtain rfl := List.mem_singleton.1 hx
  have e : Rows.laid_internal_strconv_uint64pow10 = Lib.tabData (H := Unit) .u64 Lib.pow10Tab := by kernel_rfl
  exact laid_pow h (name := "internal/strconv.uint64pow10") (by rw [← e]; right; right; exact List.mem_cons_self ..) (g := 2) (by kernel_rfl) (by kernel_rfl) Tryd.underlying112 Tryd.underlying100 (by kernel_rfl) (by kernel_rfl)
set_option maxRecDepth 100000 in
theorem lifted (os : Os) (started : os.Started) (H : Type) (enc : TypeId × Value → H) :
    ReturnsInHanded {} Tryd.checked os 3 .any (fun w args => (Rows.fnExactExprFromSpec.pre enc Tryd.prog Tryd.f3 Rows.fnExactExprFromRow.domain false w args ∧ laidMetH Tryd.prog Rows.fnExactExprFromRow.laid w) ∧ sizedMet enc Tryd.prog Tryd.f3 (OpenSpec.ofChange Rows.fnExactExprFromSpec) false w args)
      (Rows.fnExactExprFromSpec.post enc Tryd.prog Tryd.f3 false true false false) := by
  refine returnsInHanded_of_change_and (C := Tryd.checked) (X := fun w _ => laidMetH Tryd.prog Rows.fnExactExprFromRow.laid w) (fun _ _ _ hh h => h.of_heap hh) own started (by kernel_rfl) Tryd.func3
    (ChangeSpec.witness_shaped (enc := enc) (C := Tryd.checked) (os := os) (X := fun w _ => laidMetH Tryd.prog Rows.fnExactExprFromRow.laid w) false (World.laidAll Tryd.prog os Rows.fnExactExprFromRow.laid) #[.string ⟨#[]⟩] 8 rfl (World.shaped_of_RefB (by kernel_rfl) (by kernel_rfl)) (by kernel_rfl) (by kernel_rfl) (by kernel_rfl)
      (by rw [MakeChecks.laidMetH_plain _ _ _ (by kernel_rfl)]; exact laidMet_laidAll _ (by kernel_rfl) (by kernel_rfl))) ?_
  intro W base args ds gs before hval0 hW _ _ hL0 _
  have hval : ∀ (j : Nat) t v, Tryd.f3.params[j]? = some t → args[j]? = some v → Value.okWide Tryd.prog W .any base t v := hval0
  have hL : laidMet Tryd.prog Rows.fnExactExprFromRow.laid W := by rw [MakeChecks.laidMetH_plain _ _ _ (by kernel_rfl)] at hL0; exact hL0
  have hW' := hW
  obtain ⟨p, q, hA0, hV, rfl, hfz, hnd⟩ := hW
  have hA : DataW.TrodAll enc Tryd.prog W 0 (fun _ => true) true Tryd.f3.params.toList args.toList ds p := hA0
  have hV' := hV
  rw [Tryd.params3] at hA hval
  obtain ⟨v0, vs0, d0, ds0, p0, q0, hargs, rfl, rfl, h0, r0⟩ := trodAll_cons hA
  obtain ⟨rfl, rfl, rfl⟩ := trodAll_nil r0
  obtain rfl : args = #[v0] := by cases args; simp_all
  obtain ⟨g1, rfl⟩ : ∃ g1, gs = [g1] := by
    match gs, hV' with
    | [g1], _ => exact ⟨g1, rfl⟩
    | [], h => exact h.elim
    | _ :: _ :: _, h => obtain ⟨_, _, _, _, _, _, _, _, _, _, h2, _⟩ := h; exact h2.elim
  obtain ⟨s0, rfl, rfl, rfl, w0⟩ := open_string Tryd.underlying9 (hval 0 9 v0 rfl rfl) h0
  have hE : callTy Tb GT boolSig 34800 [.str s0.data.toList] [] = some true := Go.TFnExactExprFrom.laws_FnExactExprFrom_eq s0.data.toList
  have hrun := law_top (C := ctx) laid rfl (g := 34800) (by decide) (args := #[(.string s0)]) (gok hL) (fixed hL) rfl (by
    intro i c v hc hv
    match i, hc, hv with
    | 0, hc, hv => simp at hc hv; subst hc hv; exact arg_str
    | i + 1, hc, _ => simp at hc) hE
  have efid : ctx.fid 34800 = 3 := by kernel_rfl
  rw [efid] at hrun
  refine hrun.mono fun e W' ⟨he, bel⟩ => ?_
  subst he
  exact ⟨_, rfl, _, _, _, [], _, _, hW', trodAll_mk1 (shut_bool Tryd.underlying4 _), (trodAll_cons_mk (shut_string Tryd.underlying9 w0) trodAll_mk0), Below.trodVars laidOut bel (by kernel_rfl) hV, bel.frame _, fun h => by cases h⟩
theorem over : Rows.fnExactExprFromRow.holds Tryd.pinned (OpenSpec.ofChange Rows.fnExactExprFromSpec) :=
  OpenClaim.holds_of_wide 3 Tryd.f3 rfl rfl rfl rfl rfl rfl rfl ⟨rfl, rfl, rfl, rfl, rfl⟩ rfl rfl rfl rfl rfl (by kernel_rfl) Tryd.func3 (by kernel_rfl)
    (of_decide_eq_true (by kernel_rfl)) (by unfold Func.isWrapper; first | (rw [if_pos (by decide +kernel)]; kernel_rfl) | (rw [if_neg (by decide +kernel)]; exact ⟨rfl, rfl⟩))
    (fun os started H enc _ => lifted os started H enc)
theorem card : Rows.FnExactExprFromCardSaid :=
  Claim7.holds_tied_plain_at .later [] [.data, .data, .data, .sentinel, .sentinel, .data] true (true, "f52935e29964c4cb5d1b79f7bc0ef3d575d76e798a62beb400fbba1f865e615c") true
    over (fun _ h => by cases h) (by kernel_rfl) (fun _ h => by cases h) fnExactExprFrom_row_tie rfl ⟨rfl, rfl⟩ (by kernel_rfl) rfl
    (fun f fn hf hfn => by
      obtain rfl : f = 3 := Option.some.inj ((show Tryd.prog.funcNamed "loop.example/cothreads/laws.FnExactExprFrom" = some 3 by kernel_rfl).symm.trans hf) |>.symm
      obtain rfl : fn = Tryd.f3 := (Option.some.inj (Tryd.func3.symm.trans hfn)).symm
      exact ⟨by kernel_rfl, fun j t ht => by
        rw [Tryd.params3] at ht
        have hm : t ∈ [9] := by simpa using Array.mem_of_getElem? ht
        have hall : ([9].all fun u => !Tryd.prog.wantsStandIn u) = true := by kernel_rfl
        exact (show Tryd.prog.wantsStandIn t = false by simpa using List.all_eq_true.1 hall t hm)⟩)
    (by kernel_rfl)
end Go.Proofs.YthedbdlbibkpiaaDoor.fnExactExprFrom
namespace Go.Proofs.YthedbdlbibkpiaaDoor
/-- The card. -/
theorem fnExactExprFrom_holds : Rows.FnExactExprFromCardSaid := fnExactExprFrom.card
#print axioms fnExactExprFrom_holds
end Go.Proofs.YthedbdlbibkpiaaDoor
