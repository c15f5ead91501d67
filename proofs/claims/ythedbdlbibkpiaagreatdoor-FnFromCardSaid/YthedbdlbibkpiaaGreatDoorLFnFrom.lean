/- The statement FnFrom is proved: the law answers true whatever the input; under no condition but that the listed variables hold what the program's text lays, which the card ties. -/
import Derived.Test.YthedbdlbibkpiaaGreatDoorRows
import Derived.Test.YthedbdlbibkpiaaGreatDoorTie
import Derived.Test.YthedbdlbibkpiaaGreatDoorCards
import Derived.Test.YthedbdlbibkpiaaGreatDoorFFnFrom
import Derived.Test.YthedbdlbibkpiaaGreatDoorTvRow
import Derived.KernelRfl
import Derived.SevenTiedAt
import Derived.Test.YthedbdlbibkpiaaGreatDoorTvRow4
import Derived.Test.YthedbdlbibkpiaaGreatDoorShelf
import Derived.Test.YthedbdlbibkpiaaGreatDoorPm1
import Derived.Test.YthedbdlbibkpiaaGreatDoorPm3
namespace Go.Proofs.YthedbdlbibkpiaaGreatDoor.fnFrom
open Go Go.Vs Go.Tv Go.ChangeShapes Go.WideShapes Go.ChangeAt Go.RowKit Go.TFnFrom
open Go.ChangeMaps (open_string shut_string)
set_option linter.unusedVariables false
theorem own : ownKnob Tryz.prog.godebug = none := by kernel_rfl
theorem laidOut : laidOutB Tryz.prog = true := by kernel_rfl
def fids : List (Nat × Nat) := [(100, 10), (200, 13), (300, 54), (400, 27), (500, 29), (600, 28), (700, 12), (1000, 49), (1100, 25), (1200, 9), (1600, 67), (1700, 66), (1800, 42), (1900, 22), (9800, 7), (20500, 17), (20700, 53), (21000, 48), (22000, 45), (31800, 37), (31900, 62), (32000, 63), (32100, 38), (32200, 20), (32300, 64), (32400, 50), (32500, 65), (32600, 39), (32700, 40), (32800, 41), (32900, 21), (33000, 6), (33100, 55), (33200, 56), (33300, 32), (33400, 18), (33500, 35), (33600, 74), (33700, 59), (33800, 75), (33900, 60), (34000, 61), (34100, 33), (34200, 34), (34300, 36), (34400, 19), (34500, 5), (34900, 30), (35000, 15), (35100, 51), (35200, 52), (35300, 26), (35400, 11), (35500, 14), (35600, 31), (35700, 16), (35800, 4), (36200, 43), (36300, 23), (36400, 46), (36500, 47), (36600, 24), (36700, 8), (37500, 57), (37600, 58), (37700, 76), (37800, 44), (37900, 3)]
noncomputable def ctx : Ctx := { P := Tryz.prog, fid := fun g => (Vs.look g fids).getD 0, gm := fun i => if i = 0 then 0 else 1000000, G := GA GT, fx := [(2, powFx)] }
theorem ok100 : okFn ctx (FA Tb) 8 p100.er Tryz.f10 = true := by kernel_rfl
theorem ok200 : okFn ctx (FA Tb) 8 p200.er Tryz.f13 = true := by kernel_rfl
theorem ok300 : okFn ctx (FA Tb) 8 p300.er Tryz.f54 = true := by kernel_rfl
theorem ok400 : okFn ctx (FA Tb) 8 p400.er Tryz.f27 = true := by kernel_rfl
theorem ok500 : okFn ctx (FA Tb) 8 p500.er Tryz.f29 = true := by kernel_rfl
theorem ok600 : okFn ctx (FA Tb) 8 p600.er Tryz.f28 = true := by kernel_rfl
theorem ok700 : okFn ctx (FA Tb) 8 p700.er Tryz.f12 = true := by kernel_rfl
theorem ok1000 : okFn ctx (FA Tb) 8 p1000.er Tryz.f49 = true := by kernel_rfl
theorem ok1100 : okFn ctx (FA Tb) 8 p1100.er Tryz.f25 = true := by kernel_rfl
theorem ok1200 : okFn ctx (FA Tb) 8 p1200.er Tryz.f9 = true := by kernel_rfl
theorem ok1600 : okFn ctx (FA Tb) 8 p1600.er Tryz.f67 = true := by kernel_rfl
theorem ok1700 : okFn ctx (FA Tb) 8 p1700.er Tryz.f66 = true := by kernel_rfl
theorem ok1800 : okFn ctx (FA Tb) 8 p1800.er Tryz.f42 = true := by kernel_rfl
theorem ok1900 : okFn ctx (FA Tb) 8 p1900.er Tryz.f22 = true := by kernel_rfl
theorem ok9800 : okFn ctx (FA Tb) 8 p9800.er Tryz.f7 = true := by kernel_rfl
theorem ok20500 : okFn ctx (FA Tb) 8 p20500.er Tryz.f17 = true := by kernel_rfl
theorem ok20700 : okFn ctx (FA Tb) 8 p20700.er Tryz.f53 = true := by kernel_rfl
theorem ok21000 : okFn ctx (FA Tb) 8 p21000.er Tryz.f48 = true := by kernel_rfl
theorem ok31800 : okFn ctx (FA Tb) 8 p31800.er Tryz.f37 = true := by kernel_rfl
theorem ok31900 : okFn ctx (FA Tb) 8 p31900.er Tryz.f62 = true := by kernel_rfl
theorem ok32000 : okFn ctx (FA Tb) 8 p32000.er Tryz.f63 = true := by kernel_rfl
theorem ok32100 : okFn ctx (FA Tb) 8 p32100.er Tryz.f38 = true := by kernel_rfl
theorem ok32200 : okFn ctx (FA Tb) 8 p32200.er Tryz.f20 = true := by kernel_rfl
theorem ok32300 : okFn ctx (FA Tb) 8 p32300.er Tryz.f64 = true := by kernel_rfl
theorem ok32400 : okFn ctx (FA Tb) 8 p32400.er Tryz.f50 = true := by kernel_rfl
theorem ok32500 : okFn ctx (FA Tb) 8 p32500.er Tryz.f65 = true := by kernel_rfl
theorem ok32600 : okFn ctx (FA Tb) 8 p32600.er Tryz.f39 = true := by kernel_rfl
theorem ok32700 : okFn ctx (FA Tb) 8 p32700.er Tryz.f40 = true := by kernel_rfl
theorem ok32800 : okFn ctx (FA Tb) 8 p32800.er Tryz.f41 = true := by kernel_rfl
theorem ok32900 : okFn ctx (FA Tb) 8 p32900.er Tryz.f21 = true := by kernel_rfl
theorem ok33000 : okFn ctx (FA Tb) 8 p33000.er Tryz.f6 = true := by kernel_rfl
theorem ok33100 : okFn ctx (FA Tb) 8 p33100.er Tryz.f55 = true := by kernel_rfl
theorem ok33200 : okFn ctx (FA Tb) 8 p33200.er Tryz.f56 = true := by kernel_rfl
theorem ok33300 : okFn ctx (FA Tb) 8 p33300.er Tryz.f32 = true := by kernel_rfl
theorem ok33400 : okFn ctx (FA Tb) 8 p33400.er Tryz.f18 = true := by kernel_rfl
theorem ok33500 : okFn ctx (FA Tb) 8 p33500.er Tryz.f35 = true := by kernel_rfl
theorem ok33600 : okFn ctx (FA Tb) 8 p33600.er Tryz.f74 = true := by kernel_rfl
theorem ok33700 : okFn ctx (FA Tb) 8 p33700.er Tryz.f59 = true := by kernel_rfl
theorem ok33800 : okFn ctx (FA Tb) 8 p33800.er Tryz.f75 = true := by kernel_rfl
theorem ok33900 : okFn ctx (FA Tb) 8 p33900.er Tryz.f60 = true := by kernel_rfl
theorem ok34000 : okFn ctx (FA Tb) 8 p34000.er Tryz.f61 = true := by kernel_rfl
theorem ok34100 : okFn ctx (FA Tb) 8 p34100.er Tryz.f33 = true := by kernel_rfl
theorem ok34200 : okFn ctx (FA Tb) 8 p34200.er Tryz.f34 = true := by kernel_rfl
theorem ok34300 : okFn ctx (FA Tb) 8 p34300.er Tryz.f36 = true := by kernel_rfl
theorem ok34400 : okFn ctx (FA Tb) 8 p34400.er Tryz.f19 = true := by kernel_rfl
theorem ok34500 : okFn ctx (FA Tb) 8 p34500.er Tryz.f5 = true := by kernel_rfl
theorem ok34900 : okFn ctx (FA Tb) 8 p34900.er Tryz.f30 = true := by kernel_rfl
theorem ok35000 : okFn ctx (FA Tb) 8 p35000.er Tryz.f15 = true := by kernel_rfl
theorem ok35100 : okFn ctx (FA Tb) 8 p35100.er Tryz.f51 = true := by kernel_rfl
theorem ok35200 : okFn ctx (FA Tb) 8 p35200.er Tryz.f52 = true := by kernel_rfl
theorem ok35300 : okFn ctx (FA Tb) 8 p35300.er Tryz.f26 = true := by kernel_rfl
theorem ok35400 : okFn ctx (FA Tb) 8 p35400.er Tryz.f11 = true := by kernel_rfl
theorem ok35500 : okFn ctx (FA Tb) 8 p35500.er Tryz.f14 = true := by kernel_rfl
theorem ok35600 : okFn ctx (FA Tb) 8 p35600.er Tryz.f31 = true := by kernel_rfl
theorem ok35700 : okFn ctx (FA Tb) 8 p35700.er Tryz.f16 = true := by kernel_rfl
theorem ok35800 : okFn ctx (FA Tb) 8 p35800.er Tryz.f4 = true := by kernel_rfl
theorem ok36200 : okFn ctx (FA Tb) 8 p36200.er Tryz.f43 = true := by kernel_rfl
theorem ok36300 : okFn ctx (FA Tb) 8 p36300.er Tryz.f23 = true := by kernel_rfl
theorem ok36400 : okFn ctx (FA Tb) 8 p36400.er Tryz.f46 = true := by kernel_rfl
theorem ok36500 : okFn ctx (FA Tb) 8 p36500.er Tryz.f47 = true := by kernel_rfl
theorem ok36600 : okFn ctx (FA Tb) 8 p36600.er Tryz.f24 = true := by kernel_rfl
theorem ok36700 : okFn ctx (FA Tb) 8 p36700.er Tryz.f8 = true := by kernel_rfl
theorem ok37900 : okFn ctx (FA Tb) 8 p37900.er Tryz.f3 = true := by kernel_rfl
theorem at100 : ctx.P.funcs[ctx.fid 100]? = some Tryz.f10 := by
  have e : ctx.fid 100 = 10 := by kernel_rfl
  rw [e]; exact Tryz.func10
theorem at200 : ctx.P.funcs[ctx.fid 200]? = some Tryz.f13 := by
  have e : ctx.fid 200 = 13 := by kernel_rfl
  rw [e]; exact Tryz.func13
theorem at300 : ctx.P.funcs[ctx.fid 300]? = some Tryz.f54 := by
  have e : ctx.fid 300 = 54 := by kernel_rfl
  rw [e]; exact Tryz.func54
theorem at400 : ctx.P.funcs[ctx.fid 400]? = some Tryz.f27 := by
  have e : ctx.fid 400 = 27 := by kernel_rfl
  rw [e]; exact Tryz.func27
theorem at500 : ctx.P.funcs[ctx.fid 500]? = some Tryz.f29 := by
  have e : ctx.fid 500 = 29 := by kernel_rfl
  rw [e]; exact Tryz.func29
theorem at600 : ctx.P.funcs[ctx.fid 600]? = some Tryz.f28 := by
  have e : ctx.fid 600 = 28 := by kernel_rfl
  rw [e]; exact Tryz.func28
theorem at700 : ctx.P.funcs[ctx.fid 700]? = some Tryz.f12 := by
  have e : ctx.fid 700 = 12 := by kernel_rfl
  rw [e]; exact Tryz.func12
theorem at1000 : ctx.P.funcs[ctx.fid 1000]? = some Tryz.f49 := by
  have e : ctx.fid 1000 = 49 := by kernel_rfl
  rw [e]; exact Tryz.func49
theorem at1100 : ctx.P.funcs[ctx.fid 1100]? = some Tryz.f25 := by
  have e : ctx.fid 1100 = 25 := by kernel_rfl
  rw [e]; exact Tryz.func25
theorem at1200 : ctx.P.funcs[ctx.fid 1200]? = some Tryz.f9 := by
  have e : ctx.fid 1200 = 9 := by kernel_rfl
  rw [e]; exact Tryz.func9
theorem at1600 : ctx.P.funcs[ctx.fid 1600]? = some Tryz.f67 := by
  have e : ctx.fid 1600 = 67 := by kernel_rfl
  rw [e]; exact Tryz.func67
theorem at1700 : ctx.P.funcs[ctx.fid 1700]? = some Tryz.f66 := by
  have e : ctx.fid 1700 = 66 := by kernel_rfl
  rw [e]; exact Tryz.func66
theorem at1800 : ctx.P.funcs[ctx.fid 1800]? = some Tryz.f42 := by
  have e : ctx.fid 1800 = 42 := by kernel_rfl
  rw [e]; exact Tryz.func42
theorem at1900 : ctx.P.funcs[ctx.fid 1900]? = some Tryz.f22 := by
  have e : ctx.fid 1900 = 22 := by kernel_rfl
  rw [e]; exact Tryz.func22
theorem at9800 : ctx.P.funcs[ctx.fid 9800]? = some Tryz.f7 := by
  have e : ctx.fid 9800 = 7 := by kernel_rfl
  rw [e]; exact Tryz.func7
theorem at20500 : ctx.P.funcs[ctx.fid 20500]? = some Tryz.f17 := by
  have e : ctx.fid 20500 = 17 := by kernel_rfl
  rw [e]; exact Tryz.func17
theorem at20700 : ctx.P.funcs[ctx.fid 20700]? = some Tryz.f53 := by
  have e : ctx.fid 20700 = 53 := by kernel_rfl
  rw [e]; exact Tryz.func53
theorem at21000 : ctx.P.funcs[ctx.fid 21000]? = some Tryz.f48 := by
  have e : ctx.fid 21000 = 48 := by kernel_rfl
  rw [e]; exact Tryz.func48
theorem at22000 : ctx.P.funcs[ctx.fid 22000]? = some Tryz.f45 := by
  have e : ctx.fid 22000 = 45 := by kernel_rfl
  rw [e]; exact Tryz.func45
theorem at31800 : ctx.P.funcs[ctx.fid 31800]? = some Tryz.f37 := by
  have e : ctx.fid 31800 = 37 := by kernel_rfl
  rw [e]; exact Tryz.func37
theorem at31900 : ctx.P.funcs[ctx.fid 31900]? = some Tryz.f62 := by
  have e : ctx.fid 31900 = 62 := by kernel_rfl
  rw [e]; exact Tryz.func62
theorem at32000 : ctx.P.funcs[ctx.fid 32000]? = some Tryz.f63 := by
  have e : ctx.fid 32000 = 63 := by kernel_rfl
  rw [e]; exact Tryz.func63
theorem at32100 : ctx.P.funcs[ctx.fid 32100]? = some Tryz.f38 := by
  have e : ctx.fid 32100 = 38 := by kernel_rfl
  rw [e]; exact Tryz.func38
theorem at32200 : ctx.P.funcs[ctx.fid 32200]? = some Tryz.f20 := by
  have e : ctx.fid 32200 = 20 := by kernel_rfl
  rw [e]; exact Tryz.func20
theorem at32300 : ctx.P.funcs[ctx.fid 32300]? = some Tryz.f64 := by
  have e : ctx.fid 32300 = 64 := by kernel_rfl
  rw [e]; exact Tryz.func64
theorem at32400 : ctx.P.funcs[ctx.fid 32400]? = some Tryz.f50 := by
  have e : ctx.fid 32400 = 50 := by kernel_rfl
  rw [e]; exact Tryz.func50
theorem at32500 : ctx.P.funcs[ctx.fid 32500]? = some Tryz.f65 := by
  have e : ctx.fid 32500 = 65 := by kernel_rfl
  rw [e]; exact Tryz.func65
theorem at32600 : ctx.P.funcs[ctx.fid 32600]? = some Tryz.f39 := by
  have e : ctx.fid 32600 = 39 := by kernel_rfl
  rw [e]; exact Tryz.func39
theorem at32700 : ctx.P.funcs[ctx.fid 32700]? = some Tryz.f40 := by
  have e : ctx.fid 32700 = 40 := by kernel_rfl
  rw [e]; exact Tryz.func40
theorem at32800 : ctx.P.funcs[ctx.fid 32800]? = some Tryz.f41 := by
  have e : ctx.fid 32800 = 41 := by kernel_rfl
  rw [e]; exact Tryz.func41
theorem at32900 : ctx.P.funcs[ctx.fid 32900]? = some Tryz.f21 := by
  have e : ctx.fid 32900 = 21 := by kernel_rfl
  rw [e]; exact Tryz.func21
theorem at33000 : ctx.P.funcs[ctx.fid 33000]? = some Tryz.f6 := by
  have e : ctx.fid 33000 = 6 := by kernel_rfl
  rw [e]; exact Tryz.func6
theorem at33100 : ctx.P.funcs[ctx.fid 33100]? = some Tryz.f55 := by
  have e : ctx.fid 33100 = 55 := by kernel_rfl
  rw [e]; exact Tryz.func55
theorem at33200 : ctx.P.funcs[ctx.fid 33200]? = some Tryz.f56 := by
  have e : ctx.fid 33200 = 56 := by kernel_rfl
  rw [e]; exact Tryz.func56
theorem at33300 : ctx.P.funcs[ctx.fid 33300]? = some Tryz.f32 := by
  have e : ctx.fid 33300 = 32 := by kernel_rfl
  rw [e]; exact Tryz.func32
theorem at33400 : ctx.P.funcs[ctx.fid 33400]? = some Tryz.f18 := by
  have e : ctx.fid 33400 = 18 := by kernel_rfl
  rw [e]; exact Tryz.func18
theorem at33500 : ctx.P.funcs[ctx.fid 33500]? = some Tryz.f35 := by
  have e : ctx.fid 33500 = 35 := by kernel_rfl
  rw [e]; exact Tryz.func35
theorem at33600 : ctx.P.funcs[ctx.fid 33600]? = some Tryz.f74 := by
  have e : ctx.fid 33600 = 74 := by kernel_rfl
  rw [e]; exact Tryz.func74
theorem at33700 : ctx.P.funcs[ctx.fid 33700]? = some Tryz.f59 := by
  have e : ctx.fid 33700 = 59 := by kernel_rfl
  rw [e]; exact Tryz.func59
theorem at33800 : ctx.P.funcs[ctx.fid 33800]? = some Tryz.f75 := by
  have e : ctx.fid 33800 = 75 := by kernel_rfl
  rw [e]; exact Tryz.func75
theorem at33900 : ctx.P.funcs[ctx.fid 33900]? = some Tryz.f60 := by
  have e : ctx.fid 33900 = 60 := by kernel_rfl
  rw [e]; exact Tryz.func60
theorem at34000 : ctx.P.funcs[ctx.fid 34000]? = some Tryz.f61 := by
  have e : ctx.fid 34000 = 61 := by kernel_rfl
  rw [e]; exact Tryz.func61
theorem at34100 : ctx.P.funcs[ctx.fid 34100]? = some Tryz.f33 := by
  have e : ctx.fid 34100 = 33 := by kernel_rfl
  rw [e]; exact Tryz.func33
theorem at34200 : ctx.P.funcs[ctx.fid 34200]? = some Tryz.f34 := by
  have e : ctx.fid 34200 = 34 := by kernel_rfl
  rw [e]; exact Tryz.func34
theorem at34300 : ctx.P.funcs[ctx.fid 34300]? = some Tryz.f36 := by
  have e : ctx.fid 34300 = 36 := by kernel_rfl
  rw [e]; exact Tryz.func36
theorem at34400 : ctx.P.funcs[ctx.fid 34400]? = some Tryz.f19 := by
  have e : ctx.fid 34400 = 19 := by kernel_rfl
  rw [e]; exact Tryz.func19
theorem at34500 : ctx.P.funcs[ctx.fid 34500]? = some Tryz.f5 := by
  have e : ctx.fid 34500 = 5 := by kernel_rfl
  rw [e]; exact Tryz.func5
theorem at34900 : ctx.P.funcs[ctx.fid 34900]? = some Tryz.f30 := by
  have e : ctx.fid 34900 = 30 := by kernel_rfl
  rw [e]; exact Tryz.func30
theorem at35000 : ctx.P.funcs[ctx.fid 35000]? = some Tryz.f15 := by
  have e : ctx.fid 35000 = 15 := by kernel_rfl
  rw [e]; exact Tryz.func15
theorem at35100 : ctx.P.funcs[ctx.fid 35100]? = some Tryz.f51 := by
  have e : ctx.fid 35100 = 51 := by kernel_rfl
  rw [e]; exact Tryz.func51
theorem at35200 : ctx.P.funcs[ctx.fid 35200]? = some Tryz.f52 := by
  have e : ctx.fid 35200 = 52 := by kernel_rfl
  rw [e]; exact Tryz.func52
theorem at35300 : ctx.P.funcs[ctx.fid 35300]? = some Tryz.f26 := by
  have e : ctx.fid 35300 = 26 := by kernel_rfl
  rw [e]; exact Tryz.func26
theorem at35400 : ctx.P.funcs[ctx.fid 35400]? = some Tryz.f11 := by
  have e : ctx.fid 35400 = 11 := by kernel_rfl
  rw [e]; exact Tryz.func11
theorem at35500 : ctx.P.funcs[ctx.fid 35500]? = some Tryz.f14 := by
  have e : ctx.fid 35500 = 14 := by kernel_rfl
  rw [e]; exact Tryz.func14
theorem at35600 : ctx.P.funcs[ctx.fid 35600]? = some Tryz.f31 := by
  have e : ctx.fid 35600 = 31 := by kernel_rfl
  rw [e]; exact Tryz.func31
theorem at35700 : ctx.P.funcs[ctx.fid 35700]? = some Tryz.f16 := by
  have e : ctx.fid 35700 = 16 := by kernel_rfl
  rw [e]; exact Tryz.func16
theorem at35800 : ctx.P.funcs[ctx.fid 35800]? = some Tryz.f4 := by
  have e : ctx.fid 35800 = 4 := by kernel_rfl
  rw [e]; exact Tryz.func4
theorem at36200 : ctx.P.funcs[ctx.fid 36200]? = some Tryz.f43 := by
  have e : ctx.fid 36200 = 43 := by kernel_rfl
  rw [e]; exact Tryz.func43
theorem at36300 : ctx.P.funcs[ctx.fid 36300]? = some Tryz.f23 := by
  have e : ctx.fid 36300 = 23 := by kernel_rfl
  rw [e]; exact Tryz.func23
theorem at36400 : ctx.P.funcs[ctx.fid 36400]? = some Tryz.f46 := by
  have e : ctx.fid 36400 = 46 := by kernel_rfl
  rw [e]; exact Tryz.func46
theorem at36500 : ctx.P.funcs[ctx.fid 36500]? = some Tryz.f47 := by
  have e : ctx.fid 36500 = 47 := by kernel_rfl
  rw [e]; exact Tryz.func47
theorem at36600 : ctx.P.funcs[ctx.fid 36600]? = some Tryz.f24 := by
  have e : ctx.fid 36600 = 24 := by kernel_rfl
  rw [e]; exact Tryz.func24
theorem at36700 : ctx.P.funcs[ctx.fid 36700]? = some Tryz.f8 := by
  have e : ctx.fid 36700 = 8 := by kernel_rfl
  rw [e]; exact Tryz.func8
theorem at37500 : ctx.P.funcs[ctx.fid 37500]? = some Tryz.f57 := by
  have e : ctx.fid 37500 = 57 := by kernel_rfl
  rw [e]; exact Tryz.func57
theorem at37600 : ctx.P.funcs[ctx.fid 37600]? = some Tryz.f58 := by
  have e : ctx.fid 37600 = 58 := by kernel_rfl
  rw [e]; exact Tryz.func58
theorem at37700 : ctx.P.funcs[ctx.fid 37700]? = some Tryz.f76 := by
  have e : ctx.fid 37700 = 76 := by kernel_rfl
  rw [e]; exact Tryz.func76
theorem at37800 : ctx.P.funcs[ctx.fid 37800]? = some Tryz.f44 := by
  have e : ctx.fid 37800 = 44 := by kernel_rfl
  rw [e]; exact Tryz.func44
theorem at37900 : ctx.P.funcs[ctx.fid 37900]? = some Tryz.f3 := by
  have e : ctx.fid 37900 = 3 := by kernel_rfl
  rw [e]; exact Tryz.func3
theorem prim22000 : PrimOk ctx 22000 p22000.er := by
  have e : ctx.fid 22000 = 45 := by kernel_rfl
  refine itoa_prim (gp := 2) ⟨⟨Tryz.f45, _, at22000, by kernel_rfl, rfl⟩⟩ (by kernel_rfl) (List.mem_cons_self ..) ?_
  rw [e]
  intro n w h0 h1 ht
  refine (Tryz.strconv_Itoa n h0 h1 w ht).mono ?_
  rintro ed w' ⟨rfl, k, os, rfl⟩
  exact ⟨rfl, by simp [Go.Sort.grow, World.drewN], fun B hB => by simp only [Go.Sort.grow, World.drewN]; rw [Array.getElem?_append_left hB], rfl, rfl, rfl⟩
theorem prim37500 : PrimOk ctx 37500 p37500.er := by
  have e : ctx.fid 37500 = 57 := by kernel_rfl
  refine prefix_prim ⟨⟨Tryz.f57, _, at37500, by kernel_rfl, rfl⟩⟩ ?_
  rw [e]
  exact fun s p w => Tryz.strings_HasPrefix s p w
theorem prim37600 : PrimOk ctx 37600 p37600.er := by
  have e : ctx.fid 37600 = 58 := by kernel_rfl
  refine index_prim ⟨⟨Tryz.f58, _, at37600, by kernel_rfl, rfl⟩⟩ ?_
  rw [e]
  exact fun s c w => Tryz.strings_IndexByte s c w
theorem prim37700 : PrimOk ctx 37700 p37700.er := by
  have e : ctx.fid 37700 = 76 := by kernel_rfl
  refine atoi_prim ⟨⟨Tryz.f76, _, at37700, by kernel_rfl, rfl⟩⟩ ?_
  rw [e]
  intro s n w h0 h1
  refine (Tryz.strconv_Atoi s n h0 h1 w).mono ?_
  rintro ed w' ⟨rfl, t, rfl⟩
  exact ⟨rfl, below_bytes w _ t⟩
theorem prim37800 : PrimOk ctx 37800 p37800.er := by
  have e : ctx.fid 37800 = 44 := by kernel_rfl
  refine join_prim ⟨⟨Tryz.f44, _, at37800, by kernel_rfl, rfl⟩⟩ ?_ ?_
  · rw [e]; exact fun a c s w => Tryz.strings_Join_none a c s w
  · rw [e]; exact fun bk o c xs s w h1 h2 h3 h4 h5 => Tryz.strings_Join bk o c xs s w h1 h2 h3 h4 h5
theorem laid : Laid ctx (FA Tb) := by
  refine laidT (l := tab) (by kernel_rfl) ?_
  have e : tab.map (fun x => (x.1, x.2.er)) = [(100, p100.er), (200, p200.er), (300, p300.er), (400, p400.er), (500, p500.er), (600, p600.er), (700, p700.er), (1000, p1000.er), (1100, p1100.er), (1200, p1200.er), (1600, p1600.er), (1700, p1700.er), (1800, p1800.er), (1900, p1900.er), (9800, p9800.er), (9801, p9801.er), (20500, p20500.er), (20700, p20700.er), (21000, p21000.er), (22000, p22000.er), (31800, p31800.er), (31801, p31801.er), (31900, p31900.er), (31901, p31901.er), (32000, p32000.er), (32100, p32100.er), (32200, p32200.er), (32201, p32201.er), (32300, p32300.er), (32301, p32301.er), (32400, p32400.er), (32500, p32500.er), (32501, p32501.er), (32600, p32600.er), (32700, p32700.er), (32800, p32800.er), (32801, p32801.er), (32900, p32900.er), (32901, p32901.er), (33000, p33000.er), (33100, p33100.er), (33200, p33200.er), (33300, p33300.er), (33301, p33301.er), (33302, p33302.er), (33303, p33303.er), (33400, p33400.er), (33401, p33401.er), (33500, p33500.er), (33600, p33600.er), (33700, p33700.er), (33800, p33800.er), (33900, p33900.er), (34000, p34000.er), (34100, p34100.er), (34200, p34200.er), (34201, p34201.er), (34300, p34300.er), (34400, p34400.er), (34401, p34401.er), (34500, p34500.er), (34900, p34900.er), (35000, p35000.er), (35001, p35001.er), (35100, p35100.er), (35200, p35200.er), (35300, p35300.er), (35400, p35400.er), (35500, p35500.er), (35600, p35600.er), (35700, p35700.er), (35701, p35701.er), (35800, p35800.er), (36200, p36200.er), (36300, p36300.er), (36301, p36301.er), (36400, p36400.er), (36500, p36500.er), (36600, p36600.er), (36700, p36700.er), (37500, p37500.er), (37600, p37600.er), (37700, p37700.er), (37800, p37800.er), (37900, p37900.er)] := by kernel_rfl
  rw [e]
  exact ⟨fun _ => okFn_spec at100 ok100, ⟨fun _ => okFn_spec at200 ok200, ⟨fun _ => okFn_spec at300 ok300, ⟨fun _ => okFn_spec at400 ok400, ⟨fun _ => okFn_spec at500 ok500, ⟨fun _ => okFn_spec at600 ok600, ⟨fun _ => okFn_spec at700 ok700, ⟨fun _ => okFn_spec at1000 ok1000, ⟨fun _ => okFn_spec at1100 ok1100, ⟨fun _ => okFn_spec at1200 ok1200, ⟨fun _ => okFn_spec at1600 ok1600, ⟨fun _ => okFn_spec at1700 ok1700, ⟨fun _ => okFn_spec at1800 ok1800, ⟨fun _ => okFn_spec at1900 ok1900, ⟨fun _ => okFn_spec at9800 ok9800, ⟨fun h => absurd h (by decide), ⟨fun _ => okFn_spec at20500 ok20500, ⟨fun _ => okFn_spec at20700 ok20700, ⟨fun _ => okFn_spec at21000 ok21000, ⟨fun _ => .inr prim22000, ⟨fun _ => okFn_spec at31800 ok31800, ⟨fun h => absurd h (by decide), ⟨fun _ => okFn_spec at31900 ok31900, ⟨fun h => absurd h (by decide), ⟨fun _ => okFn_spec at32000 ok32000, ⟨fun _ => okFn_spec at32100 ok32100, ⟨fun _ => okFn_spec at32200 ok32200, ⟨fun h => absurd h (by decide), ⟨fun _ => okFn_spec at32300 ok32300, ⟨fun h => absurd h (by decide), ⟨fun _ => okFn_spec at32400 ok32400, ⟨fun _ => okFn_spec at32500 ok32500, ⟨fun h => absurd h (by decide), ⟨fun _ => okFn_spec at32600 ok32600, ⟨fun _ => okFn_spec at32700 ok32700, ⟨fun _ => okFn_spec at32800 ok32800, ⟨fun h => absurd h (by decide), ⟨fun _ => okFn_spec at32900 ok32900, ⟨fun h => absurd h (by decide), ⟨fun _ => okFn_spec at33000 ok33000, ⟨fun _ => okFn_spec at33100 ok33100, ⟨fun _ => okFn_spec at33200 ok33200, ⟨fun _ => okFn_spec at33300 ok33300, ⟨fun h => absurd h (by decide), ⟨fun h => absurd h (by decide), ⟨fun h => absurd h (by decide), ⟨fun _ => okFn_spec at33400 ok33400, ⟨fun h => absurd h (by decide), ⟨fun _ => okFn_spec at33500 ok33500, ⟨fun _ => okFn_spec at33600 ok33600, ⟨fun _ => okFn_spec at33700 ok33700, ⟨fun _ => okFn_spec at33800 ok33800, ⟨fun _ => okFn_spec at33900 ok33900, ⟨fun _ => okFn_spec at34000 ok34000, ⟨fun _ => okFn_spec at34100 ok34100, ⟨fun _ => okFn_spec at34200 ok34200, ⟨fun h => absurd h (by decide), ⟨fun _ => okFn_spec at34300 ok34300, ⟨fun _ => okFn_spec at34400 ok34400, ⟨fun h => absurd h (by decide), ⟨fun _ => okFn_spec at34500 ok34500, ⟨fun _ => okFn_spec at34900 ok34900, ⟨fun _ => okFn_spec at35000 ok35000, ⟨fun h => absurd h (by decide), ⟨fun _ => okFn_spec at35100 ok35100, ⟨fun _ => okFn_spec at35200 ok35200, ⟨fun _ => okFn_spec at35300 ok35300, ⟨fun _ => okFn_spec at35400 ok35400, ⟨fun _ => okFn_spec at35500 ok35500, ⟨fun _ => okFn_spec at35600 ok35600, ⟨fun _ => okFn_spec at35700 ok35700, ⟨fun h => absurd h (by decide), ⟨fun _ => okFn_spec at35800 ok35800, ⟨fun _ => okFn_spec at36200 ok36200, ⟨fun _ => okFn_spec at36300 ok36300, ⟨fun h => absurd h (by decide), ⟨fun _ => okFn_spec at36400 ok36400, ⟨fun _ => okFn_spec at36500 ok36500, ⟨fun _ => okFn_spec at36600 ok36600, ⟨fun _ => okFn_spec at36700 ok36700, ⟨fun _ => .inr prim37500, ⟨fun _ => .inr prim37600, ⟨fun _ => .inr prim37700, ⟨fun _ => .inr prim37800, ⟨fun _ => okFn_spec at37900 ok37900, trivial⟩⟩⟩⟩⟩⟩⟩⟩⟩⟩⟩⟩⟩⟩⟩⟩⟩⟩⟩⟩⟩⟩⟩⟩⟩⟩⟩⟩⟩⟩⟩⟩⟩⟩⟩⟩⟩⟩⟩⟩⟩⟩⟩⟩⟩⟩⟩⟩⟩⟩⟩⟩⟩⟩⟩⟩⟩⟩⟩⟩⟩⟩⟩⟩⟩⟩⟩⟩⟩⟩⟩⟩⟩⟩⟩⟩⟩⟩⟩⟩⟩⟩⟩⟩⟩
def opS : List (List UInt8) := [[124], [94], [38], [61, 61], [60], [60, 60], [62, 62], [43], [45], [42], [47], [37]]
theorem gok {W : World} (h : laidMet Tryz.prog Rows.fnFromRow.laid W) : GOk ctx (memOf W) := by
  have hc := laid_strs h (name := "loop.example/cothreads/impl.opTexts") (zs := opS) (by right; right; right; right; right; exact List.mem_cons_self ..) (g := 0) (by kernel_rfl) (by kernel_rfl) Tryz.underlying78 Tryz.underlying9 (by kernel_rfl) (by kernel_rfl)
  intro i
  by_cases hi : i = 0
  · subst hi
    have e : ctx.G 0 = toAVs (opS.map TV.str) := by kernel_rfl
    have e2 : ctx.gm 0 = 0 := by kernel_rfl
    rw [e, e2]
    exact rep_strs (zs := opS) fun j z hz => memOf_iff.2 ⟨hc j z hz, rfl⟩
  · have e : ctx.G i = [] := by
      show GA GT i = []
      unfold GA GT; rw [if_neg hi]; rfl
    rw [e]; trivial
theorem fixed {W : World} (h : laidMet Tryz.prog Rows.fnFromRow.laid W) : ∀ x ∈ ctx.fx, ∃ o, W.heap[x.1]? = some o ∧ x.2 o := by
  intro x hx
  obtain rfl := List.mem_singleton.1 hx
  have e : Rows.laid_internal_strconv_uint64pow10 = Lib.tabData (H := Unit) .u64 Lib.pow10Tab := by kernel_rfl
  exact laid_pow h (name := "internal/strconv.uint64pow10") (by rw [← e]; right; right; exact List.mem_cons_self ..) (g := 2) (by kernel_rfl) (by kernel_rfl) Tryz.underlying107 Tryz.underlying95 (by kernel_rfl) (by kernel_rfl)
set_option maxRecDepth 100000 in
theorem lifted (os : Os) (started : os.Started) (H : Type) (enc : TypeId × Value → H) :
    ReturnsInHanded {} Tryz.checked os 3 .any (fun w args => (Rows.fnFromSpec.pre enc Tryz.prog Tryz.f3 Rows.fnFromRow.domain false w args ∧ laidMetH Tryz.prog Rows.fnFromRow.laid w) ∧ sizedMet enc Tryz.prog Tryz.f3 (OpenSpec.ofChange Rows.fnFromSpec) false w args)
      (Rows.fnFromSpec.post enc Tryz.prog Tryz.f3 false true false false) := by
  refine returnsInHanded_of_change_and (C := Tryz.checked) (X := fun w _ => laidMetH Tryz.prog Rows.fnFromRow.laid w) (fun _ _ _ hh h => h.of_heap hh) own started (by kernel_rfl) Tryz.func3
    (ChangeSpec.witness_shaped (enc := enc) (C := Tryz.checked) (os := os) (X := fun w _ => laidMetH Tryz.prog Rows.fnFromRow.laid w) false (World.laidAll Tryz.prog os Rows.fnFromRow.laid) #[.slice none 0 0] 8 rfl (World.shaped_of_RefB (by kernel_rfl) (by kernel_rfl)) (by kernel_rfl) (by kernel_rfl) (by kernel_rfl)
      (by rw [MakeChecks.laidMetH_plain _ _ _ (by kernel_rfl)]; exact laidMet_laidAll _ (by kernel_rfl) (by kernel_rfl))) ?_
  intro W base args ds gs before hval0 hW _ _ hL0 _
  have hval : ∀ (j : Nat) t v, Tryz.f3.params[j]? = some t → args[j]? = some v → Value.okWide Tryz.prog W .any base t v := hval0
  have hL : laidMet Tryz.prog Rows.fnFromRow.laid W := by rw [MakeChecks.laidMetH_plain _ _ _ (by kernel_rfl)] at hL0; exact hL0
  have hW' := hW
  obtain ⟨p, q, hA0, hV, rfl, hfz, hnd⟩ := hW
  have hA : DataW.TrodAll enc Tryz.prog W 0 (fun _ => true) true Tryz.f3.params.toList args.toList ds p := hA0
  have hV' := hV
  rw [Tryz.params3] at hA hval
  obtain ⟨v0, vs0, d0, ds0, p0, q0, hargs, rfl, rfl, h0, r0⟩ := trodAll_cons hA
  obtain ⟨rfl, rfl, rfl⟩ := trodAll_nil r0
  obtain rfl : args = #[v0] := by cases args; simp_all
  obtain ⟨g1, rfl⟩ : ∃ g1, gs = [g1] := by
    match gs, hV' with
    | [g1], _ => exact ⟨g1, rfl⟩
    | [], h => exact h.elim
    | _ :: _ :: _, h => obtain ⟨_, _, _, _, _, _, _, _, _, _, h2, _⟩ := h; exact h2.elim
  have k0 := h0
  have lt0 : ∀ x ∈ p0, x.block < W.heap.size := by obtain ⟨m, hm⟩ := k0; exact DataW.trod_lt m _ _ _ hm
  obtain ⟨a0, y0, w0⟩ := arg_bytes (fid := ctx.fid) Tryz.underlying22 (by kernel_rfl) (hval 0 22 v0 rfl rfl) h0
  have hE : callTy Tb GT boolSig 37900 [.sl .share .u8 a0] [] = some true := Go.TFnFrom.laws_FnFrom_eq a0 w0
  have hrun := law_top (C := ctx) laid rfl (g := 37900) (by decide) (args := #[v0]) (gok hL) (fixed hL) rfl (by
    intro i c v hc hv
    match i, hc, hv with
    | 0, hc, hv => simp at hc hv; subst hc hv; exact y0
    | i + 1, hc, _ => simp at hc) hE
  have efid : ctx.fid 37900 = 3 := by kernel_rfl
  rw [efid] at hrun
  refine hrun.mono fun e W' ⟨he, bel⟩ => ?_
  subst he
  exact ⟨_, rfl, _, _, _, [], _, _, hW', trodAll_mk1 (shut_bool Tryz.underlying4 _), (trodAll_cons_mk (Below.trod laidOut (by kernel_rfl) (of_decide_eq_true (by kernel_rfl)) k0 bel lt0) trodAll_mk0), Below.trodVars laidOut bel (by kernel_rfl) hV, bel.frame _, fun h => by cases h⟩
theorem over : Rows.fnFromRow.holds Tryz.pinned (OpenSpec.ofChange Rows.fnFromSpec) :=
  OpenClaim.holds_of_wide 3 Tryz.f3 rfl rfl rfl rfl rfl rfl rfl ⟨rfl, rfl, rfl, rfl, rfl⟩ rfl rfl rfl rfl rfl (by kernel_rfl) Tryz.func3 (by kernel_rfl)
    (of_decide_eq_true (by kernel_rfl)) (by unfold Func.isWrapper; first | (rw [if_pos (by decide +kernel)]; kernel_rfl) | (rw [if_neg (by decide +kernel)]; exact ⟨rfl, rfl⟩))
    (fun os started H enc _ => lifted os started H enc)
theorem card : Rows.FnFromCardSaid :=
  Claim7.holds_tied_plain_at .later [] [.data, .data, .data, .sentinel, .sentinel, .data] true (true, "fdf15b1d029369caee9ca9a732a766a76ea92a2d8daab70d1d0def67bbee2c88") true
    over (fun _ h => by cases h) (by kernel_rfl) (fun _ h => by cases h) fnFrom_row_tie rfl ⟨rfl, rfl⟩ (by kernel_rfl) rfl
    (fun f fn hf hfn => by
      obtain rfl : f = 3 := Option.some.inj ((show Tryz.prog.funcNamed "loop.example/cothreads/laws.FnFrom" = some 3 by kernel_rfl).symm.trans hf) |>.symm
      obtain rfl : fn = Tryz.f3 := (Option.some.inj (Tryz.func3.symm.trans hfn)).symm
      exact ⟨by kernel_rfl, fun j t ht => by
        rw [Tryz.params3] at ht
        have hm : t ∈ [22] := by simpa using Array.mem_of_getElem? ht
        have hall : ([22].all fun u => !Tryz.prog.wantsStandIn u) = true := by kernel_rfl
        exact (show Tryz.prog.wantsStandIn t = false by simpa using List.all_eq_true.1 hall t hm)⟩)
    (by kernel_rfl)
end Go.Proofs.YthedbdlbibkpiaaGreatDoor.fnFrom
namespace Go.Proofs.YthedbdlbibkpiaaGreatDoor
/-- The card. -/
theorem fnFrom_holds : Rows.FnFromCardSaid := fnFrom.card
#print axioms fnFrom_holds
end Go.Proofs.YthedbdlbibkpiaaGreatDoor
