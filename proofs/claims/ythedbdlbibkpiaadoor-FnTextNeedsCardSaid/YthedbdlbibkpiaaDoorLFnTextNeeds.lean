/- The statement FnTextNeeds is proved: the law answers true whatever the input; under no condition but that the listed variables hold what the program's text lays, which the card ties. -/
import Derived.Test.YthedbdlbibkpiaaDoorRows
import Derived.Test.YthedbdlbibkpiaaDoorTie
import Derived.Test.YthedbdlbibkpiaaDoorCards
import Derived.Test.YthedbdlbibkpiaaDoorFFnTextNeeds
import Derived.Test.YthedbdlbibkpiaaDoorTvRow
import Derived.KernelRfl
import Derived.SevenTiedAt
import Derived.Test.YthedbdlbibkpiaaDoorTvRow4
import Derived.Test.YthedbdlbibkpiaaDoorShelf
import Derived.Test.YthedbdlbibkpiaaDoorPm1
import Derived.Test.YthedbdlbibkpiaaDoorPm3
namespace Go.Proofs.YthedbdlbibkpiaaDoor.fnTextNeeds
open Go Go.Vs Go.Tv Go.ChangeShapes Go.WideShapes Go.ChangeAt Go.RowKit Go.TFnTextNeeds
open Go.ChangeMaps (open_string shut_string)
set_option linter.unusedVariables false
theorem own : ownKnob Tryd.prog.godebug = none := by kernel_rfl
theorem laidOut : laidOutB Tryd.prog = true := by kernel_rfl
def fids : List (Nat × Nat) := [(100, 34), (200, 36), (300, 63), (400, 59), (500, 51), (600, 60), (700, 35), (800, 41), (1000, 87), (1100, 58), (1200, 30), (1600, 79), (1700, 78), (1800, 52), (1900, 27), (9800, 17), (20500, 40), (20700, 73), (21000, 69), (21500, 21), (22000, 66), (31800, 46), (31900, 74), (32000, 75), (32100, 47), (32200, 25), (32300, 76), (32400, 70), (32500, 77), (32600, 48), (32700, 49), (32800, 50), (32900, 26), (33000, 11), (33100, 80), (33200, 81), (33300, 53), (33400, 28), (33500, 56), (33600, 94), (33700, 84), (33800, 95), (33900, 85), (34000, 86), (34100, 54), (34200, 55), (34300, 57), (34400, 29), (34500, 12), (34900, 61), (35000, 38), (35100, 71), (35200, 72), (35300, 44), (35400, 20), (36100, 18), (36200, 64), (36300, 42), (36400, 67), (36500, 68), (36600, 43), (36700, 19), (36900, 7), (37500, 82), (37600, 83), (37700, 96), (37800, 65)]
noncomputable def ctx : Ctx := { P := Tryd.prog, fid := fun g => (Vs.look g fids).getD 0, gm := fun i => if i = 0 then 0 else 1000000, G := GA GT, fx := [(2, powFx)] }
theorem ok100 : okFn ctx (FA Tb) 8 p100.er Tryd.f34 = true := by kernel_rfl
theorem ok200 : okFn ctx (FA Tb) 8 p200.er Tryd.f36 = true := by kernel_rfl
theorem ok300 : okFn ctx (FA Tb) 8 p300.er Tryd.f63 = true := by kernel_rfl
theorem ok400 : okFn ctx (FA Tb) 8 p400.er Tryd.f59 = true := by kernel_rfl
theorem ok500 : okFn ctx (FA Tb) 8 p500.er Tryd.f51 = true := by kernel_rfl
theorem ok600 : okFn ctx (FA Tb) 8 p600.er Tryd.f60 = true := by kernel_rfl
theorem ok700 : okFn ctx (FA Tb) 8 p700.er Tryd.f35 = true := by kernel_rfl
theorem ok800 : okFn ctx (FA Tb) 8 p800.er Tryd.f41 = true := by kernel_rfl
theorem ok1000 : okFn ctx (FA Tb) 8 p1000.er Tryd.f87 = true := by kernel_rfl
theorem ok1100 : okFn ctx (FA Tb) 8 p1100.er Tryd.f58 = true := by kernel_rfl
theorem ok1200 : okFn ctx (FA Tb) 8 p1200.er Tryd.f30 = true := by kernel_rfl
theorem ok1600 : okFn ctx (FA Tb) 8 p1600.er Tryd.f79 = true := by kernel_rfl
theorem ok1700 : okFn ctx (FA Tb) 8 p1700.er Tryd.f78 = true := by kernel_rfl
theorem ok1800 : okFn ctx (FA Tb) 8 p1800.er Tryd.f52 = true := by kernel_rfl
theorem ok1900 : okFn ctx (FA Tb) 8 p1900.er Tryd.f27 = true := by kernel_rfl
theorem ok9800 : okFn ctx (FA Tb) 8 p9800.er Tryd.f17 = true := by kernel_rfl
theorem ok20500 : okFn ctx (FA Tb) 8 p20500.er Tryd.f40 = true := by kernel_rfl
theorem ok20700 : okFn ctx (FA Tb) 8 p20700.er Tryd.f73 = true := by kernel_rfl
theorem ok21000 : okFn ctx (FA Tb) 8 p21000.er Tryd.f69 = true := by kernel_rfl
theorem ok21500 : okFn ctx (FA Tb) 8 p21500.er Tryd.f21 = true := by kernel_rfl
theorem ok31800 : okFn ctx (FA Tb) 8 p31800.er Tryd.f46 = true := by kernel_rfl
theorem ok31900 : okFn ctx (FA Tb) 8 p31900.er Tryd.f74 = true := by kernel_rfl
theorem ok32000 : okFn ctx (FA Tb) 8 p32000.er Tryd.f75 = true := by kernel_rfl
theorem ok32100 : okFn ctx (FA Tb) 8 p32100.er Tryd.f47 = true := by kernel_rfl
theorem ok32200 : okFn ctx (FA Tb) 8 p32200.er Tryd.f25 = true := by kernel_rfl
theorem ok32300 : okFn ctx (FA Tb) 8 p32300.er Tryd.f76 = true := by kernel_rfl
theorem ok32400 : okFn ctx (FA Tb) 8 p32400.er Tryd.f70 = true := by kernel_rfl
theorem ok32500 : okFn ctx (FA Tb) 8 p32500.er Tryd.f77 = true := by kernel_rfl
theorem ok32600 : okFn ctx (FA Tb) 8 p32600.er Tryd.f48 = true := by kernel_rfl
theorem ok32700 : okFn ctx (FA Tb) 8 p32700.er Tryd.f49 = true := by kernel_rfl
theorem ok32800 : okFn ctx (FA Tb) 8 p32800.er Tryd.f50 = true := by kernel_rfl
theorem ok32900 : okFn ctx (FA Tb) 8 p32900.er Tryd.f26 = true := by kernel_rfl
theorem ok33000 : okFn ctx (FA Tb) 8 p33000.er Tryd.f11 = true := by kernel_rfl
theorem ok33100 : okFn ctx (FA Tb) 8 p33100.er Tryd.f80 = true := by kernel_rfl
theorem ok33200 : okFn ctx (FA Tb) 8 p33200.er Tryd.f81 = true := by kernel_rfl
theorem ok33300 : okFn ctx (FA Tb) 8 p33300.er Tryd.f53 = true := by kernel_rfl
theorem ok33400 : okFn ctx (FA Tb) 8 p33400.er Tryd.f28 = true := by kernel_rfl
theorem ok33500 : okFn ctx (FA Tb) 8 p33500.er Tryd.f56 = true := by kernel_rfl
theorem ok33600 : okFn ctx (FA Tb) 8 p33600.er Tryd.f94 = true := by kernel_rfl
theorem ok33700 : okFn ctx (FA Tb) 8 p33700.er Tryd.f84 = true := by kernel_rfl
theorem ok33800 : okFn ctx (FA Tb) 8 p33800.er Tryd.f95 = true := by kernel_rfl
theorem ok33900 : okFn ctx (FA Tb) 8 p33900.er Tryd.f85 = true := by kernel_rfl
theorem ok34000 : okFn ctx (FA Tb) 8 p34000.er Tryd.f86 = true := by kernel_rfl
theorem ok34100 : okFn ctx (FA Tb) 8 p34100.er Tryd.f54 = true := by kernel_rfl
theorem ok34200 : okFn ctx (FA Tb) 8 p34200.er Tryd.f55 = true := by kernel_rfl
theorem ok34300 : okFn ctx (FA Tb) 8 p34300.er Tryd.f57 = true := by kernel_rfl
theorem ok34400 : okFn ctx (FA Tb) 8 p34400.er Tryd.f29 = true := by kernel_rfl
theorem ok34500 : okFn ctx (FA Tb) 8 p34500.er Tryd.f12 = true := by kernel_rfl
theorem ok34900 : okFn ctx (FA Tb) 8 p34900.er Tryd.f61 = true := by kernel_rfl
theorem ok35000 : okFn ctx (FA Tb) 8 p35000.er Tryd.f38 = true := by kernel_rfl
theorem ok35100 : okFn ctx (FA Tb) 8 p35100.er Tryd.f71 = true := by kernel_rfl
theorem ok35200 : okFn ctx (FA Tb) 8 p35200.er Tryd.f72 = true := by kernel_rfl
theorem ok35300 : okFn ctx (FA Tb) 8 p35300.er Tryd.f44 = true := by kernel_rfl
theorem ok35400 : okFn ctx (FA Tb) 8 p35400.er Tryd.f20 = true := by kernel_rfl
theorem ok36100 : okFn ctx (FA Tb) 8 p36100.er Tryd.f18 = true := by kernel_rfl
theorem ok36200 : okFn ctx (FA Tb) 8 p36200.er Tryd.f64 = true := by kernel_rfl
theorem ok36300 : okFn ctx (FA Tb) 8 p36300.er Tryd.f42 = true := by kernel_rfl
theorem ok36400 : okFn ctx (FA Tb) 8 p36400.er Tryd.f67 = true := by kernel_rfl
theorem ok36500 : okFn ctx (FA Tb) 8 p36500.er Tryd.f68 = true := by kernel_rfl
theorem ok36600 : okFn ctx (FA Tb) 8 p36600.er Tryd.f43 = true := by kernel_rfl
theorem ok36700 : okFn ctx (FA Tb) 8 p36700.er Tryd.f19 = true := by kernel_rfl
theorem ok36900 : okFn ctx (FA Tb) 8 p36900.er Tryd.f7 = true := by kernel_rfl
theorem at100 : ctx.P.funcs[ctx.fid 100]? = some Tryd.f34 := by
  have e : ctx.fid 100 = 34 := by kernel_rfl
  rw [e]; exact Tryd.func34
theorem at200 : ctx.P.funcs[ctx.fid 200]? = some Tryd.f36 := by
  have e : ctx.fid 200 = 36 := by kernel_rfl
  rw [e]; exact Tryd.func36
theorem at300 : ctx.P.funcs[ctx.fid 300]? = some Tryd.f63 := by
  have e : ctx.fid 300 = 63 := by kernel_rfl
  rw [e]; exact Tryd.func63
theorem at400 : ctx.P.funcs[ctx.fid 400]? = some Tryd.f59 := by
  have e : ctx.fid 400 = 59 := by kernel_rfl
  rw [e]; exact Tryd.func59
theorem at500 : ctx.P.funcs[ctx.fid 500]? = some Tryd.f51 := by
  have e : ctx.fid 500 = 51 := by kernel_rfl
  rw [e]; exact Tryd.func51
theorem at600 : ctx.P.funcs[ctx.fid 600]? = some Tryd.f60 := by
  have e : ctx.fid 600 = 60 := by kernel_rfl
  rw [e]; exact Tryd.func60
theorem at700 : ctx.P.funcs[ctx.fid 700]? = some Tryd.f35 := by
  have e : ctx.fid 700 = 35 := by kernel_rfl
  rw [e]; exact Tryd.func35
theorem at800 : ctx.P.funcs[ctx.fid 800]? = some Tryd.f41 := by
  have e : ctx.fid 800 = 41 := by kernel_rfl
  rw [e]; exact Tryd.func41
theorem at1000 : ctx.P.funcs[ctx.fid 1000]? = some Tryd.f87 := by
  have e : ctx.fid 1000 = 87 := by kernel_rfl
  rw [e]; exact Tryd.func87
theorem at1100 : ctx.P.funcs[ctx.fid 1100]? = some Tryd.f58 := by
  have e : ctx.fid 1100 = 58 := by kernel_rfl
  rw [e]; exact Tryd.func58
theorem at1200 : ctx.P.funcs[ctx.fid 1200]? = some Tryd.f30 := by
  have e : ctx.fid 1200 = 30 := by kernel_rfl
  rw [e]; exact Tryd.func30
theorem at1600 : ctx.P.funcs[ctx.fid 1600]? = some Tryd.f79 := by
  have e : ctx.fid 1600 = 79 := by kernel_rfl
  rw [e]; exact Tryd.func79
theorem at1700 : ctx.P.funcs[ctx.fid 1700]? = some Tryd.f78 := by
  have e : ctx.fid 1700 = 78 := by kernel_rfl
  rw [e]; exact Tryd.func78
theorem at1800 : ctx.P.funcs[ctx.fid 1800]? = some Tryd.f52 := by
  have e : ctx.fid 1800 = 52 := by kernel_rfl
  rw [e]; exact Tryd.func52
theorem at1900 : ctx.P.funcs[ctx.fid 1900]? = some Tryd.f27 := by
  have e : ctx.fid 1900 = 27 := by kernel_rfl
  rw [e]; exact Tryd.func27
theorem at9800 : ctx.P.funcs[ctx.fid 9800]? = some Tryd.f17 := by
  have e : ctx.fid 9800 = 17 := by kernel_rfl
  rw [e]; exact Tryd.func17
theorem at20500 : ctx.P.funcs[ctx.fid 20500]? = some Tryd.f40 := by
  have e : ctx.fid 20500 = 40 := by kernel_rfl
  rw [e]; exact Tryd.func40
theorem at20700 : ctx.P.funcs[ctx.fid 20700]? = some Tryd.f73 := by
  have e : ctx.fid 20700 = 73 := by kernel_rfl
  rw [e]; exact Tryd.func73
theorem at21000 : ctx.P.funcs[ctx.fid 21000]? = some Tryd.f69 := by
  have e : ctx.fid 21000 = 69 := by kernel_rfl
  rw [e]; exact Tryd.func69
theorem at21500 : ctx.P.funcs[ctx.fid 21500]? = some Tryd.f21 := by
  have e : ctx.fid 21500 = 21 := by kernel_rfl
  rw [e]; exact Tryd.func21
theorem at22000 : ctx.P.funcs[ctx.fid 22000]? = some Tryd.f66 := by
  have e : ctx.fid 22000 = 66 := by kernel_rfl
  rw [e]; exact Tryd.func66
theorem at31800 : ctx.P.funcs[ctx.fid 31800]? = some Tryd.f46 := by
  have e : ctx.fid 31800 = 46 := by kernel_rfl
  rw [e]; exact Tryd.func46
theorem at31900 : ctx.P.funcs[ctx.fid 31900]? = some Tryd.f74 := by
  have e : ctx.fid 31900 = 74 := by kernel_rfl
  rw [e]; exact Tryd.func74
theorem at32000 : ctx.P.funcs[ctx.fid 32000]? = some Tryd.f75 := by
  have e : ctx.fid 32000 = 75 := by kernel_rfl
  rw [e]; exact Tryd.func75
theorem at32100 : ctx.P.funcs[ctx.fid 32100]? = some Tryd.f47 := by
  have e : ctx.fid 32100 = 47 := by kernel_rfl
  rw [e]; exact Tryd.func47
theorem at32200 : ctx.P.funcs[ctx.fid 32200]? = some Tryd.f25 := by
  have e : ctx.fid 32200 = 25 := by kernel_rfl
  rw [e]; exact Tryd.func25
theorem at32300 : ctx.P.funcs[ctx.fid 32300]? = some Tryd.f76 := by
  have e : ctx.fid 32300 = 76 := by kernel_rfl
  rw [e]; exact Tryd.func76
theorem at32400 : ctx.P.funcs[ctx.fid 32400]? = some Tryd.f70 := by
  have e : ctx.fid 32400 = 70 := by kernel_rfl
  rw [e]; exact Tryd.func70
theorem at32500 : ctx.P.funcs[ctx.fid 32500]? = some Tryd.f77 := by
  have e : ctx.fid 32500 = 77 := by kernel_rfl
  rw [e]; exact Tryd.func77
theorem at32600 : ctx.P.funcs[ctx.fid 32600]? = some Tryd.f48 := by
  have e : ctx.fid 32600 = 48 := by kernel_rfl
  rw [e]; exact Tryd.func48
theorem at32700 : ctx.P.funcs[ctx.fid 32700]? = some Tryd.f49 := by
  have e : ctx.fid 32700 = 49 := by kernel_rfl
  rw [e]; exact Tryd.func49
theorem at32800 : ctx.P.funcs[ctx.fid 32800]? = some Tryd.f50 := by
  have e : ctx.fid 32800 = 50 := by kernel_rfl
  rw [e]; exact Tryd.func50
theorem at32900 : ctx.P.funcs[ctx.fid 32900]? = some Tryd.f26 := by
  have e : ctx.fid 32900 = 26 := by kernel_rfl
  rw [e]; exact Tryd.func26
theorem at33000 : ctx.P.funcs[ctx.fid 33000]? = some Tryd.f11 := by
  have e : ctx.fid 33000 = 11 := by kernel_rfl
  rw [e]; exact Tryd.func11
theorem at33100 : ctx.P.funcs[ctx.fid 33100]? = some Tryd.f80 := by
  have e : ctx.fid 33100 = 80 := by kernel_rfl
  rw [e]; exact Tryd.func80
theorem at33200 : ctx.P.funcs[ctx.fid 33200]? = some Tryd.f81 := by
  have e : ctx.fid 33200 = 81 := by kernel_rfl
  rw [e]; exact Tryd.func81
theorem at33300 : ctx.P.funcs[ctx.fid 33300]? = some Tryd.f53 := by
  have e : ctx.fid 33300 = 53 := by kernel_rfl
  rw [e]; exact Tryd.func53
theorem at33400 : ctx.P.funcs[ctx.fid 33400]? = some Tryd.f28 := by
  have e : ctx.fid 33400 = 28 := by kernel_rfl
  rw [e]; exact Tryd.func28
theorem at33500 : ctx.P.funcs[ctx.fid 33500]? = some Tryd.f56 := by
  have e : ctx.fid 33500 = 56 := by kernel_rfl
  rw [e]; exact Tryd.func56
theorem at33600 : ctx.P.funcs[ctx.fid 33600]? = some Tryd.f94 := by
  have e : ctx.fid 33600 = 94 := by kernel_rfl
  rw [e]; exact Tryd.func94
theorem at33700 : ctx.P.funcs[ctx.fid 33700]? = some Tryd.f84 := by
  have e : ctx.fid 33700 = 84 := by kernel_rfl
  rw [e]; exact Tryd.func84
theorem at33800 : ctx.P.funcs[ctx.fid 33800]? = some Tryd.f95 := by
  have e : ctx.fid 33800 = 95 := by kernel_rfl
  rw [e]; exact Tryd.func95
theorem at33900 : ctx.P.funcs[ctx.fid 33900]? = some Tryd.f85 := by
  have e : ctx.fid 33900 = 85 := by kernel_rfl
  rw [e]; exact Tryd.func85
theorem at34000 : ctx.P.funcs[ctx.fid 34000]? = some Tryd.f86 := by
  have e : ctx.fid 34000 = 86 := by kernel_rfl
  rw [e]; exact Tryd.func86
theorem at34100 : ctx.P.funcs[ctx.fid 34100]? = some Tryd.f54 := by
  have e : ctx.fid 34100 = 54 := by kernel_rfl
  rw [e]; exact Tryd.func54
theorem at34200 : ctx.P.funcs[ctx.fid 34200]? = some Tryd.f55 := by
  have e : ctx.fid 34200 = 55 := by kernel_rfl
  rw [e]; exact Tryd.func55
theorem at34300 : ctx.P.funcs[ctx.fid 34300]? = some Tryd.f57 := by
  have e : ctx.fid 34300 = 57 := by kernel_rfl
  rw [e]; exact Tryd.func57
theorem at34400 : ctx.P.funcs[ctx.fid 34400]? = some Tryd.f29 := by
  have e : ctx.fid 34400 = 29 := by kernel_rfl
  rw [e]; exact Tryd.func29
theorem at34500 : ctx.P.funcs[ctx.fid 34500]? = some Tryd.f12 := by
  have e : ctx.fid 34500 = 12 := by kernel_rfl
  rw [e]; exact Tryd.func12
theorem at34900 : ctx.P.funcs[ctx.fid 34900]? = some Tryd.f61 := by
  have e : ctx.fid 34900 = 61 := by kernel_rfl
  rw [e]; exact Tryd.func61
theorem at35000 : ctx.P.funcs[ctx.fid 35000]? = some Tryd.f38 := by
  have e : ctx.fid 35000 = 38 := by kernel_rfl
  rw [e]; exact Tryd.func38
theorem at35100 : ctx.P.funcs[ctx.fid 35100]? = some Tryd.f71 := by
  have e : ctx.fid 35100 = 71 := by kernel_rfl
  rw [e]; exact Tryd.func71
theorem at35200 : ctx.P.funcs[ctx.fid 35200]? = some Tryd.f72 := by
  have e : ctx.fid 35200 = 72 := by kernel_rfl
  rw [e]; exact Tryd.func72
theorem at35300 : ctx.P.funcs[ctx.fid 35300]? = some Tryd.f44 := by
  have e : ctx.fid 35300 = 44 := by kernel_rfl
  rw [e]; exact Tryd.func44
theorem at35400 : ctx.P.funcs[ctx.fid 35400]? = some Tryd.f20 := by
  have e : ctx.fid 35400 = 20 := by kernel_rfl
  rw [e]; exact Tryd.func20
theorem at36100 : ctx.P.funcs[ctx.fid 36100]? = some Tryd.f18 := by
  have e : ctx.fid 36100 = 18 := by kernel_rfl
  rw [e]; exact Tryd.func18
theorem at36200 : ctx.P.funcs[ctx.fid 36200]? = some Tryd.f64 := by
  have e : ctx.fid 36200 = 64 := by kernel_rfl
  rw [e]; exact Tryd.func64
theorem at36300 : ctx.P.funcs[ctx.fid 36300]? = some Tryd.f42 := by
  have e : ctx.fid 36300 = 42 := by kernel_rfl
  rw [e]; exact Tryd.func42
theorem at36400 : ctx.P.funcs[ctx.fid 36400]? = some Tryd.f67 := by
  have e : ctx.fid 36400 = 67 := by kernel_rfl
  rw [e]; exact Tryd.func67
theorem at36500 : ctx.P.funcs[ctx.fid 36500]? = some Tryd.f68 := by
  have e : ctx.fid 36500 = 68 := by kernel_rfl
  rw [e]; exact Tryd.func68
theorem at36600 : ctx.P.funcs[ctx.fid 36600]? = some Tryd.f43 := by
  have e : ctx.fid 36600 = 43 := by kernel_rfl
  rw [e]; exact Tryd.func43
theorem at36700 : ctx.P.funcs[ctx.fid 36700]? = some Tryd.f19 := by
  have e : ctx.fid 36700 = 19 := by kernel_rfl
  rw [e]; exact Tryd.func19
theorem at36900 : ctx.P.funcs[ctx.fid 36900]? = some Tryd.f7 := by
  have e : ctx.fid 36900 = 7 := by kernel_rfl
  rw [e]; exact Tryd.func7
theorem at37500 : ctx.P.funcs[ctx.fid 37500]? = some Tryd.f82 := by
  have e : ctx.fid 37500 = 82 := by kernel_rfl
  rw [e]; exact Tryd.func82
theorem at37600 : ctx.P.funcs[ctx.fid 37600]? = some Tryd.f83 := by
  have e : ctx.fid 37600 = 83 := by kernel_rfl
  rw [e]; exact Tryd.func83
theorem at37700 : ctx.P.funcs[ctx.fid 37700]? = some Tryd.f96 := by
  have e : ctx.fid 37700 = 96 := by kernel_rfl
  rw [e]; exact Tryd.func96
theorem at37800 : ctx.P.funcs[ctx.fid 37800]? = some Tryd.f65 := by
  have e : ctx.fid 37800 = 65 := by kernel_rfl
  rw [e]; exact Tryd.func65
theorem prim22000 : PrimOk ctx 22000 p22000.er := by
  have e : ctx.fid 22000 = 66 := by kernel_rfl
  refine itoa_prim (gp := 2) ⟨⟨Tryd.f66, _, at22000, by kernel_rfl, rfl⟩⟩ (by kernel_rfl) (List.mem_cons_self ..) ?_
  rw [e]
  intro n w h0 h1 ht
  refine (Tryd.strconv_Itoa n h0 h1 w ht).mono ?_
  rintro ed w' ⟨rfl, k, os, rfl⟩
  exact ⟨rfl, by simp [Go.Sort.grow, World.drewN], fun B hB => by simp only [Go.Sort.grow, World.drewN]; rw [Array.getElem?_append_left hB], rfl, rfl, rfl⟩
theorem prim37500 : PrimOk ctx 37500 p37500.er := by
  have e : ctx.fid 37500 = 82 := by kernel_rfl
  refine prefix_prim ⟨⟨Tryd.f82, _, at37500, by kernel_rfl, rfl⟩⟩ ?_
  rw [e]
  exact fun s p w => Tryd.strings_HasPrefix s p w
theorem prim37600 : PrimOk ctx 37600 p37600.er := by
  have e : ctx.fid 37600 = 83 := by kernel_rfl
  refine index_prim ⟨⟨Tryd.f83, _, at37600, by kernel_rfl, rfl⟩⟩ ?_
  rw [e]
  exact fun s c w => Tryd.strings_IndexByte s c w
theorem prim37700 : PrimOk ctx 37700 p37700.er := by
  have e : ctx.fid 37700 = 96 := by kernel_rfl
  refine atoi_prim ⟨⟨Tryd.f96, _, at37700, by kernel_rfl, rfl⟩⟩ ?_
  rw [e]
  intro s n w h0 h1
  refine (Tryd.strconv_Atoi s n h0 h1 w).mono ?_
  rintro ed w' ⟨rfl, t, rfl⟩
  exact ⟨rfl, below_bytes w _ t⟩
theorem prim37800 : PrimOk ctx 37800 p37800.er := by
  have e : ctx.fid 37800 = 65 := by kernel_rfl
  refine join_prim ⟨⟨Tryd.f65, _, at37800, by kernel_rfl, rfl⟩⟩ ?_ ?_
  · rw [e]; exact fun a c s w => Tryd.strings_Join_none a c s w
  · rw [e]; exact fun bk o c xs s w h1 h2 h3 h4 h5 => Tryd.strings_Join bk o c xs s w h1 h2 h3 h4 h5
theorem laid : Laid ctx (FA Tb) := by
  refine laidT (l := tab) (by kernel_rfl) ?_
  have e : tab.map (fun x => (x.1, x.2.er)) = [(100, p100.er), (200, p200.er), (300, p300.er), (400, p400.er), (500, p500.er), (600, p600.er), (700, p700.er), (800, p800.er), (1000, p1000.er), (1100, p1100.er), (1200, p1200.er), (1600, p1600.er), (1700, p1700.er), (1800, p1800.er), (1900, p1900.er), (9800, p9800.er), (9801, p9801.er), (20500, p20500.er), (20700, p20700.er), (21000, p21000.er), (21500, p21500.er), (21501, p21501.er), (22000, p22000.er), (31800, p31800.er), (31801, p31801.er), (31900, p31900.er), (31901, p31901.er), (32000, p32000.er), (32100, p32100.er), (32200, p32200.er), (32201, p32201.er), (32300, p32300.er), (32301, p32301.er), (32400, p32400.er), (32500, p32500.er), (32501, p32501.er), (32600, p32600.er), (32700, p32700.er), (32800, p32800.er), (32801, p32801.er), (32900, p32900.er), (32901, p32901.er), (33000, p33000.er), (33100, p33100.er), (33200, p33200.er), (33300, p33300.er), (33301, p33301.er), (33302, p33302.er), (33303, p33303.er), (33400, p33400.er), (33401, p33401.er), (33500, p33500.er), (33600, p33600.er), (33700, p33700.er), (33800, p33800.er), (33900, p33900.er), (34000, p34000.er), (34100, p34100.er), (34200, p34200.er), (34201, p34201.er), (34300, p34300.er), (34400, p34400.er), (34401, p34401.er), (34500, p34500.er), (34900, p34900.er), (35000, p35000.er), (35001, p35001.er), (35100, p35100.er), (35200, p35200.er), (35300, p35300.er), (35400, p35400.er), (36100, p36100.er), (36200, p36200.er), (36300, p36300.er), (36301, p36301.er), (36400, p36400.er), (36500, p36500.er), (36600, p36600.er), (36700, p36700.er), (36900, p36900.er), (36901, p36901.er), (36902, p36902.er), (37500, p37500.er), (37600, p37600.er), (37700, p37700.er), (37800, p37800.er)] := by kernel_rfl
  rw [e]
  exact ⟨fun _ => okFn_spec at100 ok100, ⟨fun _ => okFn_spec at200 ok200, ⟨fun _ => okFn_spec at300 ok300, ⟨fun _ => okFn_spec at400 ok400, ⟨fun _ => okFn_spec at500 ok500, ⟨fun _ => okFn_spec at600 ok600, ⟨fun _ => okFn_spec at700 ok700, ⟨fun _ => okFn_spec at800 ok800, ⟨fun _ => okFn_spec at1000 ok1000, ⟨fun _ => okFn_spec at1100 ok1100, ⟨fun _ => okFn_spec at1200 ok1200, ⟨fun _ => okFn_spec at1600 ok1600, ⟨fun _ => okFn_spec at1700 ok1700, ⟨fun _ => okFn_spec at1800 ok1800, ⟨fun _ => okFn_spec at1900 ok1900, ⟨fun _ => okFn_spec at9800 ok9800, ⟨fun h => absurd h (by decide), ⟨fun _ => okFn_spec at20500 ok20500, ⟨fun _ => okFn_spec at20700 ok20700, ⟨fun _ => okFn_spec at21000 ok21000, ⟨fun _ => okFn_spec at21500 ok21500, ⟨fun h => absurd h (by decide), ⟨fun _ => .inr prim22000, ⟨fun _ => okFn_spec at31800 ok31800, ⟨fun h => absurd h (by decide), ⟨fun _ => okFn_spec at31900 ok31900, ⟨fun h => absurd h (by decide), ⟨fun _ => okFn_spec at32000 ok32000, ⟨fun _ => okFn_spec at32100 ok32100, ⟨fun _ => okFn_spec at32200 ok32200, ⟨fun h => absurd h (by decide), ⟨fun _ => okFn_spec at32300 ok32300, ⟨fun h => absurd h (by decide), ⟨fun _ => okFn_spec at32400 ok32400, ⟨fun _ => okFn_spec at32500 ok32500, ⟨fun h => absurd h (by decide), ⟨fun _ => okFn_spec at32600 ok32600, ⟨fun _ => okFn_spec at32700 ok32700, ⟨fun _ => okFn_spec at32800 ok32800, ⟨fun h => absurd h (by decide), ⟨fun _ => okFn_spec at32900 ok32900, ⟨fun h => absurd h (by decide), ⟨fun _ => okFn_spec at33000 ok33000, ⟨fun _ => okFn_spec at33100 ok33100, ⟨fun _ => okFn_spec at33200 ok33200, ⟨fun _ => okFn_spec at33300 ok33300, ⟨fun h => absurd h (by decide), ⟨fun h => absurd h (by decide), ⟨fun h => absurd h (by decide), ⟨fun _ => okFn_spec at33400 ok33400, ⟨fun h => absurd h (by decide), ⟨fun _ => okFn_spec at33500 ok33500, ⟨fun _ => okFn_spec at33600 ok33600, ⟨fun _ => okFn_spec at33700 ok33700, ⟨fun _ => okFn_spec at33800 ok33800, ⟨fun _ => okFn_spec at33900 ok33900, ⟨fun _ => okFn_spec at34000 ok34000, ⟨fun _ => okFn_spec at34100 ok34100, ⟨fun _ => okFn_spec at34200 ok34200, ⟨fun h => absurd h (by decide), ⟨fun _ => okFn_spec at34300 ok34300, ⟨fun _ => okFn_spec at34400 ok34400, ⟨fun h => absurd h (by decide), ⟨fun _ => okFn_spec at34500 ok34500, ⟨fun _ => okFn_spec at34900 ok34900, ⟨fun _ => okFn_spec at35000 ok35000, ⟨fun h => absurd h (by decide), ⟨fun _ => okFn_spec at35100 ok35100, ⟨fun _ => okFn_spec at35200 ok35200, ⟨fun _ => okFn_spec at35300 ok35300, ⟨fun _ => okFn_spec at35400 ok35400, ⟨fun _ => okFn_spec at36100 ok36100, ⟨fun _ => okFn_spec at36200 ok36200, ⟨fun _ => okFn_spec at36300 ok36300, ⟨fun h => absurd h (by decide), ⟨fun _ => okFn_spec at36400 ok36400, ⟨fun _ => okFn_spec at36500 ok36500, ⟨fun _ => okFn_spec at36600 ok36600, ⟨fun _ => okFn_spec at36700 ok36700, ⟨fun _ => okFn_spec at36900 ok36900, ⟨fun h => absurd h (by decide), ⟨fun h => absurd h (by decide), ⟨fun _ => .inr prim37500, ⟨fun _ => .inr prim37600, ⟨fun _ => .inr prim37700, ⟨fun _ => .inr prim37800, trivial⟩⟩⟩⟩⟩⟩⟩⟩⟩⟩⟩⟩⟩⟩⟩⟩⟩⟩⟩⟩⟩⟩⟩⟩⟩⟩⟩⟩⟩⟩⟩⟩⟩⟩⟩⟩⟩⟩⟩⟩⟩⟩⟩⟩⟩⟩⟩⟩⟩⟩⟩⟩⟩⟩⟩⟩⟩⟩⟩⟩⟩⟩⟩⟩⟩⟩⟩⟩⟩⟩⟩⟩⟩⟩⟩⟩⟩⟩⟩⟩⟩⟩⟩⟩⟩⟩
def opS : List (List UInt8) := [[124], [94], [38], [61, 61], [60], [60, 60], [62, 62], [43], [45], [42], [47], [37]]
theorem gok {W : World} (h : laidMet Tryd.prog Rows.fnTextNeedsRow.laid W) : GOk ctx (memOf W) := by
  have hc := laid_strs h (name := "loop.example/cothreads/impl.opTexts") (zs := opS) (by right; right; right; right; right; exact List.mem_cons_self ..) (g := 0) (by kernel_rfl) (by kernel_rfl) Tryd.underlying84 Tryd.underlying9 (by kernel_rfl) (by kernel_rfl)
  intro i
  by_cases hi : i = 0
  · subst hi
    have e : ctx.G 0 = toAVs (opS.map TV.str) := by kernel_rfl
    have e2 : ctx.gm 0 = 0 := by kernel_rfl
    rw [e, e2]
    exact rep_strs (zs := opS) fun j z hz => memOf_iff.2 ⟨hc j z hz, rfl⟩
  · have e : ctx.G i = [] := by
      show GA GT i = []
      unfold GA GT; rw [if_neg hi]; rfl
    rw [e]; trivial
theorem fixed {W : World} (h : laidMet Tryd.prog Rows.fnTextNeedsRow.laid W) : ∀ x ∈ ctx.fx, ∃ o, W.heap[x.1]? = some o ∧ x.2 o := by
  intro x hx
  obtain rfl := List.mem_singleton.1 hx
  have e : Rows.laid_internal_strconv_uint64pow10 = Lib.tabData (H := Unit) .u64 Lib.pow10Tab := by kernel_rfl
  exact laid_pow h (name := "internal/strconv.uint64pow10") (by rw [← e]; right; right; exact List.mem_cons_self ..) (g := 2) (by kernel_rfl) (by kernel_rfl) Tryd.underlying112 Tryd.underlying100 (by kernel_rfl) (by kernel_rfl)
set_option maxRecDepth 100000 in
theorem lifted (os : Os) (started : os.Started) (H : Type) (enc : TypeId × Value → H) :
    ReturnsInHanded {} Tryd.checked os 7 .any (fun w args => (Rows.fnTextNeedsSpec.pre enc Tryd.prog Tryd.f7 Rows.fnTextNeedsRow.domain false w args ∧ laidMetH Tryd.prog Rows.fnTextNeedsRow.laid w) ∧ sizedMet enc Tryd.prog Tryd.f7 (OpenSpec.ofChange Rows.fnTextNeedsSpec) false w args)
      (Rows.fnTextNeedsSpec.post enc Tryd.prog Tryd.f7 false true false false) := by
  refine returnsInHanded_of_change_and (C := Tryd.checked) (X := fun w _ => laidMetH Tryd.prog Rows.fnTextNeedsRow.laid w) (fun _ _ _ hh h => h.of_heap hh) own started (by kernel_rfl) Tryd.func7
    (ChangeSpec.witness_shaped (enc := enc) (C := Tryd.checked) (os := os) (X := fun w _ => laidMetH Tryd.prog Rows.fnTextNeedsRow.laid w) false (World.laidAll Tryd.prog os Rows.fnTextNeedsRow.laid) #[.slice none 0 0, .slice none 0 0] 8 rfl (World.shaped_of_RefB (by kernel_rfl) (by kernel_rfl)) (by kernel_rfl) (by kernel_rfl) (by kernel_rfl)
      (by rw [MakeChecks.laidMetH_plain _ _ _ (by kernel_rfl)]; exact laidMet_laidAll _ (by kernel_rfl) (by kernel_rfl))) ?_
  intro W base args ds gs before hval0 hW _ _ hL0 _
  have hval : ∀ (j : Nat) t v, Tryd.f7.params[j]? = some t → args[j]? = some v → Value.okWide Tryd.prog W .any base t v := hval0
  have hL : laidMet Tryd.prog Rows.fnTextNeedsRow.laid W := by rw [MakeChecks.laidMetH_plain _ _ _ (by kernel_rfl)] at hL0; exact hL0
  have hW' := hW
  obtain ⟨p, q, hA0, hV, rfl, hfz, hnd⟩ := hW
  have hA : DataW.TrodAll enc Tryd.prog W 0 (fun _ => true) true Tryd.f7.params.toList args.toList ds p := hA0
  have hV' := hV
  rw [Tryd.params7] at hA hval
  obtain ⟨v0, vs0, d0, ds0, p0, q0, hargs, rfl, rfl, h0, r0⟩ := trodAll_cons hA
  obtain ⟨v1, vs1, d1, ds1, p1, q1, rfl, rfl, rfl, h1, r1⟩ := trodAll_cons r0
  obtain ⟨rfl, rfl, rfl⟩ := trodAll_nil r1
  obtain rfl : args = #[v0, v1] := by cases args; simp_all
  obtain ⟨g1, rfl⟩ : ∃ g1, gs = [g1] := by
    match gs, hV' with
    | [g1], _ => exact ⟨g1, rfl⟩
    | [], h => exact h.elim
    | _ :: _ :: _, h => obtain ⟨_, _, _, _, _, _, _, _, _, _, h2, _⟩ := h; exact h2.elim
  have k0 := h0
  have lt0 : ∀ x ∈ p0, x.block < W.heap.size := by obtain ⟨m, hm⟩ := k0; exact DataW.trod_lt m _ _ _ hm
  obtain ⟨a0, y0, w0⟩ := arg_bytes (fid := ctx.fid) Tryd.underlying30 (by kernel_rfl) (hval 0 30 v0 rfl rfl) h0
  have k1 := h1
  have lt1 : ∀ x ∈ p1, x.block < W.heap.size := by obtain ⟨m, hm⟩ := k1; exact DataW.trod_lt m _ _ _ hm
  obtain ⟨a1, y1, w1⟩ := arg_bytes (fid := ctx.fid) Tryd.underlying30 (by kernel_rfl) (hval 1 30 v1 rfl rfl) h1
  have hE : callTy Tb GT boolSig 36900 [.sl .share .u8 a0, .sl .share .u8 a1] [] = some true := Go.TFnTextNeeds.laws_FnTextNeeds_eq a0 w0 a1 w1
  have hrun := law_top (C := ctx) laid rfl (g := 36900) (by decide) (args := #[v0, v1]) (gok hL) (fixed hL) rfl (by
    intro i c v hc hv
    match i, hc, hv with
    | 0, hc, hv => simp at hc hv; subst hc hv; exact y0
    | 1, hc, hv => simp at hc hv; subst hc hv; exact y1
    | i + 2, hc, _ => simp at hc) hE
  have efid : ctx.fid 36900 = 7 := by kernel_rfl
  rw [efid] at hrun
  refine hrun.mono fun e W' ⟨he, bel⟩ => ?_
  subst he
  exact ⟨_, rfl, _, _, _, [], _, _, hW', trodAll_mk1 (shut_bool Tryd.underlying4 _), (trodAll_cons_mk (Below.trod laidOut (by kernel_rfl) (of_decide_eq_true (by kernel_rfl)) k0 bel lt0) (trodAll_cons_mk (Below.trod laidOut (by kernel_rfl) (of_decide_eq_true (by kernel_rfl)) k1 bel lt1) trodAll_mk0)), Below.trodVars laidOut bel (by kernel_rfl) hV, bel.frame _, fun h => by cases h⟩
theorem over : Rows.fnTextNeedsRow.holds Tryd.pinned (OpenSpec.ofChange Rows.fnTextNeedsSpec) :=
  OpenClaim.holds_of_wide 7 Tryd.f7 rfl rfl rfl rfl rfl rfl rfl ⟨rfl, rfl, rfl, rfl, rfl⟩ rfl rfl rfl rfl rfl (by kernel_rfl) Tryd.func7 (by kernel_rfl)
    (of_decide_eq_true (by kernel_rfl)) (by unfold Func.isWrapper; first | (rw [if_pos (by decide +kernel)]; kernel_rfl) | (rw [if_neg (by decide +kernel)]; exact ⟨rfl, rfl⟩))
    (fun os started H enc _ => lifted os started H enc)
theorem card : Rows.FnTextNeedsCardSaid :=
  Claim7.holds_tied_plain_at .later [] [.data, .data, .data, .sentinel, .sentinel, .data] true (true, "f52935e29964c4cb5d1b79f7bc0ef3d575d76e798a62beb400fbba1f865e615c") true
    over (fun _ h => by cases h) (by kernel_rfl) (fun _ h => by cases h) fnTextNeeds_row_tie rfl ⟨rfl, rfl⟩ (by kernel_rfl) rfl
    (fun f fn hf hfn => by
      obtain rfl : f = 7 := Option.some.inj ((show Tryd.prog.funcNamed "loop.example/cothreads/laws.FnTextNeeds" = some 7 by kernel_rfl).symm.trans hf) |>.symm
      obtain rfl : fn = Tryd.f7 := (Option.some.inj (Tryd.func7.symm.trans hfn)).symm
      exact ⟨by kernel_rfl, fun j t ht => by
        rw [Tryd.params7] at ht
        have hm : t ∈ [30] := by simpa using Array.mem_of_getElem? ht
        have hall : ([30].all fun u => !Tryd.prog.wantsStandIn u) = true := by kernel_rfl
        exact (show Tryd.prog.wantsStandIn t = false by simpa using List.all_eq_true.1 hall t hm)⟩)
    (by kernel_rfl)
end Go.Proofs.YthedbdlbibkpiaaDoor.fnTextNeeds
namespace Go.Proofs.YthedbdlbibkpiaaDoor
/-- The card. -/
theorem fnTextNeeds_holds : Rows.FnTextNeedsCardSaid := fnTextNeeds.card
#print axioms fnTextNeeds_holds
end Go.Proofs.YthedbdlbibkpiaaDoor
