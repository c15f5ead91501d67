/- The statement FnSourceBlank is proved: the law answers true whatever the input; under no condition but that the listed variables hold what the program's text lays, which the card ties. -/
import Derived.Test.YthmemaednlaanaaGreatDoorRows
import Derived.Test.YthmemaednlaanaaGreatDoorTie
import Derived.Test.YthmemaednlaanaaGreatDoorCards
import Derived.Test.YthmemaednlaanaaGreatDoorFFnSourceBlank
import Derived.Test.YthmemaednlaanaaGreatDoorTvRow
import Derived.KernelRfl
import Derived.SevenTiedAt
import Derived.Test.YthmemaednlaanaaGreatDoorTvRow4
import Derived.Test.YthmemaednlaanaaGreatDoorShelf
import Derived.Test.YthmemaednlaanaaGreatDoorPm1
import Derived.Test.YthmemaednlaanaaGreatDoorPm3
namespace Go.Proofs.YthmemaednlaanaaGreatDoor.fnSourceBlank
open Go Go.Vs Go.Tv Go.ChangeShapes Go.WideShapes Go.ChangeAt Go.RowKit Go.TFnSourceBlank
open Go.ChangeMaps (open_string shut_string)
set_option linter.unusedVariables false
theorem own : ownKnob Tryz.prog.godebug = none := by kernel_rfl
theorem laidOut : laidOutB Tryz.prog = true := by kernel_rfl
def fids : List (Nat × Nat) := [(100, 34), (200, 44), (300, 94), (400, 65), (500, 134), (600, 167), (700, 159), (1000, 151), (1100, 164), (1200, 144), (1600, 51), (1700, 154), (1800, 161), (1900, 138), (4000, 82), (4100, 156), (4200, 155), (4300, 157), (4400, 158), (4500, 131), (4600, 104), (4700, 74), (5200, 117), (5300, 90), (5400, 61), (5700, 136), (5800, 137), (5900, 160), (6000, 135), (6100, 106), (6200, 81), (6300, 52), (8700, 75), (9700, 41), (9800, 72), (9900, 42), (11100, 143), (20500, 38), (20700, 130), (22300, 73), (22400, 43), (22700, 60), (22800, 26), (23100, 53), (23200, 50), (23300, 20), (31800, 46), (31900, 76), (32000, 77), (32100, 47), (32200, 16), (32300, 48), (32400, 102), (32500, 80), (32600, 132), (32700, 127), (32800, 133), (32900, 105), (33100, 57), (33200, 83), (33300, 54), (33400, 21), (33500, 55), (33600, 22), (33700, 24), (33800, 56), (33900, 23), (34000, 89), (34100, 114), (34200, 115), (34300, 116), (34400, 88), (34900, 71), (35000, 40), (35100, 128), (35200, 129), (35300, 103), (35500, 45), (37500, 84), (37600, 85), (37700, 58), (44200, 5), (44300, 6), (44400, 7), (44900, 13), (45000, 14), (45100, 15), (45200, 17), (45300, 18), (45400, 19), (45500, 25), (45900, 39), (46000, 49), (46100, 59), (46400, 70), (46500, 78), (46600, 79), (46700, 101)]
noncomputable def ctx : Ctx := { P := Tryz.prog, fid := fun g => (Vs.look g fids).getD 0, gm := fun i => if i = 0 then 2 else 1000000, G := GA GT, fx := [(3, powFx)] }
theorem ok100 : okFn ctx (FA Tb) 8 p100.er Tryz.f34 = true := by kernel_rfl
theorem ok200 : okFn ctx (FA Tb) 8 p200.er Tryz.f44 = true := by kernel_rfl
theorem ok300 : okFn ctx (FA Tb) 8 p300.er Tryz.f94 = true := by kernel_rfl
theorem ok400 : okFn ctx (FA Tb) 8 p400.er Tryz.f65 = true := by kernel_rfl
theorem ok500 : okFn ctx (FA Tb) 8 p500.er Tryz.f134 = true := by kernel_rfl
theorem ok600 : okFn ctx (FA Tb) 8 p600.er Tryz.f167 = true := by kernel_rfl
theorem ok700 : okFn ctx (FA Tb) 8 p700.er Tryz.f159 = true := by kernel_rfl
theorem ok1000 : okFn ctx (FA Tb) 8 p1000.er Tryz.f151 = true := by kernel_rfl
theorem ok1100 : okFn ctx (FA Tb) 8 p1100.er Tryz.f164 = true := by kernel_rfl
theorem ok1200 : okFn ctx (FA Tb) 8 p1200.er Tryz.f144 = true := by kernel_rfl
theorem ok1600 : okFn ctx (FA Tb) 8 p1600.er Tryz.f51 = true := by kernel_rfl
theorem ok1700 : okFn ctx (FA Tb) 8 p1700.er Tryz.f154 = true := by kernel_rfl
theorem ok1800 : okFn ctx (FA Tb) 8 p1800.er Tryz.f161 = true := by kernel_rfl
theorem ok1900 : okFn ctx (FA Tb) 8 p1900.er Tryz.f138 = true := by kernel_rfl
theorem ok4000 : okFn ctx (FA Tb) 8 p4000.er Tryz.f82 = true := by kernel_rfl
theorem ok4100 : okFn ctx (FA Tb) 8 p4100.er Tryz.f156 = true := by kernel_rfl
theorem ok4200 : okFn ctx (FA Tb) 8 p4200.er Tryz.f155 = true := by kernel_rfl
theorem ok4300 : okFn ctx (FA Tb) 8 p4300.er Tryz.f157 = true := by kernel_rfl
theorem ok4400 : okFn ctx (FA Tb) 8 p4400.er Tryz.f158 = true := by kernel_rfl
theorem ok4500 : okFn ctx (FA Tb) 8 p4500.er Tryz.f131 = true := by kernel_rfl
theorem ok4600 : okFn ctx (FA Tb) 8 p4600.er Tryz.f104 = true := by kernel_rfl
theorem ok4700 : okFn ctx (FA Tb) 8 p4700.er Tryz.f74 = true := by kernel_rfl
theorem ok5200 : okFn ctx (FA Tb) 8 p5200.er Tryz.f117 = true := by kernel_rfl
theorem ok5300 : okFn ctx (FA Tb) 8 p5300.er Tryz.f90 = true := by kernel_rfl
theorem ok5400 : okFn ctx (FA Tb) 8 p5400.er Tryz.f61 = true := by kernel_rfl
theorem ok5700 : okFn ctx (FA Tb) 8 p5700.er Tryz.f136 = true := by kernel_rfl
theorem ok5800 : okFn ctx (FA Tb) 8 p5800.er Tryz.f137 = true := by kernel_rfl
theorem ok5900 : okFn ctx (FA Tb) 8 p5900.er Tryz.f160 = true := by kernel_rfl
theorem ok6000 : okFn ctx (FA Tb) 8 p6000.er Tryz.f135 = true := by kernel_rfl
theorem ok6100 : okFn ctx (FA Tb) 8 p6100.er Tryz.f106 = true := by kernel_rfl
theorem ok6200 : okFn ctx (FA Tb) 8 p6200.er Tryz.f81 = true := by kernel_rfl
theorem ok6300 : okFn ctx (FA Tb) 8 p6300.er Tryz.f52 = true := by kernel_rfl
theorem ok8700 : okFn ctx (FA Tb) 8 p8700.er Tryz.f75 = true := by kernel_rfl
theorem ok9700 : okFn ctx (FA Tb) 8 p9700.er Tryz.f41 = true := by kernel_rfl
theorem ok9800 : okFn ctx (FA Tb) 8 p9800.er Tryz.f72 = true := by kernel_rfl
theorem ok9900 : okFn ctx (FA Tb) 8 p9900.er Tryz.f42 = true := by kernel_rfl
theorem ok11100 : okFn ctx (FA Tb) 8 p11100.er Tryz.f143 = true := by kernel_rfl
theorem ok20500 : okFn ctx (FA Tb) 8 p20500.er Tryz.f38 = true := by kernel_rfl
theorem ok20700 : okFn ctx (FA Tb) 8 p20700.er Tryz.f130 = true := by kernel_rfl
theorem ok22300 : okFn ctx (FA Tb) 8 p22300.er Tryz.f73 = true := by kernel_rfl
theorem ok22400 : okFn ctx (FA Tb) 8 p22400.er Tryz.f43 = true := by kernel_rfl
theorem ok22700 : okFn ctx (FA Tb) 8 p22700.er Tryz.f60 = true := by kernel_rfl
theorem ok22800 : okFn ctx (FA Tb) 8 p22800.er Tryz.f26 = true := by kernel_rfl
theorem ok23100 : okFn ctx (FA Tb) 8 p23100.er Tryz.f53 = true := by kernel_rfl
theorem ok23200 : okFn ctx (FA Tb) 8 p23200.er Tryz.f50 = true := by kernel_rfl
theorem ok23300 : okFn ctx (FA Tb) 8 p23300.er Tryz.f20 = true := by kernel_rfl
theorem ok31800 : okFn ctx (FA Tb) 8 p31800.er Tryz.f46 = true := by kernel_rfl
theorem ok31900 : okFn ctx (FA Tb) 8 p31900.er Tryz.f76 = true := by kernel_rfl
theorem ok32000 : okFn ctx (FA Tb) 8 p32000.er Tryz.f77 = true := by kernel_rfl
theorem ok32100 : okFn ctx (FA Tb) 8 p32100.er Tryz.f47 = true := by kernel_rfl
theorem ok32200 : okFn ctx (FA Tb) 8 p32200.er Tryz.f16 = true := by kernel_rfl
theorem ok32300 : okFn ctx (FA Tb) 8 p32300.er Tryz.f48 = true := by kernel_rfl
theorem ok32400 : okFn ctx (FA Tb) 8 p32400.er Tryz.f102 = true := by kernel_rfl
theorem ok32500 : okFn ctx (FA Tb) 8 p32500.er Tryz.f80 = true := by kernel_rfl
theorem ok32600 : okFn ctx (FA Tb) 8 p32600.er Tryz.f132 = true := by kernel_rfl
theorem ok32700 : okFn ctx (FA Tb) 8 p32700.er Tryz.f127 = true := by kernel_rfl
theorem ok32800 : okFn ctx (FA Tb) 8 p32800.er Tryz.f133 = true := by kernel_rfl
theorem ok32900 : okFn ctx (FA Tb) 8 p32900.er Tryz.f105 = true := by kernel_rfl
theorem ok33100 : okFn ctx (FA Tb) 8 p33100.er Tryz.f57 = true := by kernel_rfl
theorem ok33200 : okFn ctx (FA Tb) 8 p33200.er Tryz.f83 = true := by kernel_rfl
theorem ok33300 : okFn ctx (FA Tb) 8 p33300.er Tryz.f54 = true := by kernel_rfl
theorem ok33400 : okFn ctx (FA Tb) 8 p33400.er Tryz.f21 = true := by kernel_rfl
theorem ok33500 : okFn ctx (FA Tb) 8 p33500.er Tryz.f55 = true := by kernel_rfl
theorem ok33600 : okFn ctx (FA Tb) 8 p33600.er Tryz.f22 = true := by kernel_rfl
theorem ok33700 : okFn ctx (FA Tb) 8 p33700.er Tryz.f24 = true := by kernel_rfl
theorem ok33800 : okFn ctx (FA Tb) 8 p33800.er Tryz.f56 = true := by kernel_rfl
theorem ok33900 : okFn ctx (FA Tb) 8 p33900.er Tryz.f23 = true := by kernel_rfl
theorem ok34000 : okFn ctx (FA Tb) 8 p34000.er Tryz.f89 = true := by kernel_rfl
theorem ok34100 : okFn ctx (FA Tb) 8 p34100.er Tryz.f114 = true := by kernel_rfl
theorem ok34200 : okFn ctx (FA Tb) 8 p34200.er Tryz.f115 = true := by kernel_rfl
theorem ok34300 : okFn ctx (FA Tb) 8 p34300.er Tryz.f116 = true := by kernel_rfl
theorem ok34400 : okFn ctx (FA Tb) 8 p34400.er Tryz.f88 = true := by kernel_rfl
theorem ok34900 : okFn ctx (FA Tb) 8 p34900.er Tryz.f71 = true := by kernel_rfl
theorem ok35000 : okFn ctx (FA Tb) 8 p35000.er Tryz.f40 = true := by kernel_rfl
theorem ok35100 : okFn ctx (FA Tb) 8 p35100.er Tryz.f128 = true := by kernel_rfl
theorem ok35200 : okFn ctx (FA Tb) 8 p35200.er Tryz.f129 = true := by kernel_rfl
theorem ok35300 : okFn ctx (FA Tb) 8 p35300.er Tryz.f103 = true := by kernel_rfl
theorem ok35500 : okFn ctx (FA Tb) 8 p35500.er Tryz.f45 = true := by kernel_rfl
theorem ok44200 : okFn ctx (FA Tb) 8 p44200.er Tryz.f5 = true := by kernel_rfl
theorem ok44300 : okFn ctx (FA Tb) 8 p44300.er Tryz.f6 = true := by kernel_rfl
theorem ok44400 : okFn ctx (FA Tb) 8 p44400.er Tryz.f7 = true := by kernel_rfl
theorem ok44900 : okFn ctx (FA Tb) 8 p44900.er Tryz.f13 = true := by kernel_rfl
theorem ok45000 : okFn ctx (FA Tb) 8 p45000.er Tryz.f14 = true := by kernel_rfl
theorem ok45100 : okFn ctx (FA Tb) 8 p45100.er Tryz.f15 = true := by kernel_rfl
theorem ok45200 : okFn ctx (FA Tb) 8 p45200.er Tryz.f17 = true := by kernel_rfl
theorem ok45300 : okFn ctx (FA Tb) 8 p45300.er Tryz.f18 = true := by kernel_rfl
theorem ok45400 : okFn ctx (FA Tb) 8 p45400.er Tryz.f19 = true := by kernel_rfl
theorem ok45500 : okFn ctx (FA Tb) 8 p45500.er Tryz.f25 = true := by kernel_rfl
theorem ok45900 : okFn ctx (FA Tb) 8 p45900.er Tryz.f39 = true := by kernel_rfl
theorem ok46000 : okFn ctx (FA Tb) 8 p46000.er Tryz.f49 = true := by kernel_rfl
theorem ok46100 : okFn ctx (FA Tb) 8 p46100.er Tryz.f59 = true := by kernel_rfl
theorem ok46400 : okFn ctx (FA Tb) 8 p46400.er Tryz.f70 = true := by kernel_rfl
theorem ok46500 : okFn ctx (FA Tb) 8 p46500.er Tryz.f78 = true := by kernel_rfl
theorem ok46600 : okFn ctx (FA Tb) 8 p46600.er Tryz.f79 = true := by kernel_rfl
theorem ok46700 : okFn ctx (FA Tb) 8 p46700.er Tryz.f101 = true := by kernel_rfl
theorem at100 : ctx.P.funcs[ctx.fid 100]? = some Tryz.f34 := by
 have e : ctx.fid 100 = 34 := by kernel_rfl
 rw [e]; exact Tryz.func34
theorem at200 : ctx.P.funcs[ctx.fid 200]? = some Tryz.f44 := by
 have e : ctx.fid 200 = 44 := by kernel_rfl
 rw [e]; exact Tryz.func44
theorem at300 : ctx.P.funcs[ctx.fid 300]? = some Tryz.f94 := by
 have e : ctx.fid 300 = 94 := by kernel_rfl
 rw [e]; exact Tryz.func94
theorem at400 : ctx.P.funcs[ctx.fid 400]? = some Tryz.f65 := by
 have e : ctx.fid 400 = 65 := by kernel_rfl
 rw [e]; exact Tryz.func65
theorem at500 : ctx.P.funcs[ctx.fid 500]? = some Tryz.f134 := by
 have e : ctx.fid 500 = 134 := by kernel_rfl
 rw [e]; exact Tryz.func134
theorem at600 : ctx.P.funcs[ctx.fid 600]? = some Tryz.f167 := by
 have e : ctx.fid 600 = 167 := by kernel_rfl
 rw [e]; exact Tryz.func167
theorem at700 : ctx.P.funcs[ctx.fid 700]? = some Tryz.f159 := by
 have e : ctx.fid 700 = 159 := by kernel_rfl
 rw [e]; exact Tryz.func159
theorem at1000 : ctx.P.funcs[ctx.fid 1000]? = some Tryz.f151 := by
 have e : ctx.fid 1000 = 151 := by kernel_rfl
 rw [e]; exact Tryz.func151
theorem at1100 : ctx.P.funcs[ctx.fid 1100]? = some Tryz.f164 := by
 have e : ctx.fid 1100 = 164 := by kernel_rfl
 rw [e]; exact Tryz.func164
theorem at1200 : ctx.P.funcs[ctx.fid 1200]? = some Tryz.f144 := by
 have e : ctx.fid 1200 = 144 := by kernel_rfl
 rw [e]; exact Tryz.func144
theorem at1600 : ctx.P.funcs[ctx.fid 1600]? = some Tryz.f51 := by
 have e : ctx.fid 1600 = 51 := by kernel_rfl
 rw [e]; exact Tryz.func51
theorem at1700 : ctx.P.funcs[ctx.fid 1700]? = some Tryz.f154 := by
 have e : ctx.fid 1700 = 154 := by kernel_rfl
 rw [e]; exact Tryz.func154
theorem at1800 : ctx.P.funcs[ctx.fid 1800]? = some Tryz.f161 := by
 have e : ctx.fid 1800 = 161 := by kernel_rfl
 rw [e]; exact Tryz.func161
theorem at1900 : ctx.P.funcs[ctx.fid 1900]? = some Tryz.f138 := by
 have e : ctx.fid 1900 = 138 := by kernel_rfl
 rw [e]; exact Tryz.func138
theorem at4000 : ctx.P.funcs[ctx.fid 4000]? = some Tryz.f82 := by
 have e : ctx.fid 4000 = 82 := by kernel_rfl
 rw [e]; exact Tryz.func82
theorem at4100 : ctx.P.funcs[ctx.fid 4100]? = some Tryz.f156 := by
 have e : ctx.fid 4100 = 156 := by kernel_rfl
 rw [e]; exact Tryz.func156
theorem at4200 : ctx.P.funcs[ctx.fid 4200]? = some Tryz.f155 := by
 have e : ctx.fid 4200 = 155 := by kernel_rfl
 rw [e]; exact Tryz.func155
theorem at4300 : ctx.P.funcs[ctx.fid 4300]? = some Tryz.f157 := by
 have e : ctx.fid 4300 = 157 := by kernel_rfl
 rw [e]; exact Tryz.func157
theorem at4400 : ctx.P.funcs[ctx.fid 4400]? = some Tryz.f158 := by
 have e : ctx.fid 4400 = 158 := by kernel_rfl
 rw [e]; exact Tryz.func158
theorem at4500 : ctx.P.funcs[ctx.fid 4500]? = some Tryz.f131 := by
 have e : ctx.fid 4500 = 131 := by kernel_rfl
 rw [e]; exact Tryz.func131
theorem at4600 : ctx.P.funcs[ctx.fid 4600]? = some Tryz.f104 := by
 have e : ctx.fid 4600 = 104 := by kernel_rfl
 rw [e]; exact Tryz.func104
theorem at4700 : ctx.P.funcs[ctx.fid 4700]? = some Tryz.f74 := by
 have e : ctx.fid 4700 = 74 := by kernel_rfl
 rw [e]; exact Tryz.func74
theorem at5200 : ctx.P.funcs[ctx.fid 5200]? = some Tryz.f117 := by
 have e : ctx.fid 5200 = 117 := by kernel_rfl
 rw [e]; exact Tryz.func117
theorem at5300 : ctx.P.funcs[ctx.fid 5300]? = some Tryz.f90 := by
 have e : ctx.fid 5300 = 90 := by kernel_rfl
 rw [e]; exact Tryz.func90
theorem at5400 : ctx.P.funcs[ctx.fid 5400]? = some Tryz.f61 := by
 have e : ctx.fid 5400 = 61 := by kernel_rfl
 rw [e]; exact Tryz.func61
theorem at5700 : ctx.P.funcs[ctx.fid 5700]? = some Tryz.f136 := by
 have e : ctx.fid 5700 = 136 := by kernel_rfl
 rw [e]; exact Tryz.func136
theorem at5800 : ctx.P.funcs[ctx.fid 5800]? = some Tryz.f137 := by
 have e : ctx.fid 5800 = 137 := by kernel_rfl
 rw [e]; exact Tryz.func137
theorem at5900 : ctx.P.funcs[ctx.fid 5900]? = some Tryz.f160 := by
 have e : ctx.fid 5900 = 160 := by kernel_rfl
 rw [e]; exact Tryz.func160
theorem at6000 : ctx.P.funcs[ctx.fid 6000]? = some Tryz.f135 := by
 have e : ctx.fid 6000 = 135 := by kernel_rfl
 rw [e]; exact Tryz.func135
theorem at6100 : ctx.P.funcs[ctx.fid 6100]? = some Tryz.f106 := by
 have e : ctx.fid 6100 = 106 := by kernel_rfl
 rw [e]; exact Tryz.func106
theorem at6200 : ctx.P.funcs[ctx.fid 6200]? = some Tryz.f81 := by
 have e : ctx.fid 6200 = 81 := by kernel_rfl
 rw [e]; exact Tryz.func81
theorem at6300 : ctx.P.funcs[ctx.fid 6300]? = some Tryz.f52 := by
 have e : ctx.fid 6300 = 52 := by kernel_rfl
 rw [e]; exact Tryz.func52
theorem at8700 : ctx.P.funcs[ctx.fid 8700]? = some Tryz.f75 := by
 have e : ctx.fid 8700 = 75 := by kernel_rfl
 rw [e]; exact Tryz.func75
theorem at9700 : ctx.P.funcs[ctx.fid 9700]? = some Tryz.f41 := by
 have e : ctx.fid 9700 = 41 := by kernel_rfl
 rw [e]; exact Tryz.func41
theorem at9800 : ctx.P.funcs[ctx.fid 9800]? = some Tryz.f72 := by
 have e : ctx.fid 9800 = 72 := by kernel_rfl
 rw [e]; exact Tryz.func72
theorem at9900 : ctx.P.funcs[ctx.fid 9900]? = some Tryz.f42 := by
 have e : ctx.fid 9900 = 42 := by kernel_rfl
 rw [e]; exact Tryz.func42
theorem at11100 : ctx.P.funcs[ctx.fid 11100]? = some Tryz.f143 := by
 have e : ctx.fid 11100 = 143 := by kernel_rfl
 rw [e]; exact Tryz.func143
theorem at20500 : ctx.P.funcs[ctx.fid 20500]? = some Tryz.f38 := by
 have e : ctx.fid 20500 = 38 := by kernel_rfl
 rw [e]; exact Tryz.func38
theorem at20700 : ctx.P.funcs[ctx.fid 20700]? = some Tryz.f130 := by
 have e : ctx.fid 20700 = 130 := by kernel_rfl
 rw [e]; exact Tryz.func130
theorem at22300 : ctx.P.funcs[ctx.fid 22300]? = some Tryz.f73 := by
 have e : ctx.fid 22300 = 73 := by kernel_rfl
 rw [e]; exact Tryz.func73
theorem at22400 : ctx.P.funcs[ctx.fid 22400]? = some Tryz.f43 := by
 have e : ctx.fid 22400 = 43 := by kernel_rfl
 rw [e]; exact Tryz.func43
theorem at22700 : ctx.P.funcs[ctx.fid 22700]? = some Tryz.f60 := by
 have e : ctx.fid 22700 = 60 := by kernel_rfl
 rw [e]; exact Tryz.func60
theorem at22800 : ctx.P.funcs[ctx.fid 22800]? = some Tryz.f26 := by
 have e : ctx.fid 22800 = 26 := by kernel_rfl
 rw [e]; exact Tryz.func26
theorem at23100 : ctx.P.funcs[ctx.fid 23100]? = some Tryz.f53 := by
 have e : ctx.fid 23100 = 53 := by kernel_rfl
 rw [e]; exact Tryz.func53
theorem at23200 : ctx.P.funcs[ctx.fid 23200]? = some Tryz.f50 := by
 have e : ctx.fid 23200 = 50 := by kernel_rfl
 rw [e]; exact Tryz.func50
theorem at23300 : ctx.P.funcs[ctx.fid 23300]? = some Tryz.f20 := by
 have e : ctx.fid 23300 = 20 := by kernel_rfl
 rw [e]; exact Tryz.func20
theorem at31800 : ctx.P.funcs[ctx.fid 31800]? = some Tryz.f46 := by
 have e : ctx.fid 31800 = 46 := by kernel_rfl
 rw [e]; exact Tryz.func46
theorem at31900 : ctx.P.funcs[ctx.fid 31900]? = some Tryz.f76 := by
 have e : ctx.fid 31900 = 76 := by kernel_rfl
 rw [e]; exact Tryz.func76
theorem at32000 : ctx.P.funcs[ctx.fid 32000]? = some Tryz.f77 := by
 have e : ctx.fid 32000 = 77 := by kernel_rfl
 rw [e]; exact Tryz.func77
theorem at32100 : ctx.P.funcs[ctx.fid 32100]? = some Tryz.f47 := by
 have e : ctx.fid 32100 = 47 := by kernel_rfl
 rw [e]; exact Tryz.func47
theorem at32200 : ctx.P.funcs[ctx.fid 32200]? = some Tryz.f16 := by
 have e : ctx.fid 32200 = 16 := by kernel_rfl
 rw [e]; exact Tryz.func16
theorem at32300 : ctx.P.funcs[ctx.fid 32300]? = some Tryz.f48 := by
 have e : ctx.fid 32300 = 48 := by kernel_rfl
 rw [e]; exact Tryz.func48
theorem at32400 : ctx.P.funcs[ctx.fid 32400]? = some Tryz.f102 := by
 have e : ctx.fid 32400 = 102 := by kernel_rfl
 rw [e]; exact Tryz.func102
theorem at32500 : ctx.P.funcs[ctx.fid 32500]? = some Tryz.f80 := by
 have e : ctx.fid 32500 = 80 := by kernel_rfl
 rw [e]; exact Tryz.func80
theorem at32600 : ctx.P.funcs[ctx.fid 32600]? = some Tryz.f132 := by
 have e : ctx.fid 32600 = 132 := by kernel_rfl
 rw [e]; exact Tryz.func132
theorem at32700 : ctx.P.funcs[ctx.fid 32700]? = some Tryz.f127 := by
 have e : ctx.fid 32700 = 127 := by kernel_rfl
 rw [e]; exact Tryz.func127
theorem at32800 : ctx.P.funcs[ctx.fid 32800]? = some Tryz.f133 := by
 have e : ctx.fid 32800 = 133 := by kernel_rfl
 rw [e]; exact Tryz.func133
theorem at32900 : ctx.P.funcs[ctx.fid 32900]? = some Tryz.f105 := by
 have e : ctx.fid 32900 = 105 := by kernel_rfl
 rw [e]; exact Tryz.func105
theorem at33100 : ctx.P.funcs[ctx.fid 33100]? = some Tryz.f57 := by
 have e : ctx.fid 33100 = 57 := by kernel_rfl
 rw [e]; exact Tryz.func57
theorem at33200 : ctx.P.funcs[ctx.fid 33200]? = some Tryz.f83 := by
 have e : ctx.fid 33200 = 83 := by kernel_rfl
 rw [e]; exact Tryz.func83
theorem at33300 : ctx.P.funcs[ctx.fid 33300]? = some Tryz.f54 := by
 have e : ctx.fid 33300 = 54 := by kernel_rfl
 rw [e]; exact Tryz.func54
theorem at33400 : ctx.P.funcs[ctx.fid 33400]? = some Tryz.f21 := by
 have e : ctx.fid 33400 = 21 := by kernel_rfl
 rw [e]; exact Tryz.func21
theorem at33500 : ctx.P.funcs[ctx.fid 33500]? = some Tryz.f55 := by
 have e : ctx.fid 33500 = 55 := by kernel_rfl
 rw [e]; exact Tryz.func55
theorem at33600 : ctx.P.funcs[ctx.fid 33600]? = some Tryz.f22 := by
 have e : ctx.fid 33600 = 22 := by kernel_rfl
 rw [e]; exact Tryz.func22
theorem at33700 : ctx.P.funcs[ctx.fid 33700]? = some Tryz.f24 := by
 have e : ctx.fid 33700 = 24 := by kernel_rfl
 rw [e]; exact Tryz.func24
theorem at33800 : ctx.P.funcs[ctx.fid 33800]? = some Tryz.f56 := by
 have e : ctx.fid 33800 = 56 := by kernel_rfl
 rw [e]; exact Tryz.func56
theorem at33900 : ctx.P.funcs[ctx.fid 33900]? = some Tryz.f23 := by
 have e : ctx.fid 33900 = 23 := by kernel_rfl
 rw [e]; exact Tryz.func23
theorem at34000 : ctx.P.funcs[ctx.fid 34000]? = some Tryz.f89 := by
 have e : ctx.fid 34000 = 89 := by kernel_rfl
 rw [e]; exact Tryz.func89
theorem at34100 : ctx.P.funcs[ctx.fid 34100]? = some Tryz.f114 := by
 have e : ctx.fid 34100 = 114 := by kernel_rfl
 rw [e]; exact Tryz.func114
theorem at34200 : ctx.P.funcs[ctx.fid 34200]? = some Tryz.f115 := by
 have e : ctx.fid 34200 = 115 := by kernel_rfl
 rw [e]; exact Tryz.func115
theorem at34300 : ctx.P.funcs[ctx.fid 34300]? = some Tryz.f116 := by
 have e : ctx.fid 34300 = 116 := by kernel_rfl
 rw [e]; exact Tryz.func116
theorem at34400 : ctx.P.funcs[ctx.fid 34400]? = some Tryz.f88 := by
 have e : ctx.fid 34400 = 88 := by kernel_rfl
 rw [e]; exact Tryz.func88
theorem at34900 : ctx.P.funcs[ctx.fid 34900]? = some Tryz.f71 := by
 have e : ctx.fid 34900 = 71 := by kernel_rfl
 rw [e]; exact Tryz.func71
theorem at35000 : ctx.P.funcs[ctx.fid 35000]? = some Tryz.f40 := by
 have e : ctx.fid 35000 = 40 := by kernel_rfl
 rw [e]; exact Tryz.func40
theorem at35100 : ctx.P.funcs[ctx.fid 35100]? = some Tryz.f128 := by
 have e : ctx.fid 35100 = 128 := by kernel_rfl
 rw [e]; exact Tryz.func128
theorem at35200 : ctx.P.funcs[ctx.fid 35200]? = some Tryz.f129 := by
 have e : ctx.fid 35200 = 129 := by kernel_rfl
 rw [e]; exact Tryz.func129
theorem at35300 : ctx.P.funcs[ctx.fid 35300]? = some Tryz.f103 := by
 have e : ctx.fid 35300 = 103 := by kernel_rfl
 rw [e]; exact Tryz.func103
theorem at35500 : ctx.P.funcs[ctx.fid 35500]? = some Tryz.f45 := by
 have e : ctx.fid 35500 = 45 := by kernel_rfl
 rw [e]; exact Tryz.func45
theorem at37500 : ctx.P.funcs[ctx.fid 37500]? = some Tryz.f84 := by
 have e : ctx.fid 37500 = 84 := by kernel_rfl
 rw [e]; exact Tryz.func84
theorem at37600 : ctx.P.funcs[ctx.fid 37600]? = some Tryz.f85 := by
 have e : ctx.fid 37600 = 85 := by kernel_rfl
 rw [e]; exact Tryz.func85
theorem at37700 : ctx.P.funcs[ctx.fid 37700]? = some Tryz.f58 := by
 have e : ctx.fid 37700 = 58 := by kernel_rfl
 rw [e]; exact Tryz.func58
theorem at44200 : ctx.P.funcs[ctx.fid 44200]? = some Tryz.f5 := by
 have e : ctx.fid 44200 = 5 := by kernel_rfl
 rw [e]; exact Tryz.func5
theorem at44300 : ctx.P.funcs[ctx.fid 44300]? = some Tryz.f6 := by
 have e : ctx.fid 44300 = 6 := by kernel_rfl
 rw [e]; exact Tryz.func6
theorem at44400 : ctx.P.funcs[ctx.fid 44400]? = some Tryz.f7 := by
 have e : ctx.fid 44400 = 7 := by kernel_rfl
 rw [e]; exact Tryz.func7
theorem at44900 : ctx.P.funcs[ctx.fid 44900]? = some Tryz.f13 := by
 have e : ctx.fid 44900 = 13 := by kernel_rfl
 rw [e]; exact Tryz.func13
theorem at45000 : ctx.P.funcs[ctx.fid 45000]? = some Tryz.f14 := by
 have e : ctx.fid 45000 = 14 := by kernel_rfl
 rw [e]; exact Tryz.func14
theorem at45100 : ctx.P.funcs[ctx.fid 45100]? = some Tryz.f15 := by
 have e : ctx.fid 45100 = 15 := by kernel_rfl
 rw [e]; exact Tryz.func15
theorem at45200 : ctx.P.funcs[ctx.fid 45200]? = some Tryz.f17 := by
 have e : ctx.fid 45200 = 17 := by kernel_rfl
 rw [e]; exact Tryz.func17
theorem at45300 : ctx.P.funcs[ctx.fid 45300]? = some Tryz.f18 := by
 have e : ctx.fid 45300 = 18 := by kernel_rfl
 rw [e]; exact Tryz.func18
theorem at45400 : ctx.P.funcs[ctx.fid 45400]? = some Tryz.f19 := by
 have e : ctx.fid 45400 = 19 := by kernel_rfl
 rw [e]; exact Tryz.func19
theorem at45500 : ctx.P.funcs[ctx.fid 45500]? = some Tryz.f25 := by
 have e : ctx.fid 45500 = 25 := by kernel_rfl
 rw [e]; exact Tryz.func25
theorem at45900 : ctx.P.funcs[ctx.fid 45900]? = some Tryz.f39 := by
 have e : ctx.fid 45900 = 39 := by kernel_rfl
 rw [e]; exact Tryz.func39
theorem at46000 : ctx.P.funcs[ctx.fid 46000]? = some Tryz.f49 := by
 have e : ctx.fid 46000 = 49 := by kernel_rfl
 rw [e]; exact Tryz.func49
theorem at46100 : ctx.P.funcs[ctx.fid 46100]? = some Tryz.f59 := by
 have e : ctx.fid 46100 = 59 := by kernel_rfl
 rw [e]; exact Tryz.func59
theorem at46400 : ctx.P.funcs[ctx.fid 46400]? = some Tryz.f70 := by
 have e : ctx.fid 46400 = 70 := by kernel_rfl
 rw [e]; exact Tryz.func70
theorem at46500 : ctx.P.funcs[ctx.fid 46500]? = some Tryz.f78 := by
 have e : ctx.fid 46500 = 78 := by kernel_rfl
 rw [e]; exact Tryz.func78
theorem at46600 : ctx.P.funcs[ctx.fid 46600]? = some Tryz.f79 := by
 have e : ctx.fid 46600 = 79 := by kernel_rfl
 rw [e]; exact Tryz.func79
theorem at46700 : ctx.P.funcs[ctx.fid 46700]? = some Tryz.f101 := by
 have e : ctx.fid 46700 = 101 := by kernel_rfl
 rw [e]; exact Tryz.func101
theorem prim37500 : Qgv ctx 37500 p37500.er := by
 have e : ctx.fid 37500 = 84 := by kernel_rfl
 refine prefix_prim ⟨⟨Tryz.f84, _, at37500, by kernel_rfl, rfl⟩⟩ ?_
 rw [e]
 exact fun s p w => Tryz.strings_HasPrefix s p w
theorem prim37600 : Qgv ctx 37600 p37600.er := by
 have e : ctx.fid 37600 = 85 := by kernel_rfl
 refine index_prim ⟨⟨Tryz.f85, _, at37600, by kernel_rfl, rfl⟩⟩ ?_
 rw [e]
 exact fun s c w => Tryz.strings_IndexByte s c w
theorem prim37700 : Qgv ctx 37700 p37700.er := by
 have e : ctx.fid 37700 = 58 := by kernel_rfl
 refine atoi_prim ⟨⟨Tryz.f58, _, at37700, by kernel_rfl, rfl⟩⟩ ?_
 rw [e]
 intro s n w h0 h1
 refine (Tryz.strconv_Atoi s n h0 h1 w).mono ?_
 rintro ed w' ⟨rfl, t, rfl⟩
 exact ⟨rfl, below_bytes w _ t⟩
theorem laid : Laid ctx (FA Tb) := by
 refine laidT (l := tab) (by kernel_rfl) ?_
 have e : tab.map (fun x => (x.1, x.2.er)) = [(100, p100.er), (200, p200.er), (300, p300.er), (400, p400.er), (500, p500.er), (600, p600.er), (700, p700.er), (1000, p1000.er), (1100, p1100.er), (1200, p1200.er), (1600, p1600.er), (1700, p1700.er), (1800, p1800.er), (1900, p1900.er), (4000, p4000.er), (4001, p4001.er), (4100, p4100.er), (4200, p4200.er), (4300, p4300.er), (4400, p4400.er), (4500, p4500.er), (4600, p4600.er), (4601, p4601.er), (4700, p4700.er), (4701, p4701.er), (5200, p5200.er), (5300, p5300.er), (5301, p5301.er), (5400, p5400.er), (5700, p5700.er), (5800, p5800.er), (5900, p5900.er), (6000, p6000.er), (6100, p6100.er), (6200, p6200.er), (6201, p6201.er), (6300, p6300.er), (8700, p8700.er), (9700, p9700.er), (9701, p9701.er), (9800, p9800.er), (9801, p9801.er), (9900, p9900.er), (9901, p9901.er), (11100, p11100.er), (20500, p20500.er), (20700, p20700.er), (22300, p22300.er), (22301, p22301.er), (22400, p22400.er), (22401, p22401.er), (22700, p22700.er), (22701, p22701.er), (22800, p22800.er), (22801, p22801.er), (23100, p23100.er), (23101, p23101.er), (23200, p23200.er), (23201, p23201.er), (23300, p23300.er), (23301, p23301.er), (31800, p31800.er), (31801, p31801.er), (31900, p31900.er), (31901, p31901.er), (32000, p32000.er), (32100, p32100.er), (32200, p32200.er), (32201, p32201.er), (32300, p32300.er), (32301, p32301.er), (32400, p32400.er), (32500, p32500.er), (32501, p32501.er), (32600, p32600.er), (32700, p32700.er), (32800, p32800.er), (32801, p32801.er), (32900, p32900.er), (32901, p32901.er), (33100, p33100.er), (33200, p33200.er), (33300, p33300.er), (33301, p33301.er), (33302, p33302.er), (33303, p33303.er), (33400, p33400.er), (33401, p33401.er), (33500, p33500.er), (33600, p33600.er), (33700, p33700.er), (33800, p33800.er), (33900, p33900.er), (34000, p34000.er), (34100, p34100.er), (34200, p34200.er), (34201, p34201.er), (34300, p34300.er), (34400, p34400.er), (34401, p34401.er), (34900, p34900.er), (35000, p35000.er), (35001, p35001.er), (35100, p35100.er), (35200, p35200.er), (35300, p35300.er), (35500, p35500.er), (37500, p37500.er), (37600, p37600.er), (37700, p37700.er), (44200, p44200.er), (44201, p44201.er), (44300, p44300.er), (44301, p44301.er), (44302, p44302.er), (44400, p44400.er), (44401, p44401.er), (44402, p44402.er), (44900, p44900.er), (44901, p44901.er), (44902, p44902.er), (45000, p45000.er), (45001, p45001.er), (45100, p45100.er), (45200, p45200.er), (45300, p45300.er), (45400, p45400.er), (45401, p45401.er), (45500, p45500.er), (45501, p45501.er), (45900, p45900.er), (45901, p45901.er), (46000, p46000.er), (46100, p46100.er), (46400, p46400.er), (46500, p46500.er), (46600, p46600.er), (46700, p46700.er)] := by kernel_rfl
 rw [e]
 exact ⟨fun _ => okFn_spec at100 ok100, ⟨fun _ => okFn_spec at200 ok200, ⟨fun _ => okFn_spec at300 ok300, ⟨fun _ => okFn_spec at400 ok400, ⟨fun _ => okFn_spec at500 ok500, ⟨fun _ => okFn_spec at600 ok600, ⟨fun _ => okFn_spec at700 ok700, ⟨fun _ => okFn_spec at1000 ok1000, ⟨fun _ => okFn_spec at1100 ok1100, ⟨fun _ => okFn_spec at1200 ok1200, ⟨fun _ => okFn_spec at1600 ok1600, ⟨fun _ => okFn_spec at1700 ok1700, ⟨fun _ => okFn_spec at1800 ok1800, ⟨fun _ => okFn_spec at1900 ok1900, ⟨fun _ => okFn_spec at4000 ok4000, ⟨fun h => absurd h (by decide), ⟨fun _ => okFn_spec at4100 ok4100, ⟨fun _ => okFn_spec at4200 ok4200, ⟨fun _ => okFn_spec at4300 ok4300, ⟨fun _ => okFn_spec at4400 ok4400, ⟨fun _ => okFn_spec at4500 ok4500, ⟨fun _ => okFn_spec at4600 ok4600, ⟨fun h => absurd h (by decide), ⟨fun _ => okFn_spec at4700 ok4700, ⟨fun h => absurd h (by decide), ⟨fun _ => okFn_spec at5200 ok5200, ⟨fun _ => okFn_spec at5300 ok5300, ⟨fun h => absurd h (by decide), ⟨fun _ => okFn_spec at5400 ok5400, ⟨fun _ => okFn_spec at5700 ok5700, ⟨fun _ => okFn_spec at5800 ok5800, ⟨fun _ => okFn_spec at5900 ok5900, ⟨fun _ => okFn_spec at6000 ok6000, ⟨fun _ => okFn_spec at6100 ok6100, ⟨fun _ => okFn_spec at6200 ok6200, ⟨fun h => absurd h (by decide), ⟨fun _ => okFn_spec at6300 ok6300, ⟨fun _ => okFn_spec at8700 ok8700, ⟨fun _ => okFn_spec at9700 ok9700, ⟨fun h => absurd h (by decide), ⟨fun _ => okFn_spec at9800 ok9800, ⟨fun h => absurd h (by decide), ⟨fun _ => okFn_spec at9900 ok9900, ⟨fun h => absurd h (by decide), ⟨fun _ => okFn_spec at11100 ok11100, ⟨fun _ => okFn_spec at20500 ok20500, ⟨fun _ => okFn_spec at20700 ok20700, ⟨fun _ => okFn_spec at22300 ok22300, ⟨fun h => absurd h (by decide), ⟨fun _ => okFn_spec at22400 ok22400, ⟨fun h => absurd h (by decide), ⟨fun _ => okFn_spec at22700 ok22700, ⟨fun h => absurd h (by decide), ⟨fun _ => okFn_spec at22800 ok22800, ⟨fun h => absurd h (by decide), ⟨fun _ => okFn_spec at23100 ok23100, ⟨fun h => absurd h (by decide), ⟨fun _ => okFn_spec at23200 ok23200, ⟨fun h => absurd h (by decide), ⟨fun _ => okFn_spec at23300 ok23300, ⟨fun h => absurd h (by decide), ⟨fun _ => okFn_spec at31800 ok31800, ⟨fun h => absurd h (by decide), ⟨fun _ => okFn_spec at31900 ok31900, ⟨fun h => absurd h (by decide), ⟨fun _ => okFn_spec at32000 ok32000, ⟨fun _ => okFn_spec at32100 ok32100, ⟨fun _ => okFn_spec at32200 ok32200, ⟨fun h => absurd h (by decide), ⟨fun _ => okFn_spec at32300 ok32300, ⟨fun h => absurd h (by decide), ⟨fun _ => okFn_spec at32400 ok32400, ⟨fun _ => okFn_spec at32500 ok32500, ⟨fun h => absurd h (by decide), ⟨fun _ => okFn_spec at32600 ok32600, ⟨fun _ => okFn_spec at32700 ok32700, ⟨fun _ => okFn_spec at32800 ok32800, ⟨fun h => absurd h (by decide), ⟨fun _ => okFn_spec at32900 ok32900, ⟨fun h => absurd h (by decide), ⟨fun _ => okFn_spec at33100 ok33100, ⟨fun _ => okFn_spec at33200 ok33200, ⟨fun _ => okFn_spec at33300 ok33300, ⟨fun h => absurd h (by decide), ⟨fun h => absurd h (by decide), ⟨fun h => absurd h (by decide), ⟨fun _ => okFn_spec at33400 ok33400, ⟨fun h => absurd h (by decide), ⟨fun _ => okFn_spec at33500 ok33500, ⟨fun _ => okFn_spec at33600 ok33600, ⟨fun _ => okFn_spec at33700 ok33700, ⟨fun _ => okFn_spec at33800 ok33800, ⟨fun _ => okFn_spec at33900 ok33900, ⟨fun _ => okFn_spec at34000 ok34000, ⟨fun _ => okFn_spec at34100 ok34100, ⟨fun _ => okFn_spec at34200 ok34200, ⟨fun h => absurd h (by decide), ⟨fun _ => okFn_spec at34300 ok34300, ⟨fun _ => okFn_spec at34400 ok34400, ⟨fun h => absurd h (by decide), ⟨fun _ => okFn_spec at34900 ok34900, ⟨fun _ => okFn_spec at35000 ok35000, ⟨fun h => absurd h (by decide), ⟨fun _ => okFn_spec at35100 ok35100, ⟨fun _ => okFn_spec at35200 ok35200, ⟨fun _ => okFn_spec at35300 ok35300, ⟨fun _ => okFn_spec at35500 ok35500, ⟨fun _ => .inr prim37500, ⟨fun _ => .inr prim37600, ⟨fun _ => .inr prim37700, ⟨fun _ => okFn_spec at44200 ok44200, ⟨fun h => absurd h (by decide), ⟨fun _ => okFn_spec at44300 ok44300, ⟨fun h => absurd h (by decide), ⟨fun h => absurd h (by decide), ⟨fun _ => okFn_spec at44400 ok44400, ⟨fun h => absurd h (by decide), ⟨fun h => absurd h (by decide), ⟨fun _ => okFn_spec at44900 ok44900, ⟨fun h => absurd h (by decide), ⟨fun h => absurd h (by decide), ⟨fun _ => okFn_spec at45000 ok45000, ⟨fun h => absurd h (by decide), ⟨fun _ => okFn_spec at45100 ok45100, ⟨fun _ => okFn_spec at45200 ok45200, ⟨fun _ => okFn_spec at45300 ok45300, ⟨fun _ => okFn_spec at45400 ok45400, ⟨fun h => absurd h (by decide), ⟨fun _ => okFn_spec at45500 ok45500, ⟨fun h => absurd h (by decide), ⟨fun _ => okFn_spec at45900 ok45900, ⟨fun h => absurd h (by decide), ⟨fun _ => okFn_spec at46000 ok46000, ⟨fun _ => okFn_spec at46100 ok46100, ⟨fun _ => okFn_spec at46400 ok46400, ⟨fun _ => okFn_spec at46500 ok46500, ⟨fun _ => okFn_spec at46600 ok46600, ⟨fun _ => okFn_spec at46700 ok46700, trivial⟩⟩⟩⟩⟩⟩⟩⟩⟩⟩⟩⟩⟩⟩⟩⟩⟩⟩⟩⟩⟩⟩⟩⟩⟩⟩⟩⟩⟩⟩⟩⟩⟩⟩⟩⟩⟩⟩⟩⟩⟩⟩⟩⟩⟩⟩⟩⟩⟩⟩⟩⟩⟩⟩⟩⟩⟩⟩⟩⟩⟩⟩⟩⟩⟩⟩⟩⟩⟩⟩⟩⟩⟩⟩⟩⟩⟩⟩⟩⟩⟩⟩⟩⟩⟩⟩⟩⟩⟩⟩⟩⟩⟩⟩⟩⟩⟩⟩⟩⟩⟩⟩⟩⟩⟩⟩⟩⟩⟩⟩⟩⟩⟩⟩⟩⟩⟩⟩⟩⟩⟩⟩⟩⟩⟩⟩⟩⟩⟩⟩⟩⟩⟩⟩⟩⟩⟩⟩
def opS : List (List UInt8) := [[124], [94], [38], [61, 61], [60], [60, 60], [62, 62], [43], [45], [42], [47], [37]]
theorem gok {W : World} (h : laidMet Tryz.prog Rows.fnSourceBlankRow.laid W) : GOk ctx (Qob W) := by
 have hc := laid_strs h (name := "loop.example/cothreads/impl.opTexts") (zs := opS) (by right; right; right; right; right; exact List.mem_cons_self ..) (g := 2) (by kernel_rfl) (by kernel_rfl) Tryz.underlying152 Tryz.underlying9 (by kernel_rfl) (by kernel_rfl)
 intro i
 by_cases hi : i = 0
 ·subst hi
  have e : ctx.G 0 = Qbt (opS.map TV.str) := by kernel_rfl
  have e2 : ctx.gm 0 = 2 := by kernel_rfl
  rw [e, e2]
  exact Qyp (zs := opS) fun j z hz => Qkx.2 ⟨hc j z hz, rfl⟩
 ·have e : ctx.G i = [] := by
   show GA GT i = []
   unfold GA GT; rw [if_neg hi]; rfl
  rw [e]; trivial
theorem fixed {W : World} (h : laidMet Tryz.prog Rows.fnSourceBlankRow.laid W) : ∀ x ∈ ctx.fx, ∃ o, W.heap[x.1]? = some o ∧ x.2 o := by
 intro x hx
 obtain rfl := List.mem_singleton.1 hx
 have e : Rows.laid_internal_strconv_uint64pow10 = Lib.tabData (H := Unit) .u64 Lib.pow10Tab := by kernel_rfl
 exact laid_pow h (name := "internal/strconv.uint64pow10") (by rw [← e]; right; right; exact List.mem_cons_self ..) (g := 3) (by kernel_rfl) (by kernel_rfl) Tryz.underlying157 Tryz.underlying131 (by kernel_rfl) (by kernel_rfl)
set_option maxRecDepth 100000 in
theorem lifted (os : Os) (started : os.Started) (H : Type) (enc : TypeId × Value → H) :
  ReturnsInHanded {} Tryz.checked os 5 .any (fun w args => (Rows.fnSourceBlankSpec.pre enc Tryz.prog Tryz.f5 Rows.fnSourceBlankRow.domain false w args ∧ laidMetH Tryz.prog Rows.fnSourceBlankRow.laid w) ∧ sizedMet enc Tryz.prog Tryz.f5 (OpenSpec.ofChange Rows.fnSourceBlankSpec) false w args)
   (Rows.fnSourceBlankSpec.post enc Tryz.prog Tryz.f5 false true false false) := by
 refine returnsInHanded_of_change_and (C := Tryz.checked) (X := fun w _ => laidMetH Tryz.prog Rows.fnSourceBlankRow.laid w) (fun _ _ _ hh h => h.of_heap hh) own started (by kernel_rfl) Tryz.func5
  (ChangeSpec.witness_shaped (enc := enc) (C := Tryz.checked) (os := os) (X := fun w _ => laidMetH Tryz.prog Rows.fnSourceBlankRow.laid w) false (World.laidAll Tryz.prog os Rows.fnSourceBlankRow.laid) #[.slice none 0 0] 8 rfl (World.shaped_of_RefB (by kernel_rfl) (by kernel_rfl)) (by kernel_rfl) (by kernel_rfl) (by kernel_rfl)
   (by rw [MakeChecks.laidMetH_plain _ _ _ (by kernel_rfl)]; exact laidMet_laidAll _ (by kernel_rfl) (by kernel_rfl))) ?_
 intro W base args ds gs before hval0 hW _ _ hL0 _
 have hval : ∀ (j : Nat) t v, Tryz.f5.params[j]? = some t → args[j]? = some v → Value.okWide Tryz.prog W .any base t v := hval0
 have hL : laidMet Tryz.prog Rows.fnSourceBlankRow.laid W := by rw [MakeChecks.laidMetH_plain _ _ _ (by kernel_rfl)] at hL0; exact hL0
 have hW' := hW
 obtain ⟨p, q, hA0, hV, rfl, hfz, hnd⟩ := hW
 have hA : DataW.TrodAll enc Tryz.prog W 0 (fun _ => true) true Tryz.f5.params.toList args.toList ds p := hA0
 have hV' := hV
 rw [Tryz.params5] at hA hval
 obtain ⟨v0, vs0, d0, ds0, p0, q0, hargs, rfl, rfl, h0, r0⟩ := trodAll_cons hA
 obtain ⟨rfl, rfl, rfl⟩ := trodAll_nil r0
 obtain rfl : args = #[v0] := by cases args; simp_all
 obtain ⟨g1, rfl⟩ : ∃ g1, gs = [g1] := by
  match gs, hV' with
  | [g1], _ => exact ⟨g1, rfl⟩
  | [], h => exact h.elim
  | _ :: _ :: _, h => obtain ⟨_, _, _, _, _, _, _, _, _, _, h2, _⟩ := h; exact h2.elim
 have k0 := h0
 have lt0 : ∀ x ∈ p0, x.block < W.heap.size := by obtain ⟨m, hm⟩ := k0; exact DataW.trod_lt m _ _ _ hm
 obtain ⟨a0, y0, w0⟩ := arg_bytes (fid := ctx.fid) Tryz.underlying31 (by kernel_rfl) (hval 0 31 v0 rfl rfl) h0
 have hE : Qcw Tb GT Qqq 44200 [.sl .share .u8 a0] [] = some true := Go.TFnSourceBlank.laws_FnSourceBlank_eq a0 w0
 have hrun := law_top (C := ctx) laid rfl (g := 44200) (by decide) (args := #[v0]) (gok hL) (fixed hL) rfl (by
  intro i c v hc hv
  match i, hc, hv with
  | 0, hc, hv => simp at hc hv; subst hc hv; exact y0
  | i + 1, hc, _ => simp at hc) hE
 have efid : ctx.fid 44200 = 5 := by kernel_rfl
 rw [efid] at hrun
 refine hrun.mono fun e W' ⟨he, bel⟩ => ?_
 subst he
 exact ⟨_, rfl, _, _, _, [], _, _, hW', trodAll_mk1 (shut_bool Tryz.underlying4 _), (trodAll_cons_mk (Below.trod laidOut (by kernel_rfl) (of_decide_eq_true (by kernel_rfl)) k0 bel lt0) trodAll_mk0), Below.trodVars laidOut bel (by kernel_rfl) hV, bel.frame _, fun h => by cases h⟩
theorem over : Rows.fnSourceBlankRow.holds Tryz.pinned (OpenSpec.ofChange Rows.fnSourceBlankSpec) :=
 OpenClaim.holds_of_wide 5 Tryz.f5 rfl rfl rfl rfl rfl rfl rfl ⟨rfl, rfl, rfl, rfl, rfl⟩ rfl rfl rfl rfl rfl (by kernel_rfl) Tryz.func5 (by kernel_rfl)
  (of_decide_eq_true (by kernel_rfl)) (by unfold Func.isWrapper; first | (rw [if_pos (by decide +kernel)]; kernel_rfl) | (rw [if_neg (by decide +kernel)]; exact ⟨rfl, rfl⟩))
  (fun os started H enc _ => lifted os started H enc)
theorem card : Rows.FnSourceBlankCardSaid :=
 Claim7.holds_tied_plain_at .later [] [.data, .data, .data, .sentinel, .sentinel, .data] true (true, "51f58c309abb1fd527bd040bbaeb90dfa63c4edb93d8e114e1e3c688cadc9694") true
  over (fun _ h => by cases h) (by kernel_rfl) (fun _ h => by cases h) fnSourceBlank_row_tie rfl ⟨rfl, rfl⟩ (by kernel_rfl) rfl
  (fun f fn hf hfn => by
   obtain rfl : f = 5 := Option.some.inj ((show Tryz.prog.funcNamed "loop.example/cothreads/laws.FnSourceBlank" = some 5 by kernel_rfl).symm.trans hf) |>.symm
   obtain rfl : fn = Tryz.f5 := (Option.some.inj (Tryz.func5.symm.trans hfn)).symm
   exact ⟨by kernel_rfl, fun j t ht => by
    rw [Tryz.params5] at ht
    have hm : t ∈ [31] := by simpa using Array.mem_of_getElem? ht
    have hall : ([31].all fun u => !Tryz.prog.wantsStandIn u) = true := by kernel_rfl
    exact (show Tryz.prog.wantsStandIn t = false by simpa using List.all_eq_true.1 hall t hm)⟩)
  (by kernel_rfl)
end Go.Proofs.YthmemaednlaanaaGreatDoor.fnSourceBlank
namespace Go.Proofs.YthmemaednlaanaaGreatDoor
theorem fnSourceBlank_holds : Rows.FnSourceBlankCardSaid := fnSourceBlank.card
#print axioms fnSourceBlank_holds
end Go.Proofs.YthmemaednlaanaaGreatDoor