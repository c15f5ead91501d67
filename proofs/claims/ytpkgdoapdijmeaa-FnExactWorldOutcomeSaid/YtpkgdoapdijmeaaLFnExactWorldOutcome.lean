/- The statement FnExactWorldOutcome is proved: the law answers true whatever the input; under no condition. -/
import Derived.Test.YtpkgdoapdijmeaaRows
import Derived.Test.YtpkgdoapdijmeaaFFnExactWorldOutcome
import Derived.Test.YtpkgdoapdijmeaaTvRow3
import Derived.KernelRfl
import Derived.Test.YtpkgdoapdijmeaaShelf
import Derived.Test.YtpkgdoapdijmeaaPm1
import Derived.Test.YtpkgdoapdijmeaaPm3
namespace Go.Proofs.Ytpkgdoapdijmeaa.fnExactWorldOutcome
open Go Go.Vs Go.Tv Go.ChangeShapes Go.WideShapes Go.ChangeAt Go.RowKit Go.TFnExactWorldOutcome
open Go.ChangeMaps (open_string shut_string)
set_option linter.unusedVariables false
theorem own : ownKnob Try.prog.godebug = none := by kernel_rfl
theorem laidOut : laidOutB Try.prog = true := by kernel_rfl
def fids : List (Nat × Nat) := [(1000, 193), (1100, 181), (1200, 163), (1600, 63), (1700, 187), (1800, 183), (1900, 167), (4000, 138), (5000, 140), (5100, 113), (5200, 150), (5300, 136), (5400, 106), (5500, 59), (5700, 165), (5800, 166), (5900, 182), (6000, 164), (6100, 151), (6200, 137), (6300, 108), (6400, 118), (6500, 67), (6600, 65), (6800, 173), (6900, 158), (7000, 144), (7100, 126), (7200, 62), (7300, 115), (7400, 174), (7500, 159), (7600, 145), (7700, 127), (7800, 70), (7900, 119), (8000, 175), (8100, 160), (8200, 146), (8300, 128), (8400, 73), (8500, 121), (10600, 92), (11100, 162), (16700, 131), (17600, 114), (17800, 117), (19000, 122), (23100, 66), (23800, 57), (23900, 58), (24000, 17), (24200, 60), (24300, 116), (24400, 61), (24500, 18), (24600, 64), (24700, 19), (24800, 68), (24900, 120), (25000, 69), (25100, 20), (25200, 71), (25300, 72), (25400, 21), (30100, 40), (30200, 94), (30300, 41), (30800, 97), (30900, 98), (31000, 43), (31400, 101), (31500, 102), (31600, 45), (31700, 10), (38200, 131), (38700, 86), (39600, 70), (39800, 93), (40800, 127), (40900, 129), (41200, 145), (41300, 147), (41500, 159), (41600, 174), (41700, 119), (41900, 20), (42200, 37), (42300, 40), (42400, 44), (42600, 68), (42700, 69), (43000, 88), (43100, 89), (43200, 93), (43300, 99), (43400, 100), (43500, 120)]
noncomputable def ctx : Ctx := { P := Try.prog, fid := fun g => (Vs.look g fids).getD 0, gm := fun _ => 0, G := GA GT }
theorem ok1000 : okFn ctx (FA Tb) 8 p1000.er Try.f193 = true := by kernel_rfl
theorem ok1100 : okFn ctx (FA Tb) 8 p1100.er Try.f181 = true := by kernel_rfl
theorem ok1200 : okFn ctx (FA Tb) 8 p1200.er Try.f163 = true := by kernel_rfl
theorem ok1600 : okFn ctx (FA Tb) 8 p1600.er Try.f63 = true := by kernel_rfl
theorem ok1700 : okFn ctx (FA Tb) 8 p1700.er Try.f187 = true := by kernel_rfl
theorem ok1800 : okFn ctx (FA Tb) 8 p1800.er Try.f183 = true := by kernel_rfl
theorem ok1900 : okFn ctx (FA Tb) 8 p1900.er Try.f167 = true := by kernel_rfl
theorem ok4000 : okFn ctx (FA Tb) 8 p4000.er Try.f138 = true := by kernel_rfl
theorem ok5000 : okFn ctx (FA Tb) 8 p5000.er Try.f140 = true := by kernel_rfl
theorem ok5100 : okFn ctx (FA Tb) 8 p5100.er Try.f113 = true := by kernel_rfl
theorem ok5200 : okFn ctx (FA Tb) 8 p5200.er Try.f150 = true := by kernel_rfl
theorem ok5300 : okFn ctx (FA Tb) 8 p5300.er Try.f136 = true := by kernel_rfl
theorem ok5400 : okFn ctx (FA Tb) 8 p5400.er Try.f106 = true := by kernel_rfl
theorem ok5500 : okFn ctx (FA Tb) 8 p5500.er Try.f59 = true := by kernel_rfl
theorem ok5700 : okFn ctx (FA Tb) 8 p5700.er Try.f165 = true := by kernel_rfl
theorem ok5800 : okFn ctx (FA Tb) 8 p5800.er Try.f166 = true := by kernel_rfl
theorem ok5900 : okFn ctx (FA Tb) 8 p5900.er Try.f182 = true := by kernel_rfl
theorem ok6000 : okFn ctx (FA Tb) 8 p6000.er Try.f164 = true := by kernel_rfl
theorem ok6100 : okFn ctx (FA Tb) 8 p6100.er Try.f151 = true := by kernel_rfl
theorem ok6200 : okFn ctx (FA Tb) 8 p6200.er Try.f137 = true := by kernel_rfl
theorem ok6300 : okFn ctx (FA Tb) 8 p6300.er Try.f108 = true := by kernel_rfl
theorem ok6400 : okFn ctx (FA Tb) 8 p6400.er Try.f118 = true := by kernel_rfl
theorem ok6500 : okFn ctx (FA Tb) 8 p6500.er Try.f67 = true := by kernel_rfl
theorem ok6600 : okFn ctx (FA Tb) 8 p6600.er Try.f65 = true := by kernel_rfl
theorem ok6800 : okFn ctx (FA Tb) 8 p6800.er Try.f173 = true := by kernel_rfl
theorem ok6900 : okFn ctx (FA Tb) 8 p6900.er Try.f158 = true := by kernel_rfl
theorem ok7000 : okFn ctx (FA Tb) 8 p7000.er Try.f144 = true := by kernel_rfl
theorem ok7100 : okFn ctx (FA Tb) 8 p7100.er Try.f126 = true := by kernel_rfl
theorem ok7200 : okFn ctx (FA Tb) 8 p7200.er Try.f62 = true := by kernel_rfl
theorem ok7300 : okFn ctx (FA Tb) 8 p7300.er Try.f115 = true := by kernel_rfl
theorem ok7400 : okFn ctx (FA Tb) 8 p7400.er Try.f174 = true := by kernel_rfl
theorem ok7500 : okFn ctx (FA Tb) 8 p7500.er Try.f159 = true := by kernel_rfl
theorem ok7600 : okFn ctx (FA Tb) 8 p7600.er Try.f145 = true := by kernel_rfl
theorem ok7700 : okFn ctx (FA Tb) 8 p7700.er Try.f127 = true := by kernel_rfl
theorem ok7800 : okFn ctx (FA Tb) 8 p7800.er Try.f70 = true := by kernel_rfl
theorem ok7900 : okFn ctx (FA Tb) 8 p7900.er Try.f119 = true := by kernel_rfl
theorem ok8000 : okFn ctx (FA Tb) 8 p8000.er Try.f175 = true := by kernel_rfl
theorem ok8100 : okFn ctx (FA Tb) 8 p8100.er Try.f160 = true := by kernel_rfl
theorem ok8200 : okFn ctx (FA Tb) 8 p8200.er Try.f146 = true := by kernel_rfl
theorem ok8300 : okFn ctx (FA Tb) 8 p8300.er Try.f128 = true := by kernel_rfl
theorem ok8400 : okFn ctx (FA Tb) 8 p8400.er Try.f73 = true := by kernel_rfl
theorem ok8500 : okFn ctx (FA Tb) 8 p8500.er Try.f121 = true := by kernel_rfl
theorem ok10600 : okFn ctx (FA Tb) 8 p10600.er Try.f92 = true := by kernel_rfl
theorem ok11100 : okFn ctx (FA Tb) 8 p11100.er Try.f162 = true := by kernel_rfl
theorem ok17600 : okFn ctx (FA Tb) 8 p17600.er Try.f114 = true := by kernel_rfl
theorem ok17800 : okFn ctx (FA Tb) 8 p17800.er Try.f117 = true := by kernel_rfl
theorem ok19000 : okFn ctx (FA Tb) 8 p19000.er Try.f122 = true := by kernel_rfl
theorem ok23100 : okFn ctx (FA Tb) 8 p23100.er Try.f66 = true := by kernel_rfl
theorem ok23800 : okFn ctx (FA Tb) 8 p23800.er Try.f57 = true := by kernel_rfl
theorem ok23900 : okFn ctx (FA Tb) 8 p23900.er Try.f58 = true := by kernel_rfl
theorem ok24000 : okFn ctx (FA Tb) 8 p24000.er Try.f17 = true := by kernel_rfl
theorem ok24200 : okFn ctx (FA Tb) 8 p24200.er Try.f60 = true := by kernel_rfl
theorem ok24300 : okFn ctx (FA Tb) 8 p24300.er Try.f116 = true := by kernel_rfl
theorem ok24400 : okFn ctx (FA Tb) 8 p24400.er Try.f61 = true := by kernel_rfl
theorem ok24500 : okFn ctx (FA Tb) 8 p24500.er Try.f18 = true := by kernel_rfl
theorem ok24600 : okFn ctx (FA Tb) 8 p24600.er Try.f64 = true := by kernel_rfl
theorem ok24700 : okFn ctx (FA Tb) 8 p24700.er Try.f19 = true := by kernel_rfl
theorem ok24800 : okFn ctx (FA Tb) 8 p24800.er Try.f68 = true := by kernel_rfl
theorem ok24900 : okFn ctx (FA Tb) 8 p24900.er Try.f120 = true := by kernel_rfl
theorem ok25000 : okFn ctx (FA Tb) 8 p25000.er Try.f69 = true := by kernel_rfl
theorem ok25100 : okFn ctx (FA Tb) 8 p25100.er Try.f20 = true := by kernel_rfl
theorem ok25200 : okFn ctx (FA Tb) 8 p25200.er Try.f71 = true := by kernel_rfl
theorem ok25300 : okFn ctx (FA Tb) 8 p25300.er Try.f72 = true := by kernel_rfl
theorem ok25400 : okFn ctx (FA Tb) 8 p25400.er Try.f21 = true := by kernel_rfl
theorem ok30100 : okFn ctx (FA Tb) 8 p30100.er Try.f40 = true := by kernel_rfl
theorem ok30200 : okFn ctx (FA Tb) 8 p30200.er Try.f94 = true := by kernel_rfl
theorem ok30300 : okFn ctx (FA Tb) 8 p30300.er Try.f41 = true := by kernel_rfl
theorem ok30800 : okFn ctx (FA Tb) 8 p30800.er Try.f97 = true := by kernel_rfl
theorem ok30900 : okFn ctx (FA Tb) 8 p30900.er Try.f98 = true := by kernel_rfl
theorem ok31000 : okFn ctx (FA Tb) 8 p31000.er Try.f43 = true := by kernel_rfl
theorem ok31400 : okFn ctx (FA Tb) 8 p31400.er Try.f101 = true := by kernel_rfl
theorem ok31500 : okFn ctx (FA Tb) 8 p31500.er Try.f102 = true := by kernel_rfl
theorem ok31600 : okFn ctx (FA Tb) 8 p31600.er Try.f45 = true := by kernel_rfl
theorem ok31700 : okFn ctx (FA Tb) 8 p31700.er Try.f10 = true := by kernel_rfl
theorem ok38700 : okFn ctx (FA Tb) 8 p38700.er Try.f86 = true := by kernel_rfl
theorem ok39600 : okFn ctx (FA Tb) 8 p39600.er Try.f70 = true := by kernel_rfl
theorem ok39800 : okFn ctx (FA Tb) 8 p39800.er Try.f93 = true := by kernel_rfl
theorem ok40800 : okFn ctx (FA Tb) 8 p40800.er Try.f127 = true := by kernel_rfl
theorem ok40900 : okFn ctx (FA Tb) 8 p40900.er Try.f129 = true := by kernel_rfl
theorem ok41200 : okFn ctx (FA Tb) 8 p41200.er Try.f145 = true := by kernel_rfl
theorem ok41300 : okFn ctx (FA Tb) 8 p41300.er Try.f147 = true := by kernel_rfl
theorem ok41500 : okFn ctx (FA Tb) 8 p41500.er Try.f159 = true := by kernel_rfl
theorem ok41600 : okFn ctx (FA Tb) 8 p41600.er Try.f174 = true := by kernel_rfl
theorem ok41700 : okFn ctx (FA Tb) 8 p41700.er Try.f119 = true := by kernel_rfl
theorem ok41900 : okFn ctx (FA Tb) 8 p41900.er Try.f20 = true := by kernel_rfl
theorem ok42200 : okFn ctx (FA Tb) 8 p42200.er Try.f37 = true := by kernel_rfl
theorem ok42300 : okFn ctx (FA Tb) 8 p42300.er Try.f40 = true := by kernel_rfl
theorem ok42400 : okFn ctx (FA Tb) 8 p42400.er Try.f44 = true := by kernel_rfl
theorem ok42600 : okFn ctx (FA Tb) 8 p42600.er Try.f68 = true := by kernel_rfl
theorem ok42700 : okFn ctx (FA Tb) 8 p42700.er Try.f69 = true := by kernel_rfl
theorem ok43000 : okFn ctx (FA Tb) 8 p43000.er Try.f88 = true := by kernel_rfl
theorem ok43100 : okFn ctx (FA Tb) 8 p43100.er Try.f89 = true := by kernel_rfl
theorem ok43200 : okFn ctx (FA Tb) 8 p43200.er Try.f93 = true := by kernel_rfl
theorem ok43300 : okFn ctx (FA Tb) 8 p43300.er Try.f99 = true := by kernel_rfl
theorem ok43400 : okFn ctx (FA Tb) 8 p43400.er Try.f100 = true := by kernel_rfl
theorem ok43500 : okFn ctx (FA Tb) 8 p43500.er Try.f120 = true := by kernel_rfl
theorem at1000 : ctx.P.funcs[ctx.fid 1000]? = some Try.f193 := by
  have e : ctx.fid 1000 = 193 := by kernel_rfl
  rw [e]; exact Try.func193
theorem at1100 : ctx.P.funcs[ctx.fid 1100]? = some Try.f181 := by
  have e : ctx.fid 1100 = 181 := by kernel_rfl
  rw [e]; exact Try.func181
theorem at1200 : ctx.P.funcs[ctx.fid 1200]? = some Try.f163 := by
  have e : ctx.fid 1200 = 163 := by kernel_rfl
  rw [e]; exact Try.func163
theorem at1600 : ctx.P.funcs[ctx.fid 1600]? = some Try.f63 := by
  have e : ctx.fid 1600 = 63 := by kernel_rfl
  rw [e]; exact Try.func63
theorem at1700 : ctx.P.funcs[ctx.fid 1700]? = some Try.f187 := by
  have e : ctx.fid 1700 = 187 := by kernel_rfl
  rw [e]; exact Try.func187
theorem at1800 : ctx.P.funcs[ctx.fid 1800]? = some Try.f183 := by
  have e : ctx.fid 1800 = 183 := by kernel_rfl
  rw [e]; exact Try.func183
theorem at1900 : ctx.P.funcs[ctx.fid 1900]? = some Try.f167 := by
  have e : ctx.fid 1900 = 167 := by kernel_rfl
  rw [e]; exact Try.func167
theorem at4000 : ctx.P.funcs[ctx.fid 4000]? = some Try.f138 := by
  have e : ctx.fid 4000 = 138 := by kernel_rfl
  rw [e]; exact Try.func138
theorem at5000 : ctx.P.funcs[ctx.fid 5000]? = some Try.f140 := by
  have e : ctx.fid 5000 = 140 := by kernel_rfl
  rw [e]; exact Try.func140
theorem at5100 : ctx.P.funcs[ctx.fid 5100]? = some Try.f113 := by
  have e : ctx.fid 5100 = 113 := by kernel_rfl
  rw [e]; exact Try.func113
theorem at5200 : ctx.P.funcs[ctx.fid 5200]? = some Try.f150 := by
  have e : ctx.fid 5200 = 150 := by kernel_rfl
  rw [e]; exact Try.func150
theorem at5300 : ctx.P.funcs[ctx.fid 5300]? = some Try.f136 := by
  have e : ctx.fid 5300 = 136 := by kernel_rfl
  rw [e]; exact Try.func136
theorem at5400 : ctx.P.funcs[ctx.fid 5400]? = some Try.f106 := by
  have e : ctx.fid 5400 = 106 := by kernel_rfl
  rw [e]; exact Try.func106
theorem at5500 : ctx.P.funcs[ctx.fid 5500]? = some Try.f59 := by
  have e : ctx.fid 5500 = 59 := by kernel_rfl
  rw [e]; exact Try.func59
theorem at5700 : ctx.P.funcs[ctx.fid 5700]? = some Try.f165 := by
  have e : ctx.fid 5700 = 165 := by kernel_rfl
  rw [e]; exact Try.func165
theorem at5800 : ctx.P.funcs[ctx.fid 5800]? = some Try.f166 := by
  have e : ctx.fid 5800 = 166 := by kernel_rfl
  rw [e]; exact Try.func166
theorem at5900 : ctx.P.funcs[ctx.fid 5900]? = some Try.f182 := by
  have e : ctx.fid 5900 = 182 := by kernel_rfl
  rw [e]; exact Try.func182
theorem at6000 : ctx.P.funcs[ctx.fid 6000]? = some Try.f164 := by
  have e : ctx.fid 6000 = 164 := by kernel_rfl
  rw [e]; exact Try.func164
theorem at6100 : ctx.P.funcs[ctx.fid 6100]? = some Try.f151 := by
  have e : ctx.fid 6100 = 151 := by kernel_rfl
  rw [e]; exact Try.func151
theorem at6200 : ctx.P.funcs[ctx.fid 6200]? = some Try.f137 := by
  have e : ctx.fid 6200 = 137 := by kernel_rfl
  rw [e]; exact Try.func137
theorem at6300 : ctx.P.funcs[ctx.fid 6300]? = some Try.f108 := by
  have e : ctx.fid 6300 = 108 := by kernel_rfl
  rw [e]; exact Try.func108
theorem at6400 : ctx.P.funcs[ctx.fid 6400]? = some Try.f118 := by
  have e : ctx.fid 6400 = 118 := by kernel_rfl
  rw [e]; exact Try.func118
theorem at6500 : ctx.P.funcs[ctx.fid 6500]? = some Try.f67 := by
  have e : ctx.fid 6500 = 67 := by kernel_rfl
  rw [e]; exact Try.func67
theorem at6600 : ctx.P.funcs[ctx.fid 6600]? = some Try.f65 := by
  have e : ctx.fid 6600 = 65 := by kernel_rfl
  rw [e]; exact Try.func65
theorem at6800 : ctx.P.funcs[ctx.fid 6800]? = some Try.f173 := by
  have e : ctx.fid 6800 = 173 := by kernel_rfl
  rw [e]; exact Try.func173
theorem at6900 : ctx.P.funcs[ctx.fid 6900]? = some Try.f158 := by
  have e : ctx.fid 6900 = 158 := by kernel_rfl
  rw [e]; exact Try.func158
theorem at7000 : ctx.P.funcs[ctx.fid 7000]? = some Try.f144 := by
  have e : ctx.fid 7000 = 144 := by kernel_rfl
  rw [e]; exact Try.func144
theorem at7100 : ctx.P.funcs[ctx.fid 7100]? = some Try.f126 := by
  have e : ctx.fid 7100 = 126 := by kernel_rfl
  rw [e]; exact Try.func126
theorem at7200 : ctx.P.funcs[ctx.fid 7200]? = some Try.f62 := by
  have e : ctx.fid 7200 = 62 := by kernel_rfl
  rw [e]; exact Try.func62
theorem at7300 : ctx.P.funcs[ctx.fid 7300]? = some Try.f115 := by
  have e : ctx.fid 7300 = 115 := by kernel_rfl
  rw [e]; exact Try.func115
theorem at7400 : ctx.P.funcs[ctx.fid 7400]? = some Try.f174 := by
  have e : ctx.fid 7400 = 174 := by kernel_rfl
  rw [e]; exact Try.func174
theorem at7500 : ctx.P.funcs[ctx.fid 7500]? = some Try.f159 := by
  have e : ctx.fid 7500 = 159 := by kernel_rfl
  rw [e]; exact Try.func159
theorem at7600 : ctx.P.funcs[ctx.fid 7600]? = some Try.f145 := by
  have e : ctx.fid 7600 = 145 := by kernel_rfl
  rw [e]; exact Try.func145
theorem at7700 : ctx.P.funcs[ctx.fid 7700]? = some Try.f127 := by
  have e : ctx.fid 7700 = 127 := by kernel_rfl
  rw [e]; exact Try.func127
theorem at7800 : ctx.P.funcs[ctx.fid 7800]? = some Try.f70 := by
  have e : ctx.fid 7800 = 70 := by kernel_rfl
  rw [e]; exact Try.func70
theorem at7900 : ctx.P.funcs[ctx.fid 7900]? = some Try.f119 := by
  have e : ctx.fid 7900 = 119 := by kernel_rfl
  rw [e]; exact Try.func119
theorem at8000 : ctx.P.funcs[ctx.fid 8000]? = some Try.f175 := by
  have e : ctx.fid 8000 = 175 := by kernel_rfl
  rw [e]; exact Try.func175
theorem at8100 : ctx.P.funcs[ctx.fid 8100]? = some Try.f160 := by
  have e : ctx.fid 8100 = 160 := by kernel_rfl
  rw [e]; exact Try.func160
theorem at8200 : ctx.P.funcs[ctx.fid 8200]? = some Try.f146 := by
  have e : ctx.fid 8200 = 146 := by kernel_rfl
  rw [e]; exact Try.func146
theorem at8300 : ctx.P.funcs[ctx.fid 8300]? = some Try.f128 := by
  have e : ctx.fid 8300 = 128 := by kernel_rfl
  rw [e]; exact Try.func128
theorem at8400 : ctx.P.funcs[ctx.fid 8400]? = some Try.f73 := by
  have e : ctx.fid 8400 = 73 := by kernel_rfl
  rw [e]; exact Try.func73
theorem at8500 : ctx.P.funcs[ctx.fid 8500]? = some Try.f121 := by
  have e : ctx.fid 8500 = 121 := by kernel_rfl
  rw [e]; exact Try.func121
theorem at10600 : ctx.P.funcs[ctx.fid 10600]? = some Try.f92 := by
  have e : ctx.fid 10600 = 92 := by kernel_rfl
  rw [e]; exact Try.func92
theorem at11100 : ctx.P.funcs[ctx.fid 11100]? = some Try.f162 := by
  have e : ctx.fid 11100 = 162 := by kernel_rfl
  rw [e]; exact Try.func162
theorem at16700 : ctx.P.funcs[ctx.fid 16700]? = some Try.f131 := by
  have e : ctx.fid 16700 = 131 := by kernel_rfl
  rw [e]; exact Try.func131
theorem at17600 : ctx.P.funcs[ctx.fid 17600]? = some Try.f114 := by
  have e : ctx.fid 17600 = 114 := by kernel_rfl
  rw [e]; exact Try.func114
theorem at17800 : ctx.P.funcs[ctx.fid 17800]? = some Try.f117 := by
  have e : ctx.fid 17800 = 117 := by kernel_rfl
  rw [e]; exact Try.func117
theorem at19000 : ctx.P.funcs[ctx.fid 19000]? = some Try.f122 := by
  have e : ctx.fid 19000 = 122 := by kernel_rfl
  rw [e]; exact Try.func122
theorem at23100 : ctx.P.funcs[ctx.fid 23100]? = some Try.f66 := by
  have e : ctx.fid 23100 = 66 := by kernel_rfl
  rw [e]; exact Try.func66
theorem at23800 : ctx.P.funcs[ctx.fid 23800]? = some Try.f57 := by
  have e : ctx.fid 23800 = 57 := by kernel_rfl
  rw [e]; exact Try.func57
theorem at23900 : ctx.P.funcs[ctx.fid 23900]? = some Try.f58 := by
  have e : ctx.fid 23900 = 58 := by kernel_rfl
  rw [e]; exact Try.func58
theorem at24000 : ctx.P.funcs[ctx.fid 24000]? = some Try.f17 := by
  have e : ctx.fid 24000 = 17 := by kernel_rfl
  rw [e]; exact Try.func17
theorem at24200 : ctx.P.funcs[ctx.fid 24200]? = some Try.f60 := by
  have e : ctx.fid 24200 = 60 := by kernel_rfl
  rw [e]; exact Try.func60
theorem at24300 : ctx.P.funcs[ctx.fid 24300]? = some Try.f116 := by
  have e : ctx.fid 24300 = 116 := by kernel_rfl
  rw [e]; exact Try.func116
theorem at24400 : ctx.P.funcs[ctx.fid 24400]? = some Try.f61 := by
  have e : ctx.fid 24400 = 61 := by kernel_rfl
  rw [e]; exact Try.func61
theorem at24500 : ctx.P.funcs[ctx.fid 24500]? = some Try.f18 := by
  have e : ctx.fid 24500 = 18 := by kernel_rfl
  rw [e]; exact Try.func18
theorem at24600 : ctx.P.funcs[ctx.fid 24600]? = some Try.f64 := by
  have e : ctx.fid 24600 = 64 := by kernel_rfl
  rw [e]; exact Try.func64
theorem at24700 : ctx.P.funcs[ctx.fid 24700]? = some Try.f19 := by
  have e : ctx.fid 24700 = 19 := by kernel_rfl
  rw [e]; exact Try.func19
theorem at24800 : ctx.P.funcs[ctx.fid 24800]? = some Try.f68 := by
  have e : ctx.fid 24800 = 68 := by kernel_rfl
  rw [e]; exact Try.func68
theorem at24900 : ctx.P.funcs[ctx.fid 24900]? = some Try.f120 := by
  have e : ctx.fid 24900 = 120 := by kernel_rfl
  rw [e]; exact Try.func120
theorem at25000 : ctx.P.funcs[ctx.fid 25000]? = some Try.f69 := by
  have e : ctx.fid 25000 = 69 := by kernel_rfl
  rw [e]; exact Try.func69
theorem at25100 : ctx.P.funcs[ctx.fid 25100]? = some Try.f20 := by
  have e : ctx.fid 25100 = 20 := by kernel_rfl
  rw [e]; exact Try.func20
theorem at25200 : ctx.P.funcs[ctx.fid 25200]? = some Try.f71 := by
  have e : ctx.fid 25200 = 71 := by kernel_rfl
  rw [e]; exact Try.func71
theorem at25300 : ctx.P.funcs[ctx.fid 25300]? = some Try.f72 := by
  have e : ctx.fid 25300 = 72 := by kernel_rfl
  rw [e]; exact Try.func72
theorem at25400 : ctx.P.funcs[ctx.fid 25400]? = some Try.f21 := by
  have e : ctx.fid 25400 = 21 := by kernel_rfl
  rw [e]; exact Try.func21
theorem at30100 : ctx.P.funcs[ctx.fid 30100]? = some Try.f40 := by
  have e : ctx.fid 30100 = 40 := by kernel_rfl
  rw [e]; exact Try.func40
theorem at30200 : ctx.P.funcs[ctx.fid 30200]? = some Try.f94 := by
  have e : ctx.fid 30200 = 94 := by kernel_rfl
  rw [e]; exact Try.func94
theorem at30300 : ctx.P.funcs[ctx.fid 30300]? = some Try.f41 := by
  have e : ctx.fid 30300 = 41 := by kernel_rfl
  rw [e]; exact Try.func41
theorem at30800 : ctx.P.funcs[ctx.fid 30800]? = some Try.f97 := by
  have e : ctx.fid 30800 = 97 := by kernel_rfl
  rw [e]; exact Try.func97
theorem at30900 : ctx.P.funcs[ctx.fid 30900]? = some Try.f98 := by
  have e : ctx.fid 30900 = 98 := by kernel_rfl
  rw [e]; exact Try.func98
theorem at31000 : ctx.P.funcs[ctx.fid 31000]? = some Try.f43 := by
  have e : ctx.fid 31000 = 43 := by kernel_rfl
  rw [e]; exact Try.func43
theorem at31400 : ctx.P.funcs[ctx.fid 31400]? = some Try.f101 := by
  have e : ctx.fid 31400 = 101 := by kernel_rfl
  rw [e]; exact Try.func101
theorem at31500 : ctx.P.funcs[ctx.fid 31500]? = some Try.f102 := by
  have e : ctx.fid 31500 = 102 := by kernel_rfl
  rw [e]; exact Try.func102
theorem at31600 : ctx.P.funcs[ctx.fid 31600]? = some Try.f45 := by
  have e : ctx.fid 31600 = 45 := by kernel_rfl
  rw [e]; exact Try.func45
theorem at31700 : ctx.P.funcs[ctx.fid 31700]? = some Try.f10 := by
  have e : ctx.fid 31700 = 10 := by kernel_rfl
  rw [e]; exact Try.func10
theorem at38200 : ctx.P.funcs[ctx.fid 38200]? = some Try.f131 := by
  have e : ctx.fid 38200 = 131 := by kernel_rfl
  rw [e]; exact Try.func131
theorem at38700 : ctx.P.funcs[ctx.fid 38700]? = some Try.f86 := by
  have e : ctx.fid 38700 = 86 := by kernel_rfl
  rw [e]; exact Try.func86
theorem at39600 : ctx.P.funcs[ctx.fid 39600]? = some Try.f70 := by
  have e : ctx.fid 39600 = 70 := by kernel_rfl
  rw [e]; exact Try.func70
theorem at39800 : ctx.P.funcs[ctx.fid 39800]? = some Try.f93 := by
  have e : ctx.fid 39800 = 93 := by kernel_rfl
  rw [e]; exact Try.func93
theorem at40800 : ctx.P.funcs[ctx.fid 40800]? = some Try.f127 := by
  have e : ctx.fid 40800 = 127 := by kernel_rfl
  rw [e]; exact Try.func127
theorem at40900 : ctx.P.funcs[ctx.fid 40900]? = some Try.f129 := by
  have e : ctx.fid 40900 = 129 := by kernel_rfl
  rw [e]; exact Try.func129
theorem at41200 : ctx.P.funcs[ctx.fid 41200]? = some Try.f145 := by
  have e : ctx.fid 41200 = 145 := by kernel_rfl
  rw [e]; exact Try.func145
theorem at41300 : ctx.P.funcs[ctx.fid 41300]? = some Try.f147 := by
  have e : ctx.fid 41300 = 147 := by kernel_rfl
  rw [e]; exact Try.func147
theorem at41500 : ctx.P.funcs[ctx.fid 41500]? = some Try.f159 := by
  have e : ctx.fid 41500 = 159 := by kernel_rfl
  rw [e]; exact Try.func159
theorem at41600 : ctx.P.funcs[ctx.fid 41600]? = some Try.f174 := by
  have e : ctx.fid 41600 = 174 := by kernel_rfl
  rw [e]; exact Try.func174
theorem at41700 : ctx.P.funcs[ctx.fid 41700]? = some Try.f119 := by
  have e : ctx.fid 41700 = 119 := by kernel_rfl
  rw [e]; exact Try.func119
theorem at41900 : ctx.P.funcs[ctx.fid 41900]? = some Try.f20 := by
  have e : ctx.fid 41900 = 20 := by kernel_rfl
  rw [e]; exact Try.func20
theorem at42200 : ctx.P.funcs[ctx.fid 42200]? = some Try.f37 := by
  have e : ctx.fid 42200 = 37 := by kernel_rfl
  rw [e]; exact Try.func37
theorem at42300 : ctx.P.funcs[ctx.fid 42300]? = some Try.f40 := by
  have e : ctx.fid 42300 = 40 := by kernel_rfl
  rw [e]; exact Try.func40
theorem at42400 : ctx.P.funcs[ctx.fid 42400]? = some Try.f44 := by
  have e : ctx.fid 42400 = 44 := by kernel_rfl
  rw [e]; exact Try.func44
theorem at42600 : ctx.P.funcs[ctx.fid 42600]? = some Try.f68 := by
  have e : ctx.fid 42600 = 68 := by kernel_rfl
  rw [e]; exact Try.func68
theorem at42700 : ctx.P.funcs[ctx.fid 42700]? = some Try.f69 := by
  have e : ctx.fid 42700 = 69 := by kernel_rfl
  rw [e]; exact Try.func69
theorem at43000 : ctx.P.funcs[ctx.fid 43000]? = some Try.f88 := by
  have e : ctx.fid 43000 = 88 := by kernel_rfl
  rw [e]; exact Try.func88
theorem at43100 : ctx.P.funcs[ctx.fid 43100]? = some Try.f89 := by
  have e : ctx.fid 43100 = 89 := by kernel_rfl
  rw [e]; exact Try.func89
theorem at43200 : ctx.P.funcs[ctx.fid 43200]? = some Try.f93 := by
  have e : ctx.fid 43200 = 93 := by kernel_rfl
  rw [e]; exact Try.func93
theorem at43300 : ctx.P.funcs[ctx.fid 43300]? = some Try.f99 := by
  have e : ctx.fid 43300 = 99 := by kernel_rfl
  rw [e]; exact Try.func99
theorem at43400 : ctx.P.funcs[ctx.fid 43400]? = some Try.f100 := by
  have e : ctx.fid 43400 = 100 := by kernel_rfl
  rw [e]; exact Try.func100
theorem at43500 : ctx.P.funcs[ctx.fid 43500]? = some Try.f120 := by
  have e : ctx.fid 43500 = 120 := by kernel_rfl
  rw [e]; exact Try.func120
theorem prim16700 : PrimOk ctx 16700 p16700.er := by
  have e : ctx.fid 16700 = 131 := by kernel_rfl
  refine clone_prim (T := 3) ⟨⟨Try.f131, _, at16700, by kernel_rfl, rfl⟩⟩ ?_
  rw [e]
  exact ⟨fun b off n c zs w h1 h2 h3 => Try.slices_Clone_int b off n c zs w h1 h2 h3, fun n c w => Try.slices_Clone_int_nil n c w, fun a c w => Try.slices_Clone_int_zero a c w⟩
theorem prim38200 : PrimOk ctx 38200 p38200.er := by
  have e : ctx.fid 38200 = 131 := by kernel_rfl
  refine clone_prim (T := 3) ⟨⟨Try.f131, _, at38200, by kernel_rfl, rfl⟩⟩ ?_
  rw [e]
  exact ⟨fun b off n c zs w h1 h2 h3 => Try.slices_Clone_int b off n c zs w h1 h2 h3, fun n c w => Try.slices_Clone_int_nil n c w, fun a c w => Try.slices_Clone_int_zero a c w⟩
theorem laid : Laid ctx (FA Tb) := by
  refine laidT (l := tab) (by kernel_rfl) ?_
  have e : tab.map (fun x => (x.1, x.2.er)) = [(1000, p1000.er), (1100, p1100.er), (1200, p1200.er), (1600, p1600.er), (1700, p1700.er), (1800, p1800.er), (1900, p1900.er), (4000, p4000.er), (4001, p4001.er), (5000, p5000.er), (5100, p5100.er), (5101, p5101.er), (5200, p5200.er), (5300, p5300.er), (5301, p5301.er), (5400, p5400.er), (5500, p5500.er), (5501, p5501.er), (5700, p5700.er), (5800, p5800.er), (5900, p5900.er), (6000, p6000.er), (6100, p6100.er), (6200, p6200.er), (6201, p6201.er), (6300, p6300.er), (6400, p6400.er), (6500, p6500.er), (6501, p6501.er), (6600, p6600.er), (6601, p6601.er), (6800, p6800.er), (6801, p6801.er), (6900, p6900.er), (7000, p7000.er), (7100, p7100.er), (7101, p7101.er), (7200, p7200.er), (7300, p7300.er), (7400, p7400.er), (7401, p7401.er), (7500, p7500.er), (7600, p7600.er), (7700, p7700.er), (7701, p7701.er), (7800, p7800.er), (7801, p7801.er), (7900, p7900.er), (8000, p8000.er), (8001, p8001.er), (8100, p8100.er), (8200, p8200.er), (8300, p8300.er), (8301, p8301.er), (8400, p8400.er), (8401, p8401.er), (8500, p8500.er), (10600, p10600.er), (10601, p10601.er), (11100, p11100.er), (16700, p16700.er), (17600, p17600.er), (17800, p17800.er), (19000, p19000.er), (23100, p23100.er), (23101, p23101.er), (23800, p23800.er), (23900, p23900.er), (23901, p23901.er), (24000, p24000.er), (24001, p24001.er), (24200, p24200.er), (24201, p24201.er), (24300, p24300.er), (24400, p24400.er), (24401, p24401.er), (24500, p24500.er), (24600, p24600.er), (24601, p24601.er), (24700, p24700.er), (24701, p24701.er), (24800, p24800.er), (24801, p24801.er), (24900, p24900.er), (25000, p25000.er), (25001, p25001.er), (25100, p25100.er), (25200, p25200.er), (25201, p25201.er), (25300, p25300.er), (25301, p25301.er), (25400, p25400.er), (30100, p30100.er), (30101, p30101.er), (30200, p30200.er), (30201, p30201.er), (30300, p30300.er), (30301, p30301.er), (30800, p30800.er), (30801, p30801.er), (30900, p30900.er), (30901, p30901.er), (31000, p31000.er), (31400, p31400.er), (31401, p31401.er), (31500, p31500.er), (31501, p31501.er), (31600, p31600.er), (31700, p31700.er), (38200, p38200.er), (38700, p38700.er), (38701, p38701.er), (39600, p39600.er), (39601, p39601.er), (39800, p39800.er), (39801, p39801.er), (40800, p40800.er), (40801, p40801.er), (40900, p40900.er), (40901, p40901.er), (41200, p41200.er), (41300, p41300.er), (41301, p41301.er), (41500, p41500.er), (41600, p41600.er), (41601, p41601.er), (41700, p41700.er), (41900, p41900.er), (42200, p42200.er), (42300, p42300.er), (42301, p42301.er), (42400, p42400.er), (42600, p42600.er), (42601, p42601.er), (42700, p42700.er), (42701, p42701.er), (43000, p43000.er), (43001, p43001.er), (43100, p43100.er), (43101, p43101.er), (43200, p43200.er), (43201, p43201.er), (43300, p43300.er), (43301, p43301.er), (43400, p43400.er), (43401, p43401.er), (43500, p43500.er)] := by kernel_rfl
  rw [e]
  exact ⟨fun _ => okFn_spec at1000 ok1000, ⟨fun _ => okFn_spec at1100 ok1100, ⟨fun _ => okFn_spec at1200 ok1200, ⟨fun _ => okFn_spec at1600 ok1600, ⟨fun _ => okFn_spec at1700 ok1700, ⟨fun _ => okFn_spec at1800 ok1800, ⟨fun _ => okFn_spec at1900 ok1900, ⟨fun _ => okFn_spec at4000 ok4000, ⟨fun h => absurd h (by decide), ⟨fun _ => okFn_spec at5000 ok5000, ⟨fun _ => okFn_spec at5100 ok5100, ⟨fun h => absurd h (by decide), ⟨fun _ => okFn_spec at5200 ok5200, ⟨fun _ => okFn_spec at5300 ok5300, ⟨fun h => absurd h (by decide), ⟨fun _ => okFn_spec at5400 ok5400, ⟨fun _ => okFn_spec at5500 ok5500, ⟨fun h => absurd h (by decide), ⟨fun _ => okFn_spec at5700 ok5700, ⟨fun _ => okFn_spec at5800 ok5800, ⟨fun _ => okFn_spec at5900 ok5900, ⟨fun _ => okFn_spec at6000 ok6000, ⟨fun _ => okFn_spec at6100 ok6100, ⟨fun _ => okFn_spec at6200 ok6200, ⟨fun h => absurd h (by decide), ⟨fun _ => okFn_spec at6300 ok6300, ⟨fun _ => okFn_spec at6400 ok6400, ⟨fun _ => okFn_spec at6500 ok6500, ⟨fun h => absurd h (by decide), ⟨fun _ => okFn_spec at6600 ok6600, ⟨fun h => absurd h (by decide), ⟨fun _ => okFn_spec at6800 ok6800, ⟨fun h => absurd h (by decide), ⟨fun _ => okFn_spec at6900 ok6900, ⟨fun _ => okFn_spec at7000 ok7000, ⟨fun _ => okFn_spec at7100 ok7100, ⟨fun h => absurd h (by decide), ⟨fun _ => okFn_spec at7200 ok7200, ⟨fun _ => okFn_spec at7300 ok7300, ⟨fun _ => okFn_spec at7400 ok7400, ⟨fun h => absurd h (by decide), ⟨fun _ => okFn_spec at7500 ok7500, ⟨fun _ => okFn_spec at7600 ok7600, ⟨fun _ => okFn_spec at7700 ok7700, ⟨fun h => absurd h (by decide), ⟨fun _ => okFn_spec at7800 ok7800, ⟨fun h => absurd h (by decide), ⟨fun _ => okFn_spec at7900 ok7900, ⟨fun _ => okFn_spec at8000 ok8000, ⟨fun h => absurd h (by decide), ⟨fun _ => okFn_spec at8100 ok8100, ⟨fun _ => okFn_spec at8200 ok8200, ⟨fun _ => okFn_spec at8300 ok8300, ⟨fun h => absurd h (by decide), ⟨fun _ => okFn_spec at8400 ok8400, ⟨fun h => absurd h (by decide), ⟨fun _ => okFn_spec at8500 ok8500, ⟨fun _ => okFn_spec at10600 ok10600, ⟨fun h => absurd h (by decide), ⟨fun _ => okFn_spec at11100 ok11100, ⟨fun _ => .inr prim16700, ⟨fun _ => okFn_spec at17600 ok17600, ⟨fun _ => okFn_spec at17800 ok17800, ⟨fun _ => okFn_spec at19000 ok19000, ⟨fun _ => okFn_spec at23100 ok23100, ⟨fun h => absurd h (by decide), ⟨fun _ => okFn_spec at23800 ok23800, ⟨fun _ => okFn_spec at23900 ok23900, ⟨fun h => absurd h (by decide), ⟨fun _ => okFn_spec at24000 ok24000, ⟨fun h => absurd h (by decide), ⟨fun _ => okFn_spec at24200 ok24200, ⟨fun h => absurd h (by decide), ⟨fun _ => okFn_spec at24300 ok24300, ⟨fun _ => okFn_spec at24400 ok24400, ⟨fun h => absurd h (by decide), ⟨fun _ => okFn_spec at24500 ok24500, ⟨fun _ => okFn_spec at24600 ok24600, ⟨fun h => absurd h (by decide), ⟨fun _ => okFn_spec at24700 ok24700, ⟨fun h => absurd h (by decide), ⟨fun _ => okFn_spec at24800 ok24800, ⟨fun h => absurd h (by decide), ⟨fun _ => okFn_spec at24900 ok24900, ⟨fun _ => okFn_spec at25000 ok25000, ⟨fun h => absurd h (by decide), ⟨fun _ => okFn_spec at25100 ok25100, ⟨fun _ => okFn_spec at25200 ok25200, ⟨fun h => absurd h (by decide), ⟨fun _ => okFn_spec at25300 ok25300, ⟨fun h => absurd h (by decide), ⟨fun _ => okFn_spec at25400 ok25400, ⟨fun _ => okFn_spec at30100 ok30100, ⟨fun h => absurd h (by decide), ⟨fun _ => okFn_spec at30200 ok30200, ⟨fun h => absurd h (by decide), ⟨fun _ => okFn_spec at30300 ok30300, ⟨fun h => absurd h (by decide), ⟨fun _ => okFn_spec at30800 ok30800, ⟨fun h => absurd h (by decide), ⟨fun _ => okFn_spec at30900 ok30900, ⟨fun h => absurd h (by decide), ⟨fun _ => okFn_spec at31000 ok31000, ⟨fun _ => okFn_spec at31400 ok31400, ⟨fun h => absurd h (by decide), ⟨fun _ => okFn_spec at31500 ok31500, ⟨fun h => absurd h (by decide), ⟨fun _ => okFn_spec at31600 ok31600, ⟨fun _ => okFn_spec at31700 ok31700, ⟨fun _ => .inr prim38200, ⟨fun _ => okFn_spec at38700 ok38700, ⟨fun h => absurd h (by decide), ⟨fun _ => okFn_spec at39600 ok39600, ⟨fun h => absurd h (by decide), ⟨fun _ => okFn_spec at39800 ok39800, ⟨fun h => absurd h (by decide), ⟨fun _ => okFn_spec at40800 ok40800, ⟨fun h => absurd h (by decide), ⟨fun _ => okFn_spec at40900 ok40900, ⟨fun h => absurd h (by decide), ⟨fun _ => okFn_spec at41200 ok41200, ⟨fun _ => okFn_spec at41300 ok41300, ⟨fun h => absurd h (by decide), ⟨fun _ => okFn_spec at41500 ok41500, ⟨fun _ => okFn_spec at41600 ok41600, ⟨fun h => absurd h (by decide), ⟨fun _ => okFn_spec at41700 ok41700, ⟨fun _ => okFn_spec at41900 ok41900, ⟨fun _ => okFn_spec at42200 ok42200, ⟨fun _ => okFn_spec at42300 ok42300, ⟨fun h => absurd h (by decide), ⟨fun _ => okFn_spec at42400 ok42400, ⟨fun _ => okFn_spec at42600 ok42600, ⟨fun h => absurd h (by decide), ⟨fun _ => okFn_spec at42700 ok42700, ⟨fun h => absurd h (by decide), ⟨fun _ => okFn_spec at43000 ok43000, ⟨fun h => absurd h (by decide), ⟨fun _ => okFn_spec at43100 ok43100, ⟨fun h => absurd h (by decide), ⟨fun _ => okFn_spec at43200 ok43200, ⟨fun h => absurd h (by decide), ⟨fun _ => okFn_spec at43300 ok43300, ⟨fun h => absurd h (by decide), ⟨fun _ => okFn_spec at43400 ok43400, ⟨fun h => absurd h (by decide), ⟨fun _ => okFn_spec at43500 ok43500, trivial⟩⟩⟩⟩⟩⟩⟩⟩⟩⟩⟩⟩⟩⟩⟩⟩⟩⟩⟩⟩⟩⟩⟩⟩⟩⟩⟩⟩⟩⟩⟩⟩⟩⟩⟩⟩⟩⟩⟩⟩⟩⟩⟩⟩⟩⟩⟩⟩⟩⟩⟩⟩⟩⟩⟩⟩⟩⟩⟩⟩⟩⟩⟩⟩⟩⟩⟩⟩⟩⟩⟩⟩⟩⟩⟩⟩⟩⟩⟩⟩⟩⟩⟩⟩⟩⟩⟩⟩⟩⟩⟩⟩⟩⟩⟩⟩⟩⟩⟩⟩⟩⟩⟩⟩⟩⟩⟩⟩⟩⟩⟩⟩⟩⟩⟩⟩⟩⟩⟩⟩⟩⟩⟩⟩⟩⟩⟩⟩⟩⟩⟩⟩⟩⟩⟩⟩⟩⟩⟩⟩⟩⟩⟩⟩⟩⟩⟩
theorem gok {W : World} : GOk ctx (memOf W) := by
  intro i
  show RepL ctx.fid (memOf W) (GA GT i) _
  simp [GA, GT, toAVs, RepL]
set_option maxRecDepth 100000 in
theorem lifted (os : Os) (started : os.Started) (H : Type) (enc : TypeId × Value → H) :
    ReturnsInHanded {} Try.checked os 10 .any (Rows.fnExactWorldOutcomeSpec.pre6 enc Try.prog Try.f10 Rows.fnExactWorldOutcomeRow.domain false) (Rows.fnExactWorldOutcomeSpec.post enc Try.prog Try.f10 false true false false) := by
  refine returnsInHanded_of_change_sized (C := Try.checked) own started (by kernel_rfl) Try.func10
    (ChangeSpec.witness6 (enc := enc) (C := Try.checked) false ⟨#[], #[.agg #[.slice none 0 0, .slice none 0 0, .int .i64 0, .int .i64 0, .slice none 0 0]], []⟩ 8 (by kernel_rfl) (by kernel_rfl) (by kernel_rfl) (by kernel_rfl)) ?_
  intro W base args ds gs before hval0 hW hcnd hsz0 _
  have hval : ∀ (j : Nat) t v, Try.f10.params[j]? = some t → args[j]? = some v → Value.okWide Try.prog W .any base t v := hval0
  have hW' := hW
  obtain ⟨p, q, hA0, hV, rfl, hfz, hnd⟩ := hW
  have hA : DataW.TrodAll enc Try.prog W 0 (fun _ => true) true Try.f10.params.toList args.toList ds p := hA0
  have hV' := hV
  rw [Try.params10] at hA hval
  obtain ⟨v0, vs0, d0, ds0, p0, q0, hargs, rfl, rfl, h0, r0⟩ := trodAll_cons hA
  obtain ⟨rfl, rfl, rfl⟩ := trodAll_nil r0
  obtain rfl : args = #[v0] := by cases args; simp_all
  obtain ⟨rfl, rfl⟩ := trodVars_none hV
  have k0 := h0
  have lt0 : ∀ x ∈ p0, x.block < W.heap.size := by obtain ⟨m, hm⟩ := k0; exact DataW.trod_lt m _ _ _ hm
  obtain ⟨fu0, hf0⟩ := h0
  obtain ⟨a0, z0, w0⟩ := open_wld (fid := ctx.fid) (P := Try.prog) (t := 48) (by kernel_rfl) hf0
  have y0 := arg_agg Try.underlying47 (hval 0 48 v0 rfl rfl) z0
  have hE : callTy Tb GT boolSig 31700 [.agg (rowT .wld a0)] [] = some true := Go.TFnExactWorldOutcome.laws_FnExactWorldOutcome_eq a0 w0
  have hrun := law_top (C := ctx) laid rfl (g := 31700) (by decide) (args := #[v0]) gok (fun _ h => by cases h) rfl (by
    intro i c v hc hv
    match i, hc, hv with
    | 0, hc, hv => simp at hc hv; subst hc hv; exact y0
    | i + 1, hc, _ => simp at hc) hE
  have efid : ctx.fid 31700 = 10 := by kernel_rfl
  rw [efid] at hrun
  refine hrun.mono fun e W' ⟨he, bel⟩ => ?_
  subst he
  exact ⟨_, rfl, _, _, _, [], _, [], hW', trodAll_mk1 (shut_bool Try.underlying4 _), (trodAll_cons_mk (Below.trod laidOut (by kernel_rfl) (of_decide_eq_true (by kernel_rfl)) k0 bel lt0) trodAll_mk0), rfl, bel.frame _, fun h => by cases h⟩
theorem over : Rows.fnExactWorldOutcomeRow.holds Try.pinned (OpenSpec.ofChange Rows.fnExactWorldOutcomeSpec) :=
  OpenClaim.holds_of_wide 10 Try.f10 rfl rfl rfl rfl rfl rfl rfl ⟨rfl, rfl, rfl, rfl, rfl⟩ rfl rfl rfl rfl rfl (by kernel_rfl) Try.func10 (by kernel_rfl)
    (of_decide_eq_true (by kernel_rfl)) (by unfold Func.isWrapper; first | (rw [if_pos (by decide +kernel)]; kernel_rfl) | (rw [if_neg (by decide +kernel)]; exact ⟨rfl, rfl⟩))
    (fun os started H enc _ => lifted os started H enc)
end Go.Proofs.Ytpkgdoapdijmeaa.fnExactWorldOutcome
namespace Go.Proofs.Ytpkgdoapdijmeaa
/-- The row. -/
theorem fnExactWorldOutcome_holds : Rows.FnExactWorldOutcomeSaid := fnExactWorldOutcome.over
#print axioms fnExactWorldOutcome_holds
end Go.Proofs.Ytpkgdoapdijmeaa
