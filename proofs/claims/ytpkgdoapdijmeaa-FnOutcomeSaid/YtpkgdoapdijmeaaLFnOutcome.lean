/- The statement FnOutcome is proved: the law answers true whatever the input; under no condition. -/
import Derived.Test.YtpkgdoapdijmeaaRows
import Derived.Test.YtpkgdoapdijmeaaFFnOutcome
import Derived.Test.YtpkgdoapdijmeaaTvRow
import Derived.KernelRfl
import Derived.Test.YtpkgdoapdijmeaaShelf
import Derived.Test.YtpkgdoapdijmeaaPm1
import Derived.Test.YtpkgdoapdijmeaaPm3
namespace Go.Proofs.Ytpkgdoapdijmeaa.fnOutcome
open Go Go.Vs Go.Tv Go.ChangeShapes Go.WideShapes Go.ChangeAt Go.RowKit Go.TFnOutcome
open Go.ChangeMaps (open_string shut_string)
set_option linter.unusedVariables false
theorem own : ownKnob Try.prog.godebug = none := by kernel_rfl
theorem laidOut : laidOutB Try.prog = true := by kernel_rfl
def fids : List (Nat × Nat) := [(100, 47), (200, 75), (300, 135), (400, 104), (500, 152), (600, 192), (700, 180), (1000, 193), (1100, 181), (1200, 163), (1600, 63), (1700, 187), (1800, 183), (1900, 167), (3700, 124), (4000, 138), (4100, 177), (4200, 176), (4300, 178), (4400, 179), (4500, 161), (4600, 149), (4700, 133), (5000, 140), (5100, 113), (5200, 150), (5300, 136), (5400, 106), (5500, 59), (5700, 165), (5800, 166), (5900, 182), (6000, 164), (6100, 151), (6200, 137), (6300, 108), (6400, 118), (6500, 67), (6600, 65), (8700, 134), (9400, 139), (9500, 109), (9600, 52), (9700, 30), (11100, 162), (11200, 157), (16700, 131), (17600, 114), (17800, 117), (17900, 185), (18500, 184), (22300, 132), (22400, 103), (23100, 66), (23200, 107), (23300, 50), (23400, 51), (23500, 13), (23800, 57), (23900, 58), (24000, 17), (24600, 64), (24700, 19), (25600, 153), (25700, 154), (25900, 188), (26000, 189), (26100, 190), (26200, 191), (26300, 172), (26400, 156), (26500, 168), (26600, 171), (26700, 169), (26800, 186), (26900, 170), (27000, 155), (28100, 82), (29900, 39), (30100, 40), (30200, 94), (30300, 41), (30400, 95), (30500, 96), (30600, 42), (30700, 9), (39800, 93), (40100, 125), (40300, 141), (40400, 141), (40500, 143), (40600, 153)]
noncomputable def ctx : Ctx := { P := Try.prog, fid := fun g => (Vs.look g fids).getD 0, gm := fun _ => 0, G := GA GT }
theorem ok100 : okFn ctx (FA Tb) 8 p100.er Try.f47 = true := by kernel_rfl
theorem ok200 : okFn ctx (FA Tb) 8 p200.er Try.f75 = true := by kernel_rfl
theorem ok300 : okFn ctx (FA Tb) 8 p300.er Try.f135 = true := by kernel_rfl
theorem ok400 : okFn ctx (FA Tb) 8 p400.er Try.f104 = true := by kernel_rfl
theorem ok500 : okFn ctx (FA Tb) 8 p500.er Try.f152 = true := by kernel_rfl
theorem ok600 : okFn ctx (FA Tb) 8 p600.er Try.f192 = true := by kernel_rfl
theorem ok700 : okFn ctx (FA Tb) 8 p700.er Try.f180 = true := by kernel_rfl
theorem ok1000 : okFn ctx (FA Tb) 8 p1000.er Try.f193 = true := by kernel_rfl
theorem ok1100 : okFn ctx (FA Tb) 8 p1100.er Try.f181 = true := by kernel_rfl
theorem ok1200 : okFn ctx (FA Tb) 8 p1200.er Try.f163 = true := by kernel_rfl
theorem ok1600 : okFn ctx (FA Tb) 8 p1600.er Try.f63 = true := by kernel_rfl
theorem ok1700 : okFn ctx (FA Tb) 8 p1700.er Try.f187 = true := by kernel_rfl
theorem ok1800 : okFn ctx (FA Tb) 8 p1800.er Try.f183 = true := by kernel_rfl
theorem ok1900 : okFn ctx (FA Tb) 8 p1900.er Try.f167 = true := by kernel_rfl
theorem ok3700 : okFn ctx (FA Tb) 8 p3700.er Try.f124 = true := by kernel_rfl
theorem ok4000 : okFn ctx (FA Tb) 8 p4000.er Try.f138 = true := by kernel_rfl
theorem ok4100 : okFn ctx (FA Tb) 8 p4100.er Try.f177 = true := by kernel_rfl
theorem ok4200 : okFn ctx (FA Tb) 8 p4200.er Try.f176 = true := by kernel_rfl
theorem ok4300 : okFn ctx (FA Tb) 8 p4300.er Try.f178 = true := by kernel_rfl
theorem ok4400 : okFn ctx (FA Tb) 8 p4400.er Try.f179 = true := by kernel_rfl
theorem ok4500 : okFn ctx (FA Tb) 8 p4500.er Try.f161 = true := by kernel_rfl
theorem ok4600 : okFn ctx (FA Tb) 8 p4600.er Try.f149 = true := by kernel_rfl
theorem ok4700 : okFn ctx (FA Tb) 8 p4700.er Try.f133 = true := by kernel_rfl
theorem ok5000 : okFn ctx (FA Tb) 8 p5000.er Try.f140 = true := by kernel_rfl
theorem ok5100 : okFn ctx (FA Tb) 8 p5100.er Try.f113 = true := by kernel_rfl
theorem ok5200 : okFn ctx (FA Tb) 8 p5200.er Try.f150 = true := by kernel_rfl
theorem ok5300 : okFn ctx (FA Tb) 8 p5300.er Try.f136 = true := by kernel_rfl
theorem ok5400 : okFn ctx (FA Tb) 8 p5400.er Try.f106 = true := by kernel_rfl
theorem ok5500 : okFn ctx (FA Tb) 8 p5500.er Try.f59 = true := by kernel_rfl
theorem ok5700 : okFn ctx (FA Tb) 8 p5700.er Try.f165 = true := by kernel_rfl
theorem ok5800 : okFn ctx (FA Tb) 8 p5800.er Try.f166 = true := by kernel_rfl
theorem ok5900 : okFn ctx (FA Tb) 8 p5900.er Try.f182 = true := by kernel_rfl
theorem ok6000 : okFn ctx (FA Tb) 8 p6000.er Try.f164 = true := by kernel_rfl
theorem ok6100 : okFn ctx (FA Tb) 8 p6100.er Try.f151 = true := by kernel_rfl
theorem ok6200 : okFn ctx (FA Tb) 8 p6200.er Try.f137 = true := by kernel_rfl
theorem ok6300 : okFn ctx (FA Tb) 8 p6300.er Try.f108 = true := by kernel_rfl
theorem ok6400 : okFn ctx (FA Tb) 8 p6400.er Try.f118 = true := by kernel_rfl
theorem ok6500 : okFn ctx (FA Tb) 8 p6500.er Try.f67 = true := by kernel_rfl
theorem ok6600 : okFn ctx (FA Tb) 8 p6600.er Try.f65 = true := by kernel_rfl
theorem ok8700 : okFn ctx (FA Tb) 8 p8700.er Try.f134 = true := by kernel_rfl
theorem ok9400 : okFn ctx (FA Tb) 8 p9400.er Try.f139 = true := by kernel_rfl
theorem ok9500 : okFn ctx (FA Tb) 8 p9500.er Try.f109 = true := by kernel_rfl
theorem ok9600 : okFn ctx (FA Tb) 8 p9600.er Try.f52 = true := by kernel_rfl
theorem ok9700 : okFn ctx (FA Tb) 8 p9700.er Try.f30 = true := by kernel_rfl
theorem ok11100 : okFn ctx (FA Tb) 8 p11100.er Try.f162 = true := by kernel_rfl
theorem ok11200 : okFn ctx (FA Tb) 8 p11200.er Try.f157 = true := by kernel_rfl
theorem ok17600 : okFn ctx (FA Tb) 8 p17600.er Try.f114 = true := by kernel_rfl
theorem ok17800 : okFn ctx (FA Tb) 8 p17800.er Try.f117 = true := by kernel_rfl
theorem ok17900 : okFn ctx (FA Tb) 8 p17900.er Try.f185 = true := by kernel_rfl
theorem ok18500 : okFn ctx (FA Tb) 8 p18500.er Try.f184 = true := by kernel_rfl
theorem ok22300 : okFn ctx (FA Tb) 8 p22300.er Try.f132 = true := by kernel_rfl
theorem ok22400 : okFn ctx (FA Tb) 8 p22400.er Try.f103 = true := by kernel_rfl
theorem ok23100 : okFn ctx (FA Tb) 8 p23100.er Try.f66 = true := by kernel_rfl
theorem ok23200 : okFn ctx (FA Tb) 8 p23200.er Try.f107 = true := by kernel_rfl
theorem ok23300 : okFn ctx (FA Tb) 8 p23300.er Try.f50 = true := by kernel_rfl
theorem ok23400 : okFn ctx (FA Tb) 8 p23400.er Try.f51 = true := by kernel_rfl
theorem ok23500 : okFn ctx (FA Tb) 8 p23500.er Try.f13 = true := by kernel_rfl
theorem ok23800 : okFn ctx (FA Tb) 8 p23800.er Try.f57 = true := by kernel_rfl
theorem ok23900 : okFn ctx (FA Tb) 8 p23900.er Try.f58 = true := by kernel_rfl
theorem ok24000 : okFn ctx (FA Tb) 8 p24000.er Try.f17 = true := by kernel_rfl
theorem ok24600 : okFn ctx (FA Tb) 8 p24600.er Try.f64 = true := by kernel_rfl
theorem ok24700 : okFn ctx (FA Tb) 8 p24700.er Try.f19 = true := by kernel_rfl
theorem ok25600 : okFn ctx (FA Tb) 8 p25600.er Try.f153 = true := by kernel_rfl
theorem ok25700 : okFn ctx (FA Tb) 8 p25700.er Try.f154 = true := by kernel_rfl
theorem ok25900 : okFn ctx (FA Tb) 8 p25900.er Try.f188 = true := by kernel_rfl
theorem ok26000 : okFn ctx (FA Tb) 8 p26000.er Try.f189 = true := by kernel_rfl
theorem ok26100 : okFn ctx (FA Tb) 8 p26100.er Try.f190 = true := by kernel_rfl
theorem ok26200 : okFn ctx (FA Tb) 8 p26200.er Try.f191 = true := by kernel_rfl
theorem ok26300 : okFn ctx (FA Tb) 8 p26300.er Try.f172 = true := by kernel_rfl
theorem ok26400 : okFn ctx (FA Tb) 8 p26400.er Try.f156 = true := by kernel_rfl
theorem ok26500 : okFn ctx (FA Tb) 8 p26500.er Try.f168 = true := by kernel_rfl
theorem ok26600 : okFn ctx (FA Tb) 8 p26600.er Try.f171 = true := by kernel_rfl
theorem ok26700 : okFn ctx (FA Tb) 8 p26700.er Try.f169 = true := by kernel_rfl
theorem ok26800 : okFn ctx (FA Tb) 8 p26800.er Try.f186 = true := by kernel_rfl
theorem ok26900 : okFn ctx (FA Tb) 8 p26900.er Try.f170 = true := by kernel_rfl
theorem ok27000 : okFn ctx (FA Tb) 8 p27000.er Try.f155 = true := by kernel_rfl
theorem ok28100 : okFn ctx (FA Tb) 8 p28100.er Try.f82 = true := by kernel_rfl
theorem ok29900 : okFn ctx (FA Tb) 8 p29900.er Try.f39 = true := by kernel_rfl
theorem ok30100 : okFn ctx (FA Tb) 8 p30100.er Try.f40 = true := by kernel_rfl
theorem ok30200 : okFn ctx (FA Tb) 8 p30200.er Try.f94 = true := by kernel_rfl
theorem ok30300 : okFn ctx (FA Tb) 8 p30300.er Try.f41 = true := by kernel_rfl
theorem ok30400 : okFn ctx (FA Tb) 8 p30400.er Try.f95 = true := by kernel_rfl
theorem ok30500 : okFn ctx (FA Tb) 8 p30500.er Try.f96 = true := by kernel_rfl
theorem ok30600 : okFn ctx (FA Tb) 8 p30600.er Try.f42 = true := by kernel_rfl
theorem ok30700 : okFn ctx (FA Tb) 8 p30700.er Try.f9 = true := by kernel_rfl
theorem ok39800 : okFn ctx (FA Tb) 8 p39800.er Try.f93 = true := by kernel_rfl
theorem ok40100 : okFn ctx (FA Tb) 8 p40100.er Try.f125 = true := by kernel_rfl
theorem ok40300 : okFn ctx (FA Tb) 8 p40300.er Try.f141 = true := by kernel_rfl
theorem ok40400 : okFn ctx (FA Tb) 8 p40400.er Try.f141 = true := by kernel_rfl
theorem ok40500 : okFn ctx (FA Tb) 8 p40500.er Try.f143 = true := by kernel_rfl
theorem ok40600 : okFn ctx (FA Tb) 8 p40600.er Try.f153 = true := by kernel_rfl
theorem at100 : ctx.P.funcs[ctx.fid 100]? = some Try.f47 := by
  have e : ctx.fid 100 = 47 := by kernel_rfl
  rw [e]; exact Try.func47
theorem at200 : ctx.P.funcs[ctx.fid 200]? = some Try.f75 := by
  have e : ctx.fid 200 = 75 := by kernel_rfl
  rw [e]; exact Try.func75
theorem at300 : ctx.P.funcs[ctx.fid 300]? = some Try.f135 := by
  have e : ctx.fid 300 = 135 := by kernel_rfl
  rw [e]; exact Try.func135
theorem at400 : ctx.P.funcs[ctx.fid 400]? = some Try.f104 := by
  have e : ctx.fid 400 = 104 := by kernel_rfl
  rw [e]; exact Try.func104
theorem at500 : ctx.P.funcs[ctx.fid 500]? = some Try.f152 := by
  have e : ctx.fid 500 = 152 := by kernel_rfl
  rw [e]; exact Try.func152
theorem at600 : ctx.P.funcs[ctx.fid 600]? = some Try.f192 := by
  have e : ctx.fid 600 = 192 := by kernel_rfl
  rw [e]; exact Try.func192
theorem at700 : ctx.P.funcs[ctx.fid 700]? = some Try.f180 := by
  have e : ctx.fid 700 = 180 := by kernel_rfl
  rw [e]; exact Try.func180
theorem at1000 : ctx.P.funcs[ctx.fid 1000]? = some Try.f193 := by
  have e : ctx.fid 1000 = 193 := by kernel_rfl
  rw [e]; exact Try.func193
theorem at1100 : ctx.P.funcs[ctx.fid 1100]? = some Try.f181 := by
  have e : ctx.fid 1100 = 181 := by kernel_rfl
  rw [e]; exact Try.func181
theorem at1200 : ctx.P.funcs[ctx.fid 1200]? = some Try.f163 := by
  have e : ctx.fid 1200 = 163 := by kernel_rfl
  rw [e]; exact Try.func163
theorem at1600 : ctx.P.funcs[ctx.fid 1600]? = some Try.f63 := by
  have e : ctx.fid 1600 = 63 := by kernel_rfl
  rw [e]; exact Try.func63
theorem at1700 : ctx.P.funcs[ctx.fid 1700]? = some Try.f187 := by
  have e : ctx.fid 1700 = 187 := by kernel_rfl
  rw [e]; exact Try.func187
theorem at1800 : ctx.P.funcs[ctx.fid 1800]? = some Try.f183 := by
  have e : ctx.fid 1800 = 183 := by kernel_rfl
  rw [e]; exact Try.func183
theorem at1900 : ctx.P.funcs[ctx.fid 1900]? = some Try.f167 := by
  have e : ctx.fid 1900 = 167 := by kernel_rfl
  rw [e]; exact Try.func167
theorem at3700 : ctx.P.funcs[ctx.fid 3700]? = some Try.f124 := by
  have e : ctx.fid 3700 = 124 := by kernel_rfl
  rw [e]; exact Try.func124
theorem at4000 : ctx.P.funcs[ctx.fid 4000]? = some Try.f138 := by
  have e : ctx.fid 4000 = 138 := by kernel_rfl
  rw [e]; exact Try.func138
theorem at4100 : ctx.P.funcs[ctx.fid 4100]? = some Try.f177 := by
  have e : ctx.fid 4100 = 177 := by kernel_rfl
  rw [e]; exact Try.func177
theorem at4200 : ctx.P.funcs[ctx.fid 4200]? = some Try.f176 := by
  have e : ctx.fid 4200 = 176 := by kernel_rfl
  rw [e]; exact Try.func176
theorem at4300 : ctx.P.funcs[ctx.fid 4300]? = some Try.f178 := by
  have e : ctx.fid 4300 = 178 := by kernel_rfl
  rw [e]; exact Try.func178
theorem at4400 : ctx.P.funcs[ctx.fid 4400]? = some Try.f179 := by
  have e : ctx.fid 4400 = 179 := by kernel_rfl
  rw [e]; exact Try.func179
theorem at4500 : ctx.P.funcs[ctx.fid 4500]? = some Try.f161 := by
  have e : ctx.fid 4500 = 161 := by kernel_rfl
  rw [e]; exact Try.func161
theorem at4600 : ctx.P.funcs[ctx.fid 4600]? = some Try.f149 := by
  have e : ctx.fid 4600 = 149 := by kernel_rfl
  rw [e]; exact Try.func149
theorem at4700 : ctx.P.funcs[ctx.fid 4700]? = some Try.f133 := by
  have e : ctx.fid 4700 = 133 := by kernel_rfl
  rw [e]; exact Try.func133
theorem at5000 : ctx.P.funcs[ctx.fid 5000]? = some Try.f140 := by
  have e : ctx.fid 5000 = 140 := by kernel_rfl
  rw [e]; exact Try.func140
theorem at5100 : ctx.P.funcs[ctx.fid 5100]? = some Try.f113 := by
  have e : ctx.fid 5100 = 113 := by kernel_rfl
  rw [e]; exact Try.func113
theorem at5200 : ctx.P.funcs[ctx.fid 5200]? = some Try.f150 := by
  have e : ctx.fid 5200 = 150 := by kernel_rfl
  rw [e]; exact Try.func150
theorem at5300 : ctx.P.funcs[ctx.fid 5300]? = some Try.f136 := by
  have e : ctx.fid 5300 = 136 := by kernel_rfl
  rw [e]; exact Try.func136
theorem at5400 : ctx.P.funcs[ctx.fid 5400]? = some Try.f106 := by
  have e : ctx.fid 5400 = 106 := by kernel_rfl
  rw [e]; exact Try.func106
theorem at5500 : ctx.P.funcs[ctx.fid 5500]? = some Try.f59 := by
  have e : ctx.fid 5500 = 59 := by kernel_rfl
  rw [e]; exact Try.func59
theorem at5700 : ctx.P.funcs[ctx.fid 5700]? = some Try.f165 := by
  have e : ctx.fid 5700 = 165 := by kernel_rfl
  rw [e]; exact Try.func165
theorem at5800 : ctx.P.funcs[ctx.fid 5800]? = some Try.f166 := by
  have e : ctx.fid 5800 = 166 := by kernel_rfl
  rw [e]; exact Try.func166
theorem at5900 : ctx.P.funcs[ctx.fid 5900]? = some Try.f182 := by
  have e : ctx.fid 5900 = 182 := by kernel_rfl
  rw [e]; exact Try.func182
theorem at6000 : ctx.P.funcs[ctx.fid 6000]? = some Try.f164 := by
  have e : ctx.fid 6000 = 164 := by kernel_rfl
  rw [e]; exact Try.func164
theorem at6100 : ctx.P.funcs[ctx.fid 6100]? = some Try.f151 := by
  have e : ctx.fid 6100 = 151 := by kernel_rfl
  rw [e]; exact Try.func151
theorem at6200 : ctx.P.funcs[ctx.fid 6200]? = some Try.f137 := by
  have e : ctx.fid 6200 = 137 := by kernel_rfl
  rw [e]; exact Try.func137
theorem at6300 : ctx.P.funcs[ctx.fid 6300]? = some Try.f108 := by
  have e : ctx.fid 6300 = 108 := by kernel_rfl
  rw [e]; exact Try.func108
theorem at6400 : ctx.P.funcs[ctx.fid 6400]? = some Try.f118 := by
  have e : ctx.fid 6400 = 118 := by kernel_rfl
  rw [e]; exact Try.func118
theorem at6500 : ctx.P.funcs[ctx.fid 6500]? = some Try.f67 := by
  have e : ctx.fid 6500 = 67 := by kernel_rfl
  rw [e]; exact Try.func67
theorem at6600 : ctx.P.funcs[ctx.fid 6600]? = some Try.f65 := by
  have e : ctx.fid 6600 = 65 := by kernel_rfl
  rw [e]; exact Try.func65
theorem at8700 : ctx.P.funcs[ctx.fid 8700]? = some Try.f134 := by
  have e : ctx.fid 8700 = 134 := by kernel_rfl
  rw [e]; exact Try.func134
theorem at9400 : ctx.P.funcs[ctx.fid 9400]? = some Try.f139 := by
  have e : ctx.fid 9400 = 139 := by kernel_rfl
  rw [e]; exact Try.func139
theorem at9500 : ctx.P.funcs[ctx.fid 9500]? = some Try.f109 := by
  have e : ctx.fid 9500 = 109 := by kernel_rfl
  rw [e]; exact Try.func109
theorem at9600 : ctx.P.funcs[ctx.fid 9600]? = some Try.f52 := by
  have e : ctx.fid 9600 = 52 := by kernel_rfl
  rw [e]; exact Try.func52
theorem at9700 : ctx.P.funcs[ctx.fid 9700]? = some Try.f30 := by
  have e : ctx.fid 9700 = 30 := by kernel_rfl
  rw [e]; exact Try.func30
theorem at11100 : ctx.P.funcs[ctx.fid 11100]? = some Try.f162 := by
  have e : ctx.fid 11100 = 162 := by kernel_rfl
  rw [e]; exact Try.func162
theorem at11200 : ctx.P.funcs[ctx.fid 11200]? = some Try.f157 := by
  have e : ctx.fid 11200 = 157 := by kernel_rfl
  rw [e]; exact Try.func157
theorem at16700 : ctx.P.funcs[ctx.fid 16700]? = some Try.f131 := by
  have e : ctx.fid 16700 = 131 := by kernel_rfl
  rw [e]; exact Try.func131
theorem at17600 : ctx.P.funcs[ctx.fid 17600]? = some Try.f114 := by
  have e : ctx.fid 17600 = 114 := by kernel_rfl
  rw [e]; exact Try.func114
theorem at17800 : ctx.P.funcs[ctx.fid 17800]? = some Try.f117 := by
  have e : ctx.fid 17800 = 117 := by kernel_rfl
  rw [e]; exact Try.func117
theorem at17900 : ctx.P.funcs[ctx.fid 17900]? = some Try.f185 := by
  have e : ctx.fid 17900 = 185 := by kernel_rfl
  rw [e]; exact Try.func185
theorem at18500 : ctx.P.funcs[ctx.fid 18500]? = some Try.f184 := by
  have e : ctx.fid 18500 = 184 := by kernel_rfl
  rw [e]; exact Try.func184
theorem at22300 : ctx.P.funcs[ctx.fid 22300]? = some Try.f132 := by
  have e : ctx.fid 22300 = 132 := by kernel_rfl
  rw [e]; exact Try.func132
theorem at22400 : ctx.P.funcs[ctx.fid 22400]? = some Try.f103 := by
  have e : ctx.fid 22400 = 103 := by kernel_rfl
  rw [e]; exact Try.func103
theorem at23100 : ctx.P.funcs[ctx.fid 23100]? = some Try.f66 := by
  have e : ctx.fid 23100 = 66 := by kernel_rfl
  rw [e]; exact Try.func66
theorem at23200 : ctx.P.funcs[ctx.fid 23200]? = some Try.f107 := by
  have e : ctx.fid 23200 = 107 := by kernel_rfl
  rw [e]; exact Try.func107
theorem at23300 : ctx.P.funcs[ctx.fid 23300]? = some Try.f50 := by
  have e : ctx.fid 23300 = 50 := by kernel_rfl
  rw [e]; exact Try.func50
theorem at23400 : ctx.P.funcs[ctx.fid 23400]? = some Try.f51 := by
  have e : ctx.fid 23400 = 51 := by kernel_rfl
  rw [e]; exact Try.func51
theorem at23500 : ctx.P.funcs[ctx.fid 23500]? = some Try.f13 := by
  have e : ctx.fid 23500 = 13 := by kernel_rfl
  rw [e]; exact Try.func13
theorem at23800 : ctx.P.funcs[ctx.fid 23800]? = some Try.f57 := by
  have e : ctx.fid 23800 = 57 := by kernel_rfl
  rw [e]; exact Try.func57
theorem at23900 : ctx.P.funcs[ctx.fid 23900]? = some Try.f58 := by
  have e : ctx.fid 23900 = 58 := by kernel_rfl
  rw [e]; exact Try.func58
theorem at24000 : ctx.P.funcs[ctx.fid 24000]? = some Try.f17 := by
  have e : ctx.fid 24000 = 17 := by kernel_rfl
  rw [e]; exact Try.func17
theorem at24600 : ctx.P.funcs[ctx.fid 24600]? = some Try.f64 := by
  have e : ctx.fid 24600 = 64 := by kernel_rfl
  rw [e]; exact Try.func64
theorem at24700 : ctx.P.funcs[ctx.fid 24700]? = some Try.f19 := by
  have e : ctx.fid 24700 = 19 := by kernel_rfl
  rw [e]; exact Try.func19
theorem at25600 : ctx.P.funcs[ctx.fid 25600]? = some Try.f153 := by
  have e : ctx.fid 25600 = 153 := by kernel_rfl
  rw [e]; exact Try.func153
theorem at25700 : ctx.P.funcs[ctx.fid 25700]? = some Try.f154 := by
  have e : ctx.fid 25700 = 154 := by kernel_rfl
  rw [e]; exact Try.func154
theorem at25900 : ctx.P.funcs[ctx.fid 25900]? = some Try.f188 := by
  have e : ctx.fid 25900 = 188 := by kernel_rfl
  rw [e]; exact Try.func188
theorem at26000 : ctx.P.funcs[ctx.fid 26000]? = some Try.f189 := by
  have e : ctx.fid 26000 = 189 := by kernel_rfl
  rw [e]; exact Try.func189
theorem at26100 : ctx.P.funcs[ctx.fid 26100]? = some Try.f190 := by
  have e : ctx.fid 26100 = 190 := by kernel_rfl
  rw [e]; exact Try.func190
theorem at26200 : ctx.P.funcs[ctx.fid 26200]? = some Try.f191 := by
  have e : ctx.fid 26200 = 191 := by kernel_rfl
  rw [e]; exact Try.func191
theorem at26300 : ctx.P.funcs[ctx.fid 26300]? = some Try.f172 := by
  have e : ctx.fid 26300 = 172 := by kernel_rfl
  rw [e]; exact Try.func172
theorem at26400 : ctx.P.funcs[ctx.fid 26400]? = some Try.f156 := by
  have e : ctx.fid 26400 = 156 := by kernel_rfl
  rw [e]; exact Try.func156
theorem at26500 : ctx.P.funcs[ctx.fid 26500]? = some Try.f168 := by
  have e : ctx.fid 26500 = 168 := by kernel_rfl
  rw [e]; exact Try.func168
theorem at26600 : ctx.P.funcs[ctx.fid 26600]? = some Try.f171 := by
  have e : ctx.fid 26600 = 171 := by kernel_rfl
  rw [e]; exact Try.func171
theorem at26700 : ctx.P.funcs[ctx.fid 26700]? = some Try.f169 := by
  have e : ctx.fid 26700 = 169 := by kernel_rfl
  rw [e]; exact Try.func169
theorem at26800 : ctx.P.funcs[ctx.fid 26800]? = some Try.f186 := by
  have e : ctx.fid 26800 = 186 := by kernel_rfl
  rw [e]; exact Try.func186
theorem at26900 : ctx.P.funcs[ctx.fid 26900]? = some Try.f170 := by
  have e : ctx.fid 26900 = 170 := by kernel_rfl
  rw [e]; exact Try.func170
theorem at27000 : ctx.P.funcs[ctx.fid 27000]? = some Try.f155 := by
  have e : ctx.fid 27000 = 155 := by kernel_rfl
  rw [e]; exact Try.func155
theorem at28100 : ctx.P.funcs[ctx.fid 28100]? = some Try.f82 := by
  have e : ctx.fid 28100 = 82 := by kernel_rfl
  rw [e]; exact Try.func82
theorem at29900 : ctx.P.funcs[ctx.fid 29900]? = some Try.f39 := by
  have e : ctx.fid 29900 = 39 := by kernel_rfl
  rw [e]; exact Try.func39
theorem at30100 : ctx.P.funcs[ctx.fid 30100]? = some Try.f40 := by
  have e : ctx.fid 30100 = 40 := by kernel_rfl
  rw [e]; exact Try.func40
theorem at30200 : ctx.P.funcs[ctx.fid 30200]? = some Try.f94 := by
  have e : ctx.fid 30200 = 94 := by kernel_rfl
  rw [e]; exact Try.func94
theorem at30300 : ctx.P.funcs[ctx.fid 30300]? = some Try.f41 := by
  have e : ctx.fid 30300 = 41 := by kernel_rfl
  rw [e]; exact Try.func41
theorem at30400 : ctx.P.funcs[ctx.fid 30400]? = some Try.f95 := by
  have e : ctx.fid 30400 = 95 := by kernel_rfl
  rw [e]; exact Try.func95
theorem at30500 : ctx.P.funcs[ctx.fid 30500]? = some Try.f96 := by
  have e : ctx.fid 30500 = 96 := by kernel_rfl
  rw [e]; exact Try.func96
theorem at30600 : ctx.P.funcs[ctx.fid 30600]? = some Try.f42 := by
  have e : ctx.fid 30600 = 42 := by kernel_rfl
  rw [e]; exact Try.func42
theorem at30700 : ctx.P.funcs[ctx.fid 30700]? = some Try.f9 := by
  have e : ctx.fid 30700 = 9 := by kernel_rfl
  rw [e]; exact Try.func9
theorem at39800 : ctx.P.funcs[ctx.fid 39800]? = some Try.f93 := by
  have e : ctx.fid 39800 = 93 := by kernel_rfl
  rw [e]; exact Try.func93
theorem at40100 : ctx.P.funcs[ctx.fid 40100]? = some Try.f125 := by
  have e : ctx.fid 40100 = 125 := by kernel_rfl
  rw [e]; exact Try.func125
theorem at40300 : ctx.P.funcs[ctx.fid 40300]? = some Try.f141 := by
  have e : ctx.fid 40300 = 141 := by kernel_rfl
  rw [e]; exact Try.func141
theorem at40400 : ctx.P.funcs[ctx.fid 40400]? = some Try.f141 := by
  have e : ctx.fid 40400 = 141 := by kernel_rfl
  rw [e]; exact Try.func141
theorem at40500 : ctx.P.funcs[ctx.fid 40500]? = some Try.f143 := by
  have e : ctx.fid 40500 = 143 := by kernel_rfl
  rw [e]; exact Try.func143
theorem at40600 : ctx.P.funcs[ctx.fid 40600]? = some Try.f153 := by
  have e : ctx.fid 40600 = 153 := by kernel_rfl
  rw [e]; exact Try.func153
theorem prim16700 : PrimOk ctx 16700 p16700.er := by
  have e : ctx.fid 16700 = 131 := by kernel_rfl
  refine clone_prim (T := 3) ⟨⟨Try.f131, _, at16700, by kernel_rfl, rfl⟩⟩ ?_
  rw [e]
  exact ⟨fun b off n c zs w h1 h2 h3 => Try.slices_Clone_int b off n c zs w h1 h2 h3, fun n c w => Try.slices_Clone_int_nil n c w, fun a c w => Try.slices_Clone_int_zero a c w⟩
theorem laid : Laid ctx (FA Tb) := by
  refine laidT (l := tab) (by kernel_rfl) ?_
  have e : tab.map (fun x => (x.1, x.2.er)) = [(100, p100.er), (200, p200.er), (300, p300.er), (400, p400.er), (500, p500.er), (600, p600.er), (700, p700.er), (1000, p1000.er), (1100, p1100.er), (1200, p1200.er), (1600, p1600.er), (1700, p1700.er), (1800, p1800.er), (1900, p1900.er), (3700, p3700.er), (4000, p4000.er), (4001, p4001.er), (4100, p4100.er), (4200, p4200.er), (4300, p4300.er), (4400, p4400.er), (4500, p4500.er), (4600, p4600.er), (4601, p4601.er), (4700, p4700.er), (4701, p4701.er), (5000, p5000.er), (5100, p5100.er), (5101, p5101.er), (5200, p5200.er), (5300, p5300.er), (5301, p5301.er), (5400, p5400.er), (5500, p5500.er), (5501, p5501.er), (5700, p5700.er), (5800, p5800.er), (5900, p5900.er), (6000, p6000.er), (6100, p6100.er), (6200, p6200.er), (6201, p6201.er), (6300, p6300.er), (6400, p6400.er), (6500, p6500.er), (6501, p6501.er), (6600, p6600.er), (6601, p6601.er), (8700, p8700.er), (9400, p9400.er), (9500, p9500.er), (9501, p9501.er), (9600, p9600.er), (9700, p9700.er), (9701, p9701.er), (11100, p11100.er), (11200, p11200.er), (16700, p16700.er), (17600, p17600.er), (17800, p17800.er), (17900, p17900.er), (18500, p18500.er), (22300, p22300.er), (22301, p22301.er), (22400, p22400.er), (22401, p22401.er), (23100, p23100.er), (23101, p23101.er), (23200, p23200.er), (23201, p23201.er), (23300, p23300.er), (23301, p23301.er), (23400, p23400.er), (23401, p23401.er), (23500, p23500.er), (23501, p23501.er), (23800, p23800.er), (23900, p23900.er), (23901, p23901.er), (24000, p24000.er), (24001, p24001.er), (24600, p24600.er), (24601, p24601.er), (24700, p24700.er), (24701, p24701.er), (25600, p25600.er), (25601, p25601.er), (25700, p25700.er), (25900, p25900.er), (26000, p26000.er), (26100, p26100.er), (26200, p26200.er), (26300, p26300.er), (26400, p26400.er), (26500, p26500.er), (26600, p26600.er), (26700, p26700.er), (26800, p26800.er), (26900, p26900.er), (27000, p27000.er), (28100, p28100.er), (29900, p29900.er), (30100, p30100.er), (30101, p30101.er), (30200, p30200.er), (30201, p30201.er), (30300, p30300.er), (30301, p30301.er), (30400, p30400.er), (30401, p30401.er), (30500, p30500.er), (30501, p30501.er), (30600, p30600.er), (30700, p30700.er), (30701, p30701.er), (30702, p30702.er), (39800, p39800.er), (39801, p39801.er), (40100, p40100.er), (40101, p40101.er), (40300, p40300.er), (40301, p40301.er), (40400, p40400.er), (40401, p40401.er), (40500, p40500.er), (40600, p40600.er), (40601, p40601.er)] := by kernel_rfl
  rw [e]
  exact ⟨fun _ => okFn_spec at100 ok100, ⟨fun _ => okFn_spec at200 ok200, ⟨fun _ => okFn_spec at300 ok300, ⟨fun _ => okFn_spec at400 ok400, ⟨fun _ => okFn_spec at500 ok500, ⟨fun _ => okFn_spec at600 ok600, ⟨fun _ => okFn_spec at700 ok700, ⟨fun _ => okFn_spec at1000 ok1000, ⟨fun _ => okFn_spec at1100 ok1100, ⟨fun _ => okFn_spec at1200 ok1200, ⟨fun _ => okFn_spec at1600 ok1600, ⟨fun _ => okFn_spec at1700 ok1700, ⟨fun _ => okFn_spec at1800 ok1800, ⟨fun _ => okFn_spec at1900 ok1900, ⟨fun _ => okFn_spec at3700 ok3700, ⟨fun _ => okFn_spec at4000 ok4000, ⟨fun h => absurd h (by decide), ⟨fun _ => okFn_spec at4100 ok4100, ⟨fun _ => okFn_spec at4200 ok4200, ⟨fun _ => okFn_spec at4300 ok4300, ⟨fun _ => okFn_spec at4400 ok4400, ⟨fun _ => okFn_spec at4500 ok4500, ⟨fun _ => okFn_spec at4600 ok4600, ⟨fun h => absurd h (by decide), ⟨fun _ => okFn_spec at4700 ok4700, ⟨fun h => absurd h (by decide), ⟨fun _ => okFn_spec at5000 ok5000, ⟨fun _ => okFn_spec at5100 ok5100, ⟨fun h => absurd h (by decide), ⟨fun _ => okFn_spec at5200 ok5200, ⟨fun _ => okFn_spec at5300 ok5300, ⟨fun h => absurd h (by decide), ⟨fun _ => okFn_spec at5400 ok5400, ⟨fun _ => okFn_spec at5500 ok5500, ⟨fun h => absurd h (by decide), ⟨fun _ => okFn_spec at5700 ok5700, ⟨fun _ => okFn_spec at5800 ok5800, ⟨fun _ => okFn_spec at5900 ok5900, ⟨fun _ => okFn_spec at6000 ok6000, ⟨fun _ => okFn_spec at6100 ok6100, ⟨fun _ => okFn_spec at6200 ok6200, ⟨fun h => absurd h (by decide), ⟨fun _ => okFn_spec at6300 ok6300, ⟨fun _ => okFn_spec at6400 ok6400, ⟨fun _ => okFn_spec at6500 ok6500, ⟨fun h => absurd h (by decide), ⟨fun _ => okFn_spec at6600 ok6600, ⟨fun h => absurd h (by decide), ⟨fun _ => okFn_spec at8700 ok8700, ⟨fun _ => okFn_spec at9400 ok9400, ⟨fun _ => okFn_spec at9500 ok9500, ⟨fun h => absurd h (by decide), ⟨fun _ => okFn_spec at9600 ok9600, ⟨fun _ => okFn_spec at9700 ok9700, ⟨fun h => absurd h (by decide), ⟨fun _ => okFn_spec at11100 ok11100, ⟨fun _ => okFn_spec at11200 ok11200, ⟨fun _ => .inr prim16700, ⟨fun _ => okFn_spec at17600 ok17600, ⟨fun _ => okFn_spec at17800 ok17800, ⟨fun _ => okFn_spec at17900 ok17900, ⟨fun _ => okFn_spec at18500 ok18500, ⟨fun _ => okFn_spec at22300 ok22300, ⟨fun h => absurd h (by decide), ⟨fun _ => okFn_spec at22400 ok22400, ⟨fun h => absurd h (by decide), ⟨fun _ => okFn_spec at23100 ok23100, ⟨fun h => absurd h (by decide), ⟨fun _ => okFn_spec at23200 ok23200, ⟨fun h => absurd h (by decide), ⟨fun _ => okFn_spec at23300 ok23300, ⟨fun h => absurd h (by decide), ⟨fun _ => okFn_spec at23400 ok23400, ⟨fun h => absurd h (by decide), ⟨fun _ => okFn_spec at23500 ok23500, ⟨fun h => absurd h (by decide), ⟨fun _ => okFn_spec at23800 ok23800, ⟨fun _ => okFn_spec at23900 ok23900, ⟨fun h => absurd h (by decide), ⟨fun _ => okFn_spec at24000 ok24000, ⟨fun h => absurd h (by decide), ⟨fun _ => okFn_spec at24600 ok24600, ⟨fun h => absurd h (by decide), ⟨fun _ => okFn_spec at24700 ok24700, ⟨fun h => absurd h (by decide), ⟨fun _ => okFn_spec at25600 ok25600, ⟨fun h => absurd h (by decide), ⟨fun _ => okFn_spec at25700 ok25700, ⟨fun _ => okFn_spec at25900 ok25900, ⟨fun _ => okFn_spec at26000 ok26000, ⟨fun _ => okFn_spec at26100 ok26100, ⟨fun _ => okFn_spec at26200 ok26200, ⟨fun _ => okFn_spec at26300 ok26300, ⟨fun _ => okFn_spec at26400 ok26400, ⟨fun _ => okFn_spec at26500 ok26500, ⟨fun _ => okFn_spec at26600 ok26600, ⟨fun _ => okFn_spec at26700 ok26700, ⟨fun _ => okFn_spec at26800 ok26800, ⟨fun _ => okFn_spec at26900 ok26900, ⟨fun _ => okFn_spec at27000 ok27000, ⟨fun _ => okFn_spec at28100 ok28100, ⟨fun _ => okFn_spec at29900 ok29900, ⟨fun _ => okFn_spec at30100 ok30100, ⟨fun h => absurd h (by decide), ⟨fun _ => okFn_spec at30200 ok30200, ⟨fun h => absurd h (by decide), ⟨fun _ => okFn_spec at30300 ok30300, ⟨fun h => absurd h (by decide), ⟨fun _ => okFn_spec at30400 ok30400, ⟨fun h => absurd h (by decide), ⟨fun _ => okFn_spec at30500 ok30500, ⟨fun h => absurd h (by decide), ⟨fun _ => okFn_spec at30600 ok30600, ⟨fun _ => okFn_spec at30700 ok30700, ⟨fun h => absurd h (by decide), ⟨fun h => absurd h (by decide), ⟨fun _ => okFn_spec at39800 ok39800, ⟨fun h => absurd h (by decide), ⟨fun _ => okFn_spec at40100 ok40100, ⟨fun h => absurd h (by decide), ⟨fun _ => okFn_spec at40300 ok40300, ⟨fun h => absurd h (by decide), ⟨fun _ => okFn_spec at40400 ok40400, ⟨fun h => absurd h (by decide), ⟨fun _ => okFn_spec at40500 ok40500, ⟨fun _ => okFn_spec at40600 ok40600, ⟨fun h => absurd h (by decide), trivial⟩⟩⟩⟩⟩⟩⟩⟩⟩⟩⟩⟩⟩⟩⟩⟩⟩⟩⟩⟩⟩⟩⟩⟩⟩⟩⟩⟩⟩⟩⟩⟩⟩⟩⟩⟩⟩⟩⟩⟩⟩⟩⟩⟩⟩⟩⟩⟩⟩⟩⟩⟩⟩⟩⟩⟩⟩⟩⟩⟩⟩⟩⟩⟩⟩⟩⟩⟩⟩⟩⟩⟩⟩⟩⟩⟩⟩⟩⟩⟩⟩⟩⟩⟩⟩⟩⟩⟩⟩⟩⟩⟩⟩⟩⟩⟩⟩⟩⟩⟩⟩⟩⟩⟩⟩⟩⟩⟩⟩⟩⟩⟩⟩⟩⟩⟩⟩⟩⟩⟩⟩⟩⟩⟩⟩⟩⟩
theorem gok {W : World} : GOk ctx (memOf W) := by
  intro i
  show RepL ctx.fid (memOf W) (GA GT i) _
  simp [GA, GT, toAVs, RepL]
set_option maxRecDepth 100000 in
theorem lifted (os : Os) (started : os.Started) (H : Type) (enc : TypeId × Value → H) :
    ReturnsInHanded {} Try.checked os 9 .any (Rows.fnOutcomeSpec.pre6 enc Try.prog Try.f9 Rows.fnOutcomeRow.domain false) (Rows.fnOutcomeSpec.post enc Try.prog Try.f9 false true false false) := by
  refine returnsInHanded_of_change_sized (C := Try.checked) own started (by kernel_rfl) Try.func9
    (ChangeSpec.witness6 (enc := enc) (C := Try.checked) false ⟨#[], #[.slice none 0 0], []⟩ 8 (by kernel_rfl) (by kernel_rfl) (by kernel_rfl) (by kernel_rfl)) ?_
  intro W base args ds gs before hval0 hW hcnd hsz0 _
  have hval : ∀ (j : Nat) t v, Try.f9.params[j]? = some t → args[j]? = some v → Value.okWide Try.prog W .any base t v := hval0
  have hW' := hW
  obtain ⟨p, q, hA0, hV, rfl, hfz, hnd⟩ := hW
  have hA : DataW.TrodAll enc Try.prog W 0 (fun _ => true) true Try.f9.params.toList args.toList ds p := hA0
  have hV' := hV
  rw [Try.params9] at hA hval
  obtain ⟨v0, vs0, d0, ds0, p0, q0, hargs, rfl, rfl, h0, r0⟩ := trodAll_cons hA
  obtain ⟨rfl, rfl, rfl⟩ := trodAll_nil r0
  obtain rfl : args = #[v0] := by cases args; simp_all
  obtain ⟨rfl, rfl⟩ := trodVars_none hV
  have k0 := h0
  have lt0 : ∀ x ∈ p0, x.block < W.heap.size := by obtain ⟨m, hm⟩ := k0; exact DataW.trod_lt m _ _ _ hm
  obtain ⟨a0, y0, w0⟩ := arg_bytes (fid := ctx.fid) Try.underlying22 (by kernel_rfl) (hval 0 22 v0 rfl rfl) h0
  have hE : callTy Tb GT boolSig 30700 [.sl .share .u8 a0] [] = some true := Go.TFnOutcome.laws_FnOutcome_eq a0 w0
  have hrun := law_top (C := ctx) laid rfl (g := 30700) (by decide) (args := #[v0]) gok (fun _ h => by cases h) rfl (by
    intro i c v hc hv
    match i, hc, hv with
    | 0, hc, hv => simp at hc hv; subst hc hv; exact y0
    | i + 1, hc, _ => simp at hc) hE
  have efid : ctx.fid 30700 = 9 := by kernel_rfl
  rw [efid] at hrun
  refine hrun.mono fun e W' ⟨he, bel⟩ => ?_
  subst he
  exact ⟨_, rfl, _, _, _, [], _, [], hW', trodAll_mk1 (shut_bool Try.underlying4 _), (trodAll_cons_mk (Below.trod laidOut (by kernel_rfl) (of_decide_eq_true (by kernel_rfl)) k0 bel lt0) trodAll_mk0), rfl, bel.frame _, fun h => by cases h⟩
theorem over : Rows.fnOutcomeRow.holds Try.pinned (OpenSpec.ofChange Rows.fnOutcomeSpec) :=
  OpenClaim.holds_of_wide 9 Try.f9 rfl rfl rfl rfl rfl rfl rfl ⟨rfl, rfl, rfl, rfl, rfl⟩ rfl rfl rfl rfl rfl (by kernel_rfl) Try.func9 (by kernel_rfl)
    (of_decide_eq_true (by kernel_rfl)) (by unfold Func.isWrapper; first | (rw [if_pos (by decide +kernel)]; kernel_rfl) | (rw [if_neg (by decide +kernel)]; exact ⟨rfl, rfl⟩))
    (fun os started H enc _ => lifted os started H enc)
end Go.Proofs.Ytpkgdoapdijmeaa.fnOutcome
namespace Go.Proofs.Ytpkgdoapdijmeaa
/-- The row. -/
theorem fnOutcome_holds : Rows.FnOutcomeSaid := fnOutcome.over
#print axioms fnOutcome_holds
end Go.Proofs.Ytpkgdoapdijmeaa
