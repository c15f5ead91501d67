/- The statement FnWorldNew is proved: the law answers true whatever the input; under no condition. -/
import Derived.Test.YtpkgdoapdijmeaaRows
import Derived.Test.YtpkgdoapdijmeaaFFnWorldNew
import Derived.Test.YtpkgdoapdijmeaaTvRow
import Derived.KernelRfl
namespace Go.Proofs.Ytpkgdoapdijmeaa.fnWorldNew
open Go Go.Vs Go.Tv Go.ChangeShapes Go.WideShapes Go.ChangeAt Go.RowKit Go.TFnWorldNew
open Go.ChangeMaps (open_string shut_string)
set_option linter.unusedVariables false
theorem own : ownKnob Try.prog.godebug = none := by kernel_rfl
theorem laidOut : laidOutB Try.prog = true := by kernel_rfl
def fids : List (Nat × Nat) := [(100, 47), (200, 75), (300, 135), (400, 104), (500, 152), (600, 192), (700, 180), (1000, 193), (1100, 181), (1200, 163), (1600, 63), (1700, 187), (1800, 183), (1900, 167), (4000, 138), (4100, 177), (4200, 176), (4300, 178), (4400, 179), (4500, 161), (4600, 149), (5000, 140), (5100, 113), (5200, 150), (5300, 136), (5400, 106), (5500, 59), (5700, 165), (5800, 166), (5900, 182), (6000, 164), (6100, 151), (6200, 137), (6300, 108), (8700, 134), (9000, 54), (9100, 111), (9200, 55), (9300, 15), (9400, 139), (9500, 109), (9600, 52), (9700, 30), (9800, 112), (9900, 56), (10000, 16), (11100, 162), (17600, 114), (18000, 110), (22500, 46), (22600, 11), (22700, 105), (22800, 48), (22900, 49), (23000, 12), (23100, 66), (23200, 107), (23300, 50), (23400, 51), (23500, 13), (23600, 53), (23700, 14), (23800, 57), (23900, 58), (24000, 17), (24100, 3), (38000, 133), (38100, 149), (39900, 103), (40200, 132)]
noncomputable def ctx : Ctx := { P := Try.prog, fid := fun g => (Vs.look g fids).getD 0, gm := fun _ => 0, G := GA GT }
theorem ok100 : okFn ctx (FA Tb) 8 p100.er Try.f47 = true := by kernel_rfl
theorem ok200 : okFn ctx (FA Tb) 8 p200.er Try.f75 = true := by kernel_rfl
theorem ok300 : okFn ctx (FA Tb) 8 p300.er Try.f135 = true := by kernel_rfl
theorem ok400 : okFn ctx (FA Tb) 8 p400.er Try.f104 = true := by kernel_rfl
theorem ok500 : okFn ctx (FA Tb) 8 p500.er Try.f152 = true := by kernel_rfl
theorem ok600 : okFn ctx (FA Tb) 8 p600.er Try.f192 = true := by kernel_rfl
theorem ok700 : okFn ctx (FA Tb) 8 p700.er Try.f180 = true := by kernel_rfl
theorem ok1000 : okFn ctx (FA Tb) 8 p1000.er Try.f193 = true := by kernel_rfl
theorem ok1100 : okFn ctx (FA Tb) 8 p1100.er Try.f181 = true := by kernel_rfl
theorem ok1200 : okFn ctx (FA Tb) 8 p1200.er Try.f163 = true := by kernel_rfl
theorem ok1600 : okFn ctx (FA Tb) 8 p1600.er Try.f63 = true := by kernel_rfl
theorem ok1700 : okFn ctx (FA Tb) 8 p1700.er Try.f187 = true := by kernel_rfl
theorem ok1800 : okFn ctx (FA Tb) 8 p1800.er Try.f183 = true := by kernel_rfl
theorem ok1900 : okFn ctx (FA Tb) 8 p1900.er Try.f167 = true := by kernel_rfl
theorem ok4000 : okFn ctx (FA Tb) 8 p4000.er Try.f138 = true := by kernel_rfl
theorem ok4100 : okFn ctx (FA Tb) 8 p4100.er Try.f177 = true := by kernel_rfl
theorem ok4200 : okFn ctx (FA Tb) 8 p4200.er Try.f176 = true := by kernel_rfl
theorem ok4300 : okFn ctx (FA Tb) 8 p4300.er Try.f178 = true := by kernel_rfl
theorem ok4400 : okFn ctx (FA Tb) 8 p4400.er Try.f179 = true := by kernel_rfl
theorem ok4500 : okFn ctx (FA Tb) 8 p4500.er Try.f161 = true := by kernel_rfl
theorem ok4600 : okFn ctx (FA Tb) 8 p4600.er Try.f149 = true := by kernel_rfl
theorem ok5000 : okFn ctx (FA Tb) 8 p5000.er Try.f140 = true := by kernel_rfl
theorem ok5100 : okFn ctx (FA Tb) 8 p5100.er Try.f113 = true := by kernel_rfl
theorem ok5200 : okFn ctx (FA Tb) 8 p5200.er Try.f150 = true := by kernel_rfl
theorem ok5300 : okFn ctx (FA Tb) 8 p5300.er Try.f136 = true := by kernel_rfl
theorem ok5400 : okFn ctx (FA Tb) 8 p5400.er Try.f106 = true := by kernel_rfl
theorem ok5500 : okFn ctx (FA Tb) 8 p5500.er Try.f59 = true := by kernel_rfl
theorem ok5700 : okFn ctx (FA Tb) 8 p5700.er Try.f165 = true := by kernel_rfl
theorem ok5800 : okFn ctx (FA Tb) 8 p5800.er Try.f166 = true := by kernel_rfl
theorem ok5900 : okFn ctx (FA Tb) 8 p5900.er Try.f182 = true := by kernel_rfl
theorem ok6000 : okFn ctx (FA Tb) 8 p6000.er Try.f164 = true := by kernel_rfl
theorem ok6100 : okFn ctx (FA Tb) 8 p6100.er Try.f151 = true := by kernel_rfl
theorem ok6200 : okFn ctx (FA Tb) 8 p6200.er Try.f137 = true := by kernel_rfl
theorem ok6300 : okFn ctx (FA Tb) 8 p6300.er Try.f108 = true := by kernel_rfl
theorem ok8700 : okFn ctx (FA Tb) 8 p8700.er Try.f134 = true := by kernel_rfl
theorem ok9000 : okFn ctx (FA Tb) 8 p9000.er Try.f54 = true := by kernel_rfl
theorem ok9100 : okFn ctx (FA Tb) 8 p9100.er Try.f111 = true := by kernel_rfl
theorem ok9200 : okFn ctx (FA Tb) 8 p9200.er Try.f55 = true := by kernel_rfl
theorem ok9300 : okFn ctx (FA Tb) 8 p9300.er Try.f15 = true := by kernel_rfl
theorem ok9400 : okFn ctx (FA Tb) 8 p9400.er Try.f139 = true := by kernel_rfl
theorem ok9500 : okFn ctx (FA Tb) 8 p9500.er Try.f109 = true := by kernel_rfl
theorem ok9600 : okFn ctx (FA Tb) 8 p9600.er Try.f52 = true := by kernel_rfl
theorem ok9700 : okFn ctx (FA Tb) 8 p9700.er Try.f30 = true := by kernel_rfl
theorem ok9800 : okFn ctx (FA Tb) 8 p9800.er Try.f112 = true := by kernel_rfl
theorem ok9900 : okFn ctx (FA Tb) 8 p9900.er Try.f56 = true := by kernel_rfl
theorem ok10000 : okFn ctx (FA Tb) 8 p10000.er Try.f16 = true := by kernel_rfl
theorem ok11100 : okFn ctx (FA Tb) 8 p11100.er Try.f162 = true := by kernel_rfl
theorem ok17600 : okFn ctx (FA Tb) 8 p17600.er Try.f114 = true := by kernel_rfl
theorem ok18000 : okFn ctx (FA Tb) 8 p18000.er Try.f110 = true := by kernel_rfl
theorem ok22500 : okFn ctx (FA Tb) 8 p22500.er Try.f46 = true := by kernel_rfl
theorem ok22600 : okFn ctx (FA Tb) 8 p22600.er Try.f11 = true := by kernel_rfl
theorem ok22700 : okFn ctx (FA Tb) 8 p22700.er Try.f105 = true := by kernel_rfl
theorem ok22800 : okFn ctx (FA Tb) 8 p22800.er Try.f48 = true := by kernel_rfl
theorem ok22900 : okFn ctx (FA Tb) 8 p22900.er Try.f49 = true := by kernel_rfl
theorem ok23000 : okFn ctx (FA Tb) 8 p23000.er Try.f12 = true := by kernel_rfl
theorem ok23100 : okFn ctx (FA Tb) 8 p23100.er Try.f66 = true := by kernel_rfl
theorem ok23200 : okFn ctx (FA Tb) 8 p23200.er Try.f107 = true := by kernel_rfl
theorem ok23300 : okFn ctx (FA Tb) 8 p23300.er Try.f50 = true := by kernel_rfl
theorem ok23400 : okFn ctx (FA Tb) 8 p23400.er Try.f51 = true := by kernel_rfl
theorem ok23500 : okFn ctx (FA Tb) 8 p23500.er Try.f13 = true := by kernel_rfl
theorem ok23600 : okFn ctx (FA Tb) 8 p23600.er Try.f53 = true := by kernel_rfl
theorem ok23700 : okFn ctx (FA Tb) 8 p23700.er Try.f14 = true := by kernel_rfl
theorem ok23800 : okFn ctx (FA Tb) 8 p23800.er Try.f57 = true := by kernel_rfl
theorem ok23900 : okFn ctx (FA Tb) 8 p23900.er Try.f58 = true := by kernel_rfl
theorem ok24000 : okFn ctx (FA Tb) 8 p24000.er Try.f17 = true := by kernel_rfl
theorem ok24100 : okFn ctx (FA Tb) 8 p24100.er Try.f3 = true := by kernel_rfl
theorem ok38000 : okFn ctx (FA Tb) 8 p38000.er Try.f133 = true := by kernel_rfl
theorem ok38100 : okFn ctx (FA Tb) 8 p38100.er Try.f149 = true := by kernel_rfl
theorem ok39900 : okFn ctx (FA Tb) 8 p39900.er Try.f103 = true := by kernel_rfl
theorem ok40200 : okFn ctx (FA Tb) 8 p40200.er Try.f132 = true := by kernel_rfl
theorem at100 : ctx.P.funcs[ctx.fid 100]? = some Try.f47 := by
  have e : ctx.fid 100 = 47 := by kernel_rfl
  rw [e]; exact Try.func47
theorem at200 : ctx.P.funcs[ctx.fid 200]? = some Try.f75 := by
  have e : ctx.fid 200 = 75 := by kernel_rfl
  rw [e]; exact Try.func75
theorem at300 : ctx.P.funcs[ctx.fid 300]? = some Try.f135 := by
  have e : ctx.fid 300 = 135 := by kernel_rfl
  rw [e]; exact Try.func135
theorem at400 : ctx.P.funcs[ctx.fid 400]? = some Try.f104 := by
  have e : ctx.fid 400 = 104 := by kernel_rfl
  rw [e]; exact Try.func104
theorem at500 : ctx.P.funcs[ctx.fid 500]? = some Try.f152 := by
  have e : ctx.fid 500 = 152 := by kernel_rfl
  rw [e]; exact Try.func152
theorem at600 : ctx.P.funcs[ctx.fid 600]? = some Try.f192 := by
  have e : ctx.fid 600 = 192 := by kernel_rfl
  rw [e]; exact Try.func192
theorem at700 : ctx.P.funcs[ctx.fid 700]? = some Try.f180 := by
  have e : ctx.fid 700 = 180 := by kernel_rfl
  rw [e]; exact Try.func180
theorem at1000 : ctx.P.funcs[ctx.fid 1000]? = some Try.f193 := by
  have e : ctx.fid 1000 = 193 := by kernel_rfl
  rw [e]; exact Try.func193
theorem at1100 : ctx.P.funcs[ctx.fid 1100]? = some Try.f181 := by
  have e : ctx.fid 1100 = 181 := by kernel_rfl
  rw [e]; exact Try.func181
theorem at1200 : ctx.P.funcs[ctx.fid 1200]? = some Try.f163 := by
  have e : ctx.fid 1200 = 163 := by kernel_rfl
  rw [e]; exact Try.func163
theorem at1600 : ctx.P.funcs[ctx.fid 1600]? = some Try.f63 := by
  have e : ctx.fid 1600 = 63 := by kernel_rfl
  rw [e]; exact Try.func63
theorem at1700 : ctx.P.funcs[ctx.fid 1700]? = some Try.f187 := by
  have e : ctx.fid 1700 = 187 := by kernel_rfl
  rw [e]; exact Try.func187
theorem at1800 : ctx.P.funcs[ctx.fid 1800]? = some Try.f183 := by
  have e : ctx.fid 1800 = 183 := by kernel_rfl
  rw [e]; exact Try.func183
theorem at1900 : ctx.P.funcs[ctx.fid 1900]? = some Try.f167 := by
  have e : ctx.fid 1900 = 167 := by kernel_rfl
  rw [e]; exact Try.func167
theorem at4000 : ctx.P.funcs[ctx.fid 4000]? = some Try.f138 := by
  have e : ctx.fid 4000 = 138 := by kernel_rfl
  rw [e]; exact Try.func138
theorem at4100 : ctx.P.funcs[ctx.fid 4100]? = some Try.f177 := by
  have e : ctx.fid 4100 = 177 := by kernel_rfl
  rw [e]; exact Try.func177
theorem at4200 : ctx.P.funcs[ctx.fid 4200]? = some Try.f176 := by
  have e : ctx.fid 4200 = 176 := by kernel_rfl
  rw [e]; exact Try.func176
theorem at4300 : ctx.P.funcs[ctx.fid 4300]? = some Try.f178 := by
  have e : ctx.fid 4300 = 178 := by kernel_rfl
  rw [e]; exact Try.func178
theorem at4400 : ctx.P.funcs[ctx.fid 4400]? = some Try.f179 := by
  have e : ctx.fid 4400 = 179 := by kernel_rfl
  rw [e]; exact Try.func179
theorem at4500 : ctx.P.funcs[ctx.fid 4500]? = some Try.f161 := by
  have e : ctx.fid 4500 = 161 := by kernel_rfl
  rw [e]; exact Try.func161
theorem at4600 : ctx.P.funcs[ctx.fid 4600]? = some Try.f149 := by
  have e : ctx.fid 4600 = 149 := by kernel_rfl
  rw [e]; exact Try.func149
theorem at5000 : ctx.P.funcs[ctx.fid 5000]? = some Try.f140 := by
  have e : ctx.fid 5000 = 140 := by kernel_rfl
  rw [e]; exact Try.func140
theorem at5100 : ctx.P.funcs[ctx.fid 5100]? = some Try.f113 := by
  have e : ctx.fid 5100 = 113 := by kernel_rfl
  rw [e]; exact Try.func113
theorem at5200 : ctx.P.funcs[ctx.fid 5200]? = some Try.f150 := by
  have e : ctx.fid 5200 = 150 := by kernel_rfl
  rw [e]; exact Try.func150
theorem at5300 : ctx.P.funcs[ctx.fid 5300]? = some Try.f136 := by
  have e : ctx.fid 5300 = 136 := by kernel_rfl
  rw [e]; exact Try.func136
theorem at5400 : ctx.P.funcs[ctx.fid 5400]? = some Try.f106 := by
  have e : ctx.fid 5400 = 106 := by kernel_rfl
  rw [e]; exact Try.func106
theorem at5500 : ctx.P.funcs[ctx.fid 5500]? = some Try.f59 := by
  have e : ctx.fid 5500 = 59 := by kernel_rfl
  rw [e]; exact Try.func59
theorem at5700 : ctx.P.funcs[ctx.fid 5700]? = some Try.f165 := by
  have e : ctx.fid 5700 = 165 := by kernel_rfl
  rw [e]; exact Try.func165
theorem at5800 : ctx.P.funcs[ctx.fid 5800]? = some Try.f166 := by
  have e : ctx.fid 5800 = 166 := by kernel_rfl
  rw [e]; exact Try.func166
theorem at5900 : ctx.P.funcs[ctx.fid 5900]? = some Try.f182 := by
  have e : ctx.fid 5900 = 182 := by kernel_rfl
  rw [e]; exact Try.func182
theorem at6000 : ctx.P.funcs[ctx.fid 6000]? = some Try.f164 := by
  have e : ctx.fid 6000 = 164 := by kernel_rfl
  rw [e]; exact Try.func164
theorem at6100 : ctx.P.funcs[ctx.fid 6100]? = some Try.f151 := by
  have e : ctx.fid 6100 = 151 := by kernel_rfl
  rw [e]; exact Try.func151
theorem at6200 : ctx.P.funcs[ctx.fid 6200]? = some Try.f137 := by
  have e : ctx.fid 6200 = 137 := by kernel_rfl
  rw [e]; exact Try.func137
theorem at6300 : ctx.P.funcs[ctx.fid 6300]? = some Try.f108 := by
  have e : ctx.fid 6300 = 108 := by kernel_rfl
  rw [e]; exact Try.func108
theorem at8700 : ctx.P.funcs[ctx.fid 8700]? = some Try.f134 := by
  have e : ctx.fid 8700 = 134 := by kernel_rfl
  rw [e]; exact Try.func134
theorem at9000 : ctx.P.funcs[ctx.fid 9000]? = some Try.f54 := by
  have e : ctx.fid 9000 = 54 := by kernel_rfl
  rw [e]; exact Try.func54
theorem at9100 : ctx.P.funcs[ctx.fid 9100]? = some Try.f111 := by
  have e : ctx.fid 9100 = 111 := by kernel_rfl
  rw [e]; exact Try.func111
theorem at9200 : ctx.P.funcs[ctx.fid 9200]? = some Try.f55 := by
  have e : ctx.fid 9200 = 55 := by kernel_rfl
  rw [e]; exact Try.func55
theorem at9300 : ctx.P.funcs[ctx.fid 9300]? = some Try.f15 := by
  have e : ctx.fid 9300 = 15 := by kernel_rfl
  rw [e]; exact Try.func15
theorem at9400 : ctx.P.funcs[ctx.fid 9400]? = some Try.f139 := by
  have e : ctx.fid 9400 = 139 := by kernel_rfl
  rw [e]; exact Try.func139
theorem at9500 : ctx.P.funcs[ctx.fid 9500]? = some Try.f109 := by
  have e : ctx.fid 9500 = 109 := by kernel_rfl
  rw [e]; exact Try.func109
theorem at9600 : ctx.P.funcs[ctx.fid 9600]? = some Try.f52 := by
  have e : ctx.fid 9600 = 52 := by kernel_rfl
  rw [e]; exact Try.func52
theorem at9700 : ctx.P.funcs[ctx.fid 9700]? = some Try.f30 := by
  have e : ctx.fid 9700 = 30 := by kernel_rfl
  rw [e]; exact Try.func30
theorem at9800 : ctx.P.funcs[ctx.fid 9800]? = some Try.f112 := by
  have e : ctx.fid 9800 = 112 := by kernel_rfl
  rw [e]; exact Try.func112
theorem at9900 : ctx.P.funcs[ctx.fid 9900]? = some Try.f56 := by
  have e : ctx.fid 9900 = 56 := by kernel_rfl
  rw [e]; exact Try.func56
theorem at10000 : ctx.P.funcs[ctx.fid 10000]? = some Try.f16 := by
  have e : ctx.fid 10000 = 16 := by kernel_rfl
  rw [e]; exact Try.func16
theorem at11100 : ctx.P.funcs[ctx.fid 11100]? = some Try.f162 := by
  have e : ctx.fid 11100 = 162 := by kernel_rfl
  rw [e]; exact Try.func162
theorem at17600 : ctx.P.funcs[ctx.fid 17600]? = some Try.f114 := by
  have e : ctx.fid 17600 = 114 := by kernel_rfl
  rw [e]; exact Try.func114
theorem at18000 : ctx.P.funcs[ctx.fid 18000]? = some Try.f110 := by
  have e : ctx.fid 18000 = 110 := by kernel_rfl
  rw [e]; exact Try.func110
theorem at22500 : ctx.P.funcs[ctx.fid 22500]? = some Try.f46 := by
  have e : ctx.fid 22500 = 46 := by kernel_rfl
  rw [e]; exact Try.func46
theorem at22600 : ctx.P.funcs[ctx.fid 22600]? = some Try.f11 := by
  have e : ctx.fid 22600 = 11 := by kernel_rfl
  rw [e]; exact Try.func11
theorem at22700 : ctx.P.funcs[ctx.fid 22700]? = some Try.f105 := by
  have e : ctx.fid 22700 = 105 := by kernel_rfl
  rw [e]; exact Try.func105
theorem at22800 : ctx.P.funcs[ctx.fid 22800]? = some Try.f48 := by
  have e : ctx.fid 22800 = 48 := by kernel_rfl
  rw [e]; exact Try.func48
theorem at22900 : ctx.P.funcs[ctx.fid 22900]? = some Try.f49 := by
  have e : ctx.fid 22900 = 49 := by kernel_rfl
  rw [e]; exact Try.func49
theorem at23000 : ctx.P.funcs[ctx.fid 23000]? = some Try.f12 := by
  have e : ctx.fid 23000 = 12 := by kernel_rfl
  rw [e]; exact Try.func12
theorem at23100 : ctx.P.funcs[ctx.fid 23100]? = some Try.f66 := by
  have e : ctx.fid 23100 = 66 := by kernel_rfl
  rw [e]; exact Try.func66
theorem at23200 : ctx.P.funcs[ctx.fid 23200]? = some Try.f107 := by
  have e : ctx.fid 23200 = 107 := by kernel_rfl
  rw [e]; exact Try.func107
theorem at23300 : ctx.P.funcs[ctx.fid 23300]? = some Try.f50 := by
  have e : ctx.fid 23300 = 50 := by kernel_rfl
  rw [e]; exact Try.func50
theorem at23400 : ctx.P.funcs[ctx.fid 23400]? = some Try.f51 := by
  have e : ctx.fid 23400 = 51 := by kernel_rfl
  rw [e]; exact Try.func51
theorem at23500 : ctx.P.funcs[ctx.fid 23500]? = some Try.f13 := by
  have e : ctx.fid 23500 = 13 := by kernel_rfl
  rw [e]; exact Try.func13
theorem at23600 : ctx.P.funcs[ctx.fid 23600]? = some Try.f53 := by
  have e : ctx.fid 23600 = 53 := by kernel_rfl
  rw [e]; exact Try.func53
theorem at23700 : ctx.P.funcs[ctx.fid 23700]? = some Try.f14 := by
  have e : ctx.fid 23700 = 14 := by kernel_rfl
  rw [e]; exact Try.func14
theorem at23800 : ctx.P.funcs[ctx.fid 23800]? = some Try.f57 := by
  have e : ctx.fid 23800 = 57 := by kernel_rfl
  rw [e]; exact Try.func57
theorem at23900 : ctx.P.funcs[ctx.fid 23900]? = some Try.f58 := by
  have e : ctx.fid 23900 = 58 := by kernel_rfl
  rw [e]; exact Try.func58
theorem at24000 : ctx.P.funcs[ctx.fid 24000]? = some Try.f17 := by
  have e : ctx.fid 24000 = 17 := by kernel_rfl
  rw [e]; exact Try.func17
theorem at24100 : ctx.P.funcs[ctx.fid 24100]? = some Try.f3 := by
  have e : ctx.fid 24100 = 3 := by kernel_rfl
  rw [e]; exact Try.func3
theorem at38000 : ctx.P.funcs[ctx.fid 38000]? = some Try.f133 := by
  have e : ctx.fid 38000 = 133 := by kernel_rfl
  rw [e]; exact Try.func133
theorem at38100 : ctx.P.funcs[ctx.fid 38100]? = some Try.f149 := by
  have e : ctx.fid 38100 = 149 := by kernel_rfl
  rw [e]; exact Try.func149
theorem at39900 : ctx.P.funcs[ctx.fid 39900]? = some Try.f103 := by
  have e : ctx.fid 39900 = 103 := by kernel_rfl
  rw [e]; exact Try.func103
theorem at40200 : ctx.P.funcs[ctx.fid 40200]? = some Try.f132 := by
  have e : ctx.fid 40200 = 132 := by kernel_rfl
  rw [e]; exact Try.func132
theorem laid : Laid ctx (FA Tb) := by
  refine laidT (l := tab) (by kernel_rfl) ?_
  have e : tab.map (fun x => (x.1, x.2.er)) = [(100, p100.er), (200, p200.er), (300, p300.er), (400, p400.er), (500, p500.er), (600, p600.er), (700, p700.er), (1000, p1000.er), (1100, p1100.er), (1200, p1200.er), (1600, p1600.er), (1700, p1700.er), (1800, p1800.er), (1900, p1900.er), (4000, p4000.er), (4001, p4001.er), (4100, p4100.er), (4200, p4200.er), (4300, p4300.er), (4400, p4400.er), (4500, p4500.er), (4600, p4600.er), (4601, p4601.er), (5000, p5000.er), (5100, p5100.er), (5101, p5101.er), (5200, p5200.er), (5300, p5300.er), (5301, p5301.er), (5400, p5400.er), (5500, p5500.er), (5501, p5501.er), (5700, p5700.er), (5800, p5800.er), (5900, p5900.er), (6000, p6000.er), (6100, p6100.er), (6200, p6200.er), (6201, p6201.er), (6300, p6300.er), (8700, p8700.er), (9000, p9000.er), (9100, p9100.er), (9101, p9101.er), (9200, p9200.er), (9201, p9201.er), (9300, p9300.er), (9400, p9400.er), (9500, p9500.er), (9501, p9501.er), (9600, p9600.er), (9700, p9700.er), (9701, p9701.er), (9800, p9800.er), (9801, p9801.er), (9900, p9900.er), (9901, p9901.er), (10000, p10000.er), (11100, p11100.er), (17600, p17600.er), (18000, p18000.er), (22500, p22500.er), (22600, p22600.er), (22700, p22700.er), (22701, p22701.er), (22800, p22800.er), (22801, p22801.er), (22900, p22900.er), (22901, p22901.er), (23000, p23000.er), (23001, p23001.er), (23100, p23100.er), (23101, p23101.er), (23200, p23200.er), (23201, p23201.er), (23300, p23300.er), (23301, p23301.er), (23400, p23400.er), (23401, p23401.er), (23500, p23500.er), (23501, p23501.er), (23600, p23600.er), (23601, p23601.er), (23700, p23700.er), (23701, p23701.er), (23800, p23800.er), (23900, p23900.er), (23901, p23901.er), (24000, p24000.er), (24001, p24001.er), (24100, p24100.er), (24101, p24101.er), (24102, p24102.er), (38000, p38000.er), (38001, p38001.er), (38100, p38100.er), (38101, p38101.er), (39900, p39900.er), (39901, p39901.er), (40200, p40200.er), (40201, p40201.er)] := by kernel_rfl
  rw [e]
  exact ⟨fun _ => okFn_spec at100 ok100, ⟨fun _ => okFn_spec at200 ok200, ⟨fun _ => okFn_spec at300 ok300, ⟨fun _ => okFn_spec at400 ok400, ⟨fun _ => okFn_spec at500 ok500, ⟨fun _ => okFn_spec at600 ok600, ⟨fun _ => okFn_spec at700 ok700, ⟨fun _ => okFn_spec at1000 ok1000, ⟨fun _ => okFn_spec at1100 ok1100, ⟨fun _ => okFn_spec at1200 ok1200, ⟨fun _ => okFn_spec at1600 ok1600, ⟨fun _ => okFn_spec at1700 ok1700, ⟨fun _ => okFn_spec at1800 ok1800, ⟨fun _ => okFn_spec at1900 ok1900, ⟨fun _ => okFn_spec at4000 ok4000, ⟨fun h => absurd h (by decide), ⟨fun _ => okFn_spec at4100 ok4100, ⟨fun _ => okFn_spec at4200 ok4200, ⟨fun _ => okFn_spec at4300 ok4300, ⟨fun _ => okFn_spec at4400 ok4400, ⟨fun _ => okFn_spec at4500 ok4500, ⟨fun _ => okFn_spec at4600 ok4600, ⟨fun h => absurd h (by decide), ⟨fun _ => okFn_spec at5000 ok5000, ⟨fun _ => okFn_spec at5100 ok5100, ⟨fun h => absurd h (by decide), ⟨fun _ => okFn_spec at5200 ok5200, ⟨fun _ => okFn_spec at5300 ok5300, ⟨fun h => absurd h (by decide), ⟨fun _ => okFn_spec at5400 ok5400, ⟨fun _ => okFn_spec at5500 ok5500, ⟨fun h => absurd h (by decide), ⟨fun _ => okFn_spec at5700 ok5700, ⟨fun _ => okFn_spec at5800 ok5800, ⟨fun _ => okFn_spec at5900 ok5900, ⟨fun _ => okFn_spec at6000 ok6000, ⟨fun _ => okFn_spec at6100 ok6100, ⟨fun _ => okFn_spec at6200 ok6200, ⟨fun h => absurd h (by decide), ⟨fun _ => okFn_spec at6300 ok6300, ⟨fun _ => okFn_spec at8700 ok8700, ⟨fun _ => okFn_spec at9000 ok9000, ⟨fun _ => okFn_spec at9100 ok9100, ⟨fun h => absurd h (by decide), ⟨fun _ => okFn_spec at9200 ok9200, ⟨fun h => absurd h (by decide), ⟨fun _ => okFn_spec at9300 ok9300, ⟨fun _ => okFn_spec at9400 ok9400, ⟨fun _ => okFn_spec at9500 ok9500, ⟨fun h => absurd h (by decide), ⟨fun _ => okFn_spec at9600 ok9600, ⟨fun _ => okFn_spec at9700 ok9700, ⟨fun h => absurd h (by decide), ⟨fun _ => okFn_spec at9800 ok9800, ⟨fun h => absurd h (by decide), ⟨fun _ => okFn_spec at9900 ok9900, ⟨fun h => absurd h (by decide), ⟨fun _ => okFn_spec at10000 ok10000, ⟨fun _ => okFn_spec at11100 ok11100, ⟨fun _ => okFn_spec at17600 ok17600, ⟨fun _ => okFn_spec at18000 ok18000, ⟨fun _ => okFn_spec at22500 ok22500, ⟨fun _ => okFn_spec at22600 ok22600, ⟨fun _ => okFn_spec at22700 ok22700, ⟨fun h => absurd h (by decide), ⟨fun _ => okFn_spec at22800 ok22800, ⟨fun h => absurd h (by decide), ⟨fun _ => okFn_spec at22900 ok22900, ⟨fun h => absurd h (by decide), ⟨fun _ => okFn_spec at23000 ok23000, ⟨fun h => absurd h (by decide), ⟨fun _ => okFn_spec at23100 ok23100, ⟨fun h => absurd h (by decide), ⟨fun _ => okFn_spec at23200 ok23200, ⟨fun h => absurd h (by decide), ⟨fun _ => okFn_spec at23300 ok23300, ⟨fun h => absurd h (by decide), ⟨fun _ => okFn_spec at23400 ok23400, ⟨fun h => absurd h (by decide), ⟨fun _ => okFn_spec at23500 ok23500, ⟨fun h => absurd h (by decide), ⟨fun _ => okFn_spec at23600 ok23600, ⟨fun h => absurd h (by decide), ⟨fun _ => okFn_spec at23700 ok23700, ⟨fun h => absurd h (by decide), ⟨fun _ => okFn_spec at23800 ok23800, ⟨fun _ => okFn_spec at23900 ok23900, ⟨fun h => absurd h (by decide), ⟨fun _ => okFn_spec at24000 ok24000, ⟨fun h => absurd h (by decide), ⟨fun _ => okFn_spec at24100 ok24100, ⟨fun h => absurd h (by decide), ⟨fun h => absurd h (by decide), ⟨fun _ => okFn_spec at38000 ok38000, ⟨fun h => absurd h (by decide), ⟨fun _ => okFn_spec at38100 ok38100, ⟨fun h => absurd h (by decide), ⟨fun _ => okFn_spec at39900 ok39900, ⟨fun h => absurd h (by decide), ⟨fun _ => okFn_spec at40200 ok40200, ⟨fun h => absurd h (by decide), trivial⟩⟩⟩⟩⟩⟩⟩⟩⟩⟩⟩⟩⟩⟩⟩⟩⟩⟩⟩⟩⟩⟩⟩⟩⟩⟩⟩⟩⟩⟩⟩⟩⟩⟩⟩⟩⟩⟩⟩⟩⟩⟩⟩⟩⟩⟩⟩⟩⟩⟩⟩⟩⟩⟩⟩⟩⟩⟩⟩⟩⟩⟩⟩⟩⟩⟩⟩⟩⟩⟩⟩⟩⟩⟩⟩⟩⟩⟩⟩⟩⟩⟩⟩⟩⟩⟩⟩⟩⟩⟩⟩⟩⟩⟩⟩⟩⟩⟩⟩⟩⟩
theorem gok {W : World} : GOk ctx (memOf W) := by
  intro i
  show RepL ctx.fid (memOf W) (GA GT i) _
  simp [GA, GT, toAVs, RepL]
set_option maxRecDepth 100000 in
theorem lifted (os : Os) (started : os.Started) (H : Type) (enc : TypeId × Value → H) :
    ReturnsInHanded {} Try.checked os 3 .any (Rows.fnWorldNewSpec.pre6 enc Try.prog Try.f3 Rows.fnWorldNewRow.domain false) (Rows.fnWorldNewSpec.post enc Try.prog Try.f3 false true false false) := by
  refine returnsInHanded_of_change_sized (C := Try.checked) own started (by kernel_rfl) Try.func3
    (ChangeSpec.witness6 (enc := enc) (C := Try.checked) false ⟨#[], #[.slice none 0 0], []⟩ 8 (by kernel_rfl) (by kernel_rfl) (by kernel_rfl) (by kernel_rfl)) ?_
  intro W base args ds gs before hval0 hW hcnd hsz0 _
  have hval : ∀ (j : Nat) t v, Try.f3.params[j]? = some t → args[j]? = some v → Value.okWide Try.prog W .any base t v := hval0
  have hW' := hW
  obtain ⟨p, q, hA0, hV, rfl, hfz, hnd⟩ := hW
  have hA : DataW.TrodAll enc Try.prog W 0 (fun _ => true) true Try.f3.params.toList args.toList ds p := hA0
  have hV' := hV
  rw [Try.params3] at hA hval
  obtain ⟨v0, vs0, d0, ds0, p0, q0, hargs, rfl, rfl, h0, r0⟩ := trodAll_cons hA
  obtain ⟨rfl, rfl, rfl⟩ := trodAll_nil r0
  obtain rfl : args = #[v0] := by cases args; simp_all
  obtain ⟨rfl, rfl⟩ := trodVars_none hV
  have k0 := h0
  have lt0 : ∀ x ∈ p0, x.block < W.heap.size := by obtain ⟨m, hm⟩ := k0; exact DataW.trod_lt m _ _ _ hm
  obtain ⟨a0, y0, w0⟩ := arg_bytes (fid := ctx.fid) Try.underlying22 (by kernel_rfl) (hval 0 22 v0 rfl rfl) h0
  have hE : callTy Tb GT boolSig 24100 [.sl .share .u8 a0] [] = some true := Go.TFnWorldNew.laws_FnWorldNew_eq a0 w0
  have hrun := law_top (C := ctx) laid rfl (g := 24100) (by decide) (args := #[v0]) gok (fun _ h => by cases h) rfl (by
    intro i c v hc hv
    match i, hc, hv with
    | 0, hc, hv => simp at hc hv; subst hc hv; exact y0
    | i + 1, hc, _ => simp at hc) hE
  have efid : ctx.fid 24100 = 3 := by kernel_rfl
  rw [efid] at hrun
  refine hrun.mono fun e W' ⟨he, bel⟩ => ?_
  subst he
  exact ⟨_, rfl, _, _, _, [], _, [], hW', trodAll_mk1 (shut_bool Try.underlying4 _), (trodAll_cons_mk (Below.trod laidOut (by kernel_rfl) (of_decide_eq_true (by kernel_rfl)) k0 bel lt0) trodAll_mk0), rfl, bel.frame _, fun h => by cases h⟩
theorem over : Rows.fnWorldNewRow.holds Try.pinned (OpenSpec.ofChange Rows.fnWorldNewSpec) :=
  OpenClaim.holds_of_wide 3 Try.f3 rfl rfl rfl rfl rfl rfl rfl ⟨rfl, rfl, rfl, rfl, rfl⟩ rfl rfl rfl rfl rfl (by kernel_rfl) Try.func3 (by kernel_rfl)
    (of_decide_eq_true (by kernel_rfl)) (by unfold Func.isWrapper; first | (rw [if_pos (by decide +kernel)]; kernel_rfl) | (rw [if_neg (by decide +kernel)]; exact ⟨rfl, rfl⟩))
    (fun os started H enc _ => lifted os started H enc)
end Go.Proofs.Ytpkgdoapdijmeaa.fnWorldNew
namespace Go.Proofs.Ytpkgdoapdijmeaa
/-- The row. -/
theorem fnWorldNew_holds : Rows.FnWorldNewSaid := fnWorldNew.over
#print axioms fnWorldNew_holds
end Go.Proofs.Ytpkgdoapdijmeaa
