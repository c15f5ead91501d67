/- The statement FnExactProgramFrom is proved: the law answers true whatever the input; under no condition but that the listed variables hold what the program's text lays, which the card ties. -/
import Derived.Test.YthmemaednlaanaaGreatDoorRows
import Derived.Test.YthmemaednlaanaaGreatDoorTie
import Derived.Test.YthmemaednlaanaaGreatDoorCards
import Derived.Test.YthmemaednlaanaaGreatDoorFFnExactProgramFrom
import Derived.Test.YthmemaednlaanaaGreatDoorTvRow
import Derived.KernelRfl
import Derived.SevenTiedAt
import Derived.Test.YthmemaednlaanaaGreatDoorTvRow4
import Derived.Test.YthmemaednlaanaaGreatDoorShelf
import Derived.Test.YthmemaednlaanaaGreatDoorPm1
import Derived.Test.YthmemaednlaanaaGreatDoorPm3
namespace Go.Proofs.YthmemaednlaanaaGreatDoor.fnExactProgramFrom
open Go Go.Vs Go.Tv Go.ChangeShapes Go.WideShapes Go.ChangeAt Go.RowKit Go.TFnExactProgramFrom
open Go.ChangeMaps (open_string shut_string)
set_option linter.unusedVariables false
theorem own : ownKnob Tryz.prog.godebug = none := by kernel_rfl
theorem laidOut : laidOutB Tryz.prog = true := by kernel_rfl
def fids : List (Nat × Nat) := [(300, 94), (500, 134), (1000, 151), (1100, 164), (1200, 144), (1600, 51), (1700, 154), (1800, 161), (1900, 138), (4000, 82), (5200, 117), (5300, 90), (5400, 61), (5700, 136), (5800, 137), (5900, 160), (6000, 135), (6100, 106), (6200, 81), (6300, 52), (8000, 145), (8100, 118), (8200, 91), (8300, 62), (8400, 27), (10600, 31), (10700, 93), (10800, 64), (11100, 143), (20700, 130), (22700, 60), (22800, 26), (23100, 53), (23200, 50), (23300, 20), (28800, 28), (28900, 8), (31800, 46), (31900, 76), (32000, 77), (32100, 47), (32200, 16), (32300, 48), (32400, 102), (32500, 80), (32600, 132), (32700, 127), (32800, 133), (32900, 105), (33100, 57), (33200, 83), (33300, 54), (33400, 21), (33500, 55), (33600, 22), (33700, 24), (33800, 56), (33900, 23), (34000, 89), (34100, 114), (34200, 115), (34300, 116), (34400, 88), (37500, 84), (37600, 85), (37700, 58), (38700, 29), (40900, 63), (41300, 92), (42100, 9), (42900, 30), (43800, 88), (43900, 114), (44000, 3), (44300, 6), (44400, 7), (44500, 7), (44600, 10), (45200, 17), (45300, 18), (45400, 19), (45500, 25), (45600, 25), (45700, 32), (46000, 49), (46100, 59), (46200, 59), (46500, 78), (46600, 79)]
noncomputable def ctx : Ctx := { P := Tryz.prog, fid := fun g => (Vs.look g fids).getD 0, gm := fun i => if i = 0 then 2 else 1000000, G := GA GT, fx := [(3, powFx)] }
def oF (p : ProcT) (f : Func) : Prop := okFn ctx (FA Tb) 8 p.er f = true
theorem aL {g n : Nat} {f : Func} (e : ctx.fid g = n) (h : Tryz.prog.funcs[n]? = some f) : ctx.P.funcs[ctx.fid g]? = some f := by rw [e]; exact h
theorem ok300 : oF p300 Tryz.f94 := by unfold oF; kernel_rfl
theorem ok500 : oF p500 Tryz.f134 := by unfold oF; kernel_rfl
theorem ok1000 : oF p1000 Tryz.f151 := by unfold oF; kernel_rfl
theorem ok1100 : oF p1100 Tryz.f164 := by unfold oF; kernel_rfl
theorem ok1200 : oF p1200 Tryz.f144 := by unfold oF; kernel_rfl
theorem ok1600 : oF p1600 Tryz.f51 := by unfold oF; kernel_rfl
theorem ok1700 : oF p1700 Tryz.f154 := by unfold oF; kernel_rfl
theorem ok1800 : oF p1800 Tryz.f161 := by unfold oF; kernel_rfl
theorem ok1900 : oF p1900 Tryz.f138 := by unfold oF; kernel_rfl
theorem ok4000 : oF p4000 Tryz.f82 := by unfold oF; kernel_rfl
theorem ok5200 : oF p5200 Tryz.f117 := by unfold oF; kernel_rfl
theorem ok5300 : oF p5300 Tryz.f90 := by unfold oF; kernel_rfl
theorem ok5400 : oF p5400 Tryz.f61 := by unfold oF; kernel_rfl
theorem ok5700 : oF p5700 Tryz.f136 := by unfold oF; kernel_rfl
theorem ok5800 : oF p5800 Tryz.f137 := by unfold oF; kernel_rfl
theorem ok5900 : oF p5900 Tryz.f160 := by unfold oF; kernel_rfl
theorem ok6000 : oF p6000 Tryz.f135 := by unfold oF; kernel_rfl
theorem ok6100 : oF p6100 Tryz.f106 := by unfold oF; kernel_rfl
theorem ok6200 : oF p6200 Tryz.f81 := by unfold oF; kernel_rfl
theorem ok6300 : oF p6300 Tryz.f52 := by unfold oF; kernel_rfl
theorem ok8000 : oF p8000 Tryz.f145 := by unfold oF; kernel_rfl
theorem ok8100 : oF p8100 Tryz.f118 := by unfold oF; kernel_rfl
theorem ok8200 : oF p8200 Tryz.f91 := by unfold oF; kernel_rfl
theorem ok8300 : oF p8300 Tryz.f62 := by unfold oF; kernel_rfl
theorem ok8400 : oF p8400 Tryz.f27 := by unfold oF; kernel_rfl
theorem ok10600 : oF p10600 Tryz.f31 := by unfold oF; kernel_rfl
theorem ok10700 : oF p10700 Tryz.f93 := by unfold oF; kernel_rfl
theorem ok10800 : oF p10800 Tryz.f64 := by unfold oF; kernel_rfl
theorem ok11100 : oF p11100 Tryz.f143 := by unfold oF; kernel_rfl
theorem ok20700 : oF p20700 Tryz.f130 := by unfold oF; kernel_rfl
theorem ok22700 : oF p22700 Tryz.f60 := by unfold oF; kernel_rfl
theorem ok22800 : oF p22800 Tryz.f26 := by unfold oF; kernel_rfl
theorem ok23100 : oF p23100 Tryz.f53 := by unfold oF; kernel_rfl
theorem ok23200 : oF p23200 Tryz.f50 := by unfold oF; kernel_rfl
theorem ok23300 : oF p23300 Tryz.f20 := by unfold oF; kernel_rfl
theorem ok28800 : oF p28800 Tryz.f28 := by unfold oF; kernel_rfl
theorem ok28900 : oF p28900 Tryz.f8 := by unfold oF; kernel_rfl
theorem ok31800 : oF p31800 Tryz.f46 := by unfold oF; kernel_rfl
theorem ok31900 : oF p31900 Tryz.f76 := by unfold oF; kernel_rfl
theorem ok32000 : oF p32000 Tryz.f77 := by unfold oF; kernel_rfl
theorem ok32100 : oF p32100 Tryz.f47 := by unfold oF; kernel_rfl
theorem ok32200 : oF p32200 Tryz.f16 := by unfold oF; kernel_rfl
theorem ok32300 : oF p32300 Tryz.f48 := by unfold oF; kernel_rfl
theorem ok32400 : oF p32400 Tryz.f102 := by unfold oF; kernel_rfl
theorem ok32500 : oF p32500 Tryz.f80 := by unfold oF; kernel_rfl
theorem ok32600 : oF p32600 Tryz.f132 := by unfold oF; kernel_rfl
theorem ok32700 : oF p32700 Tryz.f127 := by unfold oF; kernel_rfl
theorem ok32800 : oF p32800 Tryz.f133 := by unfold oF; kernel_rfl
theorem ok32900 : oF p32900 Tryz.f105 := by unfold oF; kernel_rfl
theorem ok33100 : oF p33100 Tryz.f57 := by unfold oF; kernel_rfl
theorem ok33200 : oF p33200 Tryz.f83 := by unfold oF; kernel_rfl
theorem ok33300 : oF p33300 Tryz.f54 := by unfold oF; kernel_rfl
theorem ok33400 : oF p33400 Tryz.f21 := by unfold oF; kernel_rfl
theorem ok33500 : oF p33500 Tryz.f55 := by unfold oF; kernel_rfl
theorem ok33600 : oF p33600 Tryz.f22 := by unfold oF; kernel_rfl
theorem ok33700 : oF p33700 Tryz.f24 := by unfold oF; kernel_rfl
theorem ok33800 : oF p33800 Tryz.f56 := by unfold oF; kernel_rfl
theorem ok33900 : oF p33900 Tryz.f23 := by unfold oF; kernel_rfl
theorem ok34000 : oF p34000 Tryz.f89 := by unfold oF; kernel_rfl
theorem ok34100 : oF p34100 Tryz.f114 := by unfold oF; kernel_rfl
theorem ok34200 : oF p34200 Tryz.f115 := by unfold oF; kernel_rfl
theorem ok34300 : oF p34300 Tryz.f116 := by unfold oF; kernel_rfl
theorem ok34400 : oF p34400 Tryz.f88 := by unfold oF; kernel_rfl
theorem ok38700 : oF p38700 Tryz.f29 := by unfold oF; kernel_rfl
theorem ok40900 : oF p40900 Tryz.f63 := by unfold oF; kernel_rfl
theorem ok41300 : oF p41300 Tryz.f92 := by unfold oF; kernel_rfl
theorem ok42100 : oF p42100 Tryz.f9 := by unfold oF; kernel_rfl
theorem ok42900 : oF p42900 Tryz.f30 := by unfold oF; kernel_rfl
theorem ok43800 : oF p43800 Tryz.f88 := by unfold oF; kernel_rfl
theorem ok43900 : oF p43900 Tryz.f114 := by unfold oF; kernel_rfl
theorem ok44000 : oF p44000 Tryz.f3 := by unfold oF; kernel_rfl
theorem ok44300 : oF p44300 Tryz.f6 := by unfold oF; kernel_rfl
theorem ok44400 : oF p44400 Tryz.f7 := by unfold oF; kernel_rfl
theorem ok44500 : oF p44500 Tryz.f7 := by unfold oF; kernel_rfl
theorem ok44600 : oF p44600 Tryz.f10 := by unfold oF; kernel_rfl
theorem ok45200 : oF p45200 Tryz.f17 := by unfold oF; kernel_rfl
theorem ok45300 : oF p45300 Tryz.f18 := by unfold oF; kernel_rfl
theorem ok45400 : oF p45400 Tryz.f19 := by unfold oF; kernel_rfl
theorem ok45500 : oF p45500 Tryz.f25 := by unfold oF; kernel_rfl
theorem ok45600 : oF p45600 Tryz.f25 := by unfold oF; kernel_rfl
theorem ok45700 : oF p45700 Tryz.f32 := by unfold oF; kernel_rfl
theorem ok46000 : oF p46000 Tryz.f49 := by unfold oF; kernel_rfl
theorem ok46100 : oF p46100 Tryz.f59 := by unfold oF; kernel_rfl
theorem ok46200 : oF p46200 Tryz.f59 := by unfold oF; kernel_rfl
theorem ok46500 : oF p46500 Tryz.f78 := by unfold oF; kernel_rfl
theorem ok46600 : oF p46600 Tryz.f79 := by unfold oF; kernel_rfl
theorem at37500 : ctx.P.funcs[ctx.fid 37500]? = some Tryz.f84 := by
 have e : ctx.fid 37500 = 84 := by kernel_rfl
 rw [e]; exact Tryz.func84
theorem at37600 : ctx.P.funcs[ctx.fid 37600]? = some Tryz.f85 := by
 have e : ctx.fid 37600 = 85 := by kernel_rfl
 rw [e]; exact Tryz.func85
theorem at37700 : ctx.P.funcs[ctx.fid 37700]? = some Tryz.f58 := by
 have e : ctx.fid 37700 = 58 := by kernel_rfl
 rw [e]; exact Tryz.func58
theorem prim37500 : Qgv ctx 37500 p37500.er := by
 have e : ctx.fid 37500 = 84 := by kernel_rfl
 refine prefix_prim ⟨⟨Tryz.f84, _, at37500, by kernel_rfl, rfl⟩⟩ ?_
 rw [e]
 exact fun s p w => Tryz.strings_HasPrefix s p w
theorem prim37600 : Qgv ctx 37600 p37600.er := by
 have e : ctx.fid 37600 = 85 := by kernel_rfl
 refine index_prim ⟨⟨Tryz.f85, _, at37600, by kernel_rfl, rfl⟩⟩ ?_
 rw [e]
 exact fun s c w => Tryz.strings_IndexByte s c w
theorem prim37700 : Qgv ctx 37700 p37700.er := by
 have e : ctx.fid 37700 = 58 := by kernel_rfl
 refine atoi_prim ⟨⟨Tryz.f58, _, at37700, by kernel_rfl, rfl⟩⟩ ?_
 rw [e]
 intro s n w h0 h1
 refine (Tryz.strconv_Atoi s n h0 h1 w).mono ?_
 rintro ed w' ⟨rfl, t, rfl⟩
 exact ⟨rfl, below_bytes w _ t⟩
theorem laid : Laid ctx (FA Tb) := by
 refine laidT (l := tab) (by kernel_rfl) ?_
 have e : tab.map (fun x => (x.1, x.2.er)) = [(300, p300.er), (500, p500.er), (1000, p1000.er), (1100, p1100.er), (1200, p1200.er), (1600, p1600.er), (1700, p1700.er), (1800, p1800.er), (1900, p1900.er), (4000, p4000.er), (4001, p4001.er), (5200, p5200.er), (5300, p5300.er), (5301, p5301.er), (5400, p5400.er), (5700, p5700.er), (5800, p5800.er), (5900, p5900.er), (6000, p6000.er), (6100, p6100.er), (6200, p6200.er), (6201, p6201.er), (6300, p6300.er), (8000, p8000.er), (8001, p8001.er), (8100, p8100.er), (8200, p8200.er), (8300, p8300.er), (8301, p8301.er), (8400, p8400.er), (8401, p8401.er), (10600, p10600.er), (10601, p10601.er), (10700, p10700.er), (10701, p10701.er), (10800, p10800.er), (10801, p10801.er), (11100, p11100.er), (20700, p20700.er), (22700, p22700.er), (22701, p22701.er), (22800, p22800.er), (22801, p22801.er), (23100, p23100.er), (23101, p23101.er), (23200, p23200.er), (23201, p23201.er), (23300, p23300.er), (23301, p23301.er), (28800, p28800.er), (28801, p28801.er), (28900, p28900.er), (31800, p31800.er), (31801, p31801.er), (31900, p31900.er), (31901, p31901.er), (32000, p32000.er), (32100, p32100.er), (32200, p32200.er), (32201, p32201.er), (32300, p32300.er), (32301, p32301.er), (32400, p32400.er), (32500, p32500.er), (32501, p32501.er), (32600, p32600.er), (32700, p32700.er), (32800, p32800.er), (32801, p32801.er), (32900, p32900.er), (32901, p32901.er), (33100, p33100.er), (33200, p33200.er), (33300, p33300.er), (33301, p33301.er), (33302, p33302.er), (33303, p33303.er), (33400, p33400.er), (33401, p33401.er), (33500, p33500.er), (33600, p33600.er), (33700, p33700.er), (33800, p33800.er), (33900, p33900.er), (34000, p34000.er), (34100, p34100.er), (34200, p34200.er), (34201, p34201.er), (34300, p34300.er), (34400, p34400.er), (34401, p34401.er), (37500, p37500.er), (37600, p37600.er), (37700, p37700.er), (38700, p38700.er), (38701, p38701.er), (40900, p40900.er), (40901, p40901.er), (41300, p41300.er), (41301, p41301.er), (42100, p42100.er), (42900, p42900.er), (42901, p42901.er), (43800, p43800.er), (43801, p43801.er), (43900, p43900.er), (44000, p44000.er), (44300, p44300.er), (44301, p44301.er), (44302, p44302.er), (44400, p44400.er), (44401, p44401.er), (44402, p44402.er), (44500, p44500.er), (44501, p44501.er), (44502, p44502.er), (44600, p44600.er), (45200, p45200.er), (45300, p45300.er), (45400, p45400.er), (45401, p45401.er), (45500, p45500.er), (45501, p45501.er), (45600, p45600.er), (45601, p45601.er), (45700, p45700.er), (45701, p45701.er), (46000, p46000.er), (46100, p46100.er), (46200, p46200.er), (46500, p46500.er), (46600, p46600.er)] := by kernel_rfl
 rw [e]
 exact ⟨fun _ => okFn_spec (aL (by kernel_rfl) Tryz.func94) ok300, ⟨fun _ => okFn_spec (aL (by kernel_rfl) Tryz.func134) ok500, ⟨fun _ => okFn_spec (aL (by kernel_rfl) Tryz.func151) ok1000, ⟨fun _ => okFn_spec (aL (by kernel_rfl) Tryz.func164) ok1100, ⟨fun _ => okFn_spec (aL (by kernel_rfl) Tryz.func144) ok1200, ⟨fun _ => okFn_spec (aL (by kernel_rfl) Tryz.func51) ok1600, ⟨fun _ => okFn_spec (aL (by kernel_rfl) Tryz.func154) ok1700, ⟨fun _ => okFn_spec (aL (by kernel_rfl) Tryz.func161) ok1800, ⟨fun _ => okFn_spec (aL (by kernel_rfl) Tryz.func138) ok1900, ⟨fun _ => okFn_spec (aL (by kernel_rfl) Tryz.func82) ok4000, ⟨fun h => absurd h (by decide), ⟨fun _ => okFn_spec (aL (by kernel_rfl) Tryz.func117) ok5200, ⟨fun _ => okFn_spec (aL (by kernel_rfl) Tryz.func90) ok5300, ⟨fun h => absurd h (by decide), ⟨fun _ => okFn_spec (aL (by kernel_rfl) Tryz.func61) ok5400, ⟨fun _ => okFn_spec (aL (by kernel_rfl) Tryz.func136) ok5700, ⟨fun _ => okFn_spec (aL (by kernel_rfl) Tryz.func137) ok5800, ⟨fun _ => okFn_spec (aL (by kernel_rfl) Tryz.func160) ok5900, ⟨fun _ => okFn_spec (aL (by kernel_rfl) Tryz.func135) ok6000, ⟨fun _ => okFn_spec (aL (by kernel_rfl) Tryz.func106) ok6100, ⟨fun _ => okFn_spec (aL (by kernel_rfl) Tryz.func81) ok6200, ⟨fun h => absurd h (by decide), ⟨fun _ => okFn_spec (aL (by kernel_rfl) Tryz.func52) ok6300, ⟨fun _ => okFn_spec (aL (by kernel_rfl) Tryz.func145) ok8000, ⟨fun h => absurd h (by decide), ⟨fun _ => okFn_spec (aL (by kernel_rfl) Tryz.func118) ok8100, ⟨fun _ => okFn_spec (aL (by kernel_rfl) Tryz.func91) ok8200, ⟨fun _ => okFn_spec (aL (by kernel_rfl) Tryz.func62) ok8300, ⟨fun h => absurd h (by decide), ⟨fun _ => okFn_spec (aL (by kernel_rfl) Tryz.func27) ok8400, ⟨fun h => absurd h (by decide), ⟨fun _ => okFn_spec (aL (by kernel_rfl) Tryz.func31) ok10600, ⟨fun h => absurd h (by decide), ⟨fun _ => okFn_spec (aL (by kernel_rfl) Tryz.func93) ok10700, ⟨fun h => absurd h (by decide), ⟨fun _ => okFn_spec (aL (by kernel_rfl) Tryz.func64) ok10800, ⟨fun h => absurd h (by decide), ⟨fun _ => okFn_spec (aL (by kernel_rfl) Tryz.func143) ok11100, ⟨fun _ => okFn_spec (aL (by kernel_rfl) Tryz.func130) ok20700, ⟨fun _ => okFn_spec (aL (by kernel_rfl) Tryz.func60) ok22700, ⟨fun h => absurd h (by decide), ⟨fun _ => okFn_spec (aL (by kernel_rfl) Tryz.func26) ok22800, ⟨fun h => absurd h (by decide), ⟨fun _ => okFn_spec (aL (by kernel_rfl) Tryz.func53) ok23100, ⟨fun h => absurd h (by decide), ⟨fun _ => okFn_spec (aL (by kernel_rfl) Tryz.func50) ok23200, ⟨fun h => absurd h (by decide), ⟨fun _ => okFn_spec (aL (by kernel_rfl) Tryz.func20) ok23300, ⟨fun h => absurd h (by decide), ⟨fun _ => okFn_spec (aL (by kernel_rfl) Tryz.func28) ok28800, ⟨fun h => absurd h (by decide), ⟨fun _ => okFn_spec (aL (by kernel_rfl) Tryz.func8) ok28900, ⟨fun _ => okFn_spec (aL (by kernel_rfl) Tryz.func46) ok31800, ⟨fun h => absurd h (by decide), ⟨fun _ => okFn_spec (aL (by kernel_rfl) Tryz.func76) ok31900, ⟨fun h => absurd h (by decide), ⟨fun _ => okFn_spec (aL (by kernel_rfl) Tryz.func77) ok32000, ⟨fun _ => okFn_spec (aL (by kernel_rfl) Tryz.func47) ok32100, ⟨fun _ => okFn_spec (aL (by kernel_rfl) Tryz.func16) ok32200, ⟨fun h => absurd h (by decide), ⟨fun _ => okFn_spec (aL (by kernel_rfl) Tryz.func48) ok32300, ⟨fun h => absurd h (by decide), ⟨fun _ => okFn_spec (aL (by kernel_rfl) Tryz.func102) ok32400, ⟨fun _ => okFn_spec (aL (by kernel_rfl) Tryz.func80) ok32500, ⟨fun h => absurd h (by decide), ⟨fun _ => okFn_spec (aL (by kernel_rfl) Tryz.func132) ok32600, ⟨fun _ => okFn_spec (aL (by kernel_rfl) Tryz.func127) ok32700, ⟨fun _ => okFn_spec (aL (by kernel_rfl) Tryz.func133) ok32800, ⟨fun h => absurd h (by decide), ⟨fun _ => okFn_spec (aL (by kernel_rfl) Tryz.func105) ok32900, ⟨fun h => absurd h (by decide), ⟨fun _ => okFn_spec (aL (by kernel_rfl) Tryz.func57) ok33100, ⟨fun _ => okFn_spec (aL (by kernel_rfl) Tryz.func83) ok33200, ⟨fun _ => okFn_spec (aL (by kernel_rfl) Tryz.func54) ok33300, ⟨fun h => absurd h (by decide), ⟨fun h => absurd h (by decide), ⟨fun h => absurd h (by decide), ⟨fun _ => okFn_spec (aL (by kernel_rfl) Tryz.func21) ok33400, ⟨fun h => absurd h (by decide), ⟨fun _ => okFn_spec (aL (by kernel_rfl) Tryz.func55) ok33500, ⟨fun _ => okFn_spec (aL (by kernel_rfl) Tryz.func22) ok33600, ⟨fun _ => okFn_spec (aL (by kernel_rfl) Tryz.func24) ok33700, ⟨fun _ => okFn_spec (aL (by kernel_rfl) Tryz.func56) ok33800, ⟨fun _ => okFn_spec (aL (by kernel_rfl) Tryz.func23) ok33900, ⟨fun _ => okFn_spec (aL (by kernel_rfl) Tryz.func89) ok34000, ⟨fun _ => okFn_spec (aL (by kernel_rfl) Tryz.func114) ok34100, ⟨fun _ => okFn_spec (aL (by kernel_rfl) Tryz.func115) ok34200, ⟨fun h => absurd h (by decide), ⟨fun _ => okFn_spec (aL (by kernel_rfl) Tryz.func116) ok34300, ⟨fun _ => okFn_spec (aL (by kernel_rfl) Tryz.func88) ok34400, ⟨fun h => absurd h (by decide), ⟨fun _ => .inr prim37500, ⟨fun _ => .inr prim37600, ⟨fun _ => .inr prim37700, ⟨fun _ => okFn_spec (aL (by kernel_rfl) Tryz.func29) ok38700, ⟨fun h => absurd h (by decide), ⟨fun _ => okFn_spec (aL (by kernel_rfl) Tryz.func63) ok40900, ⟨fun h => absurd h (by decide), ⟨fun _ => okFn_spec (aL (by kernel_rfl) Tryz.func92) ok41300, ⟨fun h => absurd h (by decide), ⟨fun _ => okFn_spec (aL (by kernel_rfl) Tryz.func9) ok42100, ⟨fun _ => okFn_spec (aL (by kernel_rfl) Tryz.func30) ok42900, ⟨fun h => absurd h (by decide), ⟨fun _ => okFn_spec (aL (by kernel_rfl) Tryz.func88) ok43800, ⟨fun h => absurd h (by decide), ⟨fun _ => okFn_spec (aL (by kernel_rfl) Tryz.func114) ok43900, ⟨fun _ => okFn_spec (aL (by kernel_rfl) Tryz.func3) ok44000, ⟨fun _ => okFn_spec (aL (by kernel_rfl) Tryz.func6) ok44300, ⟨fun h => absurd h (by decide), ⟨fun h => absurd h (by decide), ⟨fun _ => okFn_spec (aL (by kernel_rfl) Tryz.func7) ok44400, ⟨fun h => absurd h (by decide), ⟨fun h => absurd h (by decide), ⟨fun _ => okFn_spec (aL (by kernel_rfl) Tryz.func7) ok44500, ⟨fun h => absurd h (by decide), ⟨fun h => absurd h (by decide), ⟨fun _ => okFn_spec (aL (by kernel_rfl) Tryz.func10) ok44600, ⟨fun _ => okFn_spec (aL (by kernel_rfl) Tryz.func17) ok45200, ⟨fun _ => okFn_spec (aL (by kernel_rfl) Tryz.func18) ok45300, ⟨fun _ => okFn_spec (aL (by kernel_rfl) Tryz.func19) ok45400, ⟨fun h => absurd h (by decide), ⟨fun _ => okFn_spec (aL (by kernel_rfl) Tryz.func25) ok45500, ⟨fun h => absurd h (by decide), ⟨fun _ => okFn_spec (aL (by kernel_rfl) Tryz.func25) ok45600, ⟨fun h => absurd h (by decide), ⟨fun _ => okFn_spec (aL (by kernel_rfl) Tryz.func32) ok45700, ⟨fun h => absurd h (by decide), ⟨fun _ => okFn_spec (aL (by kernel_rfl) Tryz.func49) ok46000, ⟨fun _ => okFn_spec (aL (by kernel_rfl) Tryz.func59) ok46100, ⟨fun _ => okFn_spec (aL (by kernel_rfl) Tryz.func59) ok46200, ⟨fun _ => okFn_spec (aL (by kernel_rfl) Tryz.func78) ok46500, ⟨fun _ => okFn_spec (aL (by kernel_rfl) Tryz.func79) ok46600, trivial⟩⟩⟩⟩⟩⟩⟩⟩⟩⟩⟩⟩⟩⟩⟩⟩⟩⟩⟩⟩⟩⟩⟩⟩⟩⟩⟩⟩⟩⟩⟩⟩⟩⟩⟩⟩⟩⟩⟩⟩⟩⟩⟩⟩⟩⟩⟩⟩⟩⟩⟩⟩⟩⟩⟩⟩⟩⟩⟩⟩⟩⟩⟩⟩⟩⟩⟩⟩⟩⟩⟩⟩⟩⟩⟩⟩⟩⟩⟩⟩⟩⟩⟩⟩⟩⟩⟩⟩⟩⟩⟩⟩⟩⟩⟩⟩⟩⟩⟩⟩⟩⟩⟩⟩⟩⟩⟩⟩⟩⟩⟩⟩⟩⟩⟩⟩⟩⟩⟩⟩⟩⟩⟩⟩⟩⟩⟩⟩⟩⟩⟩⟩
def opS : List (List UInt8) := [[124], [94], [38], [61, 61], [60], [60, 60], [62, 62], [43], [45], [42], [47], [37]]
theorem gok {W : World} (h : laidMet Tryz.prog Rows.fnExactProgramFromRow.laid W) : GOk ctx (Qob W) := by
 have hc := laid_strs h (name := "loop.example/cothreads/impl.opTexts") (zs := opS) (by right; right; right; right; right; exact List.mem_cons_self ..) (g := 2) (by kernel_rfl) (by kernel_rfl) Tryz.underlying152 Tryz.underlying9 (by kernel_rfl) (by kernel_rfl)
 intro i
 by_cases hi : i = 0
 ·subst hi
  have e : ctx.G 0 = Qbt (opS.map TV.str) := by kernel_rfl
  have e2 : ctx.gm 0 = 2 := by kernel_rfl
  rw [e, e2]
  exact Qyp (zs := opS) fun j z hz => Qkx.2 ⟨hc j z hz, rfl⟩
 ·have e : ctx.G i = [] := by
   show GA GT i = []
   unfold GA GT; rw [if_neg hi]; rfl
  rw [e]; trivial
theorem fixed {W : World} (h : laidMet Tryz.prog Rows.fnExactProgramFromRow.laid W) : ∀ x ∈ ctx.fx, ∃ o, W.heap[x.1]? = some o ∧ x.2 o := by
 intro x hx
 obtain rfl := List.mem_singleton.1 hx
 have e : Rows.laid_internal_strconv_uint64pow10 = Lib.tabData (H := Unit) .u64 Lib.pow10Tab := by kernel_rfl
 exact laid_pow h (name := "internal/strconv.uint64pow10") (by rw [← e]; right; right; exact List.mem_cons_self ..) (g := 3) (by kernel_rfl) (by kernel_rfl) Tryz.underlying157 Tryz.underlying131 (by kernel_rfl) (by kernel_rfl)
set_option maxRecDepth 100000 in
theorem lifted (os : Os) (started : os.Started) (H : Type) (enc : TypeId × Value → H) :
  ReturnsInHanded {} Tryz.checked os 3 .any (fun w args => (Rows.fnExactProgramFromSpec.pre enc Tryz.prog Tryz.f3 Rows.fnExactProgramFromRow.domain false w args ∧ laidMetH Tryz.prog Rows.fnExactProgramFromRow.laid w) ∧ sizedMet enc Tryz.prog Tryz.f3 (OpenSpec.ofChange Rows.fnExactProgramFromSpec) false w args)
   (Rows.fnExactProgramFromSpec.post enc Tryz.prog Tryz.f3 false true false false) := by
 refine returnsInHanded_of_change_and (C := Tryz.checked) (X := fun w _ => laidMetH Tryz.prog Rows.fnExactProgramFromRow.laid w) (fun _ _ _ hh h => h.of_heap hh) own started (by kernel_rfl) Tryz.func3
  (ChangeSpec.witness_shaped (enc := enc) (C := Tryz.checked) (os := os) (X := fun w _ => laidMetH Tryz.prog Rows.fnExactProgramFromRow.laid w) false (World.laidAll Tryz.prog os Rows.fnExactProgramFromRow.laid) #[.string ⟨#[]⟩] 8 rfl (World.shaped_of_RefB (by kernel_rfl) (by kernel_rfl)) (by kernel_rfl) (by kernel_rfl) (by kernel_rfl)
   (by rw [MakeChecks.laidMetH_plain _ _ _ (by kernel_rfl)]; exact laidMet_laidAll _ (by kernel_rfl) (by kernel_rfl))) ?_
 intro W base args ds gs before hval0 hW _ _ hL0 _
 have hval : ∀ (j : Nat) t v, Tryz.f3.params[j]? = some t → args[j]? = some v → Value.okWide Tryz.prog W .any base t v := hval0
 have hL : laidMet Tryz.prog Rows.fnExactProgramFromRow.laid W := by rw [MakeChecks.laidMetH_plain _ _ _ (by kernel_rfl)] at hL0; exact hL0
 have hW' := hW
 obtain ⟨p, q, hA0, hV, rfl, hfz, hnd⟩ := hW
 have hA : DataW.TrodAll enc Tryz.prog W 0 (fun _ => true) true Tryz.f3.params.toList args.toList ds p := hA0
 have hV' := hV
 rw [Tryz.params3] at hA hval
 obtain ⟨v0, vs0, d0, ds0, p0, q0, hargs, rfl, rfl, h0, r0⟩ := trodAll_cons hA
 obtain ⟨rfl, rfl, rfl⟩ := trodAll_nil r0
 obtain rfl : args = #[v0] := by cases args; simp_all
 obtain ⟨g1, rfl⟩ : ∃ g1, gs = [g1] := by
  match gs, hV' with
  | [g1], _ => exact ⟨g1, rfl⟩
  | [], h => exact h.elim
  | _ :: _ :: _, h => obtain ⟨_, _, _, _, _, _, _, _, _, _, h2, _⟩ := h; exact h2.elim
 obtain ⟨s0, rfl, rfl, rfl, w0⟩ := open_string Tryz.underlying9 (hval 0 9 v0 rfl rfl) h0
 have hE : Qcw Tb GT Qqq 44000 [.str s0.data.toList] [] = some true := Go.TFnExactProgramFrom.laws_FnExactProgramFrom_eq s0.data.toList
 have hrun := law_top (C := ctx) laid rfl (g := 44000) (by decide) (args := #[(.string s0)]) (gok hL) (fixed hL) rfl (by
  intro i c v hc hv
  match i, hc, hv with
  | 0, hc, hv => simp at hc hv; subst hc hv; exact arg_str
  | i + 1, hc, _ => simp at hc) hE
 have efid : ctx.fid 44000 = 3 := by kernel_rfl
 rw [efid] at hrun
 refine hrun.mono fun e W' ⟨he, bel⟩ => ?_
 subst he
 exact ⟨_, rfl, _, _, _, [], _, _, hW', trodAll_mk1 (shut_bool Tryz.underlying4 _), (trodAll_cons_mk (shut_string Tryz.underlying9 w0) trodAll_mk0), Below.trodVars laidOut bel (by kernel_rfl) hV, bel.frame _, fun h => by cases h⟩
theorem over : Rows.fnExactProgramFromRow.holds Tryz.pinned (OpenSpec.ofChange Rows.fnExactProgramFromSpec) :=
 OpenClaim.holds_of_wide 3 Tryz.f3 rfl rfl rfl rfl rfl rfl rfl ⟨rfl, rfl, rfl, rfl, rfl⟩ rfl rfl rfl rfl rfl (by kernel_rfl) Tryz.func3 (by kernel_rfl)
  (of_decide_eq_true (by kernel_rfl)) (by unfold Func.isWrapper; first | (rw [if_pos (by decide +kernel)]; kernel_rfl) | (rw [if_neg (by decide +kernel)]; exact ⟨rfl, rfl⟩))
  (fun os started H enc _ => lifted os started H enc)
theorem card : Rows.FnExactProgramFromCardSaid :=
 Claim7.holds_tied_plain_at .later [] [.data, .data, .data, .sentinel, .sentinel, .data] true (true, "51f58c309abb1fd527bd040bbaeb90dfa63c4edb93d8e114e1e3c688cadc9694") true
  over (fun _ h => by cases h) (by kernel_rfl) (fun _ h => by cases h) fnExactProgramFrom_row_tie rfl ⟨rfl, rfl⟩ (by kernel_rfl) rfl
  (fun f fn hf hfn => by
   obtain rfl : f = 3 := Option.some.inj ((show Tryz.prog.funcNamed "loop.example/cothreads/laws.FnExactProgramFrom" = some 3 by kernel_rfl).symm.trans hf) |>.symm
   obtain rfl : fn = Tryz.f3 := (Option.some.inj (Tryz.func3.symm.trans hfn)).symm
   exact ⟨by kernel_rfl, fun j t ht => by
    rw [Tryz.params3] at ht
    have hm : t ∈ [9] := by simpa using Array.mem_of_getElem? ht
    have hall : ([9].all fun u => !Tryz.prog.wantsStandIn u) = true := by kernel_rfl
    exact (show Tryz.prog.wantsStandIn t = false by simpa using List.all_eq_true.1 hall t hm)⟩)
  (by kernel_rfl)
end Go.Proofs.YthmemaednlaanaaGreatDoor.fnExactProgramFrom
namespace Go.Proofs.YthmemaednlaanaaGreatDoor
theorem fnExactProgramFrom_holds : Rows.FnExactProgramFromCardSaid := fnExactProgramFrom.card
#print axioms fnExactProgramFrom_holds
end Go.Proofs.YthmemaednlaanaaGreatDoor