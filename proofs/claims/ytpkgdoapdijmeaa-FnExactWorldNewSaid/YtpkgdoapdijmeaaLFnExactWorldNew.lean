/- The statement FnExactWorldNew is proved: the law answers true whatever the input; under no condition. -/
import Derived.Test.YtpkgdoapdijmeaaRows
import Derived.Test.YtpkgdoapdijmeaaFFnExactWorldNew
import Derived.Test.YtpkgdoapdijmeaaTvRow5
import Derived.KernelRfl
namespace Go.Proofs.Ytpkgdoapdijmeaa.fnExactWorldNew
open Go Go.Vs Go.Tv Go.ChangeShapes Go.WideShapes Go.ChangeAt Go.RowKit Go.TFnExactWorldNew
open Go.ChangeMaps (open_string shut_string)
set_option linter.unusedVariables false
theorem own : ownKnob Try.prog.godebug = none := by kernel_rfl
theorem laidOut : laidOutB Try.prog = true := by kernel_rfl
def fids : List (Nat × Nat) := [(300, 135), (500, 152), (1000, 193), (1100, 181), (1200, 163), (1600, 63), (1700, 187), (1800, 183), (1900, 167), (4000, 138), (5200, 150), (5300, 136), (5400, 106), (5700, 165), (5800, 166), (5900, 182), (6000, 164), (6100, 151), (6200, 137), (6300, 108), (6800, 173), (6900, 158), (7000, 144), (7100, 126), (7200, 62), (7400, 174), (7500, 159), (7600, 145), (7700, 127), (7800, 70), (8000, 175), (8100, 160), (8200, 146), (8300, 128), (8400, 73), (8500, 121), (9000, 54), (9100, 111), (9200, 55), (9300, 15), (9400, 139), (9500, 109), (9600, 52), (10600, 92), (10700, 148), (10800, 130), (11100, 162), (19000, 122), (22700, 105), (22800, 48), (22900, 49), (23000, 12), (23100, 66), (23200, 107), (23300, 50), (23400, 51), (23500, 13), (25200, 71), (25300, 72), (25400, 21), (28400, 83), (28500, 33), (28600, 84), (28700, 34), (28800, 85), (28900, 35), (29500, 90), (29600, 91), (29700, 38), (29800, 8), (38700, 86), (39600, 70), (40700, 15), (40800, 127), (40900, 129), (41100, 55), (41200, 145), (41300, 147), (41400, 111), (41500, 159), (41600, 174), (41800, 12), (42000, 34), (42100, 36), (42200, 37), (42500, 49), (42800, 84), (42900, 87), (43000, 88), (43100, 89)]
noncomputable def ctx : Ctx := { P := Try.prog, fid := fun g => (Vs.look g fids).getD 0, gm := fun _ => 0, G := GA GT }
def oF (p : ProcT) (f : Func) : Prop := okFn ctx (FA Tb) 8 p.er f = true
theorem aL {g n : Nat} {f : Func} (e : ctx.fid g = n) (h : Try.prog.funcs[n]? = some f) : ctx.P.funcs[ctx.fid g]? = some f := by rw [e]; exact h
theorem ok300 : oF p300 Try.f135 := by unfold oF; kernel_rfl
theorem ok500 : oF p500 Try.f152 := by unfold oF; kernel_rfl
theorem ok1000 : oF p1000 Try.f193 := by unfold oF; kernel_rfl
theorem ok1100 : oF p1100 Try.f181 := by unfold oF; kernel_rfl
theorem ok1200 : oF p1200 Try.f163 := by unfold oF; kernel_rfl
theorem ok1600 : oF p1600 Try.f63 := by unfold oF; kernel_rfl
theorem ok1700 : oF p1700 Try.f187 := by unfold oF; kernel_rfl
theorem ok1800 : oF p1800 Try.f183 := by unfold oF; kernel_rfl
theorem ok1900 : oF p1900 Try.f167 := by unfold oF; kernel_rfl
theorem ok4000 : oF p4000 Try.f138 := by unfold oF; kernel_rfl
theorem ok5200 : oF p5200 Try.f150 := by unfold oF; kernel_rfl
theorem ok5300 : oF p5300 Try.f136 := by unfold oF; kernel_rfl
theorem ok5400 : oF p5400 Try.f106 := by unfold oF; kernel_rfl
theorem ok5700 : oF p5700 Try.f165 := by unfold oF; kernel_rfl
theorem ok5800 : oF p5800 Try.f166 := by unfold oF; kernel_rfl
theorem ok5900 : oF p5900 Try.f182 := by unfold oF; kernel_rfl
theorem ok6000 : oF p6000 Try.f164 := by unfold oF; kernel_rfl
theorem ok6100 : oF p6100 Try.f151 := by unfold oF; kernel_rfl
theorem ok6200 : oF p6200 Try.f137 := by unfold oF; kernel_rfl
theorem ok6300 : oF p6300 Try.f108 := by unfold oF; kernel_rfl
theorem ok6800 : oF p6800 Try.f173 := by unfold oF; kernel_rfl
theorem ok6900 : oF p6900 Try.f158 := by unfold oF; kernel_rfl
theorem ok7000 : oF p7000 Try.f144 := by unfold oF; kernel_rfl
theorem ok7100 : oF p7100 Try.f126 := by unfold oF; kernel_rfl
theorem ok7200 : oF p7200 Try.f62 := by unfold oF; kernel_rfl
theorem ok7400 : oF p7400 Try.f174 := by unfold oF; kernel_rfl
theorem ok7500 : oF p7500 Try.f159 := by unfold oF; kernel_rfl
theorem ok7600 : oF p7600 Try.f145 := by unfold oF; kernel_rfl
theorem ok7700 : oF p7700 Try.f127 := by unfold oF; kernel_rfl
theorem ok7800 : oF p7800 Try.f70 := by unfold oF; kernel_rfl
theorem ok8000 : oF p8000 Try.f175 := by unfold oF; kernel_rfl
theorem ok8100 : oF p8100 Try.f160 := by unfold oF; kernel_rfl
theorem ok8200 : oF p8200 Try.f146 := by unfold oF; kernel_rfl
theorem ok8300 : oF p8300 Try.f128 := by unfold oF; kernel_rfl
theorem ok8400 : oF p8400 Try.f73 := by unfold oF; kernel_rfl
theorem ok8500 : oF p8500 Try.f121 := by unfold oF; kernel_rfl
theorem ok9000 : oF p9000 Try.f54 := by unfold oF; kernel_rfl
theorem ok9100 : oF p9100 Try.f111 := by unfold oF; kernel_rfl
theorem ok9200 : oF p9200 Try.f55 := by unfold oF; kernel_rfl
theorem ok9300 : oF p9300 Try.f15 := by unfold oF; kernel_rfl
theorem ok9400 : oF p9400 Try.f139 := by unfold oF; kernel_rfl
theorem ok9500 : oF p9500 Try.f109 := by unfold oF; kernel_rfl
theorem ok9600 : oF p9600 Try.f52 := by unfold oF; kernel_rfl
theorem ok10600 : oF p10600 Try.f92 := by unfold oF; kernel_rfl
theorem ok10700 : oF p10700 Try.f148 := by unfold oF; kernel_rfl
theorem ok10800 : oF p10800 Try.f130 := by unfold oF; kernel_rfl
theorem ok11100 : oF p11100 Try.f162 := by unfold oF; kernel_rfl
theorem ok19000 : oF p19000 Try.f122 := by unfold oF; kernel_rfl
theorem ok22700 : oF p22700 Try.f105 := by unfold oF; kernel_rfl
theorem ok22800 : oF p22800 Try.f48 := by unfold oF; kernel_rfl
theorem ok22900 : oF p22900 Try.f49 := by unfold oF; kernel_rfl
theorem ok23000 : oF p23000 Try.f12 := by unfold oF; kernel_rfl
theorem ok23100 : oF p23100 Try.f66 := by unfold oF; kernel_rfl
theorem ok23200 : oF p23200 Try.f107 := by unfold oF; kernel_rfl
theorem ok23300 : oF p23300 Try.f50 := by unfold oF; kernel_rfl
theorem ok23400 : oF p23400 Try.f51 := by unfold oF; kernel_rfl
theorem ok23500 : oF p23500 Try.f13 := by unfold oF; kernel_rfl
theorem ok25200 : oF p25200 Try.f71 := by unfold oF; kernel_rfl
theorem ok25300 : oF p25300 Try.f72 := by unfold oF; kernel_rfl
theorem ok25400 : oF p25400 Try.f21 := by unfold oF; kernel_rfl
theorem ok28400 : oF p28400 Try.f83 := by unfold oF; kernel_rfl
theorem ok28500 : oF p28500 Try.f33 := by unfold oF; kernel_rfl
theorem ok28600 : oF p28600 Try.f84 := by unfold oF; kernel_rfl
theorem ok28700 : oF p28700 Try.f34 := by unfold oF; kernel_rfl
theorem ok28800 : oF p28800 Try.f85 := by unfold oF; kernel_rfl
theorem ok28900 : oF p28900 Try.f35 := by unfold oF; kernel_rfl
theorem ok29500 : oF p29500 Try.f90 := by unfold oF; kernel_rfl
theorem ok29600 : oF p29600 Try.f91 := by unfold oF; kernel_rfl
theorem ok29700 : oF p29700 Try.f38 := by unfold oF; kernel_rfl
theorem ok29800 : oF p29800 Try.f8 := by unfold oF; kernel_rfl
theorem ok38700 : oF p38700 Try.f86 := by unfold oF; kernel_rfl
theorem ok39600 : oF p39600 Try.f70 := by unfold oF; kernel_rfl
theorem ok40700 : oF p40700 Try.f15 := by unfold oF; kernel_rfl
theorem ok40800 : oF p40800 Try.f127 := by unfold oF; kernel_rfl
theorem ok40900 : oF p40900 Try.f129 := by unfold oF; kernel_rfl
theorem ok41100 : oF p41100 Try.f55 := by unfold oF; kernel_rfl
theorem ok41200 : oF p41200 Try.f145 := by unfold oF; kernel_rfl
theorem ok41300 : oF p41300 Try.f147 := by unfold oF; kernel_rfl
theorem ok41400 : oF p41400 Try.f111 := by unfold oF; kernel_rfl
theorem ok41500 : oF p41500 Try.f159 := by unfold oF; kernel_rfl
theorem ok41600 : oF p41600 Try.f174 := by unfold oF; kernel_rfl
theorem ok41800 : oF p41800 Try.f12 := by unfold oF; kernel_rfl
theorem ok42000 : oF p42000 Try.f34 := by unfold oF; kernel_rfl
theorem ok42100 : oF p42100 Try.f36 := by unfold oF; kernel_rfl
theorem ok42200 : oF p42200 Try.f37 := by unfold oF; kernel_rfl
theorem ok42500 : oF p42500 Try.f49 := by unfold oF; kernel_rfl
theorem ok42800 : oF p42800 Try.f84 := by unfold oF; kernel_rfl
theorem ok42900 : oF p42900 Try.f87 := by unfold oF; kernel_rfl
theorem ok43000 : oF p43000 Try.f88 := by unfold oF; kernel_rfl
theorem ok43100 : oF p43100 Try.f89 := by unfold oF; kernel_rfl
theorem laid : Laid ctx (FA Tb) := by
 refine laidT (l := tab) (by kernel_rfl) ?_
 have e : tab.map (fun x => (x.1, x.2.er)) = [(300, p300.er), (500, p500.er), (1000, p1000.er), (1100, p1100.er), (1200, p1200.er), (1600, p1600.er), (1700, p1700.er), (1800, p1800.er), (1900, p1900.er), (4000, p4000.er), (4001, p4001.er), (5200, p5200.er), (5300, p5300.er), (5301, p5301.er), (5400, p5400.er), (5700, p5700.er), (5800, p5800.er), (5900, p5900.er), (6000, p6000.er), (6100, p6100.er), (6200, p6200.er), (6201, p6201.er), (6300, p6300.er), (6800, p6800.er), (6801, p6801.er), (6900, p6900.er), (7000, p7000.er), (7100, p7100.er), (7101, p7101.er), (7200, p7200.er), (7400, p7400.er), (7401, p7401.er), (7500, p7500.er), (7600, p7600.er), (7700, p7700.er), (7701, p7701.er), (7800, p7800.er), (7801, p7801.er), (8000, p8000.er), (8001, p8001.er), (8100, p8100.er), (8200, p8200.er), (8300, p8300.er), (8301, p8301.er), (8400, p8400.er), (8401, p8401.er), (8500, p8500.er), (9000, p9000.er), (9100, p9100.er), (9101, p9101.er), (9200, p9200.er), (9201, p9201.er), (9300, p9300.er), (9400, p9400.er), (9500, p9500.er), (9501, p9501.er), (9600, p9600.er), (10600, p10600.er), (10601, p10601.er), (10700, p10700.er), (10701, p10701.er), (10800, p10800.er), (10801, p10801.er), (11100, p11100.er), (19000, p19000.er), (22700, p22700.er), (22701, p22701.er), (22800, p22800.er), (22801, p22801.er), (22900, p22900.er), (22901, p22901.er), (23000, p23000.er), (23001, p23001.er), (23100, p23100.er), (23101, p23101.er), (23200, p23200.er), (23201, p23201.er), (23300, p23300.er), (23301, p23301.er), (23400, p23400.er), (23401, p23401.er), (23500, p23500.er), (23501, p23501.er), (25200, p25200.er), (25201, p25201.er), (25300, p25300.er), (25301, p25301.er), (25400, p25400.er), (28400, p28400.er), (28401, p28401.er), (28500, p28500.er), (28600, p28600.er), (28601, p28601.er), (28700, p28700.er), (28800, p28800.er), (28801, p28801.er), (28900, p28900.er), (29500, p29500.er), (29501, p29501.er), (29600, p29600.er), (29601, p29601.er), (29700, p29700.er), (29800, p29800.er), (38700, p38700.er), (38701, p38701.er), (39600, p39600.er), (39601, p39601.er), (40700, p40700.er), (40800, p40800.er), (40801, p40801.er), (40900, p40900.er), (40901, p40901.er), (41100, p41100.er), (41101, p41101.er), (41200, p41200.er), (41300, p41300.er), (41301, p41301.er), (41400, p41400.er), (41401, p41401.er), (41500, p41500.er), (41600, p41600.er), (41601, p41601.er), (41800, p41800.er), (41801, p41801.er), (42000, p42000.er), (42100, p42100.er), (42200, p42200.er), (42500, p42500.er), (42501, p42501.er), (42800, p42800.er), (42801, p42801.er), (42900, p42900.er), (42901, p42901.er), (43000, p43000.er), (43001, p43001.er), (43100, p43100.er), (43101, p43101.er)] := by kernel_rfl
 rw [e]
 exact ⟨fun _ => okFn_spec (aL (by kernel_rfl) Try.func135) ok300, ⟨fun _ => okFn_spec (aL (by kernel_rfl) Try.func152) ok500, ⟨fun _ => okFn_spec (aL (by kernel_rfl) Try.func193) ok1000, ⟨fun _ => okFn_spec (aL (by kernel_rfl) Try.func181) ok1100, ⟨fun _ => okFn_spec (aL (by kernel_rfl) Try.func163) ok1200, ⟨fun _ => okFn_spec (aL (by kernel_rfl) Try.func63) ok1600, ⟨fun _ => okFn_spec (aL (by kernel_rfl) Try.func187) ok1700, ⟨fun _ => okFn_spec (aL (by kernel_rfl) Try.func183) ok1800, ⟨fun _ => okFn_spec (aL (by kernel_rfl) Try.func167) ok1900, ⟨fun _ => okFn_spec (aL (by kernel_rfl) Try.func138) ok4000, ⟨fun h => absurd h (by decide), ⟨fun _ => okFn_spec (aL (by kernel_rfl) Try.func150) ok5200, ⟨fun _ => okFn_spec (aL (by kernel_rfl) Try.func136) ok5300, ⟨fun h => absurd h (by decide), ⟨fun _ => okFn_spec (aL (by kernel_rfl) Try.func106) ok5400, ⟨fun _ => okFn_spec (aL (by kernel_rfl) Try.func165) ok5700, ⟨fun _ => okFn_spec (aL (by kernel_rfl) Try.func166) ok5800, ⟨fun _ => okFn_spec (aL (by kernel_rfl) Try.func182) ok5900, ⟨fun _ => okFn_spec (aL (by kernel_rfl) Try.func164) ok6000, ⟨fun _ => okFn_spec (aL (by kernel_rfl) Try.func151) ok6100, ⟨fun _ => okFn_spec (aL (by kernel_rfl) Try.func137) ok6200, ⟨fun h => absurd h (by decide), ⟨fun _ => okFn_spec (aL (by kernel_rfl) Try.func108) ok6300, ⟨fun _ => okFn_spec (aL (by kernel_rfl) Try.func173) ok6800, ⟨fun h => absurd h (by decide), ⟨fun _ => okFn_spec (aL (by kernel_rfl) Try.func158) ok6900, ⟨fun _ => okFn_spec (aL (by kernel_rfl) Try.func144) ok7000, ⟨fun _ => okFn_spec (aL (by kernel_rfl) Try.func126) ok7100, ⟨fun h => absurd h (by decide), ⟨fun _ => okFn_spec (aL (by kernel_rfl) Try.func62) ok7200, ⟨fun _ => okFn_spec (aL (by kernel_rfl) Try.func174) ok7400, ⟨fun h => absurd h (by decide), ⟨fun _ => okFn_spec (aL (by kernel_rfl) Try.func159) ok7500, ⟨fun _ => okFn_spec (aL (by kernel_rfl) Try.func145) ok7600, ⟨fun _ => okFn_spec (aL (by kernel_rfl) Try.func127) ok7700, ⟨fun h => absurd h (by decide), ⟨fun _ => okFn_spec (aL (by kernel_rfl) Try.func70) ok7800, ⟨fun h => absurd h (by decide), ⟨fun _ => okFn_spec (aL (by kernel_rfl) Try.func175) ok8000, ⟨fun h => absurd h (by decide), ⟨fun _ => okFn_spec (aL (by kernel_rfl) Try.func160) ok8100, ⟨fun _ => okFn_spec (aL (by kernel_rfl) Try.func146) ok8200, ⟨fun _ => okFn_spec (aL (by kernel_rfl) Try.func128) ok8300, ⟨fun h => absurd h (by decide), ⟨fun _ => okFn_spec (aL (by kernel_rfl) Try.func73) ok8400, ⟨fun h => absurd h (by decide), ⟨fun _ => okFn_spec (aL (by kernel_rfl) Try.func121) ok8500, ⟨fun _ => okFn_spec (aL (by kernel_rfl) Try.func54) ok9000, ⟨fun _ => okFn_spec (aL (by kernel_rfl) Try.func111) ok9100, ⟨fun h => absurd h (by decide), ⟨fun _ => okFn_spec (aL (by kernel_rfl) Try.func55) ok9200, ⟨fun h => absurd h (by decide), ⟨fun _ => okFn_spec (aL (by kernel_rfl) Try.func15) ok9300, ⟨fun _ => okFn_spec (aL (by kernel_rfl) Try.func139) ok9400, ⟨fun _ => okFn_spec (aL (by kernel_rfl) Try.func109) ok9500, ⟨fun h => absurd h (by decide), ⟨fun _ => okFn_spec (aL (by kernel_rfl) Try.func52) ok9600, ⟨fun _ => okFn_spec (aL (by kernel_rfl) Try.func92) ok10600, ⟨fun h => absurd h (by decide), ⟨fun _ => okFn_spec (aL (by kernel_rfl) Try.func148) ok10700, ⟨fun h => absurd h (by decide), ⟨fun _ => okFn_spec (aL (by kernel_rfl) Try.func130) ok10800, ⟨fun h => absurd h (by decide), ⟨fun _ => okFn_spec (aL (by kernel_rfl) Try.func162) ok11100, ⟨fun _ => okFn_spec (aL (by kernel_rfl) Try.func122) ok19000, ⟨fun _ => okFn_spec (aL (by kernel_rfl) Try.func105) ok22700, ⟨fun h => absurd h (by decide), ⟨fun _ => okFn_spec (aL (by kernel_rfl) Try.func48) ok22800, ⟨fun h => absurd h (by decide), ⟨fun _ => okFn_spec (aL (by kernel_rfl) Try.func49) ok22900, ⟨fun h => absurd h (by decide), ⟨fun _ => okFn_spec (aL (by kernel_rfl) Try.func12) ok23000, ⟨fun h => absurd h (by decide), ⟨fun _ => okFn_spec (aL (by kernel_rfl) Try.func66) ok23100, ⟨fun h => absurd h (by decide), ⟨fun _ => okFn_spec (aL (by kernel_rfl) Try.func107) ok23200, ⟨fun h => absurd h (by decide), ⟨fun _ => okFn_spec (aL (by kernel_rfl) Try.func50) ok23300, ⟨fun h => absurd h (by decide), ⟨fun _ => okFn_spec (aL (by kernel_rfl) Try.func51) ok23400, ⟨fun h => absurd h (by decide), ⟨fun _ => okFn_spec (aL (by kernel_rfl) Try.func13) ok23500, ⟨fun h => absurd h (by decide), ⟨fun _ => okFn_spec (aL (by kernel_rfl) Try.func71) ok25200, ⟨fun h => absurd h (by decide), ⟨fun _ => okFn_spec (aL (by kernel_rfl) Try.func72) ok25300, ⟨fun h => absurd h (by decide), ⟨fun _ => okFn_spec (aL (by kernel_rfl) Try.func21) ok25400, ⟨fun _ => okFn_spec (aL (by kernel_rfl) Try.func83) ok28400, ⟨fun h => absurd h (by decide), ⟨fun _ => okFn_spec (aL (by kernel_rfl) Try.func33) ok28500, ⟨fun _ => okFn_spec (aL (by kernel_rfl) Try.func84) ok28600, ⟨fun h => absurd h (by decide), ⟨fun _ => okFn_spec (aL (by kernel_rfl) Try.func34) ok28700, ⟨fun _ => okFn_spec (aL (by kernel_rfl) Try.func85) ok28800, ⟨fun h => absurd h (by decide), ⟨fun _ => okFn_spec (aL (by kernel_rfl) Try.func35) ok28900, ⟨fun _ => okFn_spec (aL (by kernel_rfl) Try.func90) ok29500, ⟨fun h => absurd h (by decide), ⟨fun _ => okFn_spec (aL (by kernel_rfl) Try.func91) ok29600, ⟨fun h => absurd h (by decide), ⟨fun _ => okFn_spec (aL (by kernel_rfl) Try.func38) ok29700, ⟨fun _ => okFn_spec (aL (by kernel_rfl) Try.func8) ok29800, ⟨fun _ => okFn_spec (aL (by kernel_rfl) Try.func86) ok38700, ⟨fun h => absurd h (by decide), ⟨fun _ => okFn_spec (aL (by kernel_rfl) Try.func70) ok39600, ⟨fun h => absurd h (by decide), ⟨fun _ => okFn_spec (aL (by kernel_rfl) Try.func15) ok40700, ⟨fun _ => okFn_spec (aL (by kernel_rfl) Try.func127) ok40800, ⟨fun h => absurd h (by decide), ⟨fun _ => okFn_spec (aL (by kernel_rfl) Try.func129) ok40900, ⟨fun h => absurd h (by decide), ⟨fun _ => okFn_spec (aL (by kernel_rfl) Try.func55) ok41100, ⟨fun h => absurd h (by decide), ⟨fun _ => okFn_spec (aL (by kernel_rfl) Try.func145) ok41200, ⟨fun _ => okFn_spec (aL (by kernel_rfl) Try.func147) ok41300, ⟨fun h => absurd h (by decide), ⟨fun _ => okFn_spec (aL (by kernel_rfl) Try.func111) ok41400, ⟨fun h => absurd h (by decide), ⟨fun _ => okFn_spec (aL (by kernel_rfl) Try.func159) ok41500, ⟨fun _ => okFn_spec (aL (by kernel_rfl) Try.func174) ok41600, ⟨fun h => absurd h (by decide), ⟨fun _ => okFn_spec (aL (by kernel_rfl) Try.func12) ok41800, ⟨fun h => absurd h (by decide), ⟨fun _ => okFn_spec (aL (by kernel_rfl) Try.func34) ok42000, ⟨fun _ => okFn_spec (aL (by kernel_rfl) Try.func36) ok42100, ⟨fun _ => okFn_spec (aL (by kernel_rfl) Try.func37) ok42200, ⟨fun _ => okFn_spec (aL (by kernel_rfl) Try.func49) ok42500, ⟨fun h => absurd h (by decide), ⟨fun _ => okFn_spec (aL (by kernel_rfl) Try.func84) ok42800, ⟨fun h => absurd h (by decide), ⟨fun _ => okFn_spec (aL (by kernel_rfl) Try.func87) ok42900, ⟨fun h => absurd h (by decide), ⟨fun _ => okFn_spec (aL (by kernel_rfl) Try.func88) ok43000, ⟨fun h => absurd h (by decide), ⟨fun _ => okFn_spec (aL (by kernel_rfl) Try.func89) ok43100, ⟨fun h => absurd h (by decide), trivial⟩⟩⟩⟩⟩⟩⟩⟩⟩⟩⟩⟩⟩⟩⟩⟩⟩⟩⟩⟩⟩⟩⟩⟩⟩⟩⟩⟩⟩⟩⟩⟩⟩⟩⟩⟩⟩⟩⟩⟩⟩⟩⟩⟩⟩⟩⟩⟩⟩⟩⟩⟩⟩⟩⟩⟩⟩⟩⟩⟩⟩⟩⟩⟩⟩⟩⟩⟩⟩⟩⟩⟩⟩⟩⟩⟩⟩⟩⟩⟩⟩⟩⟩⟩⟩⟩⟩⟩⟩⟩⟩⟩⟩⟩⟩⟩⟩⟩⟩⟩⟩⟩⟩⟩⟩⟩⟩⟩⟩⟩⟩⟩⟩⟩⟩⟩⟩⟩⟩⟩⟩⟩⟩⟩⟩⟩⟩⟩⟩⟩⟩⟩⟩⟩⟩⟩⟩
theorem gok {W : World} : GOk ctx (Qhg W) := by
 intro i
 show RepL ctx.fid (Qhg W) (GA GT i) _
 simp [GA, GT, Qca, RepL]
set_option maxRecDepth 100000 in
theorem lifted (os : Os) (started : os.Started) (H : Type) (enc : TypeId × Value → H) :
  ReturnsInHanded {} Try.checked os 8 .any (Rows.fnExactWorldNewSpec.pre6 enc Try.prog Try.f8 Rows.fnExactWorldNewRow.domain false) (Rows.fnExactWorldNewSpec.post enc Try.prog Try.f8 false true false false) := by
 refine returnsInHanded_of_change_sized (C := Try.checked) own started (by kernel_rfl) Try.func8
  (ChangeSpec.witness6 (enc := enc) (C := Try.checked) false ⟨#[], #[.agg #[.slice none 0 0, .slice none 0 0]], []⟩ 8 (by kernel_rfl) (by kernel_rfl) (by kernel_rfl) (by kernel_rfl)) ?_
 intro W base args ds gs before hval0 hW hcnd hsz0 _
 have hval : ∀ (j : Nat) t v, Try.f8.params[j]? = some t → args[j]? = some v → Value.okWide Try.prog W .any base t v := hval0
 have hW' := hW
 obtain ⟨p, q, hA0, hV, rfl, hfz, hnd⟩ := hW
 have hA : DataW.TrodAll enc Try.prog W 0 (fun _ => true) true Try.f8.params.toList args.toList ds p := hA0
 have hV' := hV
 rw [Try.params8] at hA hval
 obtain ⟨v0, vs0, d0, ds0, p0, q0, hargs, rfl, rfl, h0, r0⟩ := trodAll_cons hA
 obtain ⟨rfl, rfl, rfl⟩ := trodAll_nil r0
 obtain rfl : args = #[v0] := by cases args; simp_all
 obtain ⟨rfl, rfl⟩ := trodVars_none hV
 have k0 := h0
 have lt0 : ∀ x ∈ p0, x.block < W.heap.size := by obtain ⟨m, hm⟩ := k0; exact DataW.trod_lt m _ _ _ hm
 obtain ⟨fu0, hf0⟩ := h0
 obtain ⟨a0, z0, w0⟩ := open_prg (fid := ctx.fid) (P := Try.prog) (t := 64) (by kernel_rfl) hf0
 have y0 := arg_agg Try.underlying63 (hval 0 64 v0 rfl rfl) z0
 have hE : Qen Tb GT Qqk 29800 [.agg (rowT .prg a0)] [] = some true := Go.TFnExactWorldNew.laws_FnExactWorldNew_eq a0 w0
 have hrun := law_top (C := ctx) laid rfl (g := 29800) (by decide) (args := #[v0]) gok (fun _ h => by cases h) rfl (by
  intro i c v hc hv
  match i, hc, hv with
  | 0, hc, hv => simp at hc hv; subst hc hv; exact y0
  | i + 1, hc, _ => simp at hc) hE
 have efid : ctx.fid 29800 = 8 := by kernel_rfl
 rw [efid] at hrun
 refine hrun.mono fun e W' ⟨he, bel⟩ => ?_
 subst he
 exact ⟨_, rfl, _, _, _, [], _, [], hW', trodAll_mk1 (shut_bool Try.underlying4 _), (trodAll_cons_mk (Below.trod laidOut (by kernel_rfl) (of_decide_eq_true (by kernel_rfl)) k0 bel lt0) trodAll_mk0), rfl, bel.frame _, fun h => by cases h⟩
theorem over : Rows.fnExactWorldNewRow.holds Try.pinned (OpenSpec.ofChange Rows.fnExactWorldNewSpec) :=
 OpenClaim.holds_of_wide 8 Try.f8 rfl rfl rfl rfl rfl rfl rfl ⟨rfl, rfl, rfl, rfl, rfl⟩ rfl rfl rfl rfl rfl (by kernel_rfl) Try.func8 (by kernel_rfl)
  (of_decide_eq_true (by kernel_rfl)) (by unfold Func.isWrapper; first | (rw [if_pos (by decide +kernel)]; kernel_rfl) | (rw [if_neg (by decide +kernel)]; exact ⟨rfl, rfl⟩))
  (fun os started H enc _ => lifted os started H enc)
end Go.Proofs.Ytpkgdoapdijmeaa.fnExactWorldNew
namespace Go.Proofs.Ytpkgdoapdijmeaa
theorem fnExactWorldNew_holds : Rows.FnExactWorldNewSaid := fnExactWorldNew.over
#print axioms fnExactWorldNew_holds
end Go.Proofs.Ytpkgdoapdijmeaa