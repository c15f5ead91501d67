/- The statement FnSourceEnd is proved: the law answers true whatever the input; under no condition but that the listed variables hold what the program's text lays, which the card ties. -/
import Derived.Test.YthmemaednlaanabGreatDoorRows
import Derived.Test.YthmemaednlaanabGreatDoorTie
import Derived.Test.YthmemaednlaanabGreatDoorCards
import Derived.Test.YthmemaednlaanabGreatDoorFFnSourceEnd
import Derived.Test.YthmemaednlaanabGreatDoorTvRow
import Derived.KernelRfl
import Derived.SevenTiedAt
import Derived.Test.YthmemaednlaanabGreatDoorTvRow4
import Derived.Test.YthmemaednlaanabGreatDoorShelf
import Derived.Test.YthmemaednlaanabGreatDoorPm1
import Derived.Test.YthmemaednlaanabGreatDoorPm3
namespace Go.Proofs.YthmemaednlaanabGreatDoor.fnSourceEnd
open Go Go.Vs Go.Tv Go.ChangeShapes Go.WideShapes Go.ChangeAt Go.RowKit Go.TFnSourceEnd
open Go.ChangeMaps (open_string shut_string)
set_option linter.unusedVariables false
theorem own : ownKnob Tryz.prog.godebug = none := by kernel_rfl
theorem laidOut : laidOutB Tryz.prog = true := by kernel_rfl
def fids : List (Nat × Nat) := [(100, 12), (200, 15), (300, 64), (400, 121), (500, 115), (600, 122), (700, 106), (1000, 130), (1100, 126), (1200, 112), (1600, 50), (1700, 120), (1800, 128), (1900, 119), (4000, 63), (4100, 103), (4200, 102), (4300, 104), (4400, 105), (4500, 83), (4600, 62), (4700, 36), (5200, 92), (5300, 69), (5400, 44), (5700, 117), (5800, 118), (5900, 127), (6000, 116), (6100, 94), (6200, 75), (6300, 51), (8700, 37), (9700, 27), (9800, 53), (9900, 28), (11100, 111), (20500, 32), (20700, 101), (22300, 35), (22400, 14), (22700, 43), (22800, 21), (23100, 52), (23200, 49), (23300, 26), (31800, 45), (31900, 70), (32000, 71), (32100, 46), (32200, 22), (32300, 47), (32400, 81), (32500, 74), (32600, 113), (32700, 98), (32800, 114), (32900, 93), (33100, 40), (33200, 54), (33300, 29), (33400, 10), (33500, 38), (33600, 17), (33700, 19), (33800, 39), (33900, 18), (34000, 68), (34100, 89), (34200, 90), (34300, 91), (34400, 67), (34900, 61), (35000, 34), (35100, 99), (35200, 100), (35300, 82), (35500, 16), (36200, 30), (36300, 11), (37500, 55), (37600, 56), (37700, 41), (37800, 31), (44300, 8), (44400, 7), (44900, 13), (45000, 9), (45100, 6), (45200, 23), (45300, 24), (45400, 25), (45500, 20), (45900, 33), (46000, 48), (46100, 42), (46400, 60), (46500, 72), (46600, 73), (46700, 80), (47000, 5)]
noncomputable def ctx : Ctx := { P := Tryz.prog, fid := fun g => (Vs.look g fids).getD 0, gm := fun i => if i = 0 then 2 else 1000000, G := GA GT, fx := [(4, powFx)] }
def oF (p : ProcT) (f : Func) : Prop := okFn ctx (FA Tb) 8 p.er f = true
theorem aL {g n : Nat} {f : Func} (e : ctx.fid g = n) (h : Tryz.prog.funcs[n]? = some f) : ctx.P.funcs[ctx.fid g]? = some f := by rw [e]; exact h
theorem ok100 : oF p100 Tryz.f12 := by unfold oF; kernel_rfl
theorem ok200 : oF p200 Tryz.f15 := by unfold oF; kernel_rfl
theorem ok300 : oF p300 Tryz.f64 := by unfold oF; kernel_rfl
theorem ok400 : oF p400 Tryz.f121 := by unfold oF; kernel_rfl
theorem ok500 : oF p500 Tryz.f115 := by unfold oF; kernel_rfl
theorem ok600 : oF p600 Tryz.f122 := by unfold oF; kernel_rfl
theorem ok700 : oF p700 Tryz.f106 := by unfold oF; kernel_rfl
theorem ok1000 : oF p1000 Tryz.f130 := by unfold oF; kernel_rfl
theorem ok1100 : oF p1100 Tryz.f126 := by unfold oF; kernel_rfl
theorem ok1200 : oF p1200 Tryz.f112 := by unfold oF; kernel_rfl
theorem ok1600 : oF p1600 Tryz.f50 := by unfold oF; kernel_rfl
theorem ok1700 : oF p1700 Tryz.f120 := by unfold oF; kernel_rfl
theorem ok1800 : oF p1800 Tryz.f128 := by unfold oF; kernel_rfl
theorem ok1900 : oF p1900 Tryz.f119 := by unfold oF; kernel_rfl
theorem ok4000 : oF p4000 Tryz.f63 := by unfold oF; kernel_rfl
theorem ok4100 : oF p4100 Tryz.f103 := by unfold oF; kernel_rfl
theorem ok4200 : oF p4200 Tryz.f102 := by unfold oF; kernel_rfl
theorem ok4300 : oF p4300 Tryz.f104 := by unfold oF; kernel_rfl
theorem ok4400 : oF p4400 Tryz.f105 := by unfold oF; kernel_rfl
theorem ok4500 : oF p4500 Tryz.f83 := by unfold oF; kernel_rfl
theorem ok4600 : oF p4600 Tryz.f62 := by unfold oF; kernel_rfl
theorem ok4700 : oF p4700 Tryz.f36 := by unfold oF; kernel_rfl
theorem ok5200 : oF p5200 Tryz.f92 := by unfold oF; kernel_rfl
theorem ok5300 : oF p5300 Tryz.f69 := by unfold oF; kernel_rfl
theorem ok5400 : oF p5400 Tryz.f44 := by unfold oF; kernel_rfl
theorem ok5700 : oF p5700 Tryz.f117 := by unfold oF; kernel_rfl
theorem ok5800 : oF p5800 Tryz.f118 := by unfold oF; kernel_rfl
theorem ok5900 : oF p5900 Tryz.f127 := by unfold oF; kernel_rfl
theorem ok6000 : oF p6000 Tryz.f116 := by unfold oF; kernel_rfl
theorem ok6100 : oF p6100 Tryz.f94 := by unfold oF; kernel_rfl
theorem ok6200 : oF p6200 Tryz.f75 := by unfold oF; kernel_rfl
theorem ok6300 : oF p6300 Tryz.f51 := by unfold oF; kernel_rfl
theorem ok8700 : oF p8700 Tryz.f37 := by unfold oF; kernel_rfl
theorem ok9700 : oF p9700 Tryz.f27 := by unfold oF; kernel_rfl
theorem ok9800 : oF p9800 Tryz.f53 := by unfold oF; kernel_rfl
theorem ok9900 : oF p9900 Tryz.f28 := by unfold oF; kernel_rfl
theorem ok11100 : oF p11100 Tryz.f111 := by unfold oF; kernel_rfl
theorem ok20500 : oF p20500 Tryz.f32 := by unfold oF; kernel_rfl
theorem ok20700 : oF p20700 Tryz.f101 := by unfold oF; kernel_rfl
theorem ok22300 : oF p22300 Tryz.f35 := by unfold oF; kernel_rfl
theorem ok22400 : oF p22400 Tryz.f14 := by unfold oF; kernel_rfl
theorem ok22700 : oF p22700 Tryz.f43 := by unfold oF; kernel_rfl
theorem ok22800 : oF p22800 Tryz.f21 := by unfold oF; kernel_rfl
theorem ok23100 : oF p23100 Tryz.f52 := by unfold oF; kernel_rfl
theorem ok23200 : oF p23200 Tryz.f49 := by unfold oF; kernel_rfl
theorem ok23300 : oF p23300 Tryz.f26 := by unfold oF; kernel_rfl
theorem ok31800 : oF p31800 Tryz.f45 := by unfold oF; kernel_rfl
theorem ok31900 : oF p31900 Tryz.f70 := by unfold oF; kernel_rfl
theorem ok32000 : oF p32000 Tryz.f71 := by unfold oF; kernel_rfl
theorem ok32100 : oF p32100 Tryz.f46 := by unfold oF; kernel_rfl
theorem ok32200 : oF p32200 Tryz.f22 := by unfold oF; kernel_rfl
theorem ok32300 : oF p32300 Tryz.f47 := by unfold oF; kernel_rfl
theorem ok32400 : oF p32400 Tryz.f81 := by unfold oF; kernel_rfl
theorem ok32500 : oF p32500 Tryz.f74 := by unfold oF; kernel_rfl
theorem ok32600 : oF p32600 Tryz.f113 := by unfold oF; kernel_rfl
theorem ok32700 : oF p32700 Tryz.f98 := by unfold oF; kernel_rfl
theorem ok32800 : oF p32800 Tryz.f114 := by unfold oF; kernel_rfl
theorem ok32900 : oF p32900 Tryz.f93 := by unfold oF; kernel_rfl
theorem ok33100 : oF p33100 Tryz.f40 := by unfold oF; kernel_rfl
theorem ok33200 : oF p33200 Tryz.f54 := by unfold oF; kernel_rfl
theorem ok33300 : oF p33300 Tryz.f29 := by unfold oF; kernel_rfl
theorem ok33400 : oF p33400 Tryz.f10 := by unfold oF; kernel_rfl
theorem ok33500 : oF p33500 Tryz.f38 := by unfold oF; kernel_rfl
theorem ok33600 : oF p33600 Tryz.f17 := by unfold oF; kernel_rfl
theorem ok33700 : oF p33700 Tryz.f19 := by unfold oF; kernel_rfl
theorem ok33800 : oF p33800 Tryz.f39 := by unfold oF; kernel_rfl
theorem ok33900 : oF p33900 Tryz.f18 := by unfold oF; kernel_rfl
theorem ok34000 : oF p34000 Tryz.f68 := by unfold oF; kernel_rfl
theorem ok34100 : oF p34100 Tryz.f89 := by unfold oF; kernel_rfl
theorem ok34200 : oF p34200 Tryz.f90 := by unfold oF; kernel_rfl
theorem ok34300 : oF p34300 Tryz.f91 := by unfold oF; kernel_rfl
theorem ok34400 : oF p34400 Tryz.f67 := by unfold oF; kernel_rfl
theorem ok34900 : oF p34900 Tryz.f61 := by unfold oF; kernel_rfl
theorem ok35000 : oF p35000 Tryz.f34 := by unfold oF; kernel_rfl
theorem ok35100 : oF p35100 Tryz.f99 := by unfold oF; kernel_rfl
theorem ok35200 : oF p35200 Tryz.f100 := by unfold oF; kernel_rfl
theorem ok35300 : oF p35300 Tryz.f82 := by unfold oF; kernel_rfl
theorem ok35500 : oF p35500 Tryz.f16 := by unfold oF; kernel_rfl
theorem ok36200 : oF p36200 Tryz.f30 := by unfold oF; kernel_rfl
theorem ok36300 : oF p36300 Tryz.f11 := by unfold oF; kernel_rfl
theorem ok44300 : oF p44300 Tryz.f8 := by unfold oF; kernel_rfl
theorem ok44400 : oF p44400 Tryz.f7 := by unfold oF; kernel_rfl
theorem ok44900 : oF p44900 Tryz.f13 := by unfold oF; kernel_rfl
theorem ok45000 : oF p45000 Tryz.f9 := by unfold oF; kernel_rfl
theorem ok45100 : oF p45100 Tryz.f6 := by unfold oF; kernel_rfl
theorem ok45200 : oF p45200 Tryz.f23 := by unfold oF; kernel_rfl
theorem ok45300 : oF p45300 Tryz.f24 := by unfold oF; kernel_rfl
theorem ok45400 : oF p45400 Tryz.f25 := by unfold oF; kernel_rfl
theorem ok45500 : oF p45500 Tryz.f20 := by unfold oF; kernel_rfl
theorem ok45900 : oF p45900 Tryz.f33 := by unfold oF; kernel_rfl
theorem ok46000 : oF p46000 Tryz.f48 := by unfold oF; kernel_rfl
theorem ok46100 : oF p46100 Tryz.f42 := by unfold oF; kernel_rfl
theorem ok46400 : oF p46400 Tryz.f60 := by unfold oF; kernel_rfl
theorem ok46500 : oF p46500 Tryz.f72 := by unfold oF; kernel_rfl
theorem ok46600 : oF p46600 Tryz.f73 := by unfold oF; kernel_rfl
theorem ok46700 : oF p46700 Tryz.f80 := by unfold oF; kernel_rfl
theorem ok47000 : oF p47000 Tryz.f5 := by unfold oF; kernel_rfl
theorem at37500 : ctx.P.funcs[ctx.fid 37500]? = some Tryz.f55 := by
 have e : ctx.fid 37500 = 55 := by kernel_rfl
 rw [e]; exact Tryz.func55
theorem at37600 : ctx.P.funcs[ctx.fid 37600]? = some Tryz.f56 := by
 have e : ctx.fid 37600 = 56 := by kernel_rfl
 rw [e]; exact Tryz.func56
theorem at37700 : ctx.P.funcs[ctx.fid 37700]? = some Tryz.f41 := by
 have e : ctx.fid 37700 = 41 := by kernel_rfl
 rw [e]; exact Tryz.func41
theorem at37800 : ctx.P.funcs[ctx.fid 37800]? = some Tryz.f31 := by
 have e : ctx.fid 37800 = 31 := by kernel_rfl
 rw [e]; exact Tryz.func31
theorem prim37500 : Qji ctx 37500 p37500.er := by
 have e : ctx.fid 37500 = 55 := by kernel_rfl
 refine prefix_prim ⟨⟨Tryz.f55, _, at37500, by kernel_rfl, rfl⟩⟩ ?_
 rw [e]
 exact fun s p w => Tryz.strings_HasPrefix s p w
theorem prim37600 : Qji ctx 37600 p37600.er := by
 have e : ctx.fid 37600 = 56 := by kernel_rfl
 refine index_prim ⟨⟨Tryz.f56, _, at37600, by kernel_rfl, rfl⟩⟩ ?_
 rw [e]
 exact fun s c w => Tryz.strings_IndexByte s c w
theorem prim37700 : Qji ctx 37700 p37700.er := by
 have e : ctx.fid 37700 = 41 := by kernel_rfl
 refine atoi_prim ⟨⟨Tryz.f41, _, at37700, by kernel_rfl, rfl⟩⟩ ?_
 rw [e]
 intro s n w h0 h1
 refine (Tryz.strconv_Atoi s n h0 h1 w).mono ?_
 rintro ed w' ⟨rfl, t, rfl⟩
 exact ⟨rfl, below_bytes w _ t⟩
theorem prim37800 : Qji ctx 37800 p37800.er := by
 have e : ctx.fid 37800 = 31 := by kernel_rfl
 refine join_prim ⟨⟨Tryz.f31, _, at37800, by kernel_rfl, rfl⟩⟩ ?_ ?_
 ·rw [e]; exact fun a c s w => Tryz.strings_Join_none a c s w
 ·rw [e]; exact fun bk o c xs s w h1 h2 h3 h4 h5 => Tryz.strings_Join bk o c xs s w h1 h2 h3 h4 h5
theorem laid : Laid ctx (FA Tb) := by
 refine laidT (l := tab) (by kernel_rfl) ?_
 have e : tab.map (fun x => (x.1, x.2.er)) = [(100, p100.er), (200, p200.er), (300, p300.er), (400, p400.er), (500, p500.er), (600, p600.er), (700, p700.er), (1000, p1000.er), (1100, p1100.er), (1200, p1200.er), (1600, p1600.er), (1700, p1700.er), (1800, p1800.er), (1900, p1900.er), (4000, p4000.er), (4001, p4001.er), (4100, p4100.er), (4200, p4200.er), (4300, p4300.er), (4400, p4400.er), (4500, p4500.er), (4600, p4600.er), (4601, p4601.er), (4700, p4700.er), (4701, p4701.er), (5200, p5200.er), (5300, p5300.er), (5301, p5301.er), (5400, p5400.er), (5700, p5700.er), (5800, p5800.er), (5900, p5900.er), (6000, p6000.er), (6100, p6100.er), (6200, p6200.er), (6201, p6201.er), (6300, p6300.er), (8700, p8700.er), (9700, p9700.er), (9701, p9701.er), (9800, p9800.er), (9801, p9801.er), (9900, p9900.er), (9901, p9901.er), (11100, p11100.er), (20500, p20500.er), (20700, p20700.er), (22300, p22300.er), (22301, p22301.er), (22400, p22400.er), (22401, p22401.er), (22700, p22700.er), (22701, p22701.er), (22800, p22800.er), (22801, p22801.er), (23100, p23100.er), (23101, p23101.er), (23200, p23200.er), (23201, p23201.er), (23300, p23300.er), (23301, p23301.er), (31800, p31800.er), (31801, p31801.er), (31900, p31900.er), (31901, p31901.er), (32000, p32000.er), (32100, p32100.er), (32200, p32200.er), (32201, p32201.er), (32300, p32300.er), (32301, p32301.er), (32400, p32400.er), (32500, p32500.er), (32501, p32501.er), (32600, p32600.er), (32700, p32700.er), (32800, p32800.er), (32801, p32801.er), (32900, p32900.er), (32901, p32901.er), (33100, p33100.er), (33200, p33200.er), (33300, p33300.er), (33301, p33301.er), (33302, p33302.er), (33303, p33303.er), (33400, p33400.er), (33401, p33401.er), (33500, p33500.er), (33600, p33600.er), (33700, p33700.er), (33800, p33800.er), (33900, p33900.er), (34000, p34000.er), (34100, p34100.er), (34200, p34200.er), (34201, p34201.er), (34300, p34300.er), (34400, p34400.er), (34401, p34401.er), (34900, p34900.er), (35000, p35000.er), (35001, p35001.er), (35100, p35100.er), (35200, p35200.er), (35300, p35300.er), (35500, p35500.er), (36200, p36200.er), (36300, p36300.er), (36301, p36301.er), (37500, p37500.er), (37600, p37600.er), (37700, p37700.er), (37800, p37800.er), (44300, p44300.er), (44301, p44301.er), (44302, p44302.er), (44400, p44400.er), (44401, p44401.er), (44402, p44402.er), (44900, p44900.er), (44901, p44901.er), (44902, p44902.er), (45000, p45000.er), (45001, p45001.er), (45100, p45100.er), (45200, p45200.er), (45300, p45300.er), (45400, p45400.er), (45401, p45401.er), (45500, p45500.er), (45501, p45501.er), (45900, p45900.er), (45901, p45901.er), (46000, p46000.er), (46100, p46100.er), (46400, p46400.er), (46500, p46500.er), (46600, p46600.er), (46700, p46700.er), (47000, p47000.er)] := by kernel_rfl
 rw [e]
 exact ⟨fun _ => okFn_spec (aL (by kernel_rfl) Tryz.func12) ok100, ⟨fun _ => okFn_spec (aL (by kernel_rfl) Tryz.func15) ok200, ⟨fun _ => okFn_spec (aL (by kernel_rfl) Tryz.func64) ok300, ⟨fun _ => okFn_spec (aL (by kernel_rfl) Tryz.func121) ok400, ⟨fun _ => okFn_spec (aL (by kernel_rfl) Tryz.func115) ok500, ⟨fun _ => okFn_spec (aL (by kernel_rfl) Tryz.func122) ok600, ⟨fun _ => okFn_spec (aL (by kernel_rfl) Tryz.func106) ok700, ⟨fun _ => okFn_spec (aL (by kernel_rfl) Tryz.func130) ok1000, ⟨fun _ => okFn_spec (aL (by kernel_rfl) Tryz.func126) ok1100, ⟨fun _ => okFn_spec (aL (by kernel_rfl) Tryz.func112) ok1200, ⟨fun _ => okFn_spec (aL (by kernel_rfl) Tryz.func50) ok1600, ⟨fun _ => okFn_spec (aL (by kernel_rfl) Tryz.func120) ok1700, ⟨fun _ => okFn_spec (aL (by kernel_rfl) Tryz.func128) ok1800, ⟨fun _ => okFn_spec (aL (by kernel_rfl) Tryz.func119) ok1900, ⟨fun _ => okFn_spec (aL (by kernel_rfl) Tryz.func63) ok4000, ⟨fun h => absurd h (by decide), ⟨fun _ => okFn_spec (aL (by kernel_rfl) Tryz.func103) ok4100, ⟨fun _ => okFn_spec (aL (by kernel_rfl) Tryz.func102) ok4200, ⟨fun _ => okFn_spec (aL (by kernel_rfl) Tryz.func104) ok4300, ⟨fun _ => okFn_spec (aL (by kernel_rfl) Tryz.func105) ok4400, ⟨fun _ => okFn_spec (aL (by kernel_rfl) Tryz.func83) ok4500, ⟨fun _ => okFn_spec (aL (by kernel_rfl) Tryz.func62) ok4600, ⟨fun h => absurd h (by decide), ⟨fun _ => okFn_spec (aL (by kernel_rfl) Tryz.func36) ok4700, ⟨fun h => absurd h (by decide), ⟨fun _ => okFn_spec (aL (by kernel_rfl) Tryz.func92) ok5200, ⟨fun _ => okFn_spec (aL (by kernel_rfl) Tryz.func69) ok5300, ⟨fun h => absurd h (by decide), ⟨fun _ => okFn_spec (aL (by kernel_rfl) Tryz.func44) ok5400, ⟨fun _ => okFn_spec (aL (by kernel_rfl) Tryz.func117) ok5700, ⟨fun _ => okFn_spec (aL (by kernel_rfl) Tryz.func118) ok5800, ⟨fun _ => okFn_spec (aL (by kernel_rfl) Tryz.func127) ok5900, ⟨fun _ => okFn_spec (aL (by kernel_rfl) Tryz.func116) ok6000, ⟨fun _ => okFn_spec (aL (by kernel_rfl) Tryz.func94) ok6100, ⟨fun _ => okFn_spec (aL (by kernel_rfl) Tryz.func75) ok6200, ⟨fun h => absurd h (by decide), ⟨fun _ => okFn_spec (aL (by kernel_rfl) Tryz.func51) ok6300, ⟨fun _ => okFn_spec (aL (by kernel_rfl) Tryz.func37) ok8700, ⟨fun _ => okFn_spec (aL (by kernel_rfl) Tryz.func27) ok9700, ⟨fun h => absurd h (by decide), ⟨fun _ => okFn_spec (aL (by kernel_rfl) Tryz.func53) ok9800, ⟨fun h => absurd h (by decide), ⟨fun _ => okFn_spec (aL (by kernel_rfl) Tryz.func28) ok9900, ⟨fun h => absurd h (by decide), ⟨fun _ => okFn_spec (aL (by kernel_rfl) Tryz.func111) ok11100, ⟨fun _ => okFn_spec (aL (by kernel_rfl) Tryz.func32) ok20500, ⟨fun _ => okFn_spec (aL (by kernel_rfl) Tryz.func101) ok20700, ⟨fun _ => okFn_spec (aL (by kernel_rfl) Tryz.func35) ok22300, ⟨fun h => absurd h (by decide), ⟨fun _ => okFn_spec (aL (by kernel_rfl) Tryz.func14) ok22400, ⟨fun h => absurd h (by decide), ⟨fun _ => okFn_spec (aL (by kernel_rfl) Tryz.func43) ok22700, ⟨fun h => absurd h (by decide), ⟨fun _ => okFn_spec (aL (by kernel_rfl) Tryz.func21) ok22800, ⟨fun h => absurd h (by decide), ⟨fun _ => okFn_spec (aL (by kernel_rfl) Tryz.func52) ok23100, ⟨fun h => absurd h (by decide), ⟨fun _ => okFn_spec (aL (by kernel_rfl) Tryz.func49) ok23200, ⟨fun h => absurd h (by decide), ⟨fun _ => okFn_spec (aL (by kernel_rfl) Tryz.func26) ok23300, ⟨fun h => absurd h (by decide), ⟨fun _ => okFn_spec (aL (by kernel_rfl) Tryz.func45) ok31800, ⟨fun h => absurd h (by decide), ⟨fun _ => okFn_spec (aL (by kernel_rfl) Tryz.func70) ok31900, ⟨fun h => absurd h (by decide), ⟨fun _ => okFn_spec (aL (by kernel_rfl) Tryz.func71) ok32000, ⟨fun _ => okFn_spec (aL (by kernel_rfl) Tryz.func46) ok32100, ⟨fun _ => okFn_spec (aL (by kernel_rfl) Tryz.func22) ok32200, ⟨fun h => absurd h (by decide), ⟨fun _ => okFn_spec (aL (by kernel_rfl) Tryz.func47) ok32300, ⟨fun h => absurd h (by decide), ⟨fun _ => okFn_spec (aL (by kernel_rfl) Tryz.func81) ok32400, ⟨fun _ => okFn_spec (aL (by kernel_rfl) Tryz.func74) ok32500, ⟨fun h => absurd h (by decide), ⟨fun _ => okFn_spec (aL (by kernel_rfl) Tryz.func113) ok32600, ⟨fun _ => okFn_spec (aL (by kernel_rfl) Tryz.func98) ok32700, ⟨fun _ => okFn_spec (aL (by kernel_rfl) Tryz.func114) ok32800, ⟨fun h => absurd h (by decide), ⟨fun _ => okFn_spec (aL (by kernel_rfl) Tryz.func93) ok32900, ⟨fun h => absurd h (by decide), ⟨fun _ => okFn_spec (aL (by kernel_rfl) Tryz.func40) ok33100, ⟨fun _ => okFn_spec (aL (by kernel_rfl) Tryz.func54) ok33200, ⟨fun _ => okFn_spec (aL (by kernel_rfl) Tryz.func29) ok33300, ⟨fun h => absurd h (by decide), ⟨fun h => absurd h (by decide), ⟨fun h => absurd h (by decide), ⟨fun _ => okFn_spec (aL (by kernel_rfl) Tryz.func10) ok33400, ⟨fun h => absurd h (by decide), ⟨fun _ => okFn_spec (aL (by kernel_rfl) Tryz.func38) ok33500, ⟨fun _ => okFn_spec (aL (by kernel_rfl) Tryz.func17) ok33600, ⟨fun _ => okFn_spec (aL (by kernel_rfl) Tryz.func19) ok33700, ⟨fun _ => okFn_spec (aL (by kernel_rfl) Tryz.func39) ok33800, ⟨fun _ => okFn_spec (aL (by kernel_rfl) Tryz.func18) ok33900, ⟨fun _ => okFn_spec (aL (by kernel_rfl) Tryz.func68) ok34000, ⟨fun _ => okFn_spec (aL (by kernel_rfl) Tryz.func89) ok34100, ⟨fun _ => okFn_spec (aL (by kernel_rfl) Tryz.func90) ok34200, ⟨fun h => absurd h (by decide), ⟨fun _ => okFn_spec (aL (by kernel_rfl) Tryz.func91) ok34300, ⟨fun _ => okFn_spec (aL (by kernel_rfl) Tryz.func67) ok34400, ⟨fun h => absurd h (by decide), ⟨fun _ => okFn_spec (aL (by kernel_rfl) Tryz.func61) ok34900, ⟨fun _ => okFn_spec (aL (by kernel_rfl) Tryz.func34) ok35000, ⟨fun h => absurd h (by decide), ⟨fun _ => okFn_spec (aL (by kernel_rfl) Tryz.func99) ok35100, ⟨fun _ => okFn_spec (aL (by kernel_rfl) Tryz.func100) ok35200, ⟨fun _ => okFn_spec (aL (by kernel_rfl) Tryz.func82) ok35300, ⟨fun _ => okFn_spec (aL (by kernel_rfl) Tryz.func16) ok35500, ⟨fun _ => okFn_spec (aL (by kernel_rfl) Tryz.func30) ok36200, ⟨fun _ => okFn_spec (aL (by kernel_rfl) Tryz.func11) ok36300, ⟨fun h => absurd h (by decide), ⟨fun _ => .inr prim37500, ⟨fun _ => .inr prim37600, ⟨fun _ => .inr prim37700, ⟨fun _ => .inr prim37800, ⟨fun _ => okFn_spec (aL (by kernel_rfl) Tryz.func8) ok44300, ⟨fun h => absurd h (by decide), ⟨fun h => absurd h (by decide), ⟨fun _ => okFn_spec (aL (by kernel_rfl) Tryz.func7) ok44400, ⟨fun h => absurd h (by decide), ⟨fun h => absurd h (by decide), ⟨fun _ => okFn_spec (aL (by kernel_rfl) Tryz.func13) ok44900, ⟨fun h => absurd h (by decide), ⟨fun h => absurd h (by decide), ⟨fun _ => okFn_spec (aL (by kernel_rfl) Tryz.func9) ok45000, ⟨fun h => absurd h (by decide), ⟨fun _ => okFn_spec (aL (by kernel_rfl) Tryz.func6) ok45100, ⟨fun _ => okFn_spec (aL (by kernel_rfl) Tryz.func23) ok45200, ⟨fun _ => okFn_spec (aL (by kernel_rfl) Tryz.func24) ok45300, ⟨fun _ => okFn_spec (aL (by kernel_rfl) Tryz.func25) ok45400, ⟨fun h => absurd h (by decide), ⟨fun _ => okFn_spec (aL (by kernel_rfl) Tryz.func20) ok45500, ⟨fun h => absurd h (by decide), ⟨fun _ => okFn_spec (aL (by kernel_rfl) Tryz.func33) ok45900, ⟨fun h => absurd h (by decide), ⟨fun _ => okFn_spec (aL (by kernel_rfl) Tryz.func48) ok46000, ⟨fun _ => okFn_spec (aL (by kernel_rfl) Tryz.func42) ok46100, ⟨fun _ => okFn_spec (aL (by kernel_rfl) Tryz.func60) ok46400, ⟨fun _ => okFn_spec (aL (by kernel_rfl) Tryz.func72) ok46500, ⟨fun _ => okFn_spec (aL (by kernel_rfl) Tryz.func73) ok46600, ⟨fun _ => okFn_spec (aL (by kernel_rfl) Tryz.func80) ok46700, ⟨fun _ => okFn_spec (aL (by kernel_rfl) Tryz.func5) ok47000, trivial⟩⟩⟩⟩⟩⟩⟩⟩⟩⟩⟩⟩⟩⟩⟩⟩⟩⟩⟩⟩⟩⟩⟩⟩⟩⟩⟩⟩⟩⟩⟩⟩⟩⟩⟩⟩⟩⟩⟩⟩⟩⟩⟩⟩⟩⟩⟩⟩⟩⟩⟩⟩⟩⟩⟩⟩⟩⟩⟩⟩⟩⟩⟩⟩⟩⟩⟩⟩⟩⟩⟩⟩⟩⟩⟩⟩⟩⟩⟩⟩⟩⟩⟩⟩⟩⟩⟩⟩⟩⟩⟩⟩⟩⟩⟩⟩⟩⟩⟩⟩⟩⟩⟩⟩⟩⟩⟩⟩⟩⟩⟩⟩⟩⟩⟩⟩⟩⟩⟩⟩⟩⟩⟩⟩⟩⟩⟩⟩⟩⟩⟩⟩⟩⟩⟩⟩⟩⟩⟩⟩⟩
def opS : List (List UInt8) := [[124], [94], [38], [61, 61], [60], [60, 60], [62, 62], [43], [45], [42], [47], [37]]
theorem gok {W : World} (h : laidMet Tryz.prog Rows.fnSourceEndRow.laid W) : GOk ctx (Qnt W) := by
 have hc := laid_strs h (name := "loop.example/cothreads/impl.opTexts") (zs := opS) (by right; right; right; right; right; exact List.mem_cons_self ..) (g := 2) (by kernel_rfl) (by kernel_rfl) Tryz.underlying136 Tryz.underlying9 (by kernel_rfl) (by kernel_rfl)
 intro i
 by_cases hi : i = 0
 ·subst hi
  have e : ctx.G 0 = Qbr (opS.map TV.str) := by kernel_rfl
  have e2 : ctx.gm 0 = 2 := by kernel_rfl
  rw [e, e2]
  exact Qyj (zs := opS) fun j z hz => Qko.2 ⟨hc j z hz, rfl⟩
 ·have e : ctx.G i = [] := by
   show GA GT i = []
   unfold GA GT; rw [if_neg hi]; rfl
  rw [e]; trivial
theorem fixed {W : World} (h : laidMet Tryz.prog Rows.fnSourceEndRow.laid W) : ∀ x ∈ ctx.fx, ∃ o, W.heap[x.1]? = some o ∧ x.2 o := by
 intro x hx
 obtain rfl := List.mem_singleton.1 hx
 have e : Rows.laid_internal_strconv_uint64pow10 = Lib.tabData (H := Unit) .u64 Lib.pow10Tab := by kernel_rfl
 exact laid_pow h (name := "internal/strconv.uint64pow10") (by rw [← e]; right; right; exact List.mem_cons_self ..) (g := 4) (by kernel_rfl) (by kernel_rfl) Tryz.underlying158 Tryz.underlying128 (by kernel_rfl) (by kernel_rfl)
set_option maxRecDepth 100000 in
theorem lifted (os : Os) (started : os.Started) (H : Type) (enc : TypeId × Value → H) :
  ReturnsInHanded {} Tryz.checked os 5 .any (fun w args => (Rows.fnSourceEndSpec.pre enc Tryz.prog Tryz.f5 Rows.fnSourceEndRow.domain false w args ∧ laidMetH Tryz.prog Rows.fnSourceEndRow.laid w) ∧ sizedMet enc Tryz.prog Tryz.f5 (OpenSpec.ofChange Rows.fnSourceEndSpec) false w args)
   (Rows.fnSourceEndSpec.post enc Tryz.prog Tryz.f5 false true false false) := by
 refine returnsInHanded_of_change_and (C := Tryz.checked) (X := fun w _ => laidMetH Tryz.prog Rows.fnSourceEndRow.laid w) (fun _ _ _ hh h => h.of_heap hh) own started (by kernel_rfl) Tryz.func5
  (ChangeSpec.witness_shaped (enc := enc) (C := Tryz.checked) (os := os) (X := fun w _ => laidMetH Tryz.prog Rows.fnSourceEndRow.laid w) false (World.laidAll Tryz.prog os Rows.fnSourceEndRow.laid) #[.slice none 0 0] 8 rfl (World.shaped_of_RefB (by kernel_rfl) (by kernel_rfl)) (by kernel_rfl) (by kernel_rfl) (by kernel_rfl)
   (by rw [MakeChecks.laidMetH_plain _ _ _ (by kernel_rfl)]; exact laidMet_laidAll _ (by kernel_rfl) (by kernel_rfl))) ?_
 intro W base args ds gs before hval0 hW _ _ hL0 _
 have hval : ∀ (j : Nat) t v, Tryz.f5.params[j]? = some t → args[j]? = some v → Value.okWide Tryz.prog W .any base t v := hval0
 have hL : laidMet Tryz.prog Rows.fnSourceEndRow.laid W := by rw [MakeChecks.laidMetH_plain _ _ _ (by kernel_rfl)] at hL0; exact hL0
 have hW' := hW
 obtain ⟨p, q, hA0, hV, rfl, hfz, hnd⟩ := hW
 have hA : DataW.TrodAll enc Tryz.prog W 0 (fun _ => true) true Tryz.f5.params.toList args.toList ds p := hA0
 have hV' := hV
 rw [Tryz.params5] at hA hval
 obtain ⟨v0, vs0, d0, ds0, p0, q0, hargs, rfl, rfl, h0, r0⟩ := trodAll_cons hA
 obtain ⟨rfl, rfl, rfl⟩ := trodAll_nil r0
 obtain rfl : args = #[v0] := by cases args; simp_all
 obtain ⟨g1, rfl⟩ : ∃ g1, gs = [g1] := by
  match gs, hV' with
  | [g1], _ => exact ⟨g1, rfl⟩
  | [], h => exact h.elim
  | _ :: _ :: _, h => obtain ⟨_, _, _, _, _, _, _, _, _, _, h2, _⟩ := h; exact h2.elim
 have k0 := h0
 have lt0 : ∀ x ∈ p0, x.block < W.heap.size := by obtain ⟨m, hm⟩ := k0; exact DataW.trod_lt m _ _ _ hm
 obtain ⟨a0, y0, w0⟩ := arg_bytes (fid := ctx.fid) Tryz.underlying22 (by kernel_rfl) (hval 0 22 v0 rfl rfl) h0
 have hE : Qdl Tb GT Qqh 47000 [.sl .share .u8 a0] [] = some true := Go.TFnSourceEnd.laws_FnSourceEnd_eq a0 w0
 have hrun := law_top (C := ctx) laid rfl (g := 47000) (by decide) (args := #[v0]) (gok hL) (fixed hL) rfl (by
  intro i c v hc hv
  match i, hc, hv with
  | 0, hc, hv => simp at hc hv; subst hc hv; exact y0
  | i + 1, hc, _ => simp at hc) hE
 have efid : ctx.fid 47000 = 5 := by kernel_rfl
 rw [efid] at hrun
 refine hrun.mono fun e W' ⟨he, bel⟩ => ?_
 subst he
 exact ⟨_, rfl, _, _, _, [], _, _, hW', trodAll_mk1 (shut_bool Tryz.underlying4 _), (trodAll_cons_mk (Below.trod laidOut (by kernel_rfl) (of_decide_eq_true (by kernel_rfl)) k0 bel lt0) trodAll_mk0), Below.trodVars laidOut bel (by kernel_rfl) hV, bel.frame _, fun h => by cases h⟩
theorem over : Rows.fnSourceEndRow.holds Tryz.pinned (OpenSpec.ofChange Rows.fnSourceEndSpec) :=
 OpenClaim.holds_of_wide 5 Tryz.f5 rfl rfl rfl rfl rfl rfl rfl ⟨rfl, rfl, rfl, rfl, rfl⟩ rfl rfl rfl rfl rfl (by kernel_rfl) Tryz.func5 (by kernel_rfl)
  (of_decide_eq_true (by kernel_rfl)) (by unfold Func.isWrapper; first | (rw [if_pos (by decide +kernel)]; kernel_rfl) | (rw [if_neg (by decide +kernel)]; exact ⟨rfl, rfl⟩))
  (fun os started H enc _ => lifted os started H enc)
theorem card : Rows.FnSourceEndCardSaid :=
 Claim7.holds_tied_plain_at .later [] [.data, .data, .data, .sentinel, .sentinel, .data] true (true, "5de6f0d512bd517c254aafda946ddfcccf85ca62c77d5450a1470a454259f2cb") true
  over (fun _ h => by cases h) (by kernel_rfl) (fun _ h => by cases h) fnSourceEnd_row_tie rfl ⟨rfl, rfl⟩ (by kernel_rfl) rfl
  (fun f fn hf hfn => by
   obtain rfl : f = 5 := Option.some.inj ((show Tryz.prog.funcNamed "loop.example/cothreads/laws.FnSourceEnd" = some 5 by kernel_rfl).symm.trans hf) |>.symm
   obtain rfl : fn = Tryz.f5 := (Option.some.inj (Tryz.func5.symm.trans hfn)).symm
   exact ⟨by kernel_rfl, fun j t ht => by
    rw [Tryz.params5] at ht
    have hm : t ∈ [22] := by simpa using Array.mem_of_getElem? ht
    have hall : ([22].all fun u => !Tryz.prog.wantsStandIn u) = true := by kernel_rfl
    exact (show Tryz.prog.wantsStandIn t = false by simpa using List.all_eq_true.1 hall t hm)⟩)
  (by kernel_rfl)
end Go.Proofs.YthmemaednlaanabGreatDoor.fnSourceEnd
namespace Go.Proofs.YthmemaednlaanabGreatDoor
theorem fnSourceEnd_holds : Rows.FnSourceEndCardSaid := fnSourceEnd.card
#print axioms fnSourceEnd_holds
end Go.Proofs.YthmemaednlaanabGreatDoor