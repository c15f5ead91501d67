import Derived.Test.YthmemaednlaanabGreatDoorDFnSourceEndP
import Derived.KernelRfl
set_option linter.unusedVariables false
namespace Go.TFnSourceEnd
open Go Go.RowKit Go.Vs Go.Tv
theorem Rkz (a0 : List Int) : Tv.Le
 ((bif (decide (1048576 < (a0.length : Int))) then
some true
else
bnd (Rct a0) fun r1 =>
bnd (Rj r1) fun r2 =>
bnd (Rbk r1) fun r3 =>
(bif (!(r2.2 == r3.2)) then
(bif (r2.2 == r3.2) then
bnd (Raa r2.1 r3.1) fun r4 =>
some r4
else
some false)
else
bnd (Raa r2.1 r3.1) fun r5 =>
(bif (!r5) then
(bif (r2.2 == r3.2) then
bnd (Raa r2.1 r3.1) fun r6 =>
some r6
else
some false)
else
(bif (!r2.2) then
(bif (r2.2 == r3.2) then
bnd (Raa r2.1 r3.1) fun r7 =>
some r7
else
some false)
else
bnd (Rhd r1) fun r8 =>
bnd (cutL r8.1 0 (wrap64 ((r8.1.length : Int) - 1))) fun l9 =>
bnd (Rfa l9) fun r10 =>
bnd (Rj r10) fun r11 =>
bnd (catS r1 ([32, 59])) fun s12 =>
bnd (Rj s12) fun r13 =>
(bif r8.2 then
(bif (!r11.2) then
some (!r13.2)
else
some false)
else
some false))))) : Option (Bool))
 (laws_FnSourceEnd a0) := by
 rewrite [← Qyy]
 exact fun r h => fE Rn p47000 h
theorem Rjd (a0 : List Int) : Tv.Le
 (bnd (Rlg a0) fun r1 =>
bnd (Rhu r1.1 r1.2) fun r2 =>
bnd (Rgk r2.1) fun r3 =>
bnd (Rb 12 r2.2.1 r2.2.2) fun r4 =>
(bif (decide (r4.1 = 0)) then
bnd (Rig ([[32, 116, 97, 115, 107, 32, 123, 32, 125], [32, 125], [59], [32, 116, 97, 115, 107, 32, 123], [10], [32, 98, 111, 120, 32, 49, 32, 59]] : List (List UInt8)) r4.2.1 r4.2.2) fun r5 =>
bnd (catS r3 r5.1) fun s6 =>
some s6
else
(bif (decide (r4.1 = 1)) then
bnd (Rb (wrap64 ((r3.length : Int) + 1)) r4.2.1 r4.2.2) fun r7 =>
bnd (cutL r3 0 r7.1) fun s8 =>
some s8
else
(bif (decide (r4.1 = 2)) then
bnd (Rig ([[116, 97, 115, 107, 123, 125], [116, 97, 115, 107, 123, 121, 105, 101, 108, 100, 59, 121, 105, 101, 108, 100, 59, 125], [116, 97, 115, 107, 32, 123, 32, 115, 101, 110, 100, 32, 48, 32, 40, 97, 41, 32, 59, 32, 114, 101, 99, 118, 32, 48, 32, 98, 32, 59, 32, 125], [116, 97, 115, 107, 32, 123, 32, 105, 102, 32, 97, 32, 123, 32, 125, 32, 101, 108, 115, 101, 32, 123, 32, 125, 32, 125], [116, 97, 115, 107, 32, 123, 32, 112, 114, 105, 110, 116, 32, 51], [116, 97, 115, 107, 32, 123, 32, 114, 101, 99, 118, 32, 49, 32, 97, 32, 59, 32, 125], [116, 97, 115, 107, 32, 123, 32, 101, 32, 61, 32, 49, 32, 59, 32, 125]] : List (List UInt8)) r4.2.1 r4.2.2) fun r9 =>
bnd (catS ([98, 111, 120, 32, 48, 50, 32, 59, 10, 10]) r9.1) fun s10 =>
some s10
else
some r3))) : Option (List UInt8))
 (Rct a0) := by
 rewrite [← Qyy]
 exact fun r h => fE Rdo p45100 h
theorem Ray (a0 : List UInt8) : Tv.Le
 (bnd (Rhd a0) fun r1 =>
(bif (!r1.2) then
some (⟨[], []⟩, false)
else
bnd (Ri r1.1 false [] false [] r1.1 0 false false [] false []) fun r2 =>
bnd (Rl r2.1 r2.2.1.1 r2.2.1.2 r2.2.2.1.1 r2.2.2.1.2 r2.2.2.2.1 r2.2.2.2.2.1 r2.2.2.2.2.2.1 r2.2.2.2.2.2.2.1.1 r2.2.2.2.2.2.2.1.2 r2.2.2.2.2.2.2.2.1 r2.2.2.2.2.2.2.2.2) fun r3 =>
(bif r3.2.2.2.2.2.1 then
some (⟨[], []⟩, false)
else
(bif (!decide (r3.2.2.2.2.1 = (r3.1.length : Int))) then
some (⟨[], []⟩, false)
else
bnd (Ram (⟨r3.2.2.2.2.2.2.1.2, r3.2.2.2.2.2.2.2.2⟩ : Prg)) fun r4 =>
(bif (!r4) then
some (⟨[], []⟩, false)
else
some (⟨r3.2.2.2.2.2.2.1.2, r3.2.2.2.2.2.2.2.2⟩, true))))) : Option (Prg × Bool))
 (Rj a0) := by
 exact fun r h => fE Rrw p44400 h
theorem Rer (a0 : List UInt8) : Tv.Le
 (bnd (Rlf a0) fun r1 =>
(bif (!r1.2) then
some (⟨[], []⟩, false)
else
bnd (Rs r1.1 0 false [] false [] false [] false [] false ([] : List Int) false ([] : List (List Stm))) fun r2 =>
bnd (Ru r2.1 r2.2.1 r2.2.2.1.1 r2.2.2.1.2 r2.2.2.2.1.1 r2.2.2.2.1.2 r2.2.2.2.2.1.1 r2.2.2.2.2.1.2 r2.2.2.2.2.2.1.1 r2.2.2.2.2.2.1.2 r2.2.2.2.2.2.2.1.1 r2.2.2.2.2.2.2.1.2 r2.2.2.2.2.2.2.2.1 r2.2.2.2.2.2.2.2.2) fun r3 =>
(bif (!decide (r3.2.1 = (r3.1.length : Int))) then
some (⟨r3.2.2.2.2.1.2, r3.2.2.2.2.2.1.2⟩, false)
else
bnd (Rba (⟨r3.2.2.2.2.2.2.1.2, r3.2.2.2.2.2.2.2.2⟩ : Prg)) fun r4 =>
(bif (!r4) then
some (⟨r3.2.2.2.2.1.2, r3.2.2.2.2.2.1.2⟩, false)
else
some (⟨r3.2.2.2.2.2.2.1.2, r3.2.2.2.2.2.2.2.2⟩, true)))) : Option (Prg × Bool))
 (Rbk a0) := by
 exact fun r h => fE Rrw p44300 h
theorem Rla (a0 : Prg) (a1 : Prg) : Tv.Le
 (bnd (Rja a0.rooms a1.rooms) fun r1 =>
(bif (!r1) then
some false
else
(bif (!decide ((a0.tasks.length : Int) = (a1.tasks.length : Int))) then
some false
else
bnd (Rdc 0 a0.rooms a0.tasks a1.rooms a1.tasks) fun r2 =>
selm r2 (fun y3 =>
some true) (fun z4 =>
some z4))) : Option (Bool))
 (Raa a0 a1) := by
 exact fun r h => fE Rn p45000 h
theorem Rqs (a0 : List UInt8) : Tv.Le
 ((bif (decide (20000 < (a0.length : Int))) then
some ([], false)
else
bnd (Rab a0 false [] 0) fun r1 =>
selm r1 (fun y2 =>
some (y2.2, true)) (fun z3 =>
some (z3.1.2, z3.2.1))) : Option (List (List UInt8) × Bool))
 (Rhd a0) := by
 exact fun r h => fE Rrr p33400 h
theorem Rls (a0 : List (List UInt8)) : Tv.Le
 (bnd (Rce a0 a0 (a0.length : Int) 0) fun r1 =>
selm r1 (fun y2 =>
bnd (strings_Join y2 [32]) fun r4 =>
some r4) (fun z3 =>
some z3.2) : Option (List UInt8))
 (Rfa a0) := by
 exact fun r h => fE Rdo p36300 h
theorem Rrg (a0 : List Int) : Tv.Le
 ((bif (decide (2000 < (a0.length : Int))) then
bnd (cutL a0 0 2000) fun l1 =>
some (l1, 0)
else
some (a0, 0)) : Option (List Int × Int))
 (Rlg a0) := by
 exact fun r h => fE s100 p100 h
theorem Rms (a0b : List Int) (a0p : Int) : Tv.Le
 (bnd (Rjk a0b a0p) fun r1 =>
bnd (Rb 3 r1.2.1 r1.2.2) fun r2 =>
bnd (Rdp (wrap64 (1 + r2.1)) 0 r2.2.1 r2.2.2 false [] (⟨none, 0⟩ : Hd) r1.1 (⟨(some (List.length ([] : List Ent))), 0⟩ : Hd) (Qaq ([] : List Ent) .stms ([] : List (List Stm)))) fun r3 =>
bnd (Rb 16 r3.1 r3.2.1) fun r4 =>
(bif (decide (r4.1 = 0)) then
bnd (Rht r4.2.1 r4.2.2) fun r5 =>
bnd (idxN r3.2.2.2.2.2.1.n 0) fun i6 =>
bnd (Qli r3.2.2.2.2.2.2 .stms r3.2.2.2.2.2.1.id i6) fun e7 =>
bnd (Qjo (Qhq r3.2.2.2.2.2.2 .stms r3.2.2.2.2.2.1.id i6 ([⟨r5.1.kind, r5.1.var, r5.1.box, ⟨r5.1.e.op, r5.1.e.n, r5.1.e.args⟩, r5.1.body, r5.1.els⟩] : List Stm)) .stms r3.2.2.2.2.2.1.id) fun l8 =>
some (⟨r3.2.2.2.2.1, l8⟩, r5.2.1, r5.2.2)
else
bnd (Qjo r3.2.2.2.2.2.2 .stms r3.2.2.2.2.2.1.id) fun l9 =>
some (⟨r3.2.2.2.2.1, l9⟩, r4.2.1, r4.2.2)) : Option (Prg × List Int × Int))
 (Rhu a0b a0p) := by
 rewrite [← Qyy]
 exact fun r h => fE Rxi p22400 h
theorem Rle (a0 : Prg) : Tv.Le
 (bnd (Rba a0) fun r1 =>
(bif (!r1) then
some []
else
bnd (Rbs true ([] : List (List UInt8)) 0 a0.rooms a0.tasks) fun r2 =>
bnd (Rbt r2.1.1 r2.1.2 0 r2.2.1 r2.2.2) fun r3 =>
bnd (Rhn r3.2) fun r4 =>
some r4) : Option (List UInt8))
 (Rgk a0) := by
 exact fun r h => fE Rdo p44900 h
theorem Rnw (a1 : Int) (a0b : List Int) (a0p : Int) : Tv.Le
 ((bif (decide (a1 < 1)) then
some (0, a0b, (wrap64 (a0p + 1)))
else
(bif (decide ((a0b.length : Int) = 0)) then
some (0, a0b, (wrap64 (a0p + 1)))
else
(bif (decide ((wrap64 ((wrap64 (a0p + 1)) - 1)) < (a0b.length : Int))) then
bnd (geti a0b (wrap64 ((wrap64 (a0p + 1)) - 1))) fun e1 =>
bnd (remI (wrap64 (e1)) a1) fun n2 =>
some (n2, a0b, (wrap64 (a0p + 1)))
else
bnd (remI (wrap64 ((wrap64 (a0p + 1)) - 1)) (a0b.length : Int)) fun n3 =>
bnd (geti a0b n3) fun e4 =>
bnd (remI (wrap64 ((wrap64 ((wrap64 ((wrap64 (a0p + 1)) - 1)) * 7)) + 3)) (a0b.length : Int)) fun n5 =>
bnd (geti a0b n5) fun e6 =>
bnd (quoI .i64 (wrap64 ((wrap64 (a0p + 1)) - 1)) (a0b.length : Int)) fun n7 =>
bnd (remI (bits .xor .i64 (wrap64 ((wrap64 ((wrap64 ((wrap64 ((wrap64 (e4)) * 131)) + (wrap64 ((wrap64 (e6)) * 1117)))) + (wrap64 ((wrap64 ((wrap64 (a0p + 1)) - 1)) * 29)))) + (wrap64 (n7 * 53)))) (wrap64 (Int.tdiv (wrap64 ((wrap64 ((wrap64 ((wrap64 ((wrap64 (e4)) * 131)) + (wrap64 ((wrap64 (e6)) * 1117)))) + (wrap64 ((wrap64 ((wrap64 (a0p + 1)) - 1)) * 29)))) + (wrap64 (n7 * 53)))) 64))) a1) fun n8 =>
some (n8, a0b, (wrap64 (a0p + 1)))))) : Option (Int × List Int × Int))
 (Rb a1 a0b a0p) := by
 rewrite [← Qyy]
 exact fun r h => fE s200 p200 h
theorem Rqj (a1 : List (List UInt8)) (a0b : List Int) (a0p : Int) : Tv.Le
 (bnd (Rb (a1.length : Int) a0b a0p) fun r1 =>
bnd (geti a1 r1.1) fun e2 =>
some (e2, r1.2.1, r1.2.2) : Option (List UInt8 × List Int × Int))
 (Rig a1 a0b a0p) := by
 exact fun r h => fE Rxt p35500 h
theorem Ras (a1 : List UInt8) (a0tokens : List (List UInt8)) (a0at : Int) (a0failed : Bool) : Tv.Le
 (bnd (Raw a0tokens a0at a0failed) fun r1 =>
(bif (!(r1.1 == a1)) then
some (false, r1.2.1, r1.2.2.1, r1.2.2.2)
else
some (true, r1.2.1, (wrap64 (r1.2.2.1 + 1)), r1.2.2.2)) : Option (Bool × List (List UInt8) × Int × Bool))
 (Re a1 a0tokens a0at a0failed) := by
 rewrite [← Qyy]
 exact fun r h => fE Rxp p33600 h
theorem Rcf (a0tokens : List (List UInt8)) (a0at : Int) (a0failed : Bool) : Tv.Le
 (bnd (Rca a0tokens a0at a0failed) fun r1 =>
(bif (r1.1 == []) then
some (0, r1.2.1, r1.2.2.1, true)
else
(bif (decide (5 < (r1.1.length : Int))) then
some (0, r1.2.1, r1.2.2.1, true)
else
bnd (geti r1.1 0) fun c2 =>
bnd (Rfy (c2.toNat : Int)) fun r3 =>
(bif (!r3) then
some (0, r1.2.1, r1.2.2.1, true)
else
bnd (strconv_Atoi r1.1) fun r4 =>
some (r4, r1.2.1, r1.2.2.1, r1.2.2.2)))) : Option (Int × List (List UInt8) × Int × Bool))
 (Rad a0tokens a0at a0failed) := by
 exact fun r h => fE Rru p33900 h
theorem Raz (a1 : List UInt8) (a0tokens : List (List UInt8)) (a0at : Int) (a0failed : Bool) : Tv.Le
 (bnd (Re a1 a0tokens a0at a0failed) fun r1 =>
(bif (!r1.1) then
some (r1.2.1, r1.2.2.1, true)
else
some (r1.2.1, r1.2.2.1, r1.2.2.2)) : Option (List (List UInt8) × Int × Bool))
 (Rg a1 a0tokens a0at a0failed) := by
 exact fun r h => fE Rxq p33700 h
theorem Rax (t4 : List (List UInt8)) (b100_0b : Bool) (b100_0 : List Int) (b100_1b : Bool) (b100_1 : List (List Stm)) (b101_0 : List (List UInt8)) (b101_1 : Int) (b101_2 : Bool) (b102_0b : Bool) (b102_0 : List Int) (b102_1b : Bool) (b102_1 : List (List Stm)) : Tv.Le
 (bnd (Re ([98, 111, 120]) b101_0 b101_1 b101_2) fun r1 =>
(bif r1.1 then
bnd (Rad r1.2.1 r1.2.2.1 r1.2.2.2) fun r2 =>
bnd (appL b102_0 ([r2.1] : List Int)) fun l3 =>
bnd (Rg [59] r2.2.1 r2.2.2.1 r2.2.2.2) fun r4 =>
Ri t4 b100_0b b100_0 b100_1b b100_1 r4.1 r4.2.1 r4.2.2 true l3 b102_1b b102_1
else
some (t4, (b100_0b, b100_0), (b100_1b, b100_1), r1.2.1, r1.2.2.1, r1.2.2.2, (b102_0b, b102_0), (b102_1b, b102_1))) : Option (List (List UInt8) × (Bool × List Int) × (Bool × List (List Stm)) × List (List UInt8) × Int × Bool × (Bool × List Int) × (Bool × List (List Stm))))
 (Ri t4 b100_0b b100_0 b100_1b b100_1 b101_0 b101_1 b101_2 b102_0b b102_0 b102_1b b102_1) := by
 exact fun r h => lE Rxy p44401 h
theorem Rdz (a0tokens : List (List UInt8)) (a0at : Int) (a0failed : Bool) : Tv.Le
 (bnd (Rg [123] a0tokens a0at a0failed) fun r1 =>
bnd (Rac false [] r1.1 r1.2.1 r1.2.2) fun r2 =>
some (r2.1.2, r2.2.1, r2.2.2.1, r2.2.2.2) : Option (List Stm × List (List UInt8) × Int × Bool))
 (Rat a0tokens a0at a0failed) := by
 exact fun r h => fE Rye p45500 h
theorem Rbx (t4 : List (List UInt8)) (b100_0b : Bool) (b100_0 : List Int) (b100_1b : Bool) (b100_1 : List (List Stm)) (b101_0 : List (List UInt8)) (b101_1 : Int) (b101_2 : Bool) (b102_0b : Bool) (b102_0 : List Int) (b102_1b : Bool) (b102_1 : List (List Stm)) : Tv.Le
 (bnd (Re ([116, 97, 115, 107]) b101_0 b101_1 b101_2) fun r1 =>
(bif r1.1 then
bnd (Rat r1.2.1 r1.2.2.1 r1.2.2.2) fun r2 =>
bnd (appL b102_1 ([r2.1] : List (List Stm))) fun l3 =>
Rl t4 b100_0b b100_0 b100_1b b100_1 r2.2.1 r2.2.2.1 r2.2.2.2 b102_0b b102_0 true l3
else
some (t4, (b100_0b, b100_0), (b100_1b, b100_1), r1.2.1, r1.2.2.1, r1.2.2.2, (b102_0b, b102_0), (b102_1b, b102_1))) : Option (List (List UInt8) × (Bool × List Int) × (Bool × List (List Stm)) × List (List UInt8) × Int × Bool × (Bool × List Int) × (Bool × List (List Stm))))
 (Rl t4 b100_0b b100_0 b100_1b b100_1 b101_0 b101_1 b101_2 b102_0b b102_0 b102_1b b102_1) := by
 exact fun r h => lE Rxz p44402 h
theorem Rkm (a0 : Prg) : Tv.Le
 (bnd (Rhe a0.rooms) fun r1 =>
(bif (!r1) then
some false
else
(bif (decide ((a0.tasks.length : Int) < 1)) then
some false
else
(bif (decide (3 < (a0.tasks.length : Int))) then
some false
else
bnd (Rbl a0.tasks (a0.tasks.length : Int) 0 a0.rooms a0.tasks) fun r2 =>
selm r2 (fun y3 =>
some true) (fun z4 =>
some z4)))) : Option (Bool))
 (Ram a0) := by
 exact fun r h => fE Rn p22800 h
theorem Rqw (a0 : List UInt8) : Tv.Le
 ((bif (decide (20000 < (a0.length : Int))) then
some (([] : List (List UInt8)), false)
else
bnd (Rak a0 true ([] : List (List UInt8)) 0) fun r1 =>
selm r1 (fun y2 =>
some (y2.2, true)) (fun z3 =>
some (z3.1.2, z3.2.1))) : Option (List (List UInt8) × Bool))
 (Rlf a0) := by
 exact fun r h => fE Rrr p32200 h
theorem Rmn (a0 : List (List UInt8)) (a1 : Int) (a2 : List UInt8) : Tv.Le
 ((bif (decide (0 ≤ a1)) then
(bif (decide (a1 < (a0.length : Int))) then
bnd (geti a0 a1) fun e1 =>
some (e1 == a2)
else
some false)
else
some false) : Option (Bool))
 (Ra a0 a1 a2) := by
 exact fun r h => fE Rn p45200 h
theorem Rqz (a0 : List (List UInt8)) (a1 : Int) : Tv.Le
 ((bif (decide ((a0.length : Int) ≤ a1)) then
some (-1)
else
bnd (geti a0 a1) fun e1 =>
bnd (Rff e1) fun r2 =>
some r2) : Option (Int))
 (Rr a0 a1) := by
 exact fun r h => fE Rcs p45300 h
theorem Rdm (t5 : List (List UInt8)) (t8 : Int) (b100_0b : Bool) (b100_0 : List Int) (b100_1b : Bool) (b100_1 : List (List Stm)) (b101_0b : Bool) (b101_0 : List Int) (b101_1b : Bool) (b101_1 : List (List Stm)) (b102_0b : Bool) (b102_0 : List Int) (b102_1b : Bool) (b102_1 : List (List Stm)) : Tv.Le
 (bnd (Ra t5 t8 ([98, 111, 120])) fun r1 =>
(bif r1 then
bnd (Rr t5 (wrap64 (t8 + 1))) fun r2 =>
(bif (decide (0 ≤ r2)) then
bnd (Ra t5 (wrap64 (t8 + 2)) [59]) fun r3 =>
(bif r3 then
bnd (Rr t5 (wrap64 (t8 + 1))) fun r4 =>
bnd (appL b102_0 ([r4] : List Int)) fun l5 =>
Rs t5 (wrap64 (t8 + 3)) b100_0b b100_0 b100_1b b100_1 b101_0b b101_0 b101_1b b101_1 true l5 b102_1b b102_1
else
some (t5, t8, (b100_0b, b100_0), (b100_1b, b100_1), (b101_0b, b101_0), (b101_1b, b101_1), (b102_0b, b102_0), (b102_1b, b102_1)))
else
some (t5, t8, (b100_0b, b100_0), (b100_1b, b100_1), (b101_0b, b101_0), (b101_1b, b101_1), (b102_0b, b102_0), (b102_1b, b102_1)))
else
some (t5, t8, (b100_0b, b100_0), (b100_1b, b100_1), (b101_0b, b101_0), (b101_1b, b101_1), (b102_0b, b102_0), (b102_1b, b102_1))) : Option (List (List UInt8) × Int × (Bool × List Int) × (Bool × List (List Stm)) × (Bool × List Int) × (Bool × List (List Stm)) × (Bool × List Int) × (Bool × List (List Stm))))
 (Rs t5 t8 b100_0b b100_0 b100_1b b100_1 b101_0b b101_0 b101_1b b101_1 b102_0b b102_0 b102_1b b102_1) := by
 rewrite [← Qyy]
 exact fun r h => lE Rxw p44301 h
theorem Rjx (a0 : List (List UInt8)) (a1 : Int) : Tv.Le
 (bnd (Ra a0 a1 [123]) fun r1 =>
(bif (!r1) then
some (([] : List Stm), (-1))
else
bnd (Rbg a0 (wrap64 (a1 + 1)) true ([] : List Stm)) fun r2 =>
bnd (Ra r2.1 r2.2.1 [125]) fun r3 =>
(bif (!r3) then
some (([] : List Stm), (-1))
else
some (r2.2.2.2, (wrap64 (r2.2.1 + 1))))) : Option (List Stm × Int))
 (Rbf a0 a1) := by
 rewrite [← Qyy]
 exact fun r h => fE Ryc p45400 h
theorem Rby (t5 : List (List UInt8)) (t8 : Int) (b100_0b : Bool) (b100_0 : List Int) (b100_1b : Bool) (b100_1 : List (List Stm)) (b101_0b : Bool) (b101_0 : List Int) (b101_1b : Bool) (b101_1 : List (List Stm)) (b102_0b : Bool) (b102_0 : List Int) (b102_1b : Bool) (b102_1 : List (List Stm)) : Tv.Le
 (bnd (Ra t5 t8 ([116, 97, 115, 107])) fun r1 =>
(bif r1 then
bnd (Rbf t5 (wrap64 (t8 + 1))) fun r2 =>
bnd (appL b102_1 ([r2.1] : List (List Stm))) fun l3 =>
Ru t5 r2.2 b100_0b b100_0 b100_1b b100_1 b101_0b b101_0 b101_1b b101_1 b102_0b b102_0 true l3
else
some (t5, t8, (b100_0b, b100_0), (b100_1b, b100_1), (b101_0b, b101_0), (b101_1b, b101_1), (b102_0b, b102_0), (b102_1b, b102_1))) : Option (List (List UInt8) × Int × (Bool × List Int) × (Bool × List (List Stm)) × (Bool × List Int) × (Bool × List (List Stm)) × (Bool × List Int) × (Bool × List (List Stm))))
 (Ru t5 t8 b100_0b b100_0 b100_1b b100_1 b101_0b b101_0 b101_1b b101_1 b102_0b b102_0 b102_1b b102_1) := by
 rewrite [← Qyy]
 exact fun r h => lE Rxx p44302 h
theorem Rko (a0 : Prg) : Tv.Le
 (bnd (Rjh a0.rooms) fun r1 =>
(bif (!r1) then
some false
else
bnd (Red (a0.tasks.length : Int) 1 3) fun r2 =>
(bif (!r2) then
some false
else
bnd (Rbm 0 a0.rooms a0.tasks) fun r3 =>
selm r3 (fun y4 =>
some true) (fun z5 =>
some z5))) : Option (Bool))
 (Rba a0) := by
 exact fun r h => fE Rn p23300 h
theorem Ror (a0 : List Int) (a1 : List Int) : Tv.Le
 ((bif (!decide ((a0.length : Int) = (a1.length : Int))) then
some false
else
bnd (Ref a0 a1 0) fun r1 =>
selm r1 (fun y2 =>
some true) (fun z3 =>
some z3)) : Option (Bool))
 (Rja a0 a1) := by
 exact fun r h => fE Rn p9700 h
theorem Rnm (a0 : List Stm) (a1 : List Stm) : Tv.Le
 ((bif (!decide ((a0.length : Int) = (a1.length : Int))) then
some false
else
bnd (Rcy a0 a1 0) fun r1 =>
selm r1 (fun y2 =>
some true) (fun z3 =>
some z3)) : Option (Bool))
 (Raj a0 a1) := by
 exact fun r h => fE Rn p9900 h
theorem Rfj (t5 : Int) (b100_0 : List Int) (b100_1 : List (List Stm)) (b101_0 : List Int) (b101_1 : List (List Stm)) : Tv.Le
 ((bif (decide (t5 < (b100_1.length : Int))) then
bnd (geti b100_1 t5) fun e1 =>
bnd (geti b101_1 t5) fun e2 =>
bnd (Raj e1 e2) fun r3 =>
(bif (!r3) then
some (.inr false)
else
Rdc (wrap64 (t5 + 1)) b100_0 b100_1 b101_0 b101_1)
else
some (.inl ())) : Option (Unit ⊕ Bool))
 (Rdc t5 b100_0 b100_1 b101_0 b101_1) := by
 rewrite [← Qyy]
 exact fun r h => lE Rgv p45001 h
theorem Rky (a0 : List UInt8) : Tv.Le
 (bnd (Rbq a0 (([33100, 33200] : List Nat).length : Int) 0) fun r1 =>
selm r1 (fun y2 =>
bnd (Rbr y2 .full ([[61, 61], [60, 60], [62, 62]] : List (List UInt8)) (([[61, 61], [60, 60], [62, 62]] : List (List UInt8)).length : Int) 0) fun r4 =>
selm r4 (fun y5 =>
(bif (!(y5 == [])) then
bnd (geti y5 0) fun c7 =>
bnd (strings_IndexByte ([124, 94, 38, 60, 43, 45, 42, 47, 37, 40, 41, 123, 125, 61, 59]) (c7.toNat : Int)) fun r8 =>
(bif (decide (0 ≤ r8)) then
some 1
else
some 0)
else
some 0)) (fun z6 =>
some z6.2)) (fun z3 =>
some z3.2) : Option (Int))
 (Rdd a0) := by
 exact fun r h => fE Rcs p33300 h
theorem Rdv (t0 : List UInt8) (t4b : Bool) (t4 : List (List UInt8)) (t5 : Int) : Tv.Le
 ((bif (decide (t5 < (t0.length : Int))) then
bnd (geti t0 t5) fun c1 =>
(bif (decide ((c1.toNat : Int) = 32)) then
Rab t0 t4b t4 (wrap64 (t5 + 1))
else
bnd (geti t0 t5) fun c2 =>
(bif (decide ((c2.toNat : Int) = 10)) then
Rab t0 t4b t4 (wrap64 (t5 + 1))
else
bnd (cutL t0 t5 (t0.length : Int)) fun s3 =>
bnd (Rdd s3) fun r4 =>
(bif (decide (r4 = 0)) then
some (.inr ((false, []), false, (t4b, t4)))
else
bnd (cutL t0 t5 (wrap64 (t5 + r4))) fun s5 =>
bnd (appL t4 ([s5] : List (List UInt8))) fun l6 =>
Rab t0 true l6 (wrap64 (t5 + r4)))))
else
some (.inl (t4b, t4))) : Option (((Bool × List (List UInt8))) ⊕ ((Bool × List (List UInt8)) × Bool × (Bool × List (List UInt8)))))
 (Rab t0 t4b t4 t5) := by
 rewrite [← Qyy]
 exact fun r h => lE Rrs p33401 h
theorem Rlr (a0 : List UInt8) : Tv.Le
 ((bif (!(a0 == [])) then
bnd (Rdd a0) fun r1 =>
some (decide (r1 = (a0.length : Int)))
else
some false) : Option (Bool))
 (Rhc a0) := by
 exact fun r h => fE Rn p36200 h
theorem Rfx (t0 : List (List UInt8)) (t5 : List (List UInt8)) (t6 : Int) (t7 : Int) : Tv.Le
 ((bif (decide (t7 < t6)) then
bnd (geti t5 t7) fun e1 =>
bnd (Rhc e1) fun r2 =>
(bif (!r2) then
some (.inr (t0, []))
else
Rce t0 t5 t6 (wrap64 (t7 + 1)))
else
some (.inl t0)) : Option (List (List UInt8) ⊕ (List (List UInt8) × List UInt8)))
 (Rce t0 t5 t6 t7) := by
 rewrite [← Qyy]
 exact fun r h => lE Rxu p36301 h
theorem Rqp (a0 : List (List UInt8)) (a1 : List UInt8) : Tv.Le (if a0.length ≤ Vs.LIM ∧ (Lib.join a0 a1).length ≤ Vs.LIM then some (Lib.join a0 a1) else none : Option (List UInt8)) (strings_Join a0 a1) := fun r h => by
 exact prim_le (F := Tb) (G := GT) (sg := fun _ => Rdo) (g := 37800) (p := p37800) (x := r) (tv := [.sl .share .str a0, .str a1]) (v := .str r) (by kernel_rfl) rfl (join_pf h) rfl
theorem Rpe (a0b : List Int) (a0p : Int) : Tv.Le
 (bnd (Rb 6 a0b a0p) fun r1 =>
bnd (geti ([0, 1, 1, 2, 2, 3] : List Int) r1.1) fun e2 =>
bnd (Rei true ([] : List Int) e2 0 r1.2.1 r1.2.2) fun r3 =>
some (r3.1.2, r3.2.1, r3.2.2) : Option (List Int × List Int × Int))
 (Rjk a0b a0p) := by
 exact fun r h => fE Rxg p22300 h
theorem Rpf (a1 : Int) (a0b : List Int) (a0p : Int) : Tv.Le
 (bnd (Rb 6 a0b a0p) fun r1 =>
bnd (Rco a1 3 (wrap64 (1 + r1.1)) true r1.2.1 r1.2.2) fun r2 =>
bnd (Rej (.own true) r2.1 r2.2.1 r2.2.2) fun r3 =>
some (((Md.res r3.1.1), r3.1.2), r3.2.1, r3.2.2) : Option ((Md × List Stm) × List Int × Int))
 (Rjl a1 a0b a0p) := by
 rewrite [← Qyy]
 exact fun r h => fE s4700 p4700 h
theorem Rgf (t4 : Int) (t5 : Int) (b0_0 : List Int) (b0_1 : Int) (b100_0b : Bool) (b100_0 : List Int) (b100_1 : Hd) (b101_0 : List Int) (b101_1 : Hd) (b99 : List Ent) : Tv.Le
 ((bif (decide (t5 < t4)) then
bnd (Rjl (b101_0.length : Int) b0_0 b0_1) fun r1 =>
bnd (Qmz b99 .stms b101_1.id b101_1.n ([r1.1.2] : List (List Stm))) fun B2 =>
Rdp t4 (wrap64 (t5 + 1)) r1.2.1 r1.2.2 b100_0b b100_0 b100_1 b101_0 (⟨(some (List.length b99)), (b101_1.n + List.length ([r1.1.2] : List (List Stm)))⟩ : Hd) B2
else
some (b0_0, b0_1, (b100_0b, b100_0), b100_1, b101_0, b101_1, b99)) : Option (List Int × Int × (Bool × List Int) × Hd × List Int × Hd × List Ent))
 (Rdp t4 t5 b0_0 b0_1 b100_0b b100_0 b100_1 b101_0 b101_1 b99) := by
 rewrite [← Qyy]
 exact fun r h => lE Rxj p22401 h
theorem Rmr (a0b : List Int) (a0p : Int) : Tv.Le
 (bnd (Rbb 0 1) fun r1 =>
bnd (Rb 2 a0b a0p) fun r2 =>
bnd (Rco 0 1 r2.1 false r2.2.1 r2.2.2) fun r3 =>
some (⟨3, 0, 0, ⟨r1.1, r1.2.1, r1.2.2.2⟩, r3.1, []⟩, r3.2.1, r3.2.2) : Option (Stm × List Int × Int))
 (Rht a0b a0p) := by
 exact fun r h => fE Ros p8700 h
theorem Rjj (a0 : Int) : Tv.Le
 ((bif (decide (a0 < (-9223372036854775807))) then
some ([45, 57, 50, 50, 51, 51, 55, 50, 48, 51, 54, 56, 53, 52, 55, 55, 53, 56, 48, 56])
else
(bif (decide (a0 < 0)) then
bnd (Rdj (wrap64 (0 - a0))) fun r1 =>
bnd (catS [45] r1) fun s2 =>
some s2
else
(bif (decide (a0 < 10)) then
some (Tv.bytes ([(((wrap64 (48 + a0))) % 256)] : List Int))
else
bnd (Rdj (wrap64 (Int.tdiv a0 10))) fun r3 =>
bnd (catS r3 (Tv.bytes ([(((wrap64 (48 + (Int.tmod a0 10)))) % 256)] : List Int))) fun s4 =>
some s4))) : Option (List UInt8))
 (Rdj a0) := by
 rewrite [← Qyy]
 exact fun r h => fE Rdo p20500 h
theorem Rfk (t3b : Bool) (t3 : List (List UInt8)) (t4 : Int) (b100_0 : List Int) (b100_1 : List (List Stm)) : Tv.Le
 ((bif (decide (t4 < (b100_0.length : Int))) then
bnd (geti b100_0 t4) fun e1 =>
bnd (Rdj e1) fun r2 =>
bnd (appL t3 ([[98, 111, 120], r2, [59]] : List (List UInt8))) fun l3 =>
Rbs true l3 (wrap64 (t4 + 1)) b100_0 b100_1
else
some ((t3b, t3), b100_0, b100_1)) : Option ((Bool × List (List UInt8)) × List Int × List (List Stm)))
 (Rbs t3b t3 t4 b100_0 b100_1) := by
 rewrite [← Qyy]
 exact fun r h => lE Rya p44901 h
theorem Rpa (a0 : List Stm) : Tv.Le
 (bnd (Rdh a0 true ([[123]] : List (List UInt8)) 0) fun r1 =>
bnd (appL r1.2 ([[125]] : List (List UInt8))) fun l2 =>
some l2 : Option (List (List UInt8)))
 (Rcj a0) := by
 exact fun r h => fE Rhj p45900 h
theorem Rfl (t3b : Bool) (t3 : List (List UInt8)) (t5 : Int) (b100_0 : List Int) (b100_1 : List (List Stm)) : Tv.Le
 ((bif (decide (t5 < (b100_1.length : Int))) then
bnd (appL t3 ([[116, 97, 115, 107]] : List (List UInt8))) fun l1 =>
bnd (geti b100_1 t5) fun e2 =>
bnd (Rcj e2) fun r3 =>
bnd (appL l1 r3) fun l4 =>
Rbt true l4 (wrap64 (t5 + 1)) b100_0 b100_1
else
some (t3b, t3)) : Option ((Bool × List (List UInt8))))
 (Rbt t3b t3 t5 b100_0 b100_1) := by
 rewrite [← Qyy]
 exact fun r h => lE Ryb p44902 h
theorem Rmk (a0 : List (List UInt8)) : Tv.Le
 (bnd (Rbj a0 [] 0) fun r1 =>
selm r1 (fun y2 =>
some y2) (fun z3 =>
some z3.1) : Option (List UInt8))
 (Rhn a0) := by
 exact fun r h => fE Rdo p35000 h
theorem Rel (a0tokens : List (List UInt8)) (a0at : Int) (a0failed : Bool) : Tv.Le
 ((bif (decide (a0at < (a0tokens.length : Int))) then
(bif (!a0failed) then
bnd (geti a0tokens a0at) fun e1 =>
some (e1, a0tokens, a0at, a0failed)
else
some ([], a0tokens, a0at, a0failed))
else
some ([], a0tokens, a0at, a0failed)) : Option (List UInt8 × List (List UInt8) × Int × Bool))
 (Raw a0tokens a0at a0failed) := by
 exact fun r h => fE Rrt p33500 h
theorem Rem (a0tokens : List (List UInt8)) (a0at : Int) (a0failed : Bool) : Tv.Le
 (bnd (Raw a0tokens a0at a0failed) fun r1 =>
(bif (r1.1 == []) then
some (r1.1, r1.2.1, (wrap64 (r1.2.2.1 + 1)), true)
else
some (r1.1, r1.2.1, (wrap64 (r1.2.2.1 + 1)), r1.2.2.2)) : Option (List UInt8 × List (List UInt8) × Int × Bool))
 (Rca a0tokens a0at a0failed) := by
 rewrite [← Qyy]
 exact fun r h => fE Rrt p33800 h
theorem Rpq (a0 : Int) : Tv.Le
 ((bif (decide (48 ≤ a0)) then
some (decide (a0 ≤ 57))
else
some false) : Option (Bool))
 (Rfy a0) := by
 exact fun r h => fE Rn p33100 h
theorem Rqo (a0 : List UInt8) : Tv.Le (if a0.length ≤ 18 then Lib.atoi a0 else none : Option (Int)) (strconv_Atoi a0) := fun r h => by
 exact prim_le (F := Tb) (G := GT) (sg := fun _ => Rxv) (g := 37700) (p := p37700) (x := r) (tv := [.str a0]) (v := .tup [.int .i64 r, .undef]) (by kernel_rfl) rfl (atoi_pf h) rfl
theorem Rz (a0tokens : List (List UInt8)) (a0at : Int) (a0failed : Bool) : Tv.Le
 (bnd (Re ([105, 102]) a0tokens a0at a0failed) fun r1 =>
(bif r1.1 then
bnd (Rf 1 r1.2.1 r1.2.2.1 r1.2.2.2) fun r2 =>
bnd (Rat r2.2.1 r2.2.2.1 r2.2.2.2) fun r3 =>
bnd (Re ([101, 108, 115, 101]) r3.2.1 r3.2.2.1 r3.2.2.2) fun r4 =>
(bif r4.1 then
bnd (Rat r4.2.1 r4.2.2.1 r4.2.2.2) fun r5 =>
some (⟨2, 0, 0, ⟨r2.1.op, r2.1.n, r2.1.args⟩, r3.1, r5.1⟩, r5.2.1, r5.2.2.1, r5.2.2.2)
else
some (⟨2, 0, 0, ⟨r2.1.op, r2.1.n, r2.1.args⟩, r3.1, []⟩, r4.2.1, r4.2.2.1, r4.2.2.2))
else
bnd (Re ([119, 104, 105, 108, 101]) r1.2.1 r1.2.2.1 r1.2.2.2) fun r6 =>
(bif r6.1 then
bnd (Rf 1 r6.2.1 r6.2.2.1 r6.2.2.2) fun r7 =>
bnd (Rat r7.2.1 r7.2.2.1 r7.2.2.2) fun r8 =>
some (⟨3, 0, 0, ⟨r7.1.op, r7.1.n, r7.1.args⟩, r8.1, []⟩, r8.2.1, r8.2.2.1, r8.2.2.2)
else
bnd (Re ([115, 101, 110, 100]) r6.2.1 r6.2.2.1 r6.2.2.2) fun r9 =>
(bif r9.1 then
bnd (Rad r9.2.1 r9.2.2.1 r9.2.2.2) fun r10 =>
bnd (Rf 1 r10.2.1 r10.2.2.1 r10.2.2.2) fun r11 =>
bnd (Rg [59] r11.2.1 r11.2.2.1 r11.2.2.2) fun r12 =>
some (⟨4, 0, r10.1, ⟨r11.1.op, r11.1.n, r11.1.args⟩, [], []⟩, r12.1, r12.2.1, r12.2.2)
else
bnd (Re ([114, 101, 99, 118]) r9.2.1 r9.2.2.1 r9.2.2.2) fun r13 =>
(bif r13.1 then
bnd (Rad r13.2.1 r13.2.2.1 r13.2.2.2) fun r14 =>
bnd (Rk r14.2.1 r14.2.2.1 r14.2.2.2) fun r15 =>
bnd (Rg [59] r15.2.1 r15.2.2.1 r15.2.2.2) fun r16 =>
some (⟨5, r15.1, r14.1, ⟨0, 0, []⟩, [], []⟩, r16.1, r16.2.1, r16.2.2)
else
bnd (Re ([121, 105, 101, 108, 100]) r13.2.1 r13.2.2.1 r13.2.2.2) fun r17 =>
(bif r17.1 then
bnd (Rg [59] r17.2.1 r17.2.2.1 r17.2.2.2) fun r18 =>
some (⟨6, 0, 0, ⟨0, 0, []⟩, [], []⟩, r18.1, r18.2.1, r18.2.2)
else
bnd (Re ([112, 114, 105, 110, 116]) r17.2.1 r17.2.2.1 r17.2.2.2) fun r19 =>
(bif r19.1 then
bnd (Rf 1 r19.2.1 r19.2.2.1 r19.2.2.2) fun r20 =>
bnd (Rg [59] r20.2.1 r20.2.2.1 r20.2.2.2) fun r21 =>
some (⟨7, 0, 0, ⟨r20.1.op, r20.1.n, r20.1.args⟩, [], []⟩, r21.1, r21.2.1, r21.2.2)
else
bnd (Rk r19.2.1 r19.2.2.1 r19.2.2.2) fun r22 =>
bnd (Rg [61] r22.2.1 r22.2.2.1 r22.2.2.2) fun r23 =>
bnd (Rf 1 r23.1 r23.2.1 r23.2.2) fun r24 =>
bnd (Rg [59] r24.2.1 r24.2.2.1 r24.2.2.2) fun r25 =>
some (⟨1, r22.1, 0, ⟨r24.1.op, r24.1.n, r24.1.args⟩, [], []⟩, r25.1, r25.2.1, r25.2.2))))))) : Option (Stm × List (List UInt8) × Int × Bool))
 (Rbz a0tokens a0at a0failed) := by
 exact fun r h => fE Ryh p46100 h
end Go.TFnSourceEnd