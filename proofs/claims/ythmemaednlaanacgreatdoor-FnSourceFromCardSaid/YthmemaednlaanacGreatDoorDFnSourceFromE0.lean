import Derived.Test.YthmemaednlaanacGreatDoorDFnSourceFromP
import Derived.KernelRfl
set_option linter.unusedVariables false
namespace Go.TFnSourceFrom
open Go Go.RowKit Go.Vs Go.Tv
theorem Rkx (a0 : List Int) : Tv.Le
 ((bif (decide (1048576 < (a0.length : Int))) then
some true
else
bnd (Rdc a0) fun r1 =>
bnd (Rq r1) fun r2 =>
bnd (Rbp r1) fun r3 =>
(bif (!(r2.2 == r3.2)) then
(bif (r2.2 == r3.2) then
bnd (Rw r2.1 r3.1) fun r4 =>
some r4
else
some false)
else
bnd (Rw r2.1 r3.1) fun r5 =>
(bif (!r5) then
(bif (r2.2 == r3.2) then
bnd (Rw r2.1 r3.1) fun r6 =>
some r6
else
some false)
else
(bif (!r2.2) then
(bif (r2.2 == r3.2) then
bnd (Rw r2.1 r3.1) fun r7 =>
some r7
else
some false)
else
bnd (Ret r2.1) fun r8 =>
bnd (Rq r8) fun r9 =>
bnd (Rv r2.1) fun r10 =>
(bif r10 then
(bif r9.2 then
bnd (Rw r9.1 r2.1) fun r11 =>
some r11
else
some false)
else
some false))))) : Option (Bool))
 (laws_FnSourceFrom a0) := by
 exact fun r h => fE Rl p47100 h
theorem Rjs (a0 : List Int) : Tv.Le
 (bnd (Rlw a0) fun r1 =>
bnd (Rij r1.1 r1.2) fun r2 =>
bnd (Rha r2.1) fun r3 =>
bnd (Rb 12 r2.2.1 r2.2.2) fun r4 =>
(bif (decide (r4.1 = 0)) then
bnd (Riu ([[32, 116, 97, 115, 107, 32, 123, 32, 125], [32, 125], [59], [32, 116, 97, 115, 107, 32, 123], [10], [32, 98, 111, 120, 32, 49, 32, 59]] : List (List UInt8)) r4.2.1 r4.2.2) fun r5 =>
bnd (catS r3 r5.1) fun s6 =>
some s6
else
(bif (decide (r4.1 = 1)) then
bnd (Rb (wrap64 ((r3.length : Int) + 1)) r4.2.1 r4.2.2) fun r7 =>
bnd (cutL r3 0 r7.1) fun s8 =>
some s8
else
(bif (decide (r4.1 = 2)) then
bnd (Riu ([[116, 97, 115, 107, 123, 125], [116, 97, 115, 107, 123, 121, 105, 101, 108, 100, 59, 121, 105, 101, 108, 100, 59, 125], [116, 97, 115, 107, 32, 123, 32, 115, 101, 110, 100, 32, 48, 32, 40, 97, 41, 32, 59, 32, 114, 101, 99, 118, 32, 48, 32, 98, 32, 59, 32, 125], [116, 97, 115, 107, 32, 123, 32, 105, 102, 32, 97, 32, 123, 32, 125, 32, 101, 108, 115, 101, 32, 123, 32, 125, 32, 125], [116, 97, 115, 107, 32, 123, 32, 112, 114, 105, 110, 116, 32, 51], [116, 97, 115, 107, 32, 123, 32, 114, 101, 99, 118, 32, 49, 32, 97, 32, 59, 32, 125], [116, 97, 115, 107, 32, 123, 32, 101, 32, 61, 32, 49, 32, 59, 32, 125]] : List (List UInt8)) r4.2.1 r4.2.2) fun r9 =>
bnd (catS ([98, 111, 120, 32, 48, 50, 32, 59, 10, 10]) r9.1) fun s10 =>
some s10
else
some r3))) : Option (List UInt8))
 (Rdc a0) := by
 rewrite [← Qzc]
 exact fun r h => fE Rbg p45100 h
theorem Rbc (a0 : List UInt8) : Tv.Le
 (bnd (Rlk a0) fun r1 =>
(bif (!r1.2) then
some (⟨[], []⟩, false)
else
bnd (Ri r1.1 false [] false [] r1.1 0 false false [] false []) fun r2 =>
bnd (Rk r2.1 r2.2.1.1 r2.2.1.2 r2.2.2.1.1 r2.2.2.1.2 r2.2.2.2.1 r2.2.2.2.2.1 r2.2.2.2.2.2.1 r2.2.2.2.2.2.2.1.1 r2.2.2.2.2.2.2.1.2 r2.2.2.2.2.2.2.2.1 r2.2.2.2.2.2.2.2.2) fun r3 =>
(bif r3.2.2.2.2.2.1 then
some (⟨[], []⟩, false)
else
(bif (!decide (r3.2.2.2.2.1 = (r3.1.length : Int))) then
some (⟨[], []⟩, false)
else
bnd (Rv (⟨r3.2.2.2.2.2.2.1.2, r3.2.2.2.2.2.2.2.2⟩ : Prg)) fun r4 =>
(bif (!r4) then
some (⟨[], []⟩, false)
else
some (⟨r3.2.2.2.2.2.2.1.2, r3.2.2.2.2.2.2.2.2⟩, true))))) : Option (Prg × Bool))
 (Rq a0) := by
 exact fun r h => fE Rsz p44400 h
theorem Rff (a0 : List UInt8) : Tv.Le
 (bnd (Rlv a0) fun r1 =>
(bif (!r1.2) then
some (⟨[], []⟩, false)
else
bnd (Ry r1.1 0 false [] false [] false [] false [] false ([] : List Int) false ([] : List (List Stm))) fun r2 =>
bnd (Rz r2.1 r2.2.1 r2.2.2.1.1 r2.2.2.1.2 r2.2.2.2.1.1 r2.2.2.2.1.2 r2.2.2.2.2.1.1 r2.2.2.2.2.1.2 r2.2.2.2.2.2.1.1 r2.2.2.2.2.2.1.2 r2.2.2.2.2.2.2.1.1 r2.2.2.2.2.2.2.1.2 r2.2.2.2.2.2.2.2.1 r2.2.2.2.2.2.2.2.2) fun r3 =>
(bif (!decide (r3.2.1 = (r3.1.length : Int))) then
some (⟨r3.2.2.2.2.1.2, r3.2.2.2.2.2.1.2⟩, false)
else
bnd (Rbe (⟨r3.2.2.2.2.2.2.1.2, r3.2.2.2.2.2.2.2.2⟩ : Prg)) fun r4 =>
(bif (!r4) then
some (⟨r3.2.2.2.2.1.2, r3.2.2.2.2.2.1.2⟩, false)
else
some (⟨r3.2.2.2.2.2.2.1.2, r3.2.2.2.2.2.2.2.2⟩, true)))) : Option (Prg × Bool))
 (Rbp a0) := by
 exact fun r h => fE Rsz p44300 h
theorem Rlp (a0 : Prg) (a1 : Prg) : Tv.Le
 (bnd (Rjq a0.rooms a1.rooms) fun r1 =>
(bif (!r1) then
some false
else
(bif (!decide ((a0.tasks.length : Int) = (a1.tasks.length : Int))) then
some false
else
bnd (Rdn 0 a0.rooms a0.tasks a1.rooms a1.tasks) fun r2 =>
selm r2 (fun y3 =>
some true) (fun z4 =>
some z4))) : Option (Bool))
 (Rw a0 a1) := by
 exact fun r h => fE Rl p45000 h
theorem Rlj (a0 : Prg) : Tv.Le
 (bnd (Rv a0) fun r1 =>
(bif (!r1) then
some []
else
bnd (Rbu false [] a0.rooms (a0.rooms.length : Int) 0 a0.rooms a0.tasks) fun r2 =>
bnd (Rbv r2.1.1 r2.1.2 r2.2.2 (r2.2.2.length : Int) 0) fun r3 =>
bnd (Rht r3.2) fun r4 =>
some r4) : Option (List UInt8))
 (Ret a0) := by
 exact fun r h => fE Rbg p44800 h
theorem Rkw (a0 : Prg) : Tv.Le
 (bnd (Rhu a0.rooms) fun r1 =>
(bif (!r1) then
some false
else
(bif (decide ((a0.tasks.length : Int) < 1)) then
some false
else
(bif (decide (3 < (a0.tasks.length : Int))) then
some false
else
bnd (Rbq a0.tasks (a0.tasks.length : Int) 0 a0.rooms a0.tasks) fun r2 =>
selm r2 (fun y3 =>
some true) (fun z4 =>
some z4)))) : Option (Bool))
 (Rv a0) := by
 exact fun r h => fE Rl p22800 h
theorem Rsj (a0 : List Int) : Tv.Le
 ((bif (decide (2000 < (a0.length : Int))) then
bnd (cutL a0 0 2000) fun l1 =>
some (l1, 0)
else
some (a0, 0)) : Option (List Int × Int))
 (Rlw a0) := by
 exact fun r h => fE s100 p100 h
theorem Rnk (a0b : List Int) (a0p : Int) : Tv.Le
 (bnd (Rjz a0b a0p) fun r1 =>
bnd (Rb 3 r1.2.1 r1.2.2) fun r2 =>
bnd (Rec (wrap64 (1 + r2.1)) 0 r2.2.1 r2.2.2 false [] (⟨none, 0⟩ : Hd) r1.1 (⟨(some (List.length ([] : List Ent))), 0⟩ : Hd) (Qaq ([] : List Ent) .stms ([] : List (List Stm)))) fun r3 =>
bnd (Rb 16 r3.1 r3.2.1) fun r4 =>
(bif (decide (r4.1 = 0)) then
bnd (Rii r4.2.1 r4.2.2) fun r5 =>
bnd (idxN r3.2.2.2.2.2.1.n 0) fun i6 =>
bnd (Qll r3.2.2.2.2.2.2 .stms r3.2.2.2.2.2.1.id i6) fun e7 =>
bnd (Qjp (Qht r3.2.2.2.2.2.2 .stms r3.2.2.2.2.2.1.id i6 ([⟨r5.1.kind, r5.1.var, r5.1.box, ⟨r5.1.e.op, r5.1.e.n, r5.1.e.args⟩, r5.1.body, r5.1.els⟩] : List Stm)) .stms r3.2.2.2.2.2.1.id) fun l8 =>
some (⟨r3.2.2.2.2.1, l8⟩, r5.2.1, r5.2.2)
else
bnd (Qjp r3.2.2.2.2.2.2 .stms r3.2.2.2.2.2.1.id) fun l9 =>
some (⟨r3.2.2.2.2.1, l9⟩, r4.2.1, r4.2.2)) : Option (Prg × List Int × Int))
 (Rij a0b a0p) := by
 rewrite [← Qzc]
 exact fun r h => fE Ryi p22400 h
theorem Rlu (a0 : Prg) : Tv.Le
 (bnd (Rbe a0) fun r1 =>
(bif (!r1) then
some []
else
bnd (Rca true ([] : List (List UInt8)) 0 a0.rooms a0.tasks) fun r2 =>
bnd (Rcb r2.1.1 r2.1.2 0 r2.2.1 r2.2.2) fun r3 =>
bnd (Ric r3.2) fun r4 =>
some r4) : Option (List UInt8))
 (Rha a0) := by
 exact fun r h => fE Rbg p44900 h
theorem Roo (a1 : Int) (a0b : List Int) (a0p : Int) : Tv.Le
 ((bif (decide (a1 < 1)) then
some (0, a0b, (wrap64 (a0p + 1)))
else
(bif (decide ((a0b.length : Int) = 0)) then
some (0, a0b, (wrap64 (a0p + 1)))
else
(bif (decide ((wrap64 ((wrap64 (a0p + 1)) - 1)) < (a0b.length : Int))) then
bnd (geti a0b (wrap64 ((wrap64 (a0p + 1)) - 1))) fun e1 =>
bnd (remI (wrap64 (e1)) a1) fun n2 =>
some (n2, a0b, (wrap64 (a0p + 1)))
else
bnd (remI (wrap64 ((wrap64 (a0p + 1)) - 1)) (a0b.length : Int)) fun n3 =>
bnd (geti a0b n3) fun e4 =>
bnd (remI (wrap64 ((wrap64 ((wrap64 ((wrap64 (a0p + 1)) - 1)) * 7)) + 3)) (a0b.length : Int)) fun n5 =>
bnd (geti a0b n5) fun e6 =>
bnd (quoI .i64 (wrap64 ((wrap64 (a0p + 1)) - 1)) (a0b.length : Int)) fun n7 =>
bnd (remI (bits .xor .i64 (wrap64 ((wrap64 ((wrap64 ((wrap64 ((wrap64 (e4)) * 131)) + (wrap64 ((wrap64 (e6)) * 1117)))) + (wrap64 ((wrap64 ((wrap64 (a0p + 1)) - 1)) * 29)))) + (wrap64 (n7 * 53)))) (wrap64 (Int.tdiv (wrap64 ((wrap64 ((wrap64 ((wrap64 ((wrap64 (e4)) * 131)) + (wrap64 ((wrap64 (e6)) * 1117)))) + (wrap64 ((wrap64 ((wrap64 (a0p + 1)) - 1)) * 29)))) + (wrap64 (n7 * 53)))) 64))) a1) fun n8 =>
some (n8, a0b, (wrap64 (a0p + 1)))))) : Option (Int × List Int × Int))
 (Rb a1 a0b a0p) := by
 rewrite [← Qzc]
 exact fun r h => fE s200 p200 h
theorem Rri (a1 : List (List UInt8)) (a0b : List Int) (a0p : Int) : Tv.Le
 (bnd (Rb (a1.length : Int) a0b a0p) fun r1 =>
bnd (geti a1 r1.1) fun e2 =>
some (e2, r1.2.1, r1.2.2) : Option (List UInt8 × List Int × Int))
 (Riu a1 a0b a0p) := by
 exact fun r h => fE Ryt p35500 h
theorem Rrv (a0 : List UInt8) : Tv.Le
 ((bif (decide (20000 < (a0.length : Int))) then
some ([], false)
else
bnd (Rae a0 false [] 0) fun r1 =>
selm r1 (fun y2 =>
some (y2.2, true)) (fun z3 =>
some (z3.1.2, z3.2.1))) : Option (List (List UInt8) × Bool))
 (Rlk a0) := by
 exact fun r h => fE Rsu p33400 h
theorem Rau (a1 : List UInt8) (a0tokens : List (List UInt8)) (a0at : Int) (a0failed : Bool) : Tv.Le
 (bnd (Raz a0tokens a0at a0failed) fun r1 =>
(bif (!(r1.1 == a1)) then
some (false, r1.2.1, r1.2.2.1, r1.2.2.2)
else
some (true, r1.2.1, (wrap64 (r1.2.2.1 + 1)), r1.2.2.2)) : Option (Bool × List (List UInt8) × Int × Bool))
 (Re a1 a0tokens a0at a0failed) := by
 rewrite [← Qzc]
 exact fun r h => fE Ryp p33600 h
theorem Rcn (a0tokens : List (List UInt8)) (a0at : Int) (a0failed : Bool) : Tv.Le
 (bnd (Rci a0tokens a0at a0failed) fun r1 =>
(bif (r1.1 == []) then
some (0, r1.2.1, r1.2.2.1, true)
else
(bif (decide (5 < (r1.1.length : Int))) then
some (0, r1.2.1, r1.2.2.1, true)
else
bnd (geti r1.1 0) fun c2 =>
bnd (Rgp (c2.toNat : Int)) fun r3 =>
(bif (!r3) then
some (0, r1.2.1, r1.2.2.1, true)
else
bnd (strconv_Atoi r1.1) fun r4 =>
some (r4, r1.2.1, r1.2.2.1, r1.2.2.2)))) : Option (Int × List (List UInt8) × Int × Bool))
 (Rag a0tokens a0at a0failed) := by
 exact fun r h => fE Rsx p33900 h
theorem Rbd (a1 : List UInt8) (a0tokens : List (List UInt8)) (a0at : Int) (a0failed : Bool) : Tv.Le
 (bnd (Re a1 a0tokens a0at a0failed) fun r1 =>
(bif (!r1.1) then
some (r1.2.1, r1.2.2.1, true)
else
some (r1.2.1, r1.2.2.1, r1.2.2.2)) : Option (List (List UInt8) × Int × Bool))
 (Rg a1 a0tokens a0at a0failed) := by
 exact fun r h => fE Ryq p33700 h
theorem Rbb (t4 : List (List UInt8)) (b100_0b : Bool) (b100_0 : List Int) (b100_1b : Bool) (b100_1 : List (List Stm)) (b101_0 : List (List UInt8)) (b101_1 : Int) (b101_2 : Bool) (b102_0b : Bool) (b102_0 : List Int) (b102_1b : Bool) (b102_1 : List (List Stm)) : Tv.Le
 (bnd (Re ([98, 111, 120]) b101_0 b101_1 b101_2) fun r1 =>
(bif r1.1 then
bnd (Rag r1.2.1 r1.2.2.1 r1.2.2.2) fun r2 =>
bnd (appL b102_0 ([r2.1] : List Int)) fun l3 =>
bnd (Rg [59] r2.2.1 r2.2.2.1 r2.2.2.2) fun r4 =>
Ri t4 b100_0b b100_0 b100_1b b100_1 r4.1 r4.2.1 r4.2.2 true l3 b102_1b b102_1
else
some (t4, (b100_0b, b100_0), (b100_1b, b100_1), r1.2.1, r1.2.2.1, r1.2.2.2, (b102_0b, b102_0), (b102_1b, b102_1))) : Option (List (List UInt8) × (Bool × List Int) × (Bool × List (List Stm)) × List (List UInt8) × Int × Bool × (Bool × List Int) × (Bool × List (List Stm))))
 (Ri t4 b100_0b b100_0 b100_1b b100_1 b101_0 b101_1 b101_2 b102_0b b102_0 b102_1b b102_1) := by
 exact fun r h => lE Ryy p44401 h
theorem Rem (a0tokens : List (List UInt8)) (a0at : Int) (a0failed : Bool) : Tv.Le
 (bnd (Rg [123] a0tokens a0at a0failed) fun r1 =>
bnd (Raf false [] r1.1 r1.2.1 r1.2.2) fun r2 =>
some (r2.1.2, r2.2.1, r2.2.2.1, r2.2.2.2) : Option (List Stm × List (List UInt8) × Int × Bool))
 (Rav a0tokens a0at a0failed) := by
 exact fun r h => fE Rzc p45500 h
theorem Rcf (t4 : List (List UInt8)) (b100_0b : Bool) (b100_0 : List Int) (b100_1b : Bool) (b100_1 : List (List Stm)) (b101_0 : List (List UInt8)) (b101_1 : Int) (b101_2 : Bool) (b102_0b : Bool) (b102_0 : List Int) (b102_1b : Bool) (b102_1 : List (List Stm)) : Tv.Le
 (bnd (Re ([116, 97, 115, 107]) b101_0 b101_1 b101_2) fun r1 =>
(bif r1.1 then
bnd (Rav r1.2.1 r1.2.2.1 r1.2.2.2) fun r2 =>
bnd (appL b102_1 ([r2.1] : List (List Stm))) fun l3 =>
Rk t4 b100_0b b100_0 b100_1b b100_1 r2.2.1 r2.2.2.1 r2.2.2.2 b102_0b b102_0 true l3
else
some (t4, (b100_0b, b100_0), (b100_1b, b100_1), r1.2.1, r1.2.2.1, r1.2.2.2, (b102_0b, b102_0), (b102_1b, b102_1))) : Option (List (List UInt8) × (Bool × List Int) × (Bool × List (List Stm)) × List (List UInt8) × Int × Bool × (Bool × List Int) × (Bool × List (List Stm))))
 (Rk t4 b100_0b b100_0 b100_1b b100_1 b101_0 b101_1 b101_2 b102_0b b102_0 b102_1b b102_1) := by
 exact fun r h => lE Ryz p44402 h
theorem Rrz (a0 : List UInt8) : Tv.Le
 ((bif (decide (20000 < (a0.length : Int))) then
some (([] : List (List UInt8)), false)
else
bnd (Ran a0 true ([] : List (List UInt8)) 0) fun r1 =>
selm r1 (fun y2 =>
some (y2.2, true)) (fun z3 =>
some (z3.1.2, z3.2.1))) : Option (List (List UInt8) × Bool))
 (Rlv a0) := by
 exact fun r h => fE Rsu p32200 h
theorem Rnf (a0 : List (List UInt8)) (a1 : Int) (a2 : List UInt8) : Tv.Le
 ((bif (decide (0 ≤ a1)) then
(bif (decide (a1 < (a0.length : Int))) then
bnd (geti a0 a1) fun e1 =>
some (e1 == a2)
else
some false)
else
some false) : Option (Bool))
 (Ra a0 a1 a2) := by
 exact fun r h => fE Rl p45200 h
theorem Rsc (a0 : List (List UInt8)) (a1 : Int) : Tv.Le
 ((bif (decide ((a0.length : Int) ≤ a1)) then
some (-1)
else
bnd (geti a0 a1) fun e1 =>
bnd (Rfs e1) fun r2 =>
some r2) : Option (Int))
 (Ru a0 a1) := by
 exact fun r h => fE Rda p45300 h
theorem Rdz (t5 : List (List UInt8)) (t8 : Int) (b100_0b : Bool) (b100_0 : List Int) (b100_1b : Bool) (b100_1 : List (List Stm)) (b101_0b : Bool) (b101_0 : List Int) (b101_1b : Bool) (b101_1 : List (List Stm)) (b102_0b : Bool) (b102_0 : List Int) (b102_1b : Bool) (b102_1 : List (List Stm)) : Tv.Le
 (bnd (Ra t5 t8 ([98, 111, 120])) fun r1 =>
(bif r1 then
bnd (Ru t5 (wrap64 (t8 + 1))) fun r2 =>
(bif (decide (0 ≤ r2)) then
bnd (Ra t5 (wrap64 (t8 + 2)) [59]) fun r3 =>
(bif r3 then
bnd (Ru t5 (wrap64 (t8 + 1))) fun r4 =>
bnd (appL b102_0 ([r4] : List Int)) fun l5 =>
Ry t5 (wrap64 (t8 + 3)) b100_0b b100_0 b100_1b b100_1 b101_0b b101_0 b101_1b b101_1 true l5 b102_1b b102_1
else
some (t5, t8, (b100_0b, b100_0), (b100_1b, b100_1), (b101_0b, b101_0), (b101_1b, b101_1), (b102_0b, b102_0), (b102_1b, b102_1)))
else
some (t5, t8, (b100_0b, b100_0), (b100_1b, b100_1), (b101_0b, b101_0), (b101_1b, b101_1), (b102_0b, b102_0), (b102_1b, b102_1)))
else
some (t5, t8, (b100_0b, b100_0), (b100_1b, b100_1), (b101_0b, b101_0), (b101_1b, b101_1), (b102_0b, b102_0), (b102_1b, b102_1))) : Option (List (List UInt8) × Int × (Bool × List Int) × (Bool × List (List Stm)) × (Bool × List Int) × (Bool × List (List Stm)) × (Bool × List Int) × (Bool × List (List Stm))))
 (Ry t5 t8 b100_0b b100_0 b100_1b b100_1 b101_0b b101_0 b101_1b b101_1 b102_0b b102_0 b102_1b b102_1) := by
 rewrite [← Qzc]
 exact fun r h => lE Ryw p44301 h
theorem Rkl (a0 : List (List UInt8)) (a1 : Int) : Tv.Le
 (bnd (Ra a0 a1 [123]) fun r1 =>
(bif (!r1) then
some (([] : List Stm), (-1))
else
bnd (Rbl a0 (wrap64 (a1 + 1)) true ([] : List Stm)) fun r2 =>
bnd (Ra r2.1 r2.2.1 [125]) fun r3 =>
(bif (!r3) then
some (([] : List Stm), (-1))
else
some (r2.2.2.2, (wrap64 (r2.2.1 + 1))))) : Option (List Stm × Int))
 (Rbk a0 a1) := by
 rewrite [← Qzc]
 exact fun r h => fE Rza p45400 h
theorem Rcg (t5 : List (List UInt8)) (t8 : Int) (b100_0b : Bool) (b100_0 : List Int) (b100_1b : Bool) (b100_1 : List (List Stm)) (b101_0b : Bool) (b101_0 : List Int) (b101_1b : Bool) (b101_1 : List (List Stm)) (b102_0b : Bool) (b102_0 : List Int) (b102_1b : Bool) (b102_1 : List (List Stm)) : Tv.Le
 (bnd (Ra t5 t8 ([116, 97, 115, 107])) fun r1 =>
(bif r1 then
bnd (Rbk t5 (wrap64 (t8 + 1))) fun r2 =>
bnd (appL b102_1 ([r2.1] : List (List Stm))) fun l3 =>
Rz t5 r2.2 b100_0b b100_0 b100_1b b100_1 b101_0b b101_0 b101_1b b101_1 b102_0b b102_0 true l3
else
some (t5, t8, (b100_0b, b100_0), (b100_1b, b100_1), (b101_0b, b101_0), (b101_1b, b101_1), (b102_0b, b102_0), (b102_1b, b102_1))) : Option (List (List UInt8) × Int × (Bool × List Int) × (Bool × List (List Stm)) × (Bool × List Int) × (Bool × List (List Stm)) × (Bool × List Int) × (Bool × List (List Stm))))
 (Rz t5 t8 b100_0b b100_0 b100_1b b100_1 b101_0b b101_0 b101_1b b101_1 b102_0b b102_0 b102_1b b102_1) := by
 rewrite [← Qzc]
 exact fun r h => lE Ryx p44302 h
theorem Rkz (a0 : Prg) : Tv.Le
 (bnd (Rjw a0.rooms) fun r1 =>
(bif (!r1) then
some false
else
bnd (Rer (a0.tasks.length : Int) 1 3) fun r2 =>
(bif (!r2) then
some false
else
bnd (Rbr 0 a0.rooms a0.tasks) fun r3 =>
selm r3 (fun y4 =>
some true) (fun z5 =>
some z5))) : Option (Bool))
 (Rbe a0) := by
 exact fun r h => fE Rl p23300 h
theorem Rpn (a0 : List Int) (a1 : List Int) : Tv.Le
 ((bif (!decide ((a0.length : Int) = (a1.length : Int))) then
some false
else
bnd (Reu a0 a1 0) fun r1 =>
selm r1 (fun y2 =>
some true) (fun z3 =>
some z3)) : Option (Bool))
 (Rjq a0 a1) := by
 exact fun r h => fE Rl p9700 h
theorem Roe (a0 : List Stm) (a1 : List Stm) : Tv.Le
 ((bif (!decide ((a0.length : Int) = (a1.length : Int))) then
some false
else
bnd (Rdh a0 a1 0) fun r1 =>
selm r1 (fun y2 =>
some true) (fun z3 =>
some z3)) : Option (Bool))
 (Ram a0 a1) := by
 exact fun r h => fE Rl p9900 h
theorem Rgb (t5 : Int) (b100_0 : List Int) (b100_1 : List (List Stm)) (b101_0 : List Int) (b101_1 : List (List Stm)) : Tv.Le
 ((bif (decide (t5 < (b100_1.length : Int))) then
bnd (geti b100_1 t5) fun e1 =>
bnd (geti b101_1 t5) fun e2 =>
bnd (Ram e1 e2) fun r3 =>
(bif (!r3) then
some (.inr false)
else
Rdn (wrap64 (t5 + 1)) b100_0 b100_1 b101_0 b101_1)
else
some (.inl ())) : Option (Unit ⊕ Bool))
 (Rdn t5 b100_0 b100_1 b101_0 b101_1) := by
 rewrite [← Qzc]
 exact fun r h => lE Rhj p45001 h
theorem Rro (a0 : Int) : Tv.Le (if -9223372036854775808 ≤ a0 ∧ a0 ≤ 9223372036854775807 then some (Lib.itoa a0) else none : Option (List UInt8)) (strconv_Itoa a0) := fun r h => by
 exact prim_le (F := Tb) (G := GT) (sg := fun _ => Rbg) (g := 22000) (p := p22000) (x := r) (tv := [.int .i64 a0]) (v := .str r) (by kernel_rfl) rfl (itoa_pf h) rfl
theorem Rfw (t3b : Bool) (t3 : List (List UInt8)) (t12 : List Int) (t13 : Int) (t14 : Int) (b100_0 : List Int) (b100_1 : List (List Stm)) : Tv.Le
 ((bif (decide (t14 < t13)) then
bnd (geti t12 t14) fun e1 =>
bnd (strconv_Itoa e1) fun r2 =>
bnd (appL t3 ([[98, 111, 120], r2, [59]] : List (List UInt8))) fun l3 =>
Rbu true l3 t12 t13 (wrap64 (t14 + 1)) b100_0 b100_1
else
some ((t3b, t3), b100_0, b100_1)) : Option ((Bool × List (List UInt8)) × List Int × List (List Stm)))
 (Rbu t3b t3 t12 t13 t14 b100_0 b100_1) := by
 rewrite [← Qzc]
 exact fun r h => lE Rta p44801 h
theorem Rll (a0 : List Stm) (a1 : List (List UInt8)) : Tv.Le
 (bnd (appL a1 ([[123]] : List (List UInt8))) fun l1 =>
bnd (Rbw true l1 a0 (a0.length : Int) 0) fun r2 =>
bnd (appL r2.2 ([[125]] : List (List UInt8))) fun l3 =>
some l3 : Option (List (List UInt8)))
 (Ray a0 a1) := by
 exact fun r h => fE Rdi p45800 h
theorem Rfx (t3b : Bool) (t3 : List (List UInt8)) (t25 : List (List Stm)) (t26 : Int) (t27 : Int) : Tv.Le
 ((bif (decide (t27 < t26)) then
bnd (geti t25 t27) fun e1 =>
bnd (appL t3 ([[116, 97, 115, 107]] : List (List UInt8))) fun l2 =>
bnd (Ray e1 l2) fun r3 =>
Rbv true r3 t25 t26 (wrap64 (t27 + 1))
else
some (t3b, t3)) : Option ((Bool × List (List UInt8))))
 (Rbv t3b t3 t25 t26 t27) := by
 rewrite [← Qzc]
 exact fun r h => lE Rtb p44802 h
theorem Rmi (a0 : List (List UInt8)) : Tv.Le
 (bnd (Rcm a0 a0 (a0.length : Int) 0) fun r1 =>
selm r1 (fun y2 =>
bnd (strings_Join y2 [32]) fun r4 =>
some r4) (fun z3 =>
some z3.2) : Option (List UInt8))
 (Rht a0) := by
 exact fun r h => fE Rbg p36300 h
theorem Rmm (a0 : List Int) : Tv.Le
 (bnd (Rco a0 a0 (a0.length : Int) 0) fun r1 =>
selm r1 (fun y2 =>
some (decide ((y2.length : Int) ≤ 3))) (fun z3 =>
some z3.2) : Option (Bool))
 (Rhu a0) := by
 exact fun r h => fE Rl p22700 h
theorem Rmo (a0 : List Stm) (a1 : Int) : Tv.Le
 (bnd (Rbj a0 a1 0 0) fun r1 =>
some r1.1 : Option (Bool))
 (Rhv a0 a1) := by
 exact fun r h => fE Rl p5400 h
theorem Rfn (t22 : List (List Stm)) (t23 : Int) (t24 : Int) (b100_0 : List Int) (b100_1 : List (List Stm)) : Tv.Le
 ((bif (decide (t24 < t23)) then
bnd (geti t22 t24) fun e1 =>
bnd (Rhv e1 (b100_0.length : Int)) fun r2 =>
(bif (!r2) then
some (.inr false)
else
Rbq t22 t23 (wrap64 (t24 + 1)) b100_0 b100_1)
else
some (.inl ())) : Option (Unit ⊕ Bool))
 (Rbq t22 t23 t24 b100_0 b100_1) := by
 rewrite [← Qzc]
 exact fun r h => lE Rhj p22801 h
theorem Rqa (a0b : List Int) (a0p : Int) : Tv.Le
 (bnd (Rb 6 a0b a0p) fun r1 =>
bnd (geti ([0, 1, 1, 2, 2, 3] : List Int) r1.1) fun e2 =>
bnd (Rex true ([] : List Int) e2 0 r1.2.1 r1.2.2) fun r3 =>
some (r3.1.2, r3.2.1, r3.2.2) : Option (List Int × List Int × Int))
 (Rjz a0b a0p) := by
 exact fun r h => fE Ryg p22300 h
theorem Rqb (a1 : Int) (a0b : List Int) (a0p : Int) : Tv.Le
 (bnd (Rb 6 a0b a0p) fun r1 =>
bnd (Rcx a1 3 (wrap64 (1 + r1.1)) true r1.2.1 r1.2.2) fun r2 =>
bnd (Rey (.own true) r2.1 r2.2.1 r2.2.2) fun r3 =>
some (((Md.res r3.1.1), r3.1.2), r3.2.1, r3.2.2) : Option ((Md × List Stm) × List Int × Int))
 (Rka a1 a0b a0p) := by
 rewrite [← Qzc]
 exact fun r h => fE s4700 p4700 h
theorem Rgw (t4 : Int) (t5 : Int) (b0_0 : List Int) (b0_1 : Int) (b100_0b : Bool) (b100_0 : List Int) (b100_1 : Hd) (b101_0 : List Int) (b101_1 : Hd) (b99 : List Ent) : Tv.Le
 ((bif (decide (t5 < t4)) then
bnd (Rka (b101_0.length : Int) b0_0 b0_1) fun r1 =>
bnd (Qne b99 .stms b101_1.id b101_1.n ([r1.1.2] : List (List Stm))) fun B2 =>
Rec t4 (wrap64 (t5 + 1)) r1.2.1 r1.2.2 b100_0b b100_0 b100_1 b101_0 (⟨(some (List.length b99)), (b101_1.n + List.length ([r1.1.2] : List (List Stm)))⟩ : Hd) B2
else
some (b0_0, b0_1, (b100_0b, b100_0), b100_1, b101_0, b101_1, b99)) : Option (List Int × Int × (Bool × List Int) × Hd × List Int × Hd × List Ent))
 (Rec t4 t5 b0_0 b0_1 b100_0b b100_0 b100_1 b101_0 b101_1 b99) := by
 rewrite [← Qzc]
 exact fun r h => lE Ryj p22401 h
theorem Rnj (a0b : List Int) (a0p : Int) : Tv.Le
 (bnd (Rbf 0 1) fun r1 =>
bnd (Rb 2 a0b a0p) fun r2 =>
bnd (Rcx 0 1 r2.1 false r2.2.1 r2.2.2) fun r3 =>
some (⟨3, 0, 0, ⟨r1.1, r1.2.1, r1.2.2.2⟩, r3.1, []⟩, r3.2.1, r3.2.2) : Option (Stm × List Int × Int))
 (Rii a0b a0p) := by
 exact fun r h => fE Rpo p8700 h
theorem Rjy (a0 : Int) : Tv.Le
 ((bif (decide (a0 < (-9223372036854775807))) then
some ([45, 57, 50, 50, 51, 51, 55, 50, 48, 51, 54, 56, 53, 52, 55, 55, 53, 56, 48, 56])
else
(bif (decide (a0 < 0)) then
bnd (Rdx (wrap64 (0 - a0))) fun r1 =>
bnd (catS [45] r1) fun s2 =>
some s2
else
(bif (decide (a0 < 10)) then
some (Tv.bytes ([(((wrap64 (48 + a0))) % 256)] : List Int))
else
bnd (Rdx (wrap64 (Int.tdiv a0 10))) fun r3 =>
bnd (catS r3 (Tv.bytes ([(((wrap64 (48 + (Int.tmod a0 10)))) % 256)] : List Int))) fun s4 =>
some s4))) : Option (List UInt8))
 (Rdx a0) := by
 rewrite [← Qzc]
 exact fun r h => fE Rbg p20500 h
theorem Rgc (t3b : Bool) (t3 : List (List UInt8)) (t4 : Int) (b100_0 : List Int) (b100_1 : List (List Stm)) : Tv.Le
 ((bif (decide (t4 < (b100_0.length : Int))) then
bnd (geti b100_0 t4) fun e1 =>
bnd (Rdx e1) fun r2 =>
bnd (appL t3 ([[98, 111, 120], r2, [59]] : List (List UInt8))) fun l3 =>
Rca true l3 (wrap64 (t4 + 1)) b100_0 b100_1
else
some ((t3b, t3), b100_0, b100_1)) : Option ((Bool × List (List UInt8)) × List Int × List (List Stm)))
 (Rca t3b t3 t4 b100_0 b100_1) := by
 rewrite [← Qzc]
 exact fun r h => lE Rta p44901 h
theorem Rpw (a0 : List Stm) : Tv.Le
 (bnd (Rdu a0 true ([[123]] : List (List UInt8)) 0) fun r1 =>
bnd (appL r1.2 ([[125]] : List (List UInt8))) fun l2 =>
some l2 : Option (List (List UInt8)))
 (Rcs a0) := by
 exact fun r h => fE Rdi p45900 h
theorem Rgd (t3b : Bool) (t3 : List (List UInt8)) (t5 : Int) (b100_0 : List Int) (b100_1 : List (List Stm)) : Tv.Le
 ((bif (decide (t5 < (b100_1.length : Int))) then
bnd (appL t3 ([[116, 97, 115, 107]] : List (List UInt8))) fun l1 =>
bnd (geti b100_1 t5) fun e2 =>
bnd (Rcs e2) fun r3 =>
bnd (appL l1 r3) fun l4 =>
Rcb true l4 (wrap64 (t5 + 1)) b100_0 b100_1
else
some (t3b, t3)) : Option ((Bool × List (List UInt8))))
 (Rcb t3b t3 t5 b100_0 b100_1) := by
 rewrite [← Qzc]
 exact fun r h => lE Rtb p44902 h
theorem Rnc (a0 : List (List UInt8)) : Tv.Le
 (bnd (Rbo a0 [] 0) fun r1 =>
selm r1 (fun y2 =>
some y2) (fun z3 =>
some z3.1) : Option (List UInt8))
 (Ric a0) := by
 exact fun r h => fE Rbg p35000 h
theorem Rlo (a0 : List UInt8) : Tv.Le
 (bnd (Rby a0 (([33100, 33200] : List Nat).length : Int) 0) fun r1 =>
selm r1 (fun y2 =>
bnd (Rbz y2 .full ([[61, 61], [60, 60], [62, 62]] : List (List UInt8)) (([[61, 61], [60, 60], [62, 62]] : List (List UInt8)).length : Int) 0) fun r4 =>
selm r4 (fun y5 =>
(bif (!(y5 == [])) then
bnd (geti y5 0) fun c7 =>
bnd (strings_IndexByte ([124, 94, 38, 60, 43, 45, 42, 47, 37, 40, 41, 123, 125, 61, 59]) (c7.toNat : Int)) fun r8 =>
(bif (decide (0 ≤ r8)) then
some 1
else
some 0)
else
some 0)) (fun z6 =>
some z6.2)) (fun z3 =>
some z3.2) : Option (Int))
 (Rdq a0) := by
 exact fun r h => fE Rda p33300 h
theorem Rej (t0 : List UInt8) (t4b : Bool) (t4 : List (List UInt8)) (t5 : Int) : Tv.Le
 ((bif (decide (t5 < (t0.length : Int))) then
bnd (geti t0 t5) fun c1 =>
(bif (decide ((c1.toNat : Int) = 32)) then
Rae t0 t4b t4 (wrap64 (t5 + 1))
else
bnd (geti t0 t5) fun c2 =>
(bif (decide ((c2.toNat : Int) = 10)) then
Rae t0 t4b t4 (wrap64 (t5 + 1))
else
bnd (cutL t0 t5 (t0.length : Int)) fun s3 =>
bnd (Rdq s3) fun r4 =>
(bif (decide (r4 = 0)) then
some (.inr ((false, []), false, (t4b, t4)))
else
bnd (cutL t0 t5 (wrap64 (t5 + r4))) fun s5 =>
bnd (appL t4 ([s5] : List (List UInt8))) fun l6 =>
Rae t0 true l6 (wrap64 (t5 + r4)))))
else
some (.inl (t4b, t4))) : Option (((Bool × List (List UInt8))) ⊕ ((Bool × List (List UInt8)) × Bool × (Bool × List (List UInt8)))))
 (Rae t0 t4b t4 t5) := by
 rewrite [← Qzc]
 exact fun r h => lE Rsv p33401 h
theorem Rez (a0tokens : List (List UInt8)) (a0at : Int) (a0failed : Bool) : Tv.Le
 ((bif (decide (a0at < (a0tokens.length : Int))) then
(bif (!a0failed) then
bnd (geti a0tokens a0at) fun e1 =>
some (e1, a0tokens, a0at, a0failed)
else
some ([], a0tokens, a0at, a0failed))
else
some ([], a0tokens, a0at, a0failed)) : Option (List UInt8 × List (List UInt8) × Int × Bool))
 (Raz a0tokens a0at a0failed) := by
 exact fun r h => fE Rsw p33500 h
theorem Rfa (a0tokens : List (List UInt8)) (a0at : Int) (a0failed : Bool) : Tv.Le
 (bnd (Raz a0tokens a0at a0failed) fun r1 =>
(bif (r1.1 == []) then
some (r1.1, r1.2.1, (wrap64 (r1.2.2.1 + 1)), true)
else
some (r1.1, r1.2.1, (wrap64 (r1.2.2.1 + 1)), r1.2.2.2)) : Option (List UInt8 × List (List UInt8) × Int × Bool))
 (Rci a0tokens a0at a0failed) := by
 rewrite [← Qzc]
 exact fun r h => fE Rsw p33800 h
theorem Rqo (a0 : Int) : Tv.Le
 ((bif (decide (48 ≤ a0)) then
some (decide (a0 ≤ 57))
else
some false) : Option (Bool))
 (Rgp a0) := by
 exact fun r h => fE Rl p33100 h
end Go.TFnSourceFrom