import Derived.Test.YthmemaednlaanabGreatDoorDFnSourceTaskP
import Derived.KernelRfl
set_option linter.unusedVariables false
namespace Go.TFnSourceTask
open Go Go.RowKit Go.Vs Go.Tv
theorem Rke (a0 : List Int) : Tv.Le
 ((bif (decide (1048576 < (a0.length : Int))) then
some true
else
bnd (Rcr a0) fun r1 =>
bnd (Rk r1) fun r2 =>
bnd (Rbl r1) fun r3 =>
(bif (!(r2.2 == r3.2)) then
(bif (r2.2 == r3.2) then
bnd (Rs r2.1 r3.1) fun r4 =>
some r4
else
some false)
else
bnd (Rs r2.1 r3.1) fun r5 =>
(bif (!r5) then
(bif (r2.2 == r3.2) then
bnd (Rs r2.1 r3.1) fun r6 =>
some r6
else
some false)
else
(bif (!r2.2) then
(bif (r2.2 == r3.2) then
bnd (Rs r2.1 r3.1) fun r7 =>
some r7
else
some false)
else
bnd (catS r1 ([32, 116, 97, 115, 107, 32, 123, 32, 125])) fun s8 =>
bnd (Rk s8) fun r9 =>
(bif (decide (19990 < (r1.length : Int))) then
(bif (decide (19990 < (r1.length : Int))) then
some true
else
some (!r9.2))
else
(bif (decide ((r2.1.tasks.length : Int) = 3)) then
(bif (decide (19990 < (r1.length : Int))) then
some true
else
some (!r9.2))
else
(bif r9.2 then
bnd (appL ([] : List (List Stm)) r2.1.tasks) fun l10 =>
bnd (appL l10 ([([] : List Stm)] : List (List Stm))) fun l11 =>
bnd (Rs r9.1 (⟨r2.1.rooms, l11⟩ : Prg)) fun r12 =>
some r12
else
some false))))))) : Option (Bool))
 (laws_FnSourceTask a0) := by
 exact fun r h => fE Rn p46900 h
theorem Rix (a0 : List Int) : Tv.Le
 (bnd (Rkz a0) fun r1 =>
bnd (Rho r1.1 r1.2) fun r2 =>
bnd (Rgi r2.1) fun r3 =>
bnd (Rb 12 r2.2.1 r2.2.2) fun r4 =>
(bif (decide (r4.1 = 0)) then
bnd (Ria ([[32, 116, 97, 115, 107, 32, 123, 32, 125], [32, 125], [59], [32, 116, 97, 115, 107, 32, 123], [10], [32, 98, 111, 120, 32, 49, 32, 59]] : List (List UInt8)) r4.2.1 r4.2.2) fun r5 =>
bnd (catS r3 r5.1) fun s6 =>
some s6
else
(bif (decide (r4.1 = 1)) then
bnd (Rb (wrap64 ((r3.length : Int) + 1)) r4.2.1 r4.2.2) fun r7 =>
bnd (cutL r3 0 r7.1) fun s8 =>
some s8
else
(bif (decide (r4.1 = 2)) then
bnd (Ria ([[116, 97, 115, 107, 123, 125], [116, 97, 115, 107, 123, 121, 105, 101, 108, 100, 59, 121, 105, 101, 108, 100, 59, 125], [116, 97, 115, 107, 32, 123, 32, 115, 101, 110, 100, 32, 48, 32, 40, 97, 41, 32, 59, 32, 114, 101, 99, 118, 32, 48, 32, 98, 32, 59, 32, 125], [116, 97, 115, 107, 32, 123, 32, 105, 102, 32, 97, 32, 123, 32, 125, 32, 101, 108, 115, 101, 32, 123, 32, 125, 32, 125], [116, 97, 115, 107, 32, 123, 32, 112, 114, 105, 110, 116, 32, 51], [116, 97, 115, 107, 32, 123, 32, 114, 101, 99, 118, 32, 49, 32, 97, 32, 59, 32, 125], [116, 97, 115, 107, 32, 123, 32, 101, 32, 61, 32, 49, 32, 59, 32, 125]] : List (List UInt8)) r4.2.1 r4.2.2) fun r9 =>
bnd (catS ([98, 111, 120, 32, 48, 50, 32, 59, 10, 10]) r9.1) fun s10 =>
some s10
else
some r3))) : Option (List UInt8))
 (Rcr a0) := by
 rewrite [← Qyy]
 exact fun r h => fE Rfj p45100 h
theorem Ray (a0 : List UInt8) : Tv.Le
 (bnd (Rko a0) fun r1 =>
(bif (!r1.2) then
some (⟨[], []⟩, false)
else
bnd (Ri r1.1 false [] false [] r1.1 0 false false [] false []) fun r2 =>
bnd (Rl r2.1 r2.2.1.1 r2.2.1.2 r2.2.2.1.1 r2.2.2.1.2 r2.2.2.2.1 r2.2.2.2.2.1 r2.2.2.2.2.2.1 r2.2.2.2.2.2.2.1.1 r2.2.2.2.2.2.2.1.2 r2.2.2.2.2.2.2.2.1 r2.2.2.2.2.2.2.2.2) fun r3 =>
(bif r3.2.2.2.2.2.1 then
some (⟨[], []⟩, false)
else
(bif (!decide (r3.2.2.2.2.1 = (r3.1.length : Int))) then
some (⟨[], []⟩, false)
else
bnd (Ram (⟨r3.2.2.2.2.2.2.1.2, r3.2.2.2.2.2.2.2.2⟩ : Prg)) fun r4 =>
(bif (!r4) then
some (⟨[], []⟩, false)
else
some (⟨r3.2.2.2.2.2.2.1.2, r3.2.2.2.2.2.2.2.2⟩, true))))) : Option (Prg × Bool))
 (Rk a0) := by
 exact fun r h => fE Rrl p44400 h
theorem Req (a0 : List UInt8) : Tv.Le
 (bnd (Rky a0) fun r1 =>
(bif (!r1.2) then
some (⟨[], []⟩, false)
else
bnd (Ru r1.1 0 false [] false [] false [] false [] false ([] : List Int) false ([] : List (List Stm))) fun r2 =>
bnd (Rv r2.1 r2.2.1 r2.2.2.1.1 r2.2.2.1.2 r2.2.2.2.1.1 r2.2.2.2.1.2 r2.2.2.2.2.1.1 r2.2.2.2.2.1.2 r2.2.2.2.2.2.1.1 r2.2.2.2.2.2.1.2 r2.2.2.2.2.2.2.1.1 r2.2.2.2.2.2.2.1.2 r2.2.2.2.2.2.2.2.1 r2.2.2.2.2.2.2.2.2) fun r3 =>
(bif (!decide (r3.2.1 = (r3.1.length : Int))) then
some (⟨r3.2.2.2.2.1.2, r3.2.2.2.2.2.1.2⟩, false)
else
bnd (Rba (⟨r3.2.2.2.2.2.2.1.2, r3.2.2.2.2.2.2.2.2⟩ : Prg)) fun r4 =>
(bif (!r4) then
some (⟨r3.2.2.2.2.1.2, r3.2.2.2.2.2.1.2⟩, false)
else
some (⟨r3.2.2.2.2.2.2.1.2, r3.2.2.2.2.2.2.2.2⟩, true)))) : Option (Prg × Bool))
 (Rbl a0) := by
 exact fun r h => fE Rrl p44300 h
theorem Rkt (a0 : Prg) (a1 : Prg) : Tv.Le
 (bnd (Riu a0.rooms a1.rooms) fun r1 =>
(bif (!r1) then
some false
else
(bif (!decide ((a0.tasks.length : Int) = (a1.tasks.length : Int))) then
some false
else
bnd (Rda 0 a0.rooms a0.tasks a1.rooms a1.tasks) fun r2 =>
selm r2 (fun y3 =>
some true) (fun z4 =>
some z4))) : Option (Bool))
 (Rs a0 a1) := by
 exact fun r h => fE Rn p45000 h
theorem Rqv (a0 : List Int) : Tv.Le
 ((bif (decide (2000 < (a0.length : Int))) then
bnd (cutL a0 0 2000) fun l1 =>
some (l1, 0)
else
some (a0, 0)) : Option (List Int × Int))
 (Rkz a0) := by
 exact fun r h => fE s100 p100 h
theorem Rmh (a0b : List Int) (a0p : Int) : Tv.Le
 (bnd (Rje a0b a0p) fun r1 =>
bnd (Rb 3 r1.2.1 r1.2.2) fun r2 =>
bnd (Rdm (wrap64 (1 + r2.1)) 0 r2.2.1 r2.2.2 false [] (⟨none, 0⟩ : Hd) r1.1 (⟨(some (List.length ([] : List Ent))), 0⟩ : Hd) (Qaq ([] : List Ent) .stms ([] : List (List Stm)))) fun r3 =>
bnd (Rb 16 r3.1 r3.2.1) fun r4 =>
(bif (decide (r4.1 = 0)) then
bnd (Rhn r4.2.1 r4.2.2) fun r5 =>
bnd (idxN r3.2.2.2.2.2.1.n 0) fun i6 =>
bnd (Qli r3.2.2.2.2.2.2 .stms r3.2.2.2.2.2.1.id i6) fun e7 =>
bnd (Qjo (Qhq r3.2.2.2.2.2.2 .stms r3.2.2.2.2.2.1.id i6 ([⟨r5.1.kind, r5.1.var, r5.1.box, ⟨r5.1.e.op, r5.1.e.n, r5.1.e.args⟩, r5.1.body, r5.1.els⟩] : List Stm)) .stms r3.2.2.2.2.2.1.id) fun l8 =>
some (⟨r3.2.2.2.2.1, l8⟩, r5.2.1, r5.2.2)
else
bnd (Qjo r3.2.2.2.2.2.2 .stms r3.2.2.2.2.2.1.id) fun l9 =>
some (⟨r3.2.2.2.2.1, l9⟩, r4.2.1, r4.2.2)) : Option (Prg × List Int × Int))
 (Rho a0b a0p) := by
 rewrite [← Qyy]
 exact fun r h => fE Rwv p22400 h
theorem Rkx (a0 : Prg) : Tv.Le
 (bnd (Rba a0) fun r1 =>
(bif (!r1) then
some []
else
bnd (Rbs true ([] : List (List UInt8)) 0 a0.rooms a0.tasks) fun r2 =>
bnd (Rbt r2.1.1 r2.1.2 0 r2.2.1 r2.2.2) fun r3 =>
bnd (Rhh r3.2) fun r4 =>
some r4) : Option (List UInt8))
 (Rgi a0) := by
 exact fun r h => fE Rfj p44900 h
theorem Rnn (a1 : Int) (a0b : List Int) (a0p : Int) : Tv.Le
 ((bif (decide (a1 < 1)) then
some (0, a0b, (wrap64 (a0p + 1)))
else
(bif (decide ((a0b.length : Int) = 0)) then
some (0, a0b, (wrap64 (a0p + 1)))
else
(bif (decide ((wrap64 ((wrap64 (a0p + 1)) - 1)) < (a0b.length : Int))) then
bnd (geti a0b (wrap64 ((wrap64 (a0p + 1)) - 1))) fun e1 =>
bnd (remI (wrap64 (e1)) a1) fun n2 =>
some (n2, a0b, (wrap64 (a0p + 1)))
else
bnd (remI (wrap64 ((wrap64 (a0p + 1)) - 1)) (a0b.length : Int)) fun n3 =>
bnd (geti a0b n3) fun e4 =>
bnd (remI (wrap64 ((wrap64 ((wrap64 ((wrap64 (a0p + 1)) - 1)) * 7)) + 3)) (a0b.length : Int)) fun n5 =>
bnd (geti a0b n5) fun e6 =>
bnd (quoI .i64 (wrap64 ((wrap64 (a0p + 1)) - 1)) (a0b.length : Int)) fun n7 =>
bnd (remI (bits .xor .i64 (wrap64 ((wrap64 ((wrap64 ((wrap64 ((wrap64 (e4)) * 131)) + (wrap64 ((wrap64 (e6)) * 1117)))) + (wrap64 ((wrap64 ((wrap64 (a0p + 1)) - 1)) * 29)))) + (wrap64 (n7 * 53)))) (wrap64 (Int.tdiv (wrap64 ((wrap64 ((wrap64 ((wrap64 ((wrap64 (e4)) * 131)) + (wrap64 ((wrap64 (e6)) * 1117)))) + (wrap64 ((wrap64 ((wrap64 (a0p + 1)) - 1)) * 29)))) + (wrap64 (n7 * 53)))) 64))) a1) fun n8 =>
some (n8, a0b, (wrap64 (a0p + 1)))))) : Option (Int × List Int × Int))
 (Rb a1 a0b a0p) := by
 rewrite [← Qyy]
 exact fun r h => fE s200 p200 h
theorem Rpz (a1 : List (List UInt8)) (a0b : List Int) (a0p : Int) : Tv.Le
 (bnd (Rb (a1.length : Int) a0b a0p) fun r1 =>
bnd (geti a1 r1.1) fun e2 =>
some (e2, r1.2.1, r1.2.2) : Option (List UInt8 × List Int × Int))
 (Ria a1 a0b a0p) := by
 exact fun r h => fE Rxg p35500 h
theorem Rqh (a0 : List UInt8) : Tv.Le
 ((bif (decide (20000 < (a0.length : Int))) then
some ([], false)
else
bnd (Rab a0 false [] 0) fun r1 =>
selm r1 (fun y2 =>
some (y2.2, true)) (fun z3 =>
some (z3.1.2, z3.2.1))) : Option (List (List UInt8) × Bool))
 (Rko a0) := by
 exact fun r h => fE Rrg p33400 h
theorem Ras (a1 : List UInt8) (a0tokens : List (List UInt8)) (a0at : Int) (a0failed : Bool) : Tv.Le
 (bnd (Raw a0tokens a0at a0failed) fun r1 =>
(bif (!(r1.1 == a1)) then
some (false, r1.2.1, r1.2.2.1, r1.2.2.2)
else
some (true, r1.2.1, (wrap64 (r1.2.2.1 + 1)), r1.2.2.2)) : Option (Bool × List (List UInt8) × Int × Bool))
 (Re a1 a0tokens a0at a0failed) := by
 rewrite [← Qyy]
 exact fun r h => fE Rxc p33600 h
theorem Rce (a0tokens : List (List UInt8)) (a0at : Int) (a0failed : Bool) : Tv.Le
 (bnd (Rca a0tokens a0at a0failed) fun r1 =>
(bif (r1.1 == []) then
some (0, r1.2.1, r1.2.2.1, true)
else
(bif (decide (5 < (r1.1.length : Int))) then
some (0, r1.2.1, r1.2.2.1, true)
else
bnd (geti r1.1 0) fun c2 =>
bnd (Rfx (c2.toNat : Int)) fun r3 =>
(bif (!r3) then
some (0, r1.2.1, r1.2.2.1, true)
else
bnd (strconv_Atoi r1.1) fun r4 =>
some (r4, r1.2.1, r1.2.2.1, r1.2.2.2)))) : Option (Int × List (List UInt8) × Int × Bool))
 (Rad a0tokens a0at a0failed) := by
 exact fun r h => fE Rrj p33900 h
theorem Raz (a1 : List UInt8) (a0tokens : List (List UInt8)) (a0at : Int) (a0failed : Bool) : Tv.Le
 (bnd (Re a1 a0tokens a0at a0failed) fun r1 =>
(bif (!r1.1) then
some (r1.2.1, r1.2.2.1, true)
else
some (r1.2.1, r1.2.2.1, r1.2.2.2)) : Option (List (List UInt8) × Int × Bool))
 (Rg a1 a0tokens a0at a0failed) := by
 exact fun r h => fE Rxd p33700 h
theorem Rax (t4 : List (List UInt8)) (b100_0b : Bool) (b100_0 : List Int) (b100_1b : Bool) (b100_1 : List (List Stm)) (b101_0 : List (List UInt8)) (b101_1 : Int) (b101_2 : Bool) (b102_0b : Bool) (b102_0 : List Int) (b102_1b : Bool) (b102_1 : List (List Stm)) : Tv.Le
 (bnd (Re ([98, 111, 120]) b101_0 b101_1 b101_2) fun r1 =>
(bif r1.1 then
bnd (Rad r1.2.1 r1.2.2.1 r1.2.2.2) fun r2 =>
bnd (appL b102_0 ([r2.1] : List Int)) fun l3 =>
bnd (Rg [59] r2.2.1 r2.2.2.1 r2.2.2.2) fun r4 =>
Ri t4 b100_0b b100_0 b100_1b b100_1 r4.1 r4.2.1 r4.2.2 true l3 b102_1b b102_1
else
some (t4, (b100_0b, b100_0), (b100_1b, b100_1), r1.2.1, r1.2.2.1, r1.2.2.2, (b102_0b, b102_0), (b102_1b, b102_1))) : Option (List (List UInt8) × (Bool × List Int) × (Bool × List (List Stm)) × List (List UInt8) × Int × Bool × (Bool × List Int) × (Bool × List (List Stm))))
 (Ri t4 b100_0b b100_0 b100_1b b100_1 b101_0 b101_1 b101_2 b102_0b b102_0 b102_1b b102_1) := by
 exact fun r h => lE Rxk p44401 h
theorem Rdx (a0tokens : List (List UInt8)) (a0at : Int) (a0failed : Bool) : Tv.Le
 (bnd (Rg [123] a0tokens a0at a0failed) fun r1 =>
bnd (Rac false [] r1.1 r1.2.1 r1.2.2) fun r2 =>
some (r2.1.2, r2.2.1, r2.2.2.1, r2.2.2.2) : Option (List Stm × List (List UInt8) × Int × Bool))
 (Rat a0tokens a0at a0failed) := by
 exact fun r h => fE Rxq p45500 h
theorem Rbx (t4 : List (List UInt8)) (b100_0b : Bool) (b100_0 : List Int) (b100_1b : Bool) (b100_1 : List (List Stm)) (b101_0 : List (List UInt8)) (b101_1 : Int) (b101_2 : Bool) (b102_0b : Bool) (b102_0 : List Int) (b102_1b : Bool) (b102_1 : List (List Stm)) : Tv.Le
 (bnd (Re ([116, 97, 115, 107]) b101_0 b101_1 b101_2) fun r1 =>
(bif r1.1 then
bnd (Rat r1.2.1 r1.2.2.1 r1.2.2.2) fun r2 =>
bnd (appL b102_1 ([r2.1] : List (List Stm))) fun l3 =>
Rl t4 b100_0b b100_0 b100_1b b100_1 r2.2.1 r2.2.2.1 r2.2.2.2 b102_0b b102_0 true l3
else
some (t4, (b100_0b, b100_0), (b100_1b, b100_1), r1.2.1, r1.2.2.1, r1.2.2.2, (b102_0b, b102_0), (b102_1b, b102_1))) : Option (List (List UInt8) × (Bool × List Int) × (Bool × List (List Stm)) × List (List UInt8) × Int × Bool × (Bool × List Int) × (Bool × List (List Stm))))
 (Rl t4 b100_0b b100_0 b100_1b b100_1 b101_0 b101_1 b101_2 b102_0b b102_0 b102_1b b102_1) := by
 exact fun r h => lE Rxl p44402 h
theorem Rkd (a0 : Prg) : Tv.Le
 (bnd (Rgz a0.rooms) fun r1 =>
(bif (!r1) then
some false
else
(bif (decide ((a0.tasks.length : Int) < 1)) then
some false
else
(bif (decide (3 < (a0.tasks.length : Int))) then
some false
else
bnd (Rbm a0.tasks (a0.tasks.length : Int) 0 a0.rooms a0.tasks) fun r2 =>
selm r2 (fun y3 =>
some true) (fun z4 =>
some z4)))) : Option (Bool))
 (Ram a0) := by
 exact fun r h => fE Rn p22800 h
theorem Rql (a0 : List UInt8) : Tv.Le
 ((bif (decide (20000 < (a0.length : Int))) then
some (([] : List (List UInt8)), false)
else
bnd (Rak a0 true ([] : List (List UInt8)) 0) fun r1 =>
selm r1 (fun y2 =>
some (y2.2, true)) (fun z3 =>
some (z3.1.2, z3.2.1))) : Option (List (List UInt8) × Bool))
 (Rky a0) := by
 exact fun r h => fE Rrg p32200 h
theorem Rmc (a0 : List (List UInt8)) (a1 : Int) (a2 : List UInt8) : Tv.Le
 ((bif (decide (0 ≤ a1)) then
(bif (decide (a1 < (a0.length : Int))) then
bnd (geti a0 a1) fun e1 =>
some (e1 == a2)
else
some false)
else
some false) : Option (Bool))
 (Ra a0 a1 a2) := by
 exact fun r h => fE Rn p45200 h
theorem Rqo (a0 : List (List UInt8)) (a1 : Int) : Tv.Le
 ((bif (decide ((a0.length : Int) ≤ a1)) then
some (-1)
else
bnd (geti a0 a1) fun e1 =>
bnd (Rfe e1) fun r2 =>
some r2) : Option (Int))
 (Rr a0 a1) := by
 exact fun r h => fE Rcq p45300 h
theorem Rdk (t5 : List (List UInt8)) (t8 : Int) (b100_0b : Bool) (b100_0 : List Int) (b100_1b : Bool) (b100_1 : List (List Stm)) (b101_0b : Bool) (b101_0 : List Int) (b101_1b : Bool) (b101_1 : List (List Stm)) (b102_0b : Bool) (b102_0 : List Int) (b102_1b : Bool) (b102_1 : List (List Stm)) : Tv.Le
 (bnd (Ra t5 t8 ([98, 111, 120])) fun r1 =>
(bif r1 then
bnd (Rr t5 (wrap64 (t8 + 1))) fun r2 =>
(bif (decide (0 ≤ r2)) then
bnd (Ra t5 (wrap64 (t8 + 2)) [59]) fun r3 =>
(bif r3 then
bnd (Rr t5 (wrap64 (t8 + 1))) fun r4 =>
bnd (appL b102_0 ([r4] : List Int)) fun l5 =>
Ru t5 (wrap64 (t8 + 3)) b100_0b b100_0 b100_1b b100_1 b101_0b b101_0 b101_1b b101_1 true l5 b102_1b b102_1
else
some (t5, t8, (b100_0b, b100_0), (b100_1b, b100_1), (b101_0b, b101_0), (b101_1b, b101_1), (b102_0b, b102_0), (b102_1b, b102_1)))
else
some (t5, t8, (b100_0b, b100_0), (b100_1b, b100_1), (b101_0b, b101_0), (b101_1b, b101_1), (b102_0b, b102_0), (b102_1b, b102_1)))
else
some (t5, t8, (b100_0b, b100_0), (b100_1b, b100_1), (b101_0b, b101_0), (b101_1b, b101_1), (b102_0b, b102_0), (b102_1b, b102_1))) : Option (List (List UInt8) × Int × (Bool × List Int) × (Bool × List (List Stm)) × (Bool × List Int) × (Bool × List (List Stm)) × (Bool × List Int) × (Bool × List (List Stm))))
 (Ru t5 t8 b100_0b b100_0 b100_1b b100_1 b101_0b b101_0 b101_1b b101_1 b102_0b b102_0 b102_1b b102_1) := by
 rewrite [← Qyy]
 exact fun r h => lE Rxi p44301 h
theorem Rjr (a0 : List (List UInt8)) (a1 : Int) : Tv.Le
 (bnd (Ra a0 a1 [123]) fun r1 =>
(bif (!r1) then
some (([] : List Stm), (-1))
else
bnd (Rbh a0 (wrap64 (a1 + 1)) true ([] : List Stm)) fun r2 =>
bnd (Ra r2.1 r2.2.1 [125]) fun r3 =>
(bif (!r3) then
some (([] : List Stm), (-1))
else
some (r2.2.2.2, (wrap64 (r2.2.1 + 1))))) : Option (List Stm × Int))
 (Rbg a0 a1) := by
 rewrite [← Qyy]
 exact fun r h => fE Rxo p45400 h
theorem Rby (t5 : List (List UInt8)) (t8 : Int) (b100_0b : Bool) (b100_0 : List Int) (b100_1b : Bool) (b100_1 : List (List Stm)) (b101_0b : Bool) (b101_0 : List Int) (b101_1b : Bool) (b101_1 : List (List Stm)) (b102_0b : Bool) (b102_0 : List Int) (b102_1b : Bool) (b102_1 : List (List Stm)) : Tv.Le
 (bnd (Ra t5 t8 ([116, 97, 115, 107])) fun r1 =>
(bif r1 then
bnd (Rbg t5 (wrap64 (t8 + 1))) fun r2 =>
bnd (appL b102_1 ([r2.1] : List (List Stm))) fun l3 =>
Rv t5 r2.2 b100_0b b100_0 b100_1b b100_1 b101_0b b101_0 b101_1b b101_1 b102_0b b102_0 true l3
else
some (t5, t8, (b100_0b, b100_0), (b100_1b, b100_1), (b101_0b, b101_0), (b101_1b, b101_1), (b102_0b, b102_0), (b102_1b, b102_1))) : Option (List (List UInt8) × Int × (Bool × List Int) × (Bool × List (List Stm)) × (Bool × List Int) × (Bool × List (List Stm)) × (Bool × List Int) × (Bool × List (List Stm))))
 (Rv t5 t8 b100_0b b100_0 b100_1b b100_1 b101_0b b101_0 b101_1b b101_1 b102_0b b102_0 b102_1b b102_1) := by
 rewrite [← Qyy]
 exact fun r h => lE Rxj p44302 h
theorem Rkg (a0 : Prg) : Tv.Le
 (bnd (Rjb a0.rooms) fun r1 =>
(bif (!r1) then
some false
else
bnd (Reb (a0.tasks.length : Int) 1 3) fun r2 =>
(bif (!r2) then
some false
else
bnd (Rbn 0 a0.rooms a0.tasks) fun r3 =>
selm r3 (fun y4 =>
some true) (fun z5 =>
some z5))) : Option (Bool))
 (Rba a0) := by
 exact fun r h => fE Rn p23300 h
theorem Roh (a0 : List Int) (a1 : List Int) : Tv.Le
 ((bif (!decide ((a0.length : Int) = (a1.length : Int))) then
some false
else
bnd (Ree a0 a1 0) fun r1 =>
selm r1 (fun y2 =>
some true) (fun z3 =>
some z3)) : Option (Bool))
 (Riu a0 a1) := by
 exact fun r h => fE Rn p9700 h
theorem Rnd (a0 : List Stm) (a1 : List Stm) : Tv.Le
 ((bif (!decide ((a0.length : Int) = (a1.length : Int))) then
some false
else
bnd (Rcw a0 a1 0) fun r1 =>
selm r1 (fun y2 =>
some true) (fun z3 =>
some z3)) : Option (Bool))
 (Raj a0 a1) := by
 exact fun r h => fE Rn p9900 h
theorem Rfi (t5 : Int) (b100_0 : List Int) (b100_1 : List (List Stm)) (b101_0 : List Int) (b101_1 : List (List Stm)) : Tv.Le
 ((bif (decide (t5 < (b100_1.length : Int))) then
bnd (geti b100_1 t5) fun e1 =>
bnd (geti b101_1 t5) fun e2 =>
bnd (Raj e1 e2) fun r3 =>
(bif (!r3) then
some (.inr false)
else
Rda (wrap64 (t5 + 1)) b100_0 b100_1 b101_0 b101_1)
else
some (.inl ())) : Option (Unit ⊕ Bool))
 (Rda t5 b100_0 b100_1 b101_0 b101_1) := by
 rewrite [← Qyy]
 exact fun r h => lE Rgt p45001 h
theorem Rou (a0b : List Int) (a0p : Int) : Tv.Le
 (bnd (Rb 6 a0b a0p) fun r1 =>
bnd (geti ([0, 1, 1, 2, 2, 3] : List Int) r1.1) fun e2 =>
bnd (Reh true ([] : List Int) e2 0 r1.2.1 r1.2.2) fun r3 =>
some (r3.1.2, r3.2.1, r3.2.2) : Option (List Int × List Int × Int))
 (Rje a0b a0p) := by
 exact fun r h => fE Rwt p22300 h
theorem Rov (a1 : Int) (a0b : List Int) (a0p : Int) : Tv.Le
 (bnd (Rb 6 a0b a0p) fun r1 =>
bnd (Rcn a1 3 (wrap64 (1 + r1.1)) true r1.2.1 r1.2.2) fun r2 =>
bnd (Rei (.own true) r2.1 r2.2.1 r2.2.2) fun r3 =>
some (((Md.res r3.1.1), r3.1.2), r3.2.1, r3.2.2) : Option ((Md × List Stm) × List Int × Int))
 (Rjf a1 a0b a0p) := by
 rewrite [← Qyy]
 exact fun r h => fE s4700 p4700 h
theorem Rgd (t4 : Int) (t5 : Int) (b0_0 : List Int) (b0_1 : Int) (b100_0b : Bool) (b100_0 : List Int) (b100_1 : Hd) (b101_0 : List Int) (b101_1 : Hd) (b99 : List Ent) : Tv.Le
 ((bif (decide (t5 < t4)) then
bnd (Rjf (b101_0.length : Int) b0_0 b0_1) fun r1 =>
bnd (Qmz b99 .stms b101_1.id b101_1.n ([r1.1.2] : List (List Stm))) fun B2 =>
Rdm t4 (wrap64 (t5 + 1)) r1.2.1 r1.2.2 b100_0b b100_0 b100_1 b101_0 (⟨(some (List.length b99)), (b101_1.n + List.length ([r1.1.2] : List (List Stm)))⟩ : Hd) B2
else
some (b0_0, b0_1, (b100_0b, b100_0), b100_1, b101_0, b101_1, b99)) : Option (List Int × Int × (Bool × List Int) × Hd × List Int × Hd × List Ent))
 (Rdm t4 t5 b0_0 b0_1 b100_0b b100_0 b100_1 b101_0 b101_1 b99) := by
 rewrite [← Qyy]
 exact fun r h => lE Rww p22401 h
theorem Rmg (a0b : List Int) (a0p : Int) : Tv.Le
 (bnd (Rbb 0 1) fun r1 =>
bnd (Rb 2 a0b a0p) fun r2 =>
bnd (Rcn 0 1 r2.1 false r2.2.1 r2.2.2) fun r3 =>
some (⟨3, 0, 0, ⟨r1.1, r1.2.1, r1.2.2.2⟩, r3.1, []⟩, r3.2.1, r3.2.2) : Option (Stm × List Int × Int))
 (Rhn a0b a0p) := by
 exact fun r h => fE Roi p8700 h
theorem Rjd (a0 : Int) : Tv.Le
 ((bif (decide (a0 < (-9223372036854775807))) then
some ([45, 57, 50, 50, 51, 51, 55, 50, 48, 51, 54, 56, 53, 52, 55, 55, 53, 56, 48, 56])
else
(bif (decide (a0 < 0)) then
bnd (Rdi (wrap64 (0 - a0))) fun r1 =>
bnd (catS [45] r1) fun s2 =>
some s2
else
(bif (decide (a0 < 10)) then
some (Tv.bytes ([(((wrap64 (48 + a0))) % 256)] : List Int))
else
bnd (Rdi (wrap64 (Int.tdiv a0 10))) fun r3 =>
bnd (catS r3 (Tv.bytes ([(((wrap64 (48 + (Int.tmod a0 10)))) % 256)] : List Int))) fun s4 =>
some s4))) : Option (List UInt8))
 (Rdi a0) := by
 rewrite [← Qyy]
 exact fun r h => fE Rfj p20500 h
theorem Rfk (t3b : Bool) (t3 : List (List UInt8)) (t4 : Int) (b100_0 : List Int) (b100_1 : List (List Stm)) : Tv.Le
 ((bif (decide (t4 < (b100_0.length : Int))) then
bnd (geti b100_0 t4) fun e1 =>
bnd (Rdi e1) fun r2 =>
bnd (appL t3 ([[98, 111, 120], r2, [59]] : List (List UInt8))) fun l3 =>
Rbs true l3 (wrap64 (t4 + 1)) b100_0 b100_1
else
some ((t3b, t3), b100_0, b100_1)) : Option ((Bool × List (List UInt8)) × List Int × List (List Stm)))
 (Rbs t3b t3 t4 b100_0 b100_1) := by
 rewrite [← Qyy]
 exact fun r h => lE Rxm p44901 h
theorem Roq (a0 : List Stm) : Tv.Le
 (bnd (Rdf a0 true ([[123]] : List (List UInt8)) 0) fun r1 =>
bnd (appL r1.2 ([[125]] : List (List UInt8))) fun l2 =>
some l2 : Option (List (List UInt8)))
 (Rci a0) := by
 exact fun r h => fE Rhd p45900 h
theorem Rfl (t3b : Bool) (t3 : List (List UInt8)) (t5 : Int) (b100_0 : List Int) (b100_1 : List (List Stm)) : Tv.Le
 ((bif (decide (t5 < (b100_1.length : Int))) then
bnd (appL t3 ([[116, 97, 115, 107]] : List (List UInt8))) fun l1 =>
bnd (geti b100_1 t5) fun e2 =>
bnd (Rci e2) fun r3 =>
bnd (appL l1 r3) fun l4 =>
Rbt true l4 (wrap64 (t5 + 1)) b100_0 b100_1
else
some (t3b, t3)) : Option ((Bool × List (List UInt8))))
 (Rbt t3b t3 t5 b100_0 b100_1) := by
 rewrite [← Qyy]
 exact fun r h => lE Rxn p44902 h
theorem Rlz (a0 : List (List UInt8)) : Tv.Le
 (bnd (Rbk a0 [] 0) fun r1 =>
selm r1 (fun y2 =>
some y2) (fun z3 =>
some z3.1) : Option (List UInt8))
 (Rhh a0) := by
 exact fun r h => fE Rfj p35000 h
theorem Rks (a0 : List UInt8) : Tv.Le
 (bnd (Rbq a0 (([33100, 33200] : List Nat).length : Int) 0) fun r1 =>
selm r1 (fun y2 =>
bnd (Rbr y2 .full ([[61, 61], [60, 60], [62, 62]] : List (List UInt8)) (([[61, 61], [60, 60], [62, 62]] : List (List UInt8)).length : Int) 0) fun r4 =>
selm r4 (fun y5 =>
(bif (!(y5 == [])) then
bnd (geti y5 0) fun c7 =>
bnd (strings_IndexByte ([124, 94, 38, 60, 43, 45, 42, 47, 37, 40, 41, 123, 125, 61, 59]) (c7.toNat : Int)) fun r8 =>
(bif (decide (0 ≤ r8)) then
some 1
else
some 0)
else
some 0)) (fun z6 =>
some z6.2)) (fun z3 =>
some z3.2) : Option (Int))
 (Red a0) := by
 exact fun r h => fE Rcq p33300 h
theorem Rdu (t0 : List UInt8) (t4b : Bool) (t4 : List (List UInt8)) (t5 : Int) : Tv.Le
 ((bif (decide (t5 < (t0.length : Int))) then
bnd (geti t0 t5) fun c1 =>
(bif (decide ((c1.toNat : Int) = 32)) then
Rab t0 t4b t4 (wrap64 (t5 + 1))
else
bnd (geti t0 t5) fun c2 =>
(bif (decide ((c2.toNat : Int) = 10)) then
Rab t0 t4b t4 (wrap64 (t5 + 1))
else
bnd (cutL t0 t5 (t0.length : Int)) fun s3 =>
bnd (Red s3) fun r4 =>
(bif (decide (r4 = 0)) then
some (.inr ((false, []), false, (t4b, t4)))
else
bnd (cutL t0 t5 (wrap64 (t5 + r4))) fun s5 =>
bnd (appL t4 ([s5] : List (List UInt8))) fun l6 =>
Rab t0 true l6 (wrap64 (t5 + r4)))))
else
some (.inl (t4b, t4))) : Option (((Bool × List (List UInt8))) ⊕ ((Bool × List (List UInt8)) × Bool × (Bool × List (List UInt8)))))
 (Rab t0 t4b t4 t5) := by
 rewrite [← Qyy]
 exact fun r h => lE Rrh p33401 h
theorem Rek (a0tokens : List (List UInt8)) (a0at : Int) (a0failed : Bool) : Tv.Le
 ((bif (decide (a0at < (a0tokens.length : Int))) then
(bif (!a0failed) then
bnd (geti a0tokens a0at) fun e1 =>
some (e1, a0tokens, a0at, a0failed)
else
some ([], a0tokens, a0at, a0failed))
else
some ([], a0tokens, a0at, a0failed)) : Option (List UInt8 × List (List UInt8) × Int × Bool))
 (Raw a0tokens a0at a0failed) := by
 exact fun r h => fE Rri p33500 h
theorem Rel (a0tokens : List (List UInt8)) (a0at : Int) (a0failed : Bool) : Tv.Le
 (bnd (Raw a0tokens a0at a0failed) fun r1 =>
(bif (r1.1 == []) then
some (r1.1, r1.2.1, (wrap64 (r1.2.2.1 + 1)), true)
else
some (r1.1, r1.2.1, (wrap64 (r1.2.2.1 + 1)), r1.2.2.2)) : Option (List UInt8 × List (List UInt8) × Int × Bool))
 (Rca a0tokens a0at a0failed) := by
 rewrite [← Qyy]
 exact fun r h => fE Rri p33800 h
theorem Rpg (a0 : Int) : Tv.Le
 ((bif (decide (48 ≤ a0)) then
some (decide (a0 ≤ 57))
else
some false) : Option (Bool))
 (Rfx a0) := by
 exact fun r h => fE Rn p33100 h
theorem Rqe (a0 : List UInt8) : Tv.Le (if a0.length ≤ 18 then Lib.atoi a0 else none : Option (Int)) (strconv_Atoi a0) := fun r h => by
 exact prim_le (F := Tb) (G := GT) (sg := fun _ => Rxh) (g := 37700) (p := p37700) (x := r) (tv := [.str a0]) (v := .tup [.int .i64 r, .undef]) (by kernel_rfl) rfl (atoi_pf h) rfl
theorem Raa (a0tokens : List (List UInt8)) (a0at : Int) (a0failed : Bool) : Tv.Le
 (bnd (Re ([105, 102]) a0tokens a0at a0failed) fun r1 =>
(bif r1.1 then
bnd (Rf 1 r1.2.1 r1.2.2.1 r1.2.2.2) fun r2 =>
bnd (Rat r2.2.1 r2.2.2.1 r2.2.2.2) fun r3 =>
bnd (Re ([101, 108, 115, 101]) r3.2.1 r3.2.2.1 r3.2.2.2) fun r4 =>
(bif r4.1 then
bnd (Rat r4.2.1 r4.2.2.1 r4.2.2.2) fun r5 =>
some (⟨2, 0, 0, ⟨r2.1.op, r2.1.n, r2.1.args⟩, r3.1, r5.1⟩, r5.2.1, r5.2.2.1, r5.2.2.2)
else
some (⟨2, 0, 0, ⟨r2.1.op, r2.1.n, r2.1.args⟩, r3.1, []⟩, r4.2.1, r4.2.2.1, r4.2.2.2))
else
bnd (Re ([119, 104, 105, 108, 101]) r1.2.1 r1.2.2.1 r1.2.2.2) fun r6 =>
(bif r6.1 then
bnd (Rf 1 r6.2.1 r6.2.2.1 r6.2.2.2) fun r7 =>
bnd (Rat r7.2.1 r7.2.2.1 r7.2.2.2) fun r8 =>
some (⟨3, 0, 0, ⟨r7.1.op, r7.1.n, r7.1.args⟩, r8.1, []⟩, r8.2.1, r8.2.2.1, r8.2.2.2)
else
bnd (Re ([115, 101, 110, 100]) r6.2.1 r6.2.2.1 r6.2.2.2) fun r9 =>
(bif r9.1 then
bnd (Rad r9.2.1 r9.2.2.1 r9.2.2.2) fun r10 =>
bnd (Rf 1 r10.2.1 r10.2.2.1 r10.2.2.2) fun r11 =>
bnd (Rg [59] r11.2.1 r11.2.2.1 r11.2.2.2) fun r12 =>
some (⟨4, 0, r10.1, ⟨r11.1.op, r11.1.n, r11.1.args⟩, [], []⟩, r12.1, r12.2.1, r12.2.2)
else
bnd (Re ([114, 101, 99, 118]) r9.2.1 r9.2.2.1 r9.2.2.2) fun r13 =>
(bif r13.1 then
bnd (Rad r13.2.1 r13.2.2.1 r13.2.2.2) fun r14 =>
bnd (Rj r14.2.1 r14.2.2.1 r14.2.2.2) fun r15 =>
bnd (Rg [59] r15.2.1 r15.2.2.1 r15.2.2.2) fun r16 =>
some (⟨5, r15.1, r14.1, ⟨0, 0, []⟩, [], []⟩, r16.1, r16.2.1, r16.2.2)
else
bnd (Re ([121, 105, 101, 108, 100]) r13.2.1 r13.2.2.1 r13.2.2.2) fun r17 =>
(bif r17.1 then
bnd (Rg [59] r17.2.1 r17.2.2.1 r17.2.2.2) fun r18 =>
some (⟨6, 0, 0, ⟨0, 0, []⟩, [], []⟩, r18.1, r18.2.1, r18.2.2)
else
bnd (Re ([112, 114, 105, 110, 116]) r17.2.1 r17.2.2.1 r17.2.2.2) fun r19 =>
(bif r19.1 then
bnd (Rf 1 r19.2.1 r19.2.2.1 r19.2.2.2) fun r20 =>
bnd (Rg [59] r20.2.1 r20.2.2.1 r20.2.2.2) fun r21 =>
some (⟨7, 0, 0, ⟨r20.1.op, r20.1.n, r20.1.args⟩, [], []⟩, r21.1, r21.2.1, r21.2.2)
else
bnd (Rj r19.2.1 r19.2.2.1 r19.2.2.2) fun r22 =>
bnd (Rg [61] r22.2.1 r22.2.2.1 r22.2.2.2) fun r23 =>
bnd (Rf 1 r23.1 r23.2.1 r23.2.2) fun r24 =>
bnd (Rg [59] r24.2.1 r24.2.2.1 r24.2.2.2) fun r25 =>
some (⟨1, r22.1, 0, ⟨r24.1.op, r24.1.n, r24.1.args⟩, [], []⟩, r25.1, r25.2.1, r25.2.2))))))) : Option (Stm × List (List UInt8) × Int × Bool))
 (Rbz a0tokens a0at a0failed) := by
 exact fun r h => fE Rxt p46100 h
theorem Rav (t3b : Bool) (t3 : List Stm) (b0_0 : List (List UInt8)) (b0_1 : Int) (b0_2 : Bool) : Tv.Le
 ((bif (!b0_2) then
bnd (Re [125] b0_0 b0_1 b0_2) fun r1 =>
(bif (!r1.1) then
bnd (Rbz r1.2.1 r1.2.2.1 r1.2.2.2) fun r2 =>
bnd (appL t3 ([⟨r2.1.kind, r2.1.var, r2.1.box, ⟨r2.1.e.op, r2.1.e.n, r2.1.e.args⟩, r2.1.body, r2.1.els⟩] : List Stm)) fun l3 =>
Rac true l3 r2.2.1 r2.2.2.1 r2.2.2.2
else
some ((t3b, t3), r1.2.1, r1.2.2.1, r1.2.2.2))
else
some ((t3b, t3), b0_0, b0_1, b0_2)) : Option ((Bool × List Stm) × List (List UInt8) × Int × Bool))
 (Rac t3b t3 b0_0 b0_1 b0_2) := by
 exact fun r h => lE Rxr p45501 h
theorem Rlj (a0 : List Int) : Tv.Le
 (bnd (Rcf a0 a0 (a0.length : Int) 0) fun r1 =>
selm r1 (fun y2 =>
some (decide ((y2.length : Int) ≤ 3))) (fun z3 =>
some z3.2) : Option (Bool))
 (Rgz a0) := by
 exact fun r h => fE Rn p22700 h
end Go.TFnSourceTask