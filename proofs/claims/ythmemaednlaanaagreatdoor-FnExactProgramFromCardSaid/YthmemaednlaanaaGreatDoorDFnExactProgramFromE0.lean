import Derived.Test.YthmemaednlaanaaGreatDoorDFnExactProgramFromP
import Derived.KernelRfl
set_option linter.unusedVariables false
namespace Go.TFnExactProgramFrom
open Go Go.RowKit Go.Vs Go.Tv
theorem Rhl (a0 : List UInt8) : Tv.Le
 ((bif (decide (1048576 < (a0.length : Int))) then
some true
else
bnd (Rbt a0) fun r1 =>
bnd (Rfc a0 (Go.Vs.Qdw ([] : List Ent))) fun r2 =>
bnd (Qox ([] : List Ent) r2.2.2) fun B3 =>
bnd (Qgb B3 .int r2.1.rooms.id) fun l4 =>
bnd (Qgb B3 .stmsHH r2.1.tasks.id) fun l5 =>
bnd (Reh (⟨l4, l5⟩ : Prg) r1.1) fun r6 =>
(bif (!r6) then
some false
else
(bif (!(r2.2.1 == r1.2)) then
some false
else
bnd (Rfj r2.1 1 B3) fun r7 =>
bnd (Qgb r7.2 .int r2.1.rooms.id) fun l8 =>
bnd (Qgb r7.2 .stmsHH r2.1.tasks.id) fun l9 =>
bnd (Rdm (⟨l8, l9⟩ : Prg) 1) fun r10 =>
(bif (decide (r10 < 0)) then
some false
else
(bif (!decide (r10 = r7.1)) then
some false
else
bnd (Rbs a0) fun r11 =>
bnd (Reh r11.1 r1.1) fun r12 =>
(bif (!r12) then
some false
else
(bif (!(r11.2 == r1.2)) then
some false
else
bnd (Qgb r7.2 .int r2.1.rooms.id) fun l13 =>
bnd (Qgb r7.2 .stmsHH r2.1.tasks.id) fun l14 =>
bnd (Rdm (⟨l13, l14⟩ : Prg) 1) fun r15 =>
(bif (decide (r15 < 0)) then
some false
else
(bif (!decide (r15 = r7.1)) then
some false
else
some true))))))))) : Option (Bool))
 (laws_FnExactProgramFrom a0) := by
 exact fun r h => fE Rk p44000 h
theorem Reu (a0 : List UInt8) : Tv.Le
 (bnd (Rku a0) fun r1 =>
(bif (!r1.2) then
some (⟨[], []⟩, false)
else
bnd (Rv r1.1 0 false [] false [] false [] false [] false ([] : List Int) false ([] : List (List Stm))) fun r2 =>
bnd (Rx r2.1 r2.2.1 r2.2.2.1.1 r2.2.2.1.2 r2.2.2.2.1.1 r2.2.2.2.1.2 r2.2.2.2.2.1.1 r2.2.2.2.2.1.2 r2.2.2.2.2.2.1.1 r2.2.2.2.2.2.1.2 r2.2.2.2.2.2.2.1.1 r2.2.2.2.2.2.2.1.2 r2.2.2.2.2.2.2.2.1 r2.2.2.2.2.2.2.2.2) fun r3 =>
(bif (!decide (r3.2.1 = (r3.1.length : Int))) then
some (⟨r3.2.2.2.2.1.2, r3.2.2.2.2.2.1.2⟩, false)
else
bnd (Rca (⟨r3.2.2.2.2.2.2.1.2, r3.2.2.2.2.2.2.2.2⟩ : Prg)) fun r4 =>
(bif (!r4) then
some (⟨r3.2.2.2.2.1.2, r3.2.2.2.2.2.1.2⟩, false)
else
some (⟨r3.2.2.2.2.2.2.1.2, r3.2.2.2.2.2.2.2.2⟩, true)))) : Option (Prg × Bool))
 (Rbt a0) := by
 exact fun r h => fE Rpt p44300 h
theorem Rge (a0 : List UInt8) (A : List Ent) : Tv.Le
 (bnd (Rim a0) fun r1 =>
(bif (!r1.2) then
some (⟨⟨none, 0⟩, ⟨none, 0⟩⟩, false, A)
else
bnd (Rj r1.1 (⟨none, 0⟩ : Hd) (⟨none, 0⟩ : Hd) r1.1 0 false (⟨none, 0⟩ : Hd) (⟨none, 0⟩ : Hd) A) fun r2 =>
bnd (Rac r2.1 r2.2.1 r2.2.2.1 r2.2.2.2.1 r2.2.2.2.2.1 r2.2.2.2.2.2.1 r2.2.2.2.2.2.2.1 r2.2.2.2.2.2.2.2.1 r2.2.2.2.2.2.2.2.2) fun r3 =>
(bif r3.2.2.2.2.2.1 then
some (⟨⟨none, 0⟩, ⟨none, 0⟩⟩, false, r3.2.2.2.2.2.2.2.2)
else
(bif (!decide (r3.2.2.2.2.1 = (r3.1.length : Int))) then
some (⟨⟨none, 0⟩, ⟨none, 0⟩⟩, false, r3.2.2.2.2.2.2.2.2)
else
bnd (Qgb r3.2.2.2.2.2.2.2.2 .int r3.2.2.2.2.2.2.1.id) fun l4 =>
bnd (Qgb r3.2.2.2.2.2.2.2.2 .stmsHH r3.2.2.2.2.2.2.2.1.id) fun l5 =>
bnd (Raz (⟨l4, l5⟩ : Prg)) fun r6 =>
(bif (!r6) then
some (⟨⟨none, 0⟩, ⟨none, 0⟩⟩, false, r3.2.2.2.2.2.2.2.2)
else
some (⟨r3.2.2.2.2.2.2.1, r3.2.2.2.2.2.2.2.1⟩, true, r3.2.2.2.2.2.2.2.2))))) : Option (PrgH × Bool × List Ent))
 (Rfc a0 A) := by
 exact fun r h => fE Rvb p44500 h
theorem Rmf (a0 : Prg) (a1 : Prg) : Tv.Le
 (bnd (Rkn a0.rooms a1.rooms) fun r1 =>
(bif (!r1) then
some false
else
bnd (Riq a0.tasks a1.tasks) fun r2 =>
(bif (!r2) then
some false
else
some true)) : Option (Bool))
 (Reh a0 a1) := by
 exact fun r h => fE Rk p28900 h
theorem Rji (a0 : PrgH) (a1 : Int) (A : List Ent) : Tv.Le
 (bnd (Rfi a0.rooms a1 A) fun r1 =>
bnd (Rfv a0.tasks r1.1 r1.2) fun r2 =>
some (r2.1, r2.2) : Option (Int × List Ent))
 (Rfj a0 a1 A) := by
 exact fun r h => fE Rhf p42100 h
theorem Rkq (a0 : Prg) (a1 : Int) : Tv.Le
 (bnd (Rir a0.rooms a1) fun r1 =>
(bif (decide (r1 < 0)) then
some (-1)
else
bnd (Rhb a0.tasks r1) fun r2 =>
(bif (decide (r2 < 0)) then
some (-1)
else
some r2)) : Option (Int))
 (Rdm a0 a1) := by
 exact fun r h => fE Rbi p44600 h
theorem Reo (a0 : List UInt8) : Tv.Le
 (bnd (Rim a0) fun r1 =>
(bif (!r1.2) then
some (⟨[], []⟩, false)
else
bnd (Rn r1.1 false [] false [] r1.1 0 false false [] false []) fun r2 =>
bnd (Ru r2.1 r2.2.1.1 r2.2.1.2 r2.2.2.1.1 r2.2.2.1.2 r2.2.2.2.1 r2.2.2.2.2.1 r2.2.2.2.2.2.1 r2.2.2.2.2.2.2.1.1 r2.2.2.2.2.2.2.1.2 r2.2.2.2.2.2.2.2.1 r2.2.2.2.2.2.2.2.2) fun r3 =>
(bif r3.2.2.2.2.2.1 then
some (⟨[], []⟩, false)
else
(bif (!decide (r3.2.2.2.2.1 = (r3.1.length : Int))) then
some (⟨[], []⟩, false)
else
bnd (Raz (⟨r3.2.2.2.2.2.2.1.2, r3.2.2.2.2.2.2.2.2⟩ : Prg)) fun r4 =>
(bif (!r4) then
some (⟨[], []⟩, false)
else
some (⟨r3.2.2.2.2.2.2.1.2, r3.2.2.2.2.2.2.2.2⟩, true))))) : Option (Prg × Bool))
 (Rbs a0) := by
 exact fun r h => fE Rpt p44400 h
theorem Row (a0 : List UInt8) : Tv.Le
 ((bif (decide (20000 < (a0.length : Int))) then
some (([] : List (List UInt8)), false)
else
bnd (Rar a0 true ([] : List (List UInt8)) 0) fun r1 =>
selm r1 (fun y2 =>
some (y2.2, true)) (fun z3 =>
some (z3.1.2, z3.2.1))) : Option (List (List UInt8) × Bool))
 (Rku a0) := by
 exact fun r h => fE Rpn p32200 h
theorem Rlp (a0 : List (List UInt8)) (a1 : Int) (a2 : List UInt8) : Tv.Le
 ((bif (decide (0 ≤ a1)) then
(bif (decide (a1 < (a0.length : Int))) then
bnd (geti a0 a1) fun e1 =>
some (e1 == a2)
else
some false)
else
some false) : Option (Bool))
 (Ra a0 a1 a2) := by
 exact fun r h => fE Rk p45200 h
theorem Roz (a0 : List (List UInt8)) (a1 : Int) : Tv.Le
 ((bif (decide ((a0.length : Int) ≤ a1)) then
some (-1)
else
bnd (geti a0 a1) fun e1 =>
bnd (Rfn e1) fun r2 =>
some r2) : Option (Int))
 (Rr a0 a1) := by
 exact fun r h => fE Rbi p45300 h
theorem Rds (t5 : List (List UInt8)) (t8 : Int) (b100_0b : Bool) (b100_0 : List Int) (b100_1b : Bool) (b100_1 : List (List Stm)) (b101_0b : Bool) (b101_0 : List Int) (b101_1b : Bool) (b101_1 : List (List Stm)) (b102_0b : Bool) (b102_0 : List Int) (b102_1b : Bool) (b102_1 : List (List Stm)) : Tv.Le
 (bnd (Ra t5 t8 ([98, 111, 120])) fun r1 =>
(bif r1 then
bnd (Rr t5 (wrap64 (t8 + 1))) fun r2 =>
(bif (decide (0 ≤ r2)) then
bnd (Ra t5 (wrap64 (t8 + 2)) [59]) fun r3 =>
(bif r3 then
bnd (Rr t5 (wrap64 (t8 + 1))) fun r4 =>
bnd (appL b102_0 ([r4] : List Int)) fun l5 =>
Rv t5 (wrap64 (t8 + 3)) b100_0b b100_0 b100_1b b100_1 b101_0b b101_0 b101_1b b101_1 true l5 b102_1b b102_1
else
some (t5, t8, (b100_0b, b100_0), (b100_1b, b100_1), (b101_0b, b101_0), (b101_1b, b101_1), (b102_0b, b102_0), (b102_1b, b102_1)))
else
some (t5, t8, (b100_0b, b100_0), (b100_1b, b100_1), (b101_0b, b101_0), (b101_1b, b101_1), (b102_0b, b102_0), (b102_1b, b102_1)))
else
some (t5, t8, (b100_0b, b100_0), (b100_1b, b100_1), (b101_0b, b101_0), (b101_1b, b101_1), (b102_0b, b102_0), (b102_1b, b102_1))) : Option (List (List UInt8) × Int × (Bool × List Int) × (Bool × List (List Stm)) × (Bool × List Int) × (Bool × List (List Stm)) × (Bool × List Int) × (Bool × List (List Stm))))
 (Rv t5 t8 b100_0b b100_0 b100_1b b100_1 b101_0b b101_0 b101_1b b101_1 b102_0b b102_0 b102_1b b102_1) := by
 rewrite [← Qze]
 exact fun r h => lE Rux p44301 h
theorem Rjo (a0 : List (List UInt8)) (a1 : Int) : Tv.Le
 (bnd (Ra a0 a1 [123]) fun r1 =>
(bif (!r1) then
some (([] : List Stm), (-1))
else
bnd (Rbn a0 (wrap64 (a1 + 1)) true ([] : List Stm)) fun r2 =>
bnd (Ra r2.1 r2.2.1 [125]) fun r3 =>
(bif (!r3) then
some (([] : List Stm), (-1))
else
some (r2.2.2.2, (wrap64 (r2.2.1 + 1))))) : Option (List Stm × Int))
 (Rbm a0 a1) := by
 rewrite [← Qze]
 exact fun r h => fE Rve p45400 h
theorem Rci (t5 : List (List UInt8)) (t8 : Int) (b100_0b : Bool) (b100_0 : List Int) (b100_1b : Bool) (b100_1 : List (List Stm)) (b101_0b : Bool) (b101_0 : List Int) (b101_1b : Bool) (b101_1 : List (List Stm)) (b102_0b : Bool) (b102_0 : List Int) (b102_1b : Bool) (b102_1 : List (List Stm)) : Tv.Le
 (bnd (Ra t5 t8 ([116, 97, 115, 107])) fun r1 =>
(bif r1 then
bnd (Rbm t5 (wrap64 (t8 + 1))) fun r2 =>
bnd (appL b102_1 ([r2.1] : List (List Stm))) fun l3 =>
Rx t5 r2.2 b100_0b b100_0 b100_1b b100_1 b101_0b b101_0 b101_1b b101_1 b102_0b b102_0 true l3
else
some (t5, t8, (b100_0b, b100_0), (b100_1b, b100_1), (b101_0b, b101_0), (b101_1b, b101_1), (b102_0b, b102_0), (b102_1b, b102_1))) : Option (List (List UInt8) × Int × (Bool × List Int) × (Bool × List (List Stm)) × (Bool × List Int) × (Bool × List (List Stm)) × (Bool × List Int) × (Bool × List (List Stm))))
 (Rx t5 t8 b100_0b b100_0 b100_1b b100_1 b101_0b b101_0 b101_1b b101_1 b102_0b b102_0 b102_1b b102_1) := by
 rewrite [← Qze]
 exact fun r h => lE Ruy p44302 h
theorem Rkc (a0 : Prg) : Tv.Le
 (bnd (Riv a0.rooms) fun r1 =>
(bif (!r1) then
some false
else
bnd (Rej (a0.tasks.length : Int) 1 3) fun r2 =>
(bif (!r2) then
some false
else
bnd (Rbv 0 a0.rooms a0.tasks) fun r3 =>
selm r3 (fun y4 =>
some true) (fun z5 =>
some z5))) : Option (Bool))
 (Rca a0) := by
 exact fun r h => fE Rk p23300 h
theorem Rop (a0 : List UInt8) : Tv.Le
 ((bif (decide (20000 < (a0.length : Int))) then
some ([], false)
else
bnd (Rag a0 false [] 0) fun r1 =>
selm r1 (fun y2 =>
some (y2.2, true)) (fun z3 =>
some (z3.1.2, z3.2.1))) : Option (List (List UInt8) × Bool))
 (Rim a0) := by
 exact fun r h => fE Rpn p33400 h
theorem Rba (a1 : List UInt8) (a0tokens : List (List UInt8)) (a0at : Int) (a0failed : Bool) : Tv.Le
 (bnd (Raq a0tokens a0at a0failed) fun r1 =>
(bif (!(r1.1 == a1)) then
some (false, r1.2.1, r1.2.2.1, r1.2.2.2)
else
some (true, r1.2.1, (wrap64 (r1.2.2.1 + 1)), r1.2.2.2)) : Option (Bool × List (List UInt8) × Int × Bool))
 (Rb a1 a0tokens a0at a0failed) := by
 rewrite [← Qze]
 exact fun r h => fE Rus p33600 h
theorem Rcp (a0tokens : List (List UInt8)) (a0at : Int) (a0failed : Bool) : Tv.Le
 (bnd (Rcl a0tokens a0at a0failed) fun r1 =>
(bif (r1.1 == []) then
some (0, r1.2.1, r1.2.2.1, true)
else
(bif (decide (5 < (r1.1.length : Int))) then
some (0, r1.2.1, r1.2.2.1, true)
else
bnd (geti r1.1 0) fun c2 =>
bnd (Rex (c2.toNat : Int)) fun r3 =>
(bif (!r3) then
some (0, r1.2.1, r1.2.2.1, true)
else
bnd (strconv_Atoi r1.1) fun r4 =>
some (r4, r1.2.1, r1.2.2.1, r1.2.2.2)))) : Option (Int × List (List UInt8) × Int × Bool))
 (Rl a0tokens a0at a0failed) := by
 exact fun r h => fE Rpq p33900 h
theorem Rbh (a1 : List UInt8) (a0tokens : List (List UInt8)) (a0at : Int) (a0failed : Bool) : Tv.Le
 (bnd (Rb a1 a0tokens a0at a0failed) fun r1 =>
(bif (!r1.1) then
some (r1.2.1, r1.2.2.1, true)
else
some (r1.2.1, r1.2.2.1, r1.2.2.2)) : Option (List (List UInt8) × Int × Bool))
 (Rc a1 a0tokens a0at a0failed) := by
 exact fun r h => fE Rut p33700 h
theorem Ray (t4 : List (List UInt8)) (b100_0 : Hd) (b100_1 : Hd) (b101_0 : List (List UInt8)) (b101_1 : Int) (b101_2 : Bool) (b102_0 : Hd) (b102_1 : Hd) (b99 : List Ent) : Tv.Le
 (bnd (Rb ([98, 111, 120]) b101_0 b101_1 b101_2) fun r1 =>
(bif r1.1 then
bnd (Rl r1.2.1 r1.2.2.1 r1.2.2.2) fun r2 =>
bnd (Qju b99 .int b102_0.id b102_0.n ([r2.1] : List Int)) fun B3 =>
bnd (Rc [59] r2.2.1 r2.2.2.1 r2.2.2.2) fun r4 =>
Rj t4 b100_0 b100_1 r4.1 r4.2.1 r4.2.2 (⟨(some (List.length b99)), (b102_0.n + List.length ([r2.1] : List Int))⟩ : Hd) b102_1 B3
else
some (t4, b100_0, b100_1, r1.2.1, r1.2.2.1, r1.2.2.2, b102_0, b102_1, b99)) : Option (List (List UInt8) × Hd × Hd × List (List UInt8) × Int × Bool × Hd × Hd × List Ent))
 (Rj t4 b100_0 b100_1 b101_0 b101_1 b101_2 b102_0 b102_1 b99) := by
 exact fun r h => lE Rvc p44501 h
theorem Rch (a0tokens : List (List UInt8)) (a0at : Int) (a0failed : Bool) (A : List Ent) : Tv.Le
 (bnd (Rc [123] a0tokens a0at a0failed) fun r1 =>
bnd (Rai (⟨none, 0⟩ : Hd) r1.1 r1.2.1 r1.2.2 A) fun r2 =>
some (r2.1, r2.2.1, r2.2.2.1, r2.2.2.2.1, r2.2.2.2.2) : Option (Hd × List (List UInt8) × Int × Bool × List Ent))
 (Rax a0tokens a0at a0failed A) := by
 exact fun r h => fE Rvi p45600 h
theorem Rbp (t4 : List (List UInt8)) (b100_0 : Hd) (b100_1 : Hd) (b101_0 : List (List UInt8)) (b101_1 : Int) (b101_2 : Bool) (b102_0 : Hd) (b102_1 : Hd) (b99 : List Ent) : Tv.Le
 (bnd (Rb ([116, 97, 115, 107]) b101_0 b101_1 b101_2) fun r1 =>
(bif r1.1 then
bnd (Rax r1.2.1 r1.2.2.1 r1.2.2.2 b99) fun r2 =>
bnd (Qju r2.2.2.2.2 .stmsHH b102_1.id b102_1.n ([r2.1] : List Hd)) fun B3 =>
Rac t4 b100_0 b100_1 r2.2.1 r2.2.2.1 r2.2.2.2.1 b102_0 (⟨(some (List.length r2.2.2.2.2)), (b102_1.n + List.length ([r2.1] : List Hd))⟩ : Hd) B3
else
some (t4, b100_0, b100_1, r1.2.1, r1.2.2.1, r1.2.2.2, b102_0, b102_1, b99)) : Option (List (List UInt8) × Hd × Hd × List (List UInt8) × Int × Bool × Hd × Hd × List Ent))
 (Rac t4 b100_0 b100_1 b101_0 b101_1 b101_2 b102_0 b102_1 b99) := by
 exact fun r h => lE Rvd p44502 h
theorem Rjx (a0 : Prg) : Tv.Le
 (bnd (Rgw a0.rooms) fun r1 =>
(bif (!r1) then
some false
else
(bif (decide ((a0.tasks.length : Int) < 1)) then
some false
else
(bif (decide (3 < (a0.tasks.length : Int))) then
some false
else
bnd (Rbu a0.tasks (a0.tasks.length : Int) 0 a0.rooms a0.tasks) fun r2 =>
selm r2 (fun y3 =>
some true) (fun z4 =>
some z4)))) : Option (Bool))
 (Raz a0) := by
 exact fun r h => fE Rk p22800 h
theorem Ros (a0 : List Int) (a1 : List Int) : Tv.Le
 ((bif (!decide ((a0.length : Int) = (a1.length : Int))) then
some false
else
bnd (Rgb a0 a1 0) fun r1 =>
selm r1 (fun y2 =>
some true) (fun z3 =>
some z3)) : Option (Bool))
 (Rkn a0 a1) := by
 exact fun r h => fE Rk p8400 h
theorem Rne (a0 : List (List Stm)) (a1 : List (List Stm)) : Tv.Le
 ((bif (!decide ((a0.length : Int) = (a1.length : Int))) then
some false
else
bnd (Rel a0 a1 0) fun r1 =>
selm r1 (fun y2 =>
some true) (fun z3 =>
some z3)) : Option (Bool))
 (Riq a0 a1) := by
 exact fun r h => fE Rk p28800 h
theorem Rlg (a0 : Hd) (a1 : Int) (A : List Ent) : Tv.Le
 (bnd (Rdu a0 a1 0 A) fun r1 =>
some (r1.1, r1.2) : Option (Int × List Ent))
 (Rfi a0 a1 A) := by
 exact fun r h => fE Rhf p38700 h
theorem Rjz (a0 : Hd) (a1 : Int) (A : List Ent) : Tv.Le
 (bnd (Rcz a0 a1 0 A) fun r1 =>
some (r1.1, r1.2) : Option (Int × List Ent))
 (Rfv a0 a1 A) := by
 exact fun r h => fE Rhf p42900 h
theorem Rnh (a0 : List Int) (a1 : Int) : Tv.Le
 (bnd (Rdl a0 a1 0) fun r1 =>
selm r1 (fun y2 =>
some y2) (fun z3 =>
some z3.2) : Option (Int))
 (Rir a0 a1) := by
 exact fun r h => fE Rbi p10600 h
theorem Rlf (a0 : List (List Stm)) (a1 : Int) : Tv.Le
 (bnd (Rcs a0 a1 0) fun r1 =>
selm r1 (fun y2 =>
some y2) (fun z3 =>
some z3.2) : Option (Int))
 (Rhb a0 a1) := by
 exact fun r h => fE Rbi p45700 h
theorem Rbg (t4 : List (List UInt8)) (b100_0b : Bool) (b100_0 : List Int) (b100_1b : Bool) (b100_1 : List (List Stm)) (b101_0 : List (List UInt8)) (b101_1 : Int) (b101_2 : Bool) (b102_0b : Bool) (b102_0 : List Int) (b102_1b : Bool) (b102_1 : List (List Stm)) : Tv.Le
 (bnd (Rb ([98, 111, 120]) b101_0 b101_1 b101_2) fun r1 =>
(bif r1.1 then
bnd (Rl r1.2.1 r1.2.2.1 r1.2.2.2) fun r2 =>
bnd (appL b102_0 ([r2.1] : List Int)) fun l3 =>
bnd (Rc [59] r2.2.1 r2.2.2.1 r2.2.2.2) fun r4 =>
Rn t4 b100_0b b100_0 b100_1b b100_1 r4.1 r4.2.1 r4.2.2 true l3 b102_1b b102_1
else
some (t4, (b100_0b, b100_0), (b100_1b, b100_1), r1.2.1, r1.2.2.1, r1.2.2.2, (b102_0b, b102_0), (b102_1b, b102_1))) : Option (List (List UInt8) × (Bool × List Int) × (Bool × List (List Stm)) × List (List UInt8) × Int × Bool × (Bool × List Int) × (Bool × List (List Stm))))
 (Rn t4 b100_0b b100_0 b100_1b b100_1 b101_0 b101_1 b101_2 b102_0b b102_0 b102_1b b102_1) := by
 exact fun r h => lE Ruz p44401 h
theorem Rec (a0tokens : List (List UInt8)) (a0at : Int) (a0failed : Bool) : Tv.Le
 (bnd (Rc [123] a0tokens a0at a0failed) fun r1 =>
bnd (Rah false [] r1.1 r1.2.1 r1.2.2) fun r2 =>
some (r2.1.2, r2.2.1, r2.2.2.1, r2.2.2.2) : Option (List Stm × List (List UInt8) × Int × Bool))
 (Rbb a0tokens a0at a0failed) := by
 exact fun r h => fE Rvg p45500 h
theorem Rcg (t4 : List (List UInt8)) (b100_0b : Bool) (b100_0 : List Int) (b100_1b : Bool) (b100_1 : List (List Stm)) (b101_0 : List (List UInt8)) (b101_1 : Int) (b101_2 : Bool) (b102_0b : Bool) (b102_0 : List Int) (b102_1b : Bool) (b102_1 : List (List Stm)) : Tv.Le
 (bnd (Rb ([116, 97, 115, 107]) b101_0 b101_1 b101_2) fun r1 =>
(bif r1.1 then
bnd (Rbb r1.2.1 r1.2.2.1 r1.2.2.2) fun r2 =>
bnd (appL b102_1 ([r2.1] : List (List Stm))) fun l3 =>
Ru t4 b100_0b b100_0 b100_1b b100_1 r2.2.1 r2.2.2.1 r2.2.2.2 b102_0b b102_0 true l3
else
some (t4, (b100_0b, b100_0), (b100_1b, b100_1), r1.2.1, r1.2.2.1, r1.2.2.2, (b102_0b, b102_0), (b102_1b, b102_1))) : Option (List (List UInt8) × (Bool × List Int) × (Bool × List (List Stm)) × List (List UInt8) × Int × Bool × (Bool × List Int) × (Bool × List (List Stm))))
 (Ru t4 b100_0b b100_0 b100_1b b100_1 b101_0 b101_1 b101_2 b102_0b b102_0 b102_1b b102_1) := by
 exact fun r h => lE Rva p44402 h
theorem Rpb (a0 : Int) : Tv.Le
 ((bif (decide (48 ≤ a0)) then
(bif (decide (a0 ≤ 57)) then
some 1
else
(bif (decide (97 ≤ a0)) then
(bif (decide (a0 ≤ 122)) then
some 2
else
(bif (decide (a0 = 32)) then
some 3
else
(bif (decide (a0 = 10)) then
some 3
else
bnd (Rbx a0 ([43, 45, 42, 47, 37, 38, 124, 94, 60, 62, 40, 41, 123, 125, 61, 59]) 0) fun r1 =>
selm r1 (fun y2 =>
some 0) (fun z3 =>
some z3))))
else
(bif (decide (a0 = 32)) then
some 3
else
(bif (decide (a0 = 10)) then
some 3
else
bnd (Rbx a0 ([43, 45, 42, 47, 37, 38, 124, 94, 60, 62, 40, 41, 123, 125, 61, 59]) 0) fun r4 =>
selm r4 (fun y5 =>
some 0) (fun z6 =>
some z6)))))
else
(bif (decide (97 ≤ a0)) then
(bif (decide (a0 ≤ 122)) then
some 2
else
(bif (decide (a0 = 32)) then
some 3
else
(bif (decide (a0 = 10)) then
some 3
else
bnd (Rbx a0 ([43, 45, 42, 47, 37, 38, 124, 94, 60, 62, 40, 41, 123, 125, 61, 59]) 0) fun r7 =>
selm r7 (fun y8 =>
some 0) (fun z9 =>
some z9))))
else
(bif (decide (a0 = 32)) then
some 3
else
(bif (decide (a0 = 10)) then
some 3
else
bnd (Rbx a0 ([43, 45, 42, 47, 37, 38, 124, 94, 60, 62, 40, 41, 123, 125, 61, 59]) 0) fun r10 =>
selm r10 (fun y11 =>
some 0) (fun z12 =>
some z12))))) : Option (Int))
 (Rfz a0) := by
 exact fun r h => fE Rbi p31800 h
theorem Riw (a0 : List UInt8) (a1 : Int) : Tv.Le
 (bnd (geti a0 a1) fun c1 =>
bnd (Rfz (c1.toNat : Int)) fun r2 =>
(bif (decide (r2 = 1)) then
bnd (Rij a0 a1) fun r3 =>
some r3
else
(bif (decide (r2 = 2)) then
bnd (Rij a0 a1) fun r4 =>
some r4
else
(bif (!decide (r2 = 4)) then
some (-1)
else
(bif (decide ((wrap64 (a1 + 2)) ≤ (a0.length : Int))) then
bnd (cutL a0 a1 (wrap64 (a1 + 2))) fun s5 =>
bnd (Rmn s5) fun r6 =>
(bif r6 then
some (wrap64 (a1 + 2))
else
bnd (geti a0 a1) fun c7 =>
(bif (decide ((c7.toNat : Int) = 62)) then
some (-1)
else
some (wrap64 (a1 + 1))))
else
bnd (geti a0 a1) fun c8 =>
(bif (decide ((c8.toNat : Int) = 62)) then
some (-1)
else
some (wrap64 (a1 + 1))))))) : Option (Int))
 (Rjw a0 a1) := by
 rewrite [← Qze]
 exact fun r h => fE Rbi p32100 h
theorem Rdy (t0 : List UInt8) (t4b : Bool) (t4 : List (List UInt8)) (t5 : Int) : Tv.Le
 ((bif (decide (t5 < (t0.length : Int))) then
bnd (geti t0 t5) fun c1 =>
bnd (Rfz (c1.toNat : Int)) fun r2 =>
(bif (decide (r2 = 3)) then
Rar t0 t4b t4 (wrap64 (t5 + 1))
else
bnd (Rjw t0 t5) fun r3 =>
(bif (decide (r3 < 0)) then
some (.inr ((false, ([] : List (List UInt8))), false, (t4b, t4)))
else
bnd (cutL t0 t5 r3) fun s4 =>
bnd (appL t4 ([s4] : List (List UInt8))) fun l5 =>
Rar t0 true l5 r3))
else
some (.inl (t4b, t4))) : Option (((Bool × List (List UInt8))) ⊕ ((Bool × List (List UInt8)) × Bool × (Bool × List (List UInt8)))))
 (Rar t0 t4b t4 t5) := by
 rewrite [← Qze]
 exact fun r h => lE Rpo p32201 h
theorem Rnq (a0 : List UInt8) : Tv.Le
 (bnd (Rej (a0.length : Int) 1 5) fun r1 =>
(bif (!r1) then
some (-1)
else
bnd (Rdp a0 0 0) fun r2 =>
selm r2 (fun y3 =>
some y3) (fun z4 =>
some z4.1)) : Option (Int))
 (Rfn a0) := by
 exact fun r h => fE Rbi p32300 h
theorem Rpa (a0 : List (List UInt8)) (a1 : Int) : Tv.Le
 (bnd (Ra a0 a1 ([105, 102])) fun r1 =>
(bif r1 then
bnd (Ras a0 (wrap64 (a1 + 1)) 2) fun r2 =>
some (⟨r2.1.kind, r2.1.var, r2.1.box, ⟨r2.1.e.op, r2.1.e.n, r2.1.e.args⟩, r2.1.body, r2.1.els⟩, r2.2)
else
bnd (Ra a0 a1 ([119, 104, 105, 108, 101])) fun r3 =>
(bif r3 then
bnd (Ras a0 (wrap64 (a1 + 1)) 3) fun r4 =>
some (⟨r4.1.kind, r4.1.var, r4.1.box, ⟨r4.1.e.op, r4.1.e.n, r4.1.e.args⟩, r4.1.body, r4.1.els⟩, r4.2)
else
bnd (Ra a0 a1 ([121, 105, 101, 108, 100])) fun r5 =>
(bif r5 then
bnd (Ra a0 (wrap64 (a1 + 1)) [59]) fun r6 =>
(bif r6 then
some (⟨6, 0, 0, ⟨0, 0, []⟩, [], []⟩, (wrap64 (a1 + 2)))
else
bnd (Ra a0 a1 ([112, 114, 105, 110, 116])) fun r7 =>
(bif r7 then
bnd (Rm a0 (wrap64 (a1 + 1))) fun r8 =>
some (⟨7, 0, 0, ⟨r8.1.op, r8.1.n, r8.1.args⟩, [], []⟩, r8.2)
else
bnd (Ra a0 a1 ([115, 101, 110, 100])) fun r9 =>
(bif r9 then
bnd (Rr a0 (wrap64 (a1 + 1))) fun r10 =>
(bif (decide (0 ≤ r10)) then
bnd (Rm a0 (wrap64 (a1 + 2))) fun r11 =>
bnd (Rr a0 (wrap64 (a1 + 1))) fun r12 =>
some (⟨4, 0, r12, ⟨r11.1.op, r11.1.n, r11.1.args⟩, [], []⟩, r11.2)
else
bnd (Ra a0 a1 ([114, 101, 99, 118])) fun r13 =>
(bif r13 then
bnd (Rr a0 (wrap64 (a1 + 1))) fun r14 =>
(bif (decide (0 ≤ r14)) then
bnd (Ra a0 (wrap64 (a1 + 3)) [59]) fun r15 =>
(bif r15 then
bnd (geti a0 (wrap64 (a1 + 2))) fun e16 =>
bnd (Rf e16) fun r17 =>
(bif (decide (r17 < 0)) then
some (⟨0, 0, 0, ⟨0, 0, []⟩, [], []⟩, (-1))
else
bnd (Rr a0 (wrap64 (a1 + 1))) fun r18 =>
bnd (geti a0 (wrap64 (a1 + 2))) fun e19 =>
bnd (Rf e19) fun r20 =>
some (⟨5, r20, r18, ⟨0, 0, []⟩, [], []⟩, (wrap64 (a1 + 4))))
else
(bif (decide (a1 < (a0.length : Int))) then
bnd (geti a0 a1) fun e21 =>
bnd (Rf e21) fun r22 =>
(bif (decide (0 ≤ r22)) then
bnd (Ra a0 (wrap64 (a1 + 1)) [61]) fun r23 =>
(bif r23 then
bnd (Rm a0 (wrap64 (a1 + 2))) fun r24 =>
bnd (geti a0 a1) fun e25 =>
bnd (Rf e25) fun r26 =>
some (⟨1, r26, 0, ⟨r24.1.op, r24.1.n, r24.1.args⟩, [], []⟩, r24.2)
else
some (⟨0, 0, 0, ⟨0, 0, []⟩, [], []⟩, (-1)))
else
some (⟨0, 0, 0, ⟨0, 0, []⟩, [], []⟩, (-1)))
else
some (⟨0, 0, 0, ⟨0, 0, []⟩, [], []⟩, (-1))))
else
(bif (decide (a1 < (a0.length : Int))) then
bnd (geti a0 a1) fun e27 =>
bnd (Rf e27) fun r28 =>
(bif (decide (0 ≤ r28)) then
bnd (Ra a0 (wrap64 (a1 + 1)) [61]) fun r29 =>
(bif r29 then
bnd (Rm a0 (wrap64 (a1 + 2))) fun r30 =>
bnd (geti a0 a1) fun e31 =>
bnd (Rf e31) fun r32 =>
some (⟨1, r32, 0, ⟨r30.1.op, r30.1.n, r30.1.args⟩, [], []⟩, r30.2)
else
some (⟨0, 0, 0, ⟨0, 0, []⟩, [], []⟩, (-1)))
else
some (⟨0, 0, 0, ⟨0, 0, []⟩, [], []⟩, (-1)))
else
some (⟨0, 0, 0, ⟨0, 0, []⟩, [], []⟩, (-1))))
else
(bif (decide (a1 < (a0.length : Int))) then
bnd (geti a0 a1) fun e33 =>
bnd (Rf e33) fun r34 =>
(bif (decide (0 ≤ r34)) then
bnd (Ra a0 (wrap64 (a1 + 1)) [61]) fun r35 =>
(bif r35 then
bnd (Rm a0 (wrap64 (a1 + 2))) fun r36 =>
bnd (geti a0 a1) fun e37 =>
bnd (Rf e37) fun r38 =>
some (⟨1, r38, 0, ⟨r36.1.op, r36.1.n, r36.1.args⟩, [], []⟩, r36.2)
else
some (⟨0, 0, 0, ⟨0, 0, []⟩, [], []⟩, (-1)))
else
some (⟨0, 0, 0, ⟨0, 0, []⟩, [], []⟩, (-1)))
else
some (⟨0, 0, 0, ⟨0, 0, []⟩, [], []⟩, (-1)))))
else
bnd (Ra a0 a1 ([114, 101, 99, 118])) fun r39 =>
(bif r39 then
bnd (Rr a0 (wrap64 (a1 + 1))) fun r40 =>
(bif (decide (0 ≤ r40)) then
bnd (Ra a0 (wrap64 (a1 + 3)) [59]) fun r41 =>
(bif r41 then
bnd (geti a0 (wrap64 (a1 + 2))) fun e42 =>
bnd (Rf e42) fun r43 =>
(bif (decide (r43 < 0)) then
some (⟨0, 0, 0, ⟨0, 0, []⟩, [], []⟩, (-1))
else
bnd (Rr a0 (wrap64 (a1 + 1))) fun r44 =>
bnd (geti a0 (wrap64 (a1 + 2))) fun e45 =>
bnd (Rf e45) fun r46 =>
some (⟨5, r46, r44, ⟨0, 0, []⟩, [], []⟩, (wrap64 (a1 + 4))))
else
(bif (decide (a1 < (a0.length : Int))) then
bnd (geti a0 a1) fun e47 =>
bnd (Rf e47) fun r48 =>
(bif (decide (0 ≤ r48)) then
bnd (Ra a0 (wrap64 (a1 + 1)) [61]) fun r49 =>
(bif r49 then
bnd (Rm a0 (wrap64 (a1 + 2))) fun r50 =>
bnd (geti a0 a1) fun e51 =>
bnd (Rf e51) fun r52 =>
some (⟨1, r52, 0, ⟨r50.1.op, r50.1.n, r50.1.args⟩, [], []⟩, r50.2)
else
some (⟨0, 0, 0, ⟨0, 0, []⟩, [], []⟩, (-1)))
else
some (⟨0, 0, 0, ⟨0, 0, []⟩, [], []⟩, (-1)))
else
some (⟨0, 0, 0, ⟨0, 0, []⟩, [], []⟩, (-1))))
else
(bif (decide (a1 < (a0.length : Int))) then
bnd (geti a0 a1) fun e53 =>
bnd (Rf e53) fun r54 =>
(bif (decide (0 ≤ r54)) then
bnd (Ra a0 (wrap64 (a1 + 1)) [61]) fun r55 =>
(bif r55 then
bnd (Rm a0 (wrap64 (a1 + 2))) fun r56 =>
bnd (geti a0 a1) fun e57 =>
bnd (Rf e57) fun r58 =>
some (⟨1, r58, 0, ⟨r56.1.op, r56.1.n, r56.1.args⟩, [], []⟩, r56.2)
else
some (⟨0, 0, 0, ⟨0, 0, []⟩, [], []⟩, (-1)))
else
some (⟨0, 0, 0, ⟨0, 0, []⟩, [], []⟩, (-1)))
else
some (⟨0, 0, 0, ⟨0, 0, []⟩, [], []⟩, (-1))))
else
(bif (decide (a1 < (a0.length : Int))) then
bnd (geti a0 a1) fun e59 =>
bnd (Rf e59) fun r60 =>
(bif (decide (0 ≤ r60)) then
bnd (Ra a0 (wrap64 (a1 + 1)) [61]) fun r61 =>
(bif r61 then
bnd (Rm a0 (wrap64 (a1 + 2))) fun r62 =>
bnd (geti a0 a1) fun e63 =>
bnd (Rf e63) fun r64 =>
some (⟨1, r64, 0, ⟨r62.1.op, r62.1.n, r62.1.args⟩, [], []⟩, r62.2)
else
some (⟨0, 0, 0, ⟨0, 0, []⟩, [], []⟩, (-1)))
else
some (⟨0, 0, 0, ⟨0, 0, []⟩, [], []⟩, (-1)))
else
some (⟨0, 0, 0, ⟨0, 0, []⟩, [], []⟩, (-1)))))))
else
bnd (Ra a0 a1 ([112, 114, 105, 110, 116])) fun r65 =>
(bif r65 then
bnd (Rm a0 (wrap64 (a1 + 1))) fun r66 =>
some (⟨7, 0, 0, ⟨r66.1.op, r66.1.n, r66.1.args⟩, [], []⟩, r66.2)
else
bnd (Ra a0 a1 ([115, 101, 110, 100])) fun r67 =>
(bif r67 then
bnd (Rr a0 (wrap64 (a1 + 1))) fun r68 =>
(bif (decide (0 ≤ r68)) then
bnd (Rm a0 (wrap64 (a1 + 2))) fun r69 =>
bnd (Rr a0 (wrap64 (a1 + 1))) fun r70 =>
some (⟨4, 0, r70, ⟨r69.1.op, r69.1.n, r69.1.args⟩, [], []⟩, r69.2)
else
bnd (Ra a0 a1 ([114, 101, 99, 118])) fun r71 =>
(bif r71 then
bnd (Rr a0 (wrap64 (a1 + 1))) fun r72 =>
(bif (decide (0 ≤ r72)) then
bnd (Ra a0 (wrap64 (a1 + 3)) [59]) fun r73 =>
(bif r73 then
bnd (geti a0 (wrap64 (a1 + 2))) fun e74 =>
bnd (Rf e74) fun r75 =>
(bif (decide (r75 < 0)) then
some (⟨0, 0, 0, ⟨0, 0, []⟩, [], []⟩, (-1))
else
bnd (Rr a0 (wrap64 (a1 + 1))) fun r76 =>
bnd (geti a0 (wrap64 (a1 + 2))) fun e77 =>
bnd (Rf e77) fun r78 =>
some (⟨5, r78, r76, ⟨0, 0, []⟩, [], []⟩, (wrap64 (a1 + 4))))
else
(bif (decide (a1 < (a0.length : Int))) then
bnd (geti a0 a1) fun e79 =>
bnd (Rf e79) fun r80 =>
(bif (decide (0 ≤ r80)) then
bnd (Ra a0 (wrap64 (a1 + 1)) [61]) fun r81 =>
(bif r81 then
bnd (Rm a0 (wrap64 (a1 + 2))) fun r82 =>
bnd (geti a0 a1) fun e83 =>
bnd (Rf e83) fun r84 =>
some (⟨1, r84, 0, ⟨r82.1.op, r82.1.n, r82.1.args⟩, [], []⟩, r82.2)
else
some (⟨0, 0, 0, ⟨0, 0, []⟩, [], []⟩, (-1)))
else
some (⟨0, 0, 0, ⟨0, 0, []⟩, [], []⟩, (-1)))
else
some (⟨0, 0, 0, ⟨0, 0, []⟩, [], []⟩, (-1))))
else
(bif (decide (a1 < (a0.length : Int))) then
bnd (geti a0 a1) fun e85 =>
bnd (Rf e85) fun r86 =>
(bif (decide (0 ≤ r86)) then
bnd (Ra a0 (wrap64 (a1 + 1)) [61]) fun r87 =>
(bif r87 then
bnd (Rm a0 (wrap64 (a1 + 2))) fun r88 =>
bnd (geti a0 a1) fun e89 =>
bnd (Rf e89) fun r90 =>
some (⟨1, r90, 0, ⟨r88.1.op, r88.1.n, r88.1.args⟩, [], []⟩, r88.2)
else
some (⟨0, 0, 0, ⟨0, 0, []⟩, [], []⟩, (-1)))
else
some (⟨0, 0, 0, ⟨0, 0, []⟩, [], []⟩, (-1)))
else
some (⟨0, 0, 0, ⟨0, 0, []⟩, [], []⟩, (-1))))
else
(bif (decide (a1 < (a0.length : Int))) then
bnd (geti a0 a1) fun e91 =>
bnd (Rf e91) fun r92 =>
(bif (decide (0 ≤ r92)) then
bnd (Ra a0 (wrap64 (a1 + 1)) [61]) fun r93 =>
(bif r93 then
bnd (Rm a0 (wrap64 (a1 + 2))) fun r94 =>
bnd (geti a0 a1) fun e95 =>
bnd (Rf e95) fun r96 =>
some (⟨1, r96, 0, ⟨r94.1.op, r94.1.n, r94.1.args⟩, [], []⟩, r94.2)
else
some (⟨0, 0, 0, ⟨0, 0, []⟩, [], []⟩, (-1)))
else
some (⟨0, 0, 0, ⟨0, 0, []⟩, [], []⟩, (-1)))
else
some (⟨0, 0, 0, ⟨0, 0, []⟩, [], []⟩, (-1)))))
else
bnd (Ra a0 a1 ([114, 101, 99, 118])) fun r97 =>
(bif r97 then
bnd (Rr a0 (wrap64 (a1 + 1))) fun r98 =>
(bif (decide (0 ≤ r98)) then
bnd (Ra a0 (wrap64 (a1 + 3)) [59]) fun r99 =>
(bif r99 then
bnd (geti a0 (wrap64 (a1 + 2))) fun e100 =>
bnd (Rf e100) fun r101 =>
(bif (decide (r101 < 0)) then
some (⟨0, 0, 0, ⟨0, 0, []⟩, [], []⟩, (-1))
else
bnd (Rr a0 (wrap64 (a1 + 1))) fun r102 =>
bnd (geti a0 (wrap64 (a1 + 2))) fun e103 =>
bnd (Rf e103) fun r104 =>
some (⟨5, r104, r102, ⟨0, 0, []⟩, [], []⟩, (wrap64 (a1 + 4))))
else
(bif (decide (a1 < (a0.length : Int))) then
bnd (geti a0 a1) fun e105 =>
bnd (Rf e105) fun r106 =>
(bif (decide (0 ≤ r106)) then
bnd (Ra a0 (wrap64 (a1 + 1)) [61]) fun r107 =>
(bif r107 then
bnd (Rm a0 (wrap64 (a1 + 2))) fun r108 =>
bnd (geti a0 a1) fun e109 =>
bnd (Rf e109) fun r110 =>
some (⟨1, r110, 0, ⟨r108.1.op, r108.1.n, r108.1.args⟩, [], []⟩, r108.2)
else
some (⟨0, 0, 0, ⟨0, 0, []⟩, [], []⟩, (-1)))
else
some (⟨0, 0, 0, ⟨0, 0, []⟩, [], []⟩, (-1)))
else
some (⟨0, 0, 0, ⟨0, 0, []⟩, [], []⟩, (-1))))
else
(bif (decide (a1 < (a0.length : Int))) then
bnd (geti a0 a1) fun e111 =>
bnd (Rf e111) fun r112 =>
(bif (decide (0 ≤ r112)) then
bnd (Ra a0 (wrap64 (a1 + 1)) [61]) fun r113 =>
(bif r113 then
bnd (Rm a0 (wrap64 (a1 + 2))) fun r114 =>
bnd (geti a0 a1) fun e115 =>
bnd (Rf e115) fun r116 =>
some (⟨1, r116, 0, ⟨r114.1.op, r114.1.n, r114.1.args⟩, [], []⟩, r114.2)
else
some (⟨0, 0, 0, ⟨0, 0, []⟩, [], []⟩, (-1)))
else
some (⟨0, 0, 0, ⟨0, 0, []⟩, [], []⟩, (-1)))
else
some (⟨0, 0, 0, ⟨0, 0, []⟩, [], []⟩, (-1))))
else
(bif (decide (a1 < (a0.length : Int))) then
bnd (geti a0 a1) fun e117 =>
bnd (Rf e117) fun r118 =>
(bif (decide (0 ≤ r118)) then
bnd (Ra a0 (wrap64 (a1 + 1)) [61]) fun r119 =>
(bif r119 then
bnd (Rm a0 (wrap64 (a1 + 2))) fun r120 =>
bnd (geti a0 a1) fun e121 =>
bnd (Rf e121) fun r122 =>
some (⟨1, r122, 0, ⟨r120.1.op, r120.1.n, r120.1.args⟩, [], []⟩, r120.2)
else
some (⟨0, 0, 0, ⟨0, 0, []⟩, [], []⟩, (-1)))
else
some (⟨0, 0, 0, ⟨0, 0, []⟩, [], []⟩, (-1)))
else
some (⟨0, 0, 0, ⟨0, 0, []⟩, [], []⟩, (-1))))))))) : Option (Stm × Int))
 (Rdv a0 a1) := by
 rewrite [← Qze]
 exact fun r h => fE Rpu p46000 h
theorem Rct (t0 : List (List UInt8)) (t1 : Int) (t6b : Bool) (t6 : List Stm) : Tv.Le
 ((bif (decide (0 ≤ t1)) then
(bif (decide (t1 < (t0.length : Int))) then
bnd (geti t0 t1) fun e1 =>
(bif (!(e1 == [125])) then
bnd (Rdv t0 t1) fun r2 =>
bnd (appL t6 ([⟨r2.1.kind, r2.1.var, r2.1.box, ⟨r2.1.e.op, r2.1.e.n, r2.1.e.args⟩, r2.1.body, r2.1.els⟩] : List Stm)) fun l3 =>
Rbn t0 r2.2 true l3
else
some (t0, t1, (t6b, t6)))
else
some (t0, t1, (t6b, t6)))
else
some (t0, t1, (t6b, t6))) : Option (List (List UInt8) × Int × (Bool × List Stm)))
 (Rbn t0 t1 t6b t6) := by
 exact fun r h => lE Rvf p45401 h
theorem Rnp (a0 : List Int) : Tv.Le
 (bnd (Rdo a0 0) fun r1 =>
selm r1 (fun y2 =>
some (decide ((y2.length : Int) ≤ 3))) (fun z3 =>
some z3.2) : Option (Bool))
 (Riv a0) := by
 exact fun r h => fE Rk p23200 h
theorem Rrj (a0 : Int) (a1 : Int) (a2 : Int) : Tv.Le
 ((bif (decide (a1 ≤ a0)) then
some (decide (a0 ≤ a2))
else
some false) : Option (Bool))
 (Rej a0 a1 a2) := by
 exact fun r h => fE Rk p1600 h
theorem Rln (a0 : List Stm) : Tv.Le
 (bnd (Rab a0 3) fun r1 =>
(bif r1 then
bnd (Raw a0) fun r2 =>
some (decide (r2 ≤ 16))
else
some false) : Option (Bool))
 (Rhh a0) := by
 exact fun r h => fE Rk p6300 h
theorem Rnn (a0 : List Stm) (a1 : Int) : Tv.Le
 (bnd (Rcn a0 a1 0) fun r1 =>
selm r1 (fun y2 =>
some true) (fun z3 =>
some z3) : Option (Bool))
 (Raa a0 a1) := by
 exact fun r h => fE Rk p23100 h
theorem Rfl (t3 : Int) (b100_0 : List Int) (b100_1 : List (List Stm)) : Tv.Le
 ((bif (decide (t3 < (b100_1.length : Int))) then
bnd (geti b100_1 t3) fun e1 =>
bnd (Rhh e1) fun r2 =>
(bif (!r2) then
some (.inr false)
else
bnd (geti b100_1 t3) fun e3 =>
bnd (Raa e3 (b100_0.length : Int)) fun r4 =>
(bif (!r4) then
some (.inr false)
else
Rbv (wrap64 (t3 + 1)) b100_0 b100_1))
else
some (.inl ())) : Option (Unit ⊕ Bool))
 (Rbv t3 b100_0 b100_1) := by
 rewrite [← Qze]
 exact fun r h => lE Rgs p23301 h
theorem Rkl (a0 : List UInt8) : Tv.Le
 (bnd (Rcb a0 (([33100, 33200] : List Nat).length : Int) 0) fun r1 =>
selm r1 (fun y2 =>
bnd (Rcc y2 .full ([[61, 61], [60, 60], [62, 62]] : List (List UInt8)) (([[61, 61], [60, 60], [62, 62]] : List (List UInt8)).length : Int) 0) fun r4 =>
selm r4 (fun y5 =>
(bif (!(y5 == [])) then
bnd (geti y5 0) fun c7 =>
bnd (strings_IndexByte ([124, 94, 38, 60, 43, 45, 42, 47, 37, 40, 41, 123, 125, 61, 59]) (c7.toNat : Int)) fun r8 =>
(bif (decide (0 ≤ r8)) then
some 1
else
some 0)
else
some 0)) (fun z6 =>
some z6.2)) (fun z3 =>
some z3.2) : Option (Int))
 (Rek a0) := by
 exact fun r h => fE Rbi p33300 h
theorem Rdx (t0 : List UInt8) (t4b : Bool) (t4 : List (List UInt8)) (t5 : Int) : Tv.Le
 ((bif (decide (t5 < (t0.length : Int))) then
bnd (geti t0 t5) fun c1 =>
(bif (decide ((c1.toNat : Int) = 32)) then
Rag t0 t4b t4 (wrap64 (t5 + 1))
else
bnd (geti t0 t5) fun c2 =>
(bif (decide ((c2.toNat : Int) = 10)) then
Rag t0 t4b t4 (wrap64 (t5 + 1))
else
bnd (cutL t0 t5 (t0.length : Int)) fun s3 =>
bnd (Rek s3) fun r4 =>
(bif (decide (r4 = 0)) then
some (.inr ((false, []), false, (t4b, t4)))
else
bnd (cutL t0 t5 (wrap64 (t5 + r4))) fun s5 =>
bnd (appL t4 ([s5] : List (List UInt8))) fun l6 =>
Rag t0 true l6 (wrap64 (t5 + r4)))))
else
some (.inl (t4b, t4))) : Option (((Bool × List (List UInt8))) ⊕ ((Bool × List (List UInt8)) × Bool × (Bool × List (List UInt8)))))
 (Rag t0 t4b t4 t5) := by
 rewrite [← Qze]
 exact fun r h => lE Rpo p33401 h
theorem Rep (a0tokens : List (List UInt8)) (a0at : Int) (a0failed : Bool) : Tv.Le
 ((bif (decide (a0at < (a0tokens.length : Int))) then
(bif (!a0failed) then
bnd (geti a0tokens a0at) fun e1 =>
some (e1, a0tokens, a0at, a0failed)
else
some ([], a0tokens, a0at, a0failed))
else
some ([], a0tokens, a0at, a0failed)) : Option (List UInt8 × List (List UInt8) × Int × Bool))
 (Raq a0tokens a0at a0failed) := by
 exact fun r h => fE Rpp p33500 h
end Go.TFnExactProgramFrom