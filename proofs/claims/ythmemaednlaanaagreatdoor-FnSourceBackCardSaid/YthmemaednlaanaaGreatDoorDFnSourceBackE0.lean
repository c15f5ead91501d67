import Derived.Test.YthmemaednlaanaaGreatDoorDFnSourceBackP
import Derived.KernelRfl
set_option linter.unusedVariables false
namespace Go.TFnSourceBack
open Go Go.RowKit Go.Vs Go.Tv
theorem Rjh (a0 : List Int) : Tv.Le
 ((bif (decide (1048576 < (a0.length : Int))) then
some true
else
bnd (Rdk a0) fun r1 =>
bnd (Rfm r1) fun r2 =>
bnd (Rfo r1) fun r3 =>
(bif (!(r2 == r3)) then
some (r2 == r3)
else
(bif (r2 == []) then
some (r2 == r3)
else
bnd (Rav r2) fun r4 =>
(bif (decide ((r2.length : Int) ≤ 20000)) then
(bif r4.2 then
bnd (Rfn r4.1 r1) fun r5 =>
some r5
else
some false)
else
some false)))) : Option (Bool))
 (laws_FnSourceBack a0) := by
 exact fun r h => fE Rh p44100 h
theorem Rif (a0 : List Int) : Tv.Le
 (bnd (Rkh a0) fun r1 =>
bnd (Rik r1.1 r1.2) fun r2 =>
some r2.1 : Option (Prg))
 (Rdk a0) := by
 exact fun r h => fE Rwe p44700 h
theorem Rju (a0 : Prg) : Tv.Le
 (bnd (Ran a0) fun r1 =>
(bif (!r1) then
some []
else
bnd (Rbb false [] a0.rooms (a0.rooms.length : Int) 0 a0.rooms a0.tasks) fun r2 =>
bnd (Rbc r2.1.1 r2.1.2 r2.2.2 (r2.2.2.length : Int) 0) fun r3 =>
bnd (Rgg r3.2) fun r4 =>
some r4) : Option (List UInt8))
 (Rfm a0) := by
 exact fun r h => fE Rax p44800 h
theorem Rkg (a0 : Prg) : Tv.Le
 (bnd (Rer a0) fun r1 =>
(bif (!r1) then
some []
else
bnd (Rbh true ([] : List (List UInt8)) 0 a0.rooms a0.tasks) fun r2 =>
bnd (Rbi r2.1.1 r2.1.2 0 r2.2.1 r2.2.2) fun r3 =>
bnd (Rgq r3.2) fun r4 =>
some r4) : Option (List UInt8))
 (Rfo a0) := by
 exact fun r h => fE Rax p44900 h
theorem Rdr (a0 : List UInt8) : Tv.Le
 (bnd (Rjv a0) fun r1 =>
(bif (!r1.2) then
some (⟨[], []⟩, false)
else
bnd (Rk r1.1 false [] false [] r1.1 0 false false [] false []) fun r2 =>
bnd (Rn r2.1 r2.2.1.1 r2.2.1.2 r2.2.2.1.1 r2.2.2.1.2 r2.2.2.2.1 r2.2.2.2.2.1 r2.2.2.2.2.2.1 r2.2.2.2.2.2.2.1.1 r2.2.2.2.2.2.2.1.2 r2.2.2.2.2.2.2.2.1 r2.2.2.2.2.2.2.2.2) fun r3 =>
(bif r3.2.2.2.2.2.1 then
some (⟨[], []⟩, false)
else
(bif (!decide (r3.2.2.2.2.1 = (r3.1.length : Int))) then
some (⟨[], []⟩, false)
else
bnd (Ran (⟨r3.2.2.2.2.2.2.1.2, r3.2.2.2.2.2.2.2.2⟩ : Prg)) fun r4 =>
(bif (!r4) then
some (⟨[], []⟩, false)
else
some (⟨r3.2.2.2.2.2.2.1.2, r3.2.2.2.2.2.2.2.2⟩, true))))) : Option (Prg × Bool))
 (Rav a0) := by
 exact fun r h => fE Rwb p44400 h
theorem Rka (a0 : Prg) (a1 : Prg) : Tv.Le
 (bnd (Rib a0.rooms a1.rooms) fun r1 =>
(bif (!r1) then
some false
else
(bif (!decide ((a0.tasks.length : Int) = (a1.tasks.length : Int))) then
some false
else
bnd (Rcl 0 a0.rooms a0.tasks a1.rooms a1.tasks) fun r2 =>
selm r2 (fun y3 =>
some true) (fun z4 =>
some z4))) : Option (Bool))
 (Rfn a0 a1) := by
 exact fun r h => fE Rh p45000 h
theorem Rqc (a0 : List Int) : Tv.Le
 ((bif (decide (2000 < (a0.length : Int))) then
bnd (cutL a0 0 2000) fun l1 =>
some (l1, 0)
else
some (a0, 0)) : Option (List Int × Int))
 (Rkh a0) := by
 exact fun r h => fE s100 p100 h
theorem Roc (a0b : List Int) (a0p : Int) : Tv.Le
 (Go.Vs.both (α := Prg × List Int × Int)
(bnd (Rdh a0b a0p ([] : List Ent)) fun r1 =>
bnd (Ra 30 r1.2.2.1 r1.2.2.2.1) fun r2 =>
(bif (decide (r2.1 = 0)) then
bnd (Ra 2 r2.2.1 r2.2.2) fun r3 =>
bnd (geti ([0, 5] : List Int) r3.1) fun e4 =>
bnd (Qju r1.2.2.2.2 .int r1.1.id r1.1.n ([e4] : List Int)) fun B5 =>
bnd (Qgz B5 .int (some (List.length r1.2.2.2.2))) fun l6 =>
bnd (Qgz B5 .stmsH r1.2.1.id) fun l7 =>
some (⟨l6, l7⟩, r3.2.1, r3.2.2)
else
(bif (decide (r2.1 = 1)) then
bnd (Rch r2.2.1 r2.2.2) fun r8 =>
bnd (Qju (Qao r1.2.2.2.2 .stm ([⟨4, 0, ((r1.1.n : Nat) : Int), ⟨r8.1, r8.2.1, r8.2.2.1.2⟩, [], []⟩] : List Stm)) .stmsH r1.2.1.id r1.2.1.n ([⟨(some (List.length r1.2.2.2.2)), 1⟩] : List Hd)) fun B9 =>
bnd (Qgz B9 .int r1.1.id) fun l10 =>
bnd (Qgz B9 .stmsH (some (List.length (Qao r1.2.2.2.2 .stm ([⟨4, 0, ((r1.1.n : Nat) : Int), ⟨r8.1, r8.2.1, r8.2.2.1.2⟩, [], []⟩] : List Stm))))) fun l11 =>
some (⟨l10, l11⟩, r8.2.2.2.1, r8.2.2.2.2)
else
(bif (decide (r2.1 = 2)) then
bnd (Qgz (Qao r1.2.2.2.2 .stmsH ([] : List Hd)) .int r1.1.id) fun l12 =>
bnd (Qgz (Qao r1.2.2.2.2 .stmsH ([] : List Hd)) .stmsH (some (List.length r1.2.2.2.2))) fun l13 =>
some (⟨l12, l13⟩, r2.2.1, r2.2.2)
else
(bif (decide (r2.1 = 3)) then
bnd (idxN r1.2.1.n 0) fun i14 =>
bnd (Qlq r1.2.2.2.2 .stmsH r1.2.1.id i14) fun e15 =>
bnd (idxN r1.2.1.n 0) fun i16 =>
bnd (Qlq r1.2.2.2.2 .stmsH r1.2.1.id i16) fun e17 =>
bnd (idxN r1.2.1.n 0) fun i18 =>
bnd (Qlq r1.2.2.2.2 .stmsH r1.2.1.id i18) fun e19 =>
bnd (Qju r1.2.2.2.2 .stmsH r1.2.1.id r1.2.1.n ([e15, e17, e19] : List Hd)) fun B20 =>
bnd (Qgz B20 .int r1.1.id) fun l21 =>
bnd (Qgz B20 .stmsH (some (List.length r1.2.2.2.2))) fun l22 =>
some (⟨l21, l22⟩, r2.2.1, r2.2.2)
else
(bif (decide (r2.1 = 4)) then
bnd (idxN r1.2.1.n 0) fun i23 =>
bnd (Qlq r1.2.2.2.2 .stmsH r1.2.1.id i23) fun e24 =>
bnd (Qju r1.2.2.2.2 .stm e24.id e24.n ([⟨9, 0, 0, ⟨0, 0, []⟩, [], []⟩] : List Stm)) fun B25 =>
bnd (idxN r1.2.1.n 0) fun i26 =>
bnd (Qlq B25 .stmsH r1.2.1.id i26) fun e27 =>
bnd (Qgz (Qia B25 .stmsH r1.2.1.id i26 (⟨(some (List.length r1.2.2.2.2)), (e24.n + List.length ([⟨9, 0, 0, ⟨0, 0, []⟩, [], []⟩] : List Stm))⟩ : Hd)) .int r1.1.id) fun l28 =>
bnd (Qgz (Qia B25 .stmsH r1.2.1.id i26 (⟨(some (List.length r1.2.2.2.2)), (e24.n + List.length ([⟨9, 0, 0, ⟨0, 0, []⟩, [], []⟩] : List Stm))⟩ : Hd)) .stmsH r1.2.1.id) fun l29 =>
some (⟨l28, l29⟩, r2.2.1, r2.2.2)
else
bnd (Qgz r1.2.2.2.2 .int r1.1.id) fun l30 =>
bnd (Qgz r1.2.2.2.2 .stmsH r1.2.1.id) fun l31 =>
some (⟨l30, l31⟩, r2.2.1, r2.2.2)))))))
(bnd (Rdh a0b a0p ([] : List Ent)) fun r32 =>
bnd (Ra 30 r32.2.2.1 r32.2.2.2.1) fun r33 =>
(bif (decide (r33.1 = 0)) then
bnd (Ra 2 r33.2.1 r33.2.2) fun r34 =>
bnd (geti ([0, 5] : List Int) r34.1) fun e35 =>
bnd (Qju r32.2.2.2.2 .int r32.1.id r32.1.n ([e35] : List Int)) fun B36 =>
bnd (Qgz B36 .int (some (List.length r32.2.2.2.2))) fun l37 =>
bnd (Qgz B36 .stmsH r32.2.1.id) fun l38 =>
some (⟨l37, l38⟩, r34.2.1, r34.2.2)
else
(bif (decide (r33.1 = 1)) then
bnd (Rch r33.2.1 r33.2.2) fun r39 =>
bnd (Qju (Qao r32.2.2.2.2 .stm ([⟨4, 0, ((r32.1.n : Nat) : Int), ⟨r39.1, r39.2.1, r39.2.2.1.2⟩, [], []⟩] : List Stm)) .stmsH r32.2.1.id r32.2.1.n ([⟨(some (List.length r32.2.2.2.2)), 1⟩] : List Hd)) fun B40 =>
bnd (Qgz B40 .int r32.1.id) fun l41 =>
bnd (Qgz B40 .stmsH (some (List.length (Qao r32.2.2.2.2 .stm ([⟨4, 0, ((r32.1.n : Nat) : Int), ⟨r39.1, r39.2.1, r39.2.2.1.2⟩, [], []⟩] : List Stm))))) fun l42 =>
some (⟨l41, l42⟩, r39.2.2.2.1, r39.2.2.2.2)
else
(bif (decide (r33.1 = 2)) then
bnd (Qgz (Qao r32.2.2.2.2 .stmsH ([] : List Hd)) .int r32.1.id) fun l43 =>
bnd (Qgz (Qao r32.2.2.2.2 .stmsH ([] : List Hd)) .stmsH (some (List.length r32.2.2.2.2))) fun l44 =>
some (⟨l43, l44⟩, r33.2.1, r33.2.2)
else
(bif (decide (r33.1 = 3)) then
bnd (idxN r32.2.1.n 0) fun i45 =>
bnd (Qlq r32.2.2.2.2 .stmsH r32.2.1.id i45) fun e46 =>
bnd (idxN r32.2.1.n 0) fun i47 =>
bnd (Qlq r32.2.2.2.2 .stmsH r32.2.1.id i47) fun e48 =>
bnd (idxN r32.2.1.n 0) fun i49 =>
bnd (Qlq r32.2.2.2.2 .stmsH r32.2.1.id i49) fun e50 =>
bnd (Qju r32.2.2.2.2 .stmsH r32.2.1.id r32.2.1.n ([e46, e48, e50] : List Hd)) fun B51 =>
bnd (Qgz B51 .int r32.1.id) fun l52 =>
bnd (Qgz B51 .stmsH (some (List.length r32.2.2.2.2))) fun l53 =>
some (⟨l52, l53⟩, r33.2.1, r33.2.2)
else
(bif (decide (r33.1 = 4)) then
bnd (idxN r32.2.1.n 0) fun i54 =>
bnd (Qlq r32.2.2.2.2 .stmsH r32.2.1.id i54) fun e55 =>
bnd (Qju r32.2.2.2.2 .stm e55.id e55.n ([⟨0, 0, 0, ⟨0, 0, []⟩, [], []⟩] : List Stm)) fun B56 =>
bnd (idxN r32.2.1.n 0) fun i57 =>
bnd (Qlq B56 .stmsH r32.2.1.id i57) fun e58 =>
bnd (idxN (e55.n + List.length ([⟨0, 0, 0, ⟨0, 0, []⟩, [], []⟩] : List Stm)) ((e55.n : Nat) : Int)) fun i59 =>
bnd (Qlq (Qia B56 .stmsH r32.2.1.id i57 (⟨(some (List.length r32.2.2.2.2)), (e55.n + List.length ([⟨0, 0, 0, ⟨0, 0, []⟩, [], []⟩] : List Stm))⟩ : Hd)) .stm (some (List.length r32.2.2.2.2)) i59) fun e60 =>
bnd (Qgz (Qia (Qia B56 .stmsH r32.2.1.id i57 (⟨(some (List.length r32.2.2.2.2)), (e55.n + List.length ([⟨0, 0, 0, ⟨0, 0, []⟩, [], []⟩] : List Stm))⟩ : Hd)) .stm (some (List.length r32.2.2.2.2)) i59 (⟨9, 0, 0, ⟨0, 0, []⟩, [], []⟩ : Stm)) .int r32.1.id) fun l61 =>
bnd (Qgz (Qia (Qia B56 .stmsH r32.2.1.id i57 (⟨(some (List.length r32.2.2.2.2)), (e55.n + List.length ([⟨0, 0, 0, ⟨0, 0, []⟩, [], []⟩] : List Stm))⟩ : Hd)) .stm (some (List.length r32.2.2.2.2)) i59 (⟨9, 0, 0, ⟨0, 0, []⟩, [], []⟩ : Stm)) .stmsH r32.2.1.id) fun l62 =>
some (⟨l61, l62⟩, r33.2.1, r33.2.2)
else
bnd (Qgz r32.2.2.2.2 .int r32.1.id) fun l63 =>
bnd (Qgz r32.2.2.2.2 .stmsH r32.2.1.id) fun l64 =>
some (⟨l63, l64⟩, r33.2.1, r33.2.2))))))) : Option (Prg × List Int × Int))
 (Rik a0b a0p) := by
 exact fun r h => fn_le2' (F := Tb) (G := GT) (sg := sg) (sig := Rsi) (p := p22500) (by kernel_rfl) (by kernel_rfl) rfl rfl rfl rfl ((show runC (phi Tb GT sg) Tb GT p22500.code (Qeh p22500 (mkST p22500.ins [.bp 0 0] p22500.bins [.var [.sl .share .u8 a0b, .int .i64 a0p]])) (finT p22500 Rsi) = _ by kernel_rfl).trans (Go.Vs.Qge.1 h).1) ((show runC (phi Tb GT sg) Tb GT p22500.code.other (Qeh p22500 (mkST p22500.ins [.bp 0 0] p22500.bins [.var [.sl .share .u8 a0b, .int .i64 a0p]])) (finT p22500 Rsi) = _ by kernel_rfl).trans (Go.Vs.Qge.1 h).2)
theorem Rje (a0 : Prg) : Tv.Le
 (bnd (Rgh a0.rooms) fun r1 =>
(bif (!r1) then
some false
else
(bif (decide ((a0.tasks.length : Int) < 1)) then
some false
else
(bif (decide (3 < (a0.tasks.length : Int))) then
some false
else
bnd (Raw a0.tasks (a0.tasks.length : Int) 0 a0.rooms a0.tasks) fun r2 =>
selm r2 (fun y3 =>
some true) (fun z4 =>
some z4)))) : Option (Bool))
 (Ran a0) := by
 exact fun r h => fE Rh p22800 h
theorem Rpm (a0 : Int) : Tv.Le (if -9223372036854775808 ≤ a0 ∧ a0 ≤ 9223372036854775807 then some (Lib.itoa a0) else none : Option (List UInt8)) (strconv_Itoa a0) := fun r h => by
 exact prim_le (F := Tb) (G := GT) (sg := fun _ => Rax) (g := 22000) (p := p22000) (x := r) (tv := [.int .i64 a0]) (v := .str r) (by kernel_rfl) rfl (itoa_pf h) rfl
theorem Rei (t3b : Bool) (t3 : List (List UInt8)) (t12 : List Int) (t13 : Int) (t14 : Int) (b100_0 : List Int) (b100_1 : List (List Stm)) : Tv.Le
 ((bif (decide (t14 < t13)) then
bnd (geti t12 t14) fun e1 =>
bnd (strconv_Itoa e1) fun r2 =>
bnd (appL t3 ([[98, 111, 120], r2, [59]] : List (List UInt8))) fun l3 =>
Rbb true l3 t12 t13 (wrap64 (t14 + 1)) b100_0 b100_1
else
some ((t3b, t3), b100_0, b100_1)) : Option ((Bool × List (List UInt8)) × List Int × List (List Stm)))
 (Rbb t3b t3 t12 t13 t14 b100_0 b100_1) := by
 rewrite [← Qze]
 exact fun r h => lE Rqs p44801 h
theorem Rjw (a0 : List Stm) (a1 : List (List UInt8)) : Tv.Le
 (bnd (appL a1 ([[123]] : List (List UInt8))) fun l1 =>
bnd (Rbd true l1 a0 (a0.length : Int) 0) fun r2 =>
bnd (appL r2.2 ([[125]] : List (List UInt8))) fun l3 =>
some l3 : Option (List (List UInt8)))
 (Rak a0 a1) := by
 exact fun r h => fE Rcf p45800 h
theorem Rej (t3b : Bool) (t3 : List (List UInt8)) (t25 : List (List Stm)) (t26 : Int) (t27 : Int) : Tv.Le
 ((bif (decide (t27 < t26)) then
bnd (geti t25 t27) fun e1 =>
bnd (appL t3 ([[116, 97, 115, 107]] : List (List UInt8))) fun l2 =>
bnd (Rak e1 l2) fun r3 =>
Rbc true r3 t25 t26 (wrap64 (t27 + 1))
else
some (t3b, t3)) : Option ((Bool × List (List UInt8))))
 (Rbc t3b t3 t25 t26 t27) := by
 rewrite [← Qze]
 exact fun r h => lE Rqt p44802 h
theorem Rkq (a0 : List (List UInt8)) : Tv.Le
 (bnd (Rbs a0 a0 (a0.length : Int) 0) fun r1 =>
selm r1 (fun y2 =>
bnd (strings_Join y2 [32]) fun r4 =>
some r4) (fun z3 =>
some z3.2) : Option (List UInt8))
 (Rgg a0) := by
 exact fun r h => fE Rax p36300 h
theorem Rjk (a0 : Prg) : Tv.Le
 (bnd (Rih a0.rooms) fun r1 =>
(bif (!r1) then
some false
else
bnd (Reg (a0.tasks.length : Int) 1 3) fun r2 =>
(bif (!r2) then
some false
else
bnd (Ray 0 a0.rooms a0.tasks) fun r3 =>
selm r3 (fun y4 =>
some true) (fun z5 =>
some z5))) : Option (Bool))
 (Rer a0) := by
 exact fun r h => fE Rh p23300 h
theorem Rij (a0 : Int) : Tv.Le
 ((bif (decide (a0 < (-9223372036854775807))) then
some ([45, 57, 50, 50, 51, 51, 55, 50, 48, 51, 54, 56, 53, 52, 55, 55, 53, 56, 48, 56])
else
(bif (decide (a0 < 0)) then
bnd (Rcs (wrap64 (0 - a0))) fun r1 =>
bnd (catS [45] r1) fun s2 =>
some s2
else
(bif (decide (a0 < 10)) then
some (Tv.bytes ([(((wrap64 (48 + a0))) % 256)] : List Int))
else
bnd (Rcs (wrap64 (Int.tdiv a0 10))) fun r3 =>
bnd (catS r3 (Tv.bytes ([(((wrap64 (48 + (Int.tmod a0 10)))) % 256)] : List Int))) fun s4 =>
some s4))) : Option (List UInt8))
 (Rcs a0) := by
 rewrite [← Qze]
 exact fun r h => fE Rax p20500 h
theorem Ren (t3b : Bool) (t3 : List (List UInt8)) (t4 : Int) (b100_0 : List Int) (b100_1 : List (List Stm)) : Tv.Le
 ((bif (decide (t4 < (b100_0.length : Int))) then
bnd (geti b100_0 t4) fun e1 =>
bnd (Rcs e1) fun r2 =>
bnd (appL t3 ([[98, 111, 120], r2, [59]] : List (List UInt8))) fun l3 =>
Rbh true l3 (wrap64 (t4 + 1)) b100_0 b100_1
else
some ((t3b, t3), b100_0, b100_1)) : Option ((Bool × List (List UInt8)) × List Int × List (List Stm)))
 (Rbh t3b t3 t4 b100_0 b100_1) := by
 rewrite [← Qze]
 exact fun r h => lE Rqs p44901 h
theorem Rnz (a0 : List Stm) : Tv.Le
 (bnd (Rcr a0 true ([[123]] : List (List UInt8)) 0) fun r1 =>
bnd (appL r1.2 ([[125]] : List (List UInt8))) fun l2 =>
some l2 : Option (List (List UInt8)))
 (Rbx a0) := by
 exact fun r h => fE Rcf p45900 h
theorem Reo (t3b : Bool) (t3 : List (List UInt8)) (t5 : Int) (b100_0 : List Int) (b100_1 : List (List Stm)) : Tv.Le
 ((bif (decide (t5 < (b100_1.length : Int))) then
bnd (appL t3 ([[116, 97, 115, 107]] : List (List UInt8))) fun l1 =>
bnd (geti b100_1 t5) fun e2 =>
bnd (Rbx e2) fun r3 =>
bnd (appL l1 r3) fun l4 =>
Rbi true l4 (wrap64 (t5 + 1)) b100_0 b100_1
else
some (t3b, t3)) : Option ((Bool × List (List UInt8))))
 (Rbi t3b t3 t5 b100_0 b100_1) := by
 rewrite [← Qze]
 exact fun r h => lE Rqt p44902 h
theorem Rli (a0 : List (List UInt8)) : Tv.Le
 (bnd (Rau a0 [] 0) fun r1 =>
selm r1 (fun y2 =>
some y2) (fun z3 =>
some z3.1) : Option (List UInt8))
 (Rgq a0) := by
 exact fun r h => fE Rax p35000 h
theorem Rpr (a0 : List UInt8) : Tv.Le
 ((bif (decide (20000 < (a0.length : Int))) then
some ([], false)
else
bnd (Rs a0 false [] 0) fun r1 =>
selm r1 (fun y2 =>
some (y2.2, true)) (fun z3 =>
some (z3.1.2, z3.2.1))) : Option (List (List UInt8) × Bool))
 (Rjv a0) := by
 exact fun r h => fE Rvo p33400 h
theorem Rah (a1 : List UInt8) (a0tokens : List (List UInt8)) (a0at : Int) (a0failed : Bool) : Tv.Le
 (bnd (Ral a0tokens a0at a0failed) fun r1 =>
(bif (!(r1.1 == a1)) then
some (false, r1.2.1, r1.2.2.1, r1.2.2.2)
else
some (true, r1.2.1, (wrap64 (r1.2.2.1 + 1)), r1.2.2.2)) : Option (Bool × List (List UInt8) × Int × Bool))
 (Rb a1 a0tokens a0at a0failed) := by
 rewrite [← Qze]
 exact fun r h => fE Rvq p33600 h
theorem Rbt (a0tokens : List (List UInt8)) (a0at : Int) (a0failed : Bool) : Tv.Le
 (bnd (Rbo a0tokens a0at a0failed) fun r1 =>
(bif (r1.1 == []) then
some (0, r1.2.1, r1.2.2.1, true)
else
(bif (decide (5 < (r1.1.length : Int))) then
some (0, r1.2.1, r1.2.2.1, true)
else
bnd (geti r1.1 0) fun c2 =>
bnd (Rfa (c2.toNat : Int)) fun r3 =>
(bif (!r3) then
some (0, r1.2.1, r1.2.2.1, true)
else
bnd (strconv_Atoi r1.1) fun r4 =>
some (r4, r1.2.1, r1.2.2.1, r1.2.2.2)))) : Option (Int × List (List UInt8) × Int × Bool))
 (Ru a0tokens a0at a0failed) := by
 exact fun r h => fE Rqo p33900 h
theorem Rao (a1 : List UInt8) (a0tokens : List (List UInt8)) (a0at : Int) (a0failed : Bool) : Tv.Le
 (bnd (Rb a1 a0tokens a0at a0failed) fun r1 =>
(bif (!r1.1) then
some (r1.2.1, r1.2.2.1, true)
else
some (r1.2.1, r1.2.2.1, r1.2.2.2)) : Option (List (List UInt8) × Int × Bool))
 (Re a1 a0tokens a0at a0failed) := by
 exact fun r h => fE Rvr p33700 h
theorem Ram (t4 : List (List UInt8)) (b100_0b : Bool) (b100_0 : List Int) (b100_1b : Bool) (b100_1 : List (List Stm)) (b101_0 : List (List UInt8)) (b101_1 : Int) (b101_2 : Bool) (b102_0b : Bool) (b102_0 : List Int) (b102_1b : Bool) (b102_1 : List (List Stm)) : Tv.Le
 (bnd (Rb ([98, 111, 120]) b101_0 b101_1 b101_2) fun r1 =>
(bif r1.1 then
bnd (Ru r1.2.1 r1.2.2.1 r1.2.2.2) fun r2 =>
bnd (appL b102_0 ([r2.1] : List Int)) fun l3 =>
bnd (Re [59] r2.2.1 r2.2.2.1 r2.2.2.2) fun r4 =>
Rk t4 b100_0b b100_0 b100_1b b100_1 r4.1 r4.2.1 r4.2.2 true l3 b102_1b b102_1
else
some (t4, (b100_0b, b100_0), (b100_1b, b100_1), r1.2.1, r1.2.2.1, r1.2.2.2, (b102_0b, b102_0), (b102_1b, b102_1))) : Option (List (List UInt8) × (Bool × List Int) × (Bool × List (List Stm)) × List (List UInt8) × Int × Bool × (Bool × List Int) × (Bool × List (List Stm))))
 (Rk t4 b100_0b b100_0 b100_1b b100_1 b101_0 b101_1 b101_2 b102_0b b102_0 b102_1b b102_1) := by
 exact fun r h => lE Rwc p44401 h
theorem Rdi (a0tokens : List (List UInt8)) (a0at : Int) (a0failed : Bool) : Tv.Le
 (bnd (Re [123] a0tokens a0at a0failed) fun r1 =>
bnd (Rt false [] r1.1 r1.2.1 r1.2.2) fun r2 =>
some (r2.1.2, r2.2.1, r2.2.2.1, r2.2.2.2) : Option (List Stm × List (List UInt8) × Int × Bool))
 (Rai a0tokens a0at a0failed) := by
 exact fun r h => fE Rwf p45500 h
theorem Rbm (t4 : List (List UInt8)) (b100_0b : Bool) (b100_0 : List Int) (b100_1b : Bool) (b100_1 : List (List Stm)) (b101_0 : List (List UInt8)) (b101_1 : Int) (b101_2 : Bool) (b102_0b : Bool) (b102_0 : List Int) (b102_1b : Bool) (b102_1 : List (List Stm)) : Tv.Le
 (bnd (Rb ([116, 97, 115, 107]) b101_0 b101_1 b101_2) fun r1 =>
(bif r1.1 then
bnd (Rai r1.2.1 r1.2.2.1 r1.2.2.2) fun r2 =>
bnd (appL b102_1 ([r2.1] : List (List Stm))) fun l3 =>
Rn t4 b100_0b b100_0 b100_1b b100_1 r2.2.1 r2.2.2.1 r2.2.2.2 b102_0b b102_0 true l3
else
some (t4, (b100_0b, b100_0), (b100_1b, b100_1), r1.2.1, r1.2.2.1, r1.2.2.2, (b102_0b, b102_0), (b102_1b, b102_1))) : Option (List (List UInt8) × (Bool × List Int) × (Bool × List (List Stm)) × List (List UInt8) × Int × Bool × (Bool × List Int) × (Bool × List (List Stm))))
 (Rn t4 b100_0b b100_0 b100_1b b100_1 b101_0 b101_1 b101_2 b102_0b b102_0 b102_1b b102_1) := by
 exact fun r h => lE Rwd p44402 h
theorem Rnq (a0 : List Int) (a1 : List Int) : Tv.Le
 ((bif (!decide ((a0.length : Int) = (a1.length : Int))) then
some false
else
bnd (Rdo a0 a1 0) fun r1 =>
selm r1 (fun y2 =>
some true) (fun z3 =>
some z3)) : Option (Bool))
 (Rib a0 a1) := by
 exact fun r h => fE Rh p9700 h
theorem Rmj (a0 : List Stm) (a1 : List Stm) : Tv.Le
 ((bif (!decide ((a0.length : Int) = (a1.length : Int))) then
some false
else
bnd (Rce a0 a1 0) fun r1 =>
selm r1 (fun y2 =>
some true) (fun z3 =>
some z3)) : Option (Bool))
 (Raa a0 a1) := by
 exact fun r h => fE Rh p9900 h
theorem Rem (t5 : Int) (b100_0 : List Int) (b100_1 : List (List Stm)) (b101_0 : List Int) (b101_1 : List (List Stm)) : Tv.Le
 ((bif (decide (t5 < (b100_1.length : Int))) then
bnd (geti b100_1 t5) fun e1 =>
bnd (geti b101_1 t5) fun e2 =>
bnd (Raa e1 e2) fun r3 =>
(bif (!r3) then
some (.inr false)
else
Rcl (wrap64 (t5 + 1)) b100_0 b100_1 b101_0 b101_1)
else
some (.inl ())) : Option (Unit ⊕ Bool))
 (Rcl t5 b100_0 b100_1 b101_0 b101_1) := by
 rewrite [← Qze]
 exact fun r h => lE Rfx p45001 h
theorem Rjl (a0b : List Int) (a0p : Int) (A : List Ent) : Tv.Le
 (bnd (Rha a0b a0p A) fun r1 =>
bnd (Ra 3 r1.2.1 r1.2.2.1) fun r2 =>
bnd (Rca (wrap64 (1 + r2.1)) 0 r2.2.1 r2.2.2 (⟨none, 0⟩ : Hd) (⟨none, 0⟩ : Hd) r1.1 (⟨(some (List.length r1.2.2.2)), 0⟩ : Hd) (Qao r1.2.2.2 .stmsH ([] : List Hd))) fun r3 =>
bnd (Ra 16 r3.1 r3.2.1) fun r4 =>
(bif (decide (r4.1 = 0)) then
bnd (Rgz r4.2.1 r4.2.2) fun r5 =>
bnd (idxN r3.2.2.2.2.2.1.n 0) fun i6 =>
bnd (Qlq (Qao r3.2.2.2.2.2.2 .stm ([⟨r5.1.kind, r5.1.var, r5.1.box, ⟨r5.1.e.op, r5.1.e.n, r5.1.e.args⟩, r5.1.body, r5.1.els⟩] : List Stm)) .stmsH r3.2.2.2.2.2.1.id i6) fun e7 =>
some (r3.2.2.2.2.1, r3.2.2.2.2.2.1, r5.2.1, r5.2.2, (Qia (Qao r3.2.2.2.2.2.2 .stm ([⟨r5.1.kind, r5.1.var, r5.1.box, ⟨r5.1.e.op, r5.1.e.n, r5.1.e.args⟩, r5.1.body, r5.1.els⟩] : List Stm)) .stmsH r3.2.2.2.2.2.1.id i6 (⟨(some (List.length r3.2.2.2.2.2.2)), 1⟩ : Hd)))
else
some (r3.2.2.2.2.1, r3.2.2.2.2.2.1, r4.2.1, r4.2.2, r3.2.2.2.2.2.2)) : Option (Hd × Hd × List Int × Int × List Ent))
 (Rdh a0b a0p A) := by
 rewrite [← Qze]
 exact fun r h => fE Rvx p39900 h
theorem Rms (a1 : Int) (a0b : List Int) (a0p : Int) : Tv.Le
 ((bif (decide (a1 < 1)) then
some (0, a0b, (wrap64 (a0p + 1)))
else
(bif (decide ((a0b.length : Int) = 0)) then
some (0, a0b, (wrap64 (a0p + 1)))
else
(bif (decide ((wrap64 ((wrap64 (a0p + 1)) - 1)) < (a0b.length : Int))) then
bnd (geti a0b (wrap64 ((wrap64 (a0p + 1)) - 1))) fun e1 =>
bnd (remI (wrap64 (e1)) a1) fun n2 =>
some (n2, a0b, (wrap64 (a0p + 1)))
else
bnd (remI (wrap64 ((wrap64 (a0p + 1)) - 1)) (a0b.length : Int)) fun n3 =>
bnd (geti a0b n3) fun e4 =>
bnd (remI (wrap64 ((wrap64 ((wrap64 ((wrap64 (a0p + 1)) - 1)) * 7)) + 3)) (a0b.length : Int)) fun n5 =>
bnd (geti a0b n5) fun e6 =>
bnd (quoI .i64 (wrap64 ((wrap64 (a0p + 1)) - 1)) (a0b.length : Int)) fun n7 =>
bnd (remI (bits .xor .i64 (wrap64 ((wrap64 ((wrap64 ((wrap64 ((wrap64 (e4)) * 131)) + (wrap64 ((wrap64 (e6)) * 1117)))) + (wrap64 ((wrap64 ((wrap64 (a0p + 1)) - 1)) * 29)))) + (wrap64 (n7 * 53)))) (wrap64 (Int.tdiv (wrap64 ((wrap64 ((wrap64 ((wrap64 ((wrap64 (e4)) * 131)) + (wrap64 ((wrap64 (e6)) * 1117)))) + (wrap64 ((wrap64 ((wrap64 (a0p + 1)) - 1)) * 29)))) + (wrap64 (n7 * 53)))) 64))) a1) fun n8 =>
some (n8, a0b, (wrap64 (a0p + 1)))))) : Option (Int × List Int × Int))
 (Ra a1 a0b a0p) := by
 rewrite [← Qze]
 exact fun r h => fE s200 p200 h
theorem Riz (a0b : List Int) (a0p : Int) : Tv.Le
 (bnd (Ra 4 a0b a0p) fun r1 =>
(bif (decide (r1.1 = 0)) then
bnd (Ra 4 r1.2.1 r1.2.2) fun r2 =>
bnd (Rbl 0 r2.1) fun r3 =>
some (r3.1, r3.2.1, ((Md.dem (Md.dem (Md.dem r3.2.2.1))), r3.2.2.2), r2.2.1, r2.2.2)
else
(bif (decide (r1.1 = 1)) then
bnd (Ra 8 r1.2.1 r1.2.2) fun r4 =>
bnd (geti ([5, 31, 32, 100, 2047, 2048, 65536, 99999] : List Int) r4.1) fun e5 =>
bnd (Rbl 0 e5) fun r6 =>
some (r6.1, r6.2.1, ((Md.dem (Md.dem (Md.dem r6.2.2.1))), r6.2.2.2), r4.2.1, r4.2.2)
else
bnd (Ra 4 r1.2.1 r1.2.2) fun r7 =>
bnd (Rbl 13 r7.1) fun r8 =>
some (r8.1, r8.2.1, ((Md.dem (Md.dem (Md.dem r8.2.2.1))), r8.2.2.2), r7.2.1, r7.2.2))) : Option (Int × Int × (Md × List Exp) × List Int × Int))
 (Rch a0b a0p) := by
 exact fun r h => fE s400 p400 h
theorem Rku (a0 : List Int) : Tv.Le
 (bnd (Rbu a0 a0 (a0.length : Int) 0) fun r1 =>
selm r1 (fun y2 =>
some (decide ((y2.length : Int) ≤ 3))) (fun z3 =>
some z3.2) : Option (Bool))
 (Rgh a0) := by
 exact fun r h => fE Rh p22700 h
theorem Rkw (a0 : List Stm) (a1 : Int) : Tv.Le
 (bnd (Rar a0 a1 0 0) fun r1 =>
some r1.1 : Option (Bool))
 (Rgi a0 a1) := by
 exact fun r h => fE Rh p5400 h
theorem Reb (t22 : List (List Stm)) (t23 : Int) (t24 : Int) (b100_0 : List Int) (b100_1 : List (List Stm)) : Tv.Le
 ((bif (decide (t24 < t23)) then
bnd (geti t22 t24) fun e1 =>
bnd (Rgi e1 (b100_0.length : Int)) fun r2 =>
(bif (!r2) then
some (.inr false)
else
Raw t22 t23 (wrap64 (t24 + 1)) b100_0 b100_1)
else
some (.inl ())) : Option (Unit ⊕ Bool))
 (Raw t22 t23 t24 b100_0 b100_1) := by
 rewrite [← Qze]
 exact fun r h => lE Rfx p22801 h
theorem Rkv (a0 : Stm) (a1 : List (List UInt8)) : Tv.Le
 ((bif (decide (a0.kind = 1)) then
bnd (Rfc a0.var) fun r1 =>
bnd (appL a1 ([r1, [61]] : List (List UInt8))) fun l2 =>
bnd (Rm (⟨a0.e.op, a0.e.n, a0.e.args⟩ : Exp) l2) fun r3 =>
bnd (appL r3 ([[59]] : List (List UInt8))) fun l4 =>
some l4
else
(bif (decide (a0.kind = 2)) then
bnd (appL a1 ([[105, 102]] : List (List UInt8))) fun l5 =>
bnd (Rm (⟨a0.e.op, a0.e.n, a0.e.args⟩ : Exp) l5) fun r6 =>
bnd (Rak a0.body r6) fun r7 =>
(bif (decide (0 < (a0.els.length : Int))) then
bnd (appL r7 ([[101, 108, 115, 101]] : List (List UInt8))) fun l8 =>
bnd (Rak a0.els l8) fun r9 =>
some r9
else
some r7)
else
(bif (decide (a0.kind = 3)) then
bnd (appL a1 ([[119, 104, 105, 108, 101]] : List (List UInt8))) fun l10 =>
bnd (Rm (⟨a0.e.op, a0.e.n, a0.e.args⟩ : Exp) l10) fun r11 =>
bnd (Rak a0.body r11) fun r12 =>
some r12
else
(bif (decide (a0.kind = 4)) then
bnd (strconv_Itoa a0.box) fun r13 =>
bnd (appL a1 ([[115, 101, 110, 100], r13] : List (List UInt8))) fun l14 =>
bnd (Rm (⟨a0.e.op, a0.e.n, a0.e.args⟩ : Exp) l14) fun r15 =>
bnd (appL r15 ([[59]] : List (List UInt8))) fun l16 =>
some l16
else
(bif (decide (a0.kind = 5)) then
bnd (strconv_Itoa a0.box) fun r17 =>
bnd (Rfc a0.var) fun r18 =>
bnd (appL a1 ([[114, 101, 99, 118], r17, r18] : List (List UInt8))) fun l19 =>
bnd (appL l19 ([[59]] : List (List UInt8))) fun l20 =>
some l20
else
(bif (decide (a0.kind = 6)) then
bnd (appL a1 ([[121, 105, 101, 108, 100]] : List (List UInt8))) fun l21 =>
bnd (appL l21 ([[59]] : List (List UInt8))) fun l22 =>
some l22
else
(bif (decide (a0.kind = 7)) then
bnd (appL a1 ([[112, 114, 105, 110, 116]] : List (List UInt8))) fun l23 =>
bnd (Rm (⟨a0.e.op, a0.e.n, a0.e.args⟩ : Exp) l23) fun r24 =>
bnd (appL r24 ([[59]] : List (List UInt8))) fun l25 =>
some l25
else
bnd (appL a1 ([[59]] : List (List UInt8))) fun l26 =>
some l26))))))) : Option (List (List UInt8)))
 (Rbe a0 a1) := by
 exact fun r h => fE Rcf p46300 h
theorem Rek (t1b : Bool) (t1 : List (List UInt8)) (t10 : List Stm) (t11 : Int) (t12 : Int) : Tv.Le
 ((bif (decide (t12 < t11)) then
bnd (geti t10 t12) fun e1 =>
bnd (Rbe (⟨e1.kind, e1.var, e1.box, ⟨e1.e.op, e1.e.n, e1.e.args⟩, e1.body, e1.els⟩ : Stm) t1) fun r2 =>
Rbd true r2 t10 t11 (wrap64 (t12 + 1))
else
some (t1b, t1)) : Option ((Bool × List (List UInt8))))
 (Rbd t1b t1 t10 t11 t12) := by
 rewrite [← Qze]
 exact fun r h => lE Rwh p45801 h
theorem Rkp (a0 : List UInt8) : Tv.Le
 ((bif (!(a0 == [])) then
bnd (Rco a0) fun r1 =>
some (decide (r1 = (a0.length : Int)))
else
some false) : Option (Bool))
 (Rgf a0) := by
 exact fun r h => fE Rh p36200 h
theorem Rez (t0 : List (List UInt8)) (t5 : List (List UInt8)) (t6 : Int) (t7 : Int) : Tv.Le
 ((bif (decide (t7 < t6)) then
bnd (geti t5 t7) fun e1 =>
bnd (Rgf e1) fun r2 =>
(bif (!r2) then
some (.inr (t0, []))
else
Rbs t0 t5 t6 (wrap64 (t7 + 1)))
else
some (.inl t0)) : Option (List (List UInt8) ⊕ (List (List UInt8) × List UInt8)))
 (Rbs t0 t5 t6 t7) := by
 rewrite [← Qze]
 exact fun r h => lE Rvv p36301 h
theorem Rpn (a0 : List (List UInt8)) (a1 : List UInt8) : Tv.Le (if a0.length ≤ Vs.LIM ∧ (Lib.join a0 a1).length ≤ Vs.LIM then some (Lib.join a0 a1) else none : Option (List UInt8)) (strings_Join a0 a1) := fun r h => by
 exact prim_le (F := Tb) (G := GT) (sg := fun _ => Rax) (g := 37800) (p := p37800) (x := r) (tv := [.sl .share .str a0, .str a1]) (v := .str r) (by kernel_rfl) rfl (join_pf h) rfl
theorem Rny (a0 : List Int) : Tv.Le
 (bnd (Rcq a0 0) fun r1 =>
selm r1 (fun y2 =>
some (decide ((y2.length : Int) ≤ 3))) (fun z3 =>
some z3.2) : Option (Bool))
 (Rih a0) := by
 exact fun r h => fE Rh p23200 h
theorem Rsk (a0 : Int) (a1 : Int) (a2 : Int) : Tv.Le
 ((bif (decide (a1 ≤ a0)) then
some (decide (a0 ≤ a2))
else
some false) : Option (Bool))
 (Reg a0 a1 a2) := by
 exact fun r h => fE Rh p1600 h
theorem Rlg (a0 : List Stm) : Tv.Le
 (bnd (Rp a0 3) fun r1 =>
(bif r1 then
bnd (Rab a0) fun r2 =>
some (decide (r2 ≤ 16))
else
some false) : Option (Bool))
 (Rgo a0) := by
 exact fun r h => fE Rh p6300 h
theorem Rnw (a0 : List Stm) (a1 : Int) : Tv.Le
 (bnd (Rbq a0 a1 0) fun r1 =>
selm r1 (fun y2 =>
some true) (fun z3 =>
some z3) : Option (Bool))
 (Ro a0 a1) := by
 exact fun r h => fE Rh p23100 h
end Go.TFnSourceBack