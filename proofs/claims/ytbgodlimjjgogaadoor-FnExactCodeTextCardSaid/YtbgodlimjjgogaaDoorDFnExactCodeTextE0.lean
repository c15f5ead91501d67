import Derived.Test.YtbgodlimjjgogaaDoorDFnExactCodeTextP
import Derived.KernelRfl
set_option linter.unusedVariables false
namespace Go.TFnExactCodeText
open Go Go.RowKit Go.Vs Go.Tv
theorem Rby (a0 : Int) : Tv.Le
 ((bif (decide (1 ≤ a0)) then
some (decide (a0 ≤ 12))
else
some false) : Option (Bool))
 (Rab a0) := by
 exact fun r h => fE Rd p1000 h
theorem Rbk (a0 : Int) : Tv.Le
 ((bif (decide ((-2147483648) ≤ a0)) then
some (decide (a0 ≤ 2147483647))
else
some false) : Option (Bool))
 (Rag a0) := by
 exact fun r h => fE Rd p5000 h
theorem Rcv (a0 : Int) : Tv.Le
 ((bif (decide (0 ≤ a0)) then
some (decide (a0 < 12))
else
some false) : Option (Bool))
 (Ral a0) := by
 exact fun r h => fE Rd p12200 h
theorem Rbi (a0 : Quad) (a1 : Int) : Tv.Le
 (bnd (Ral a0.dst) fun r1 =>
bnd (Ral a0.a) fun r2 =>
bnd (Ral a0.b) fun r3 =>
(bif (decide (a0.op = 1)) then
(bif (decide (a0.op = 1) && (decide (a0.dst = a0.dst) && (decide (a0.a = 0) && (decide (a0.b = 0) && (decide (a0.n = a0.n) && true))))) then
(bif r1 then
bnd (Rag a0.n) fun r4 =>
some r4
else
some false)
else
some false)
else
(bif (decide (a0.op = 2)) then
(bif (decide (a0.op = 2) && (decide (a0.dst = a0.dst) && (decide (a0.a = a0.a) && (decide (a0.b = 0) && (decide (a0.n = 0) && true))))) then
(bif r1 then
some r2
else
some false)
else
some false)
else
(bif (decide (a0.op = 3)) then
(bif r1 then
(bif r2 then
(bif r3 then
bnd (Rab a0.n) fun r5 =>
some r5
else
some false)
else
some false)
else
some false)
else
(bif (decide (a0.op = 4)) then
(bif (decide (a0.op = 4) && (decide (a0.dst = 0) && (decide (a0.a = 0) && (decide (a0.b = 0) && (decide (a0.n = a0.n) && true))))) then
(bif (decide (0 ≤ a0.n)) then
some (decide (a0.n < a1))
else
some false)
else
some false)
else
(bif (decide (a0.op = 5)) then
(bif (decide (a0.op = 5) && (decide (a0.dst = 0) && (decide (a0.a = a0.a) && (decide (a0.b = 0) && (decide (a0.n = a0.n) && true))))) then
(bif r2 then
(bif (decide (0 ≤ a0.n)) then
some (decide (a0.n < a1))
else
some false)
else
some false)
else
some false)
else
(bif (decide (a0.op = 6)) then
(bif (decide (a0.op = 6) && (decide (a0.dst = 0) && (decide (a0.a = a0.a) && (decide (a0.b = 0) && (decide (a0.n = a0.n) && true))))) then
(bif r2 then
(bif (decide (0 ≤ a0.n)) then
some (decide (a0.n < 3))
else
some false)
else
some false)
else
some false)
else
(bif (decide (a0.op = 7)) then
(bif (decide (a0.op = 7) && (decide (a0.dst = a0.dst) && (decide (a0.a = 0) && (decide (a0.b = 0) && (decide (a0.n = a0.n) && true))))) then
(bif r1 then
(bif (decide (0 ≤ a0.n)) then
some (decide (a0.n < 3))
else
some false)
else
some false)
else
some false)
else
(bif (decide (a0.op = 9)) then
(bif (decide (a0.op = 9) && (decide (a0.dst = 0) && (decide (a0.a = a0.a) && (decide (a0.b = 0) && (decide (a0.n = 0) && true))))) then
some r2
else
some false)
else
(bif (decide (a0.op = 8)) then
some (decide (a0.op = a0.op) && (decide (a0.dst = 0) && (decide (a0.a = 0) && (decide (a0.b = 0) && (decide (a0.n = 0) && true)))))
else
(bif (decide (a0.op = 10)) then
some (decide (a0.op = a0.op) && (decide (a0.dst = 0) && (decide (a0.a = 0) && (decide (a0.b = 0) && (decide (a0.n = 0) && true)))))
else
some false)))))))))) : Option (Bool))
 (Ro a0 a1) := by
 exact fun r h => fE Rd p12300 h
theorem Rbh (a0 : List Quad) : Tv.Le
 ((bif (decide ((a0.length : Int) < 1)) then
some false
else
(bif (decide (600 < (a0.length : Int))) then
some false
else
bnd (Ri a0 a0 (a0.length : Int) 0) fun r1 =>
selm r1 (fun y2 =>
bnd (geti y2 (wrap64 ((y2.length : Int) - 1))) fun e4 =>
(bif (decide (e4.op = 10)) then
some true
else
some (decide (e4.op = 4)))) (fun z3 =>
some z3.2))) : Option (Bool))
 (Rn a0) := by
 rewrite [← Qzn]
 exact fun r h => fE Rd p14900 h
theorem Rbz (a0 : Int) : Tv.Le
 (bnd (strconv_Itoa a0) fun r1 =>
bnd (catS [114] r1) fun s2 =>
some s2 : Option (List UInt8))
 (Rr a0) := by
 exact fun r h => fE Rc p20900 h
theorem Rcl (a0 : Int) : Tv.Le
 (bnd (Rab a0) fun r1 =>
(bif (!r1) then
some []
else
bnd (geti ([[124], [94], [38], [61, 61], [60], [60, 60], [62, 62], [43], [45], [42], [47], [37]] : List (List UInt8)) (wrap64 (a0 - 1))) fun _ =>
bnd (([[124], [94], [38], [61, 61], [60], [60, 60], [62, 62], [43], [45], [42], [47], [37]] : List (List UInt8))[(Int.toNat (wrap64 (a0 - 1)))]?) fun s2 =>
some s2) : Option (List UInt8))
 (Rbd a0) := by
 rewrite [← Qzn]
 exact fun r h => fE Rc p21000 h
theorem Rbs (a0 : Quad) : Tv.Le
 (bnd (Ro a0 600) fun r1 =>
(bif (!r1) then
some []
else
bnd (Rr a0.dst) fun r2 =>
bnd (Rr a0.a) fun r3 =>
bnd (strconv_Itoa a0.n) fun r4 =>
(bif (decide (a0.op = 1)) then
bnd (catS r2 ([32, 61, 32])) fun s5 =>
bnd (catS s5 r4) fun s6 =>
some s6
else
(bif (decide (a0.op = 2)) then
bnd (catS r2 ([32, 61, 32])) fun s7 =>
bnd (catS s7 r3) fun s8 =>
some s8
else
(bif (decide (a0.op = 3)) then
bnd (catS r2 ([32, 61, 32])) fun s9 =>
bnd (catS s9 r3) fun s10 =>
bnd (catS s10 [32]) fun s11 =>
bnd (Rbd a0.n) fun r12 =>
bnd (catS s11 r12) fun s13 =>
bnd (catS s13 [32]) fun s14 =>
bnd (Rr a0.b) fun r15 =>
bnd (catS s14 r15) fun s16 =>
some s16
else
(bif (decide (a0.op = 4)) then
bnd (catS ([106, 117, 109, 112, 32]) r4) fun s17 =>
some s17
else
(bif (decide (a0.op = 5)) then
bnd (catS ([122, 101, 114, 111, 32]) r3) fun s18 =>
bnd (catS s18 [32]) fun s19 =>
bnd (catS s19 r4) fun s20 =>
some s20
else
(bif (decide (a0.op = 6)) then
bnd (catS ([115, 101, 110, 100, 32]) r4) fun s21 =>
bnd (catS s21 [32]) fun s22 =>
bnd (catS s22 r3) fun s23 =>
some s23
else
(bif (decide (a0.op = 7)) then
bnd (catS r2 ([32, 61, 32, 114, 101, 99, 118, 32])) fun s24 =>
bnd (catS s24 r4) fun s25 =>
some s25
else
(bif (decide (a0.op = 8)) then
some ([121, 105, 101, 108, 100])
else
(bif (decide (a0.op = 9)) then
bnd (catS ([112, 114, 105, 110, 116, 32]) r3) fun s26 =>
some s26
else
some ([104, 97, 108, 116]))))))))))) : Option (List UInt8))
 (Ran a0) := by
 exact fun r h => fE Rc p21100 h
theorem Rao (a0 : List Quad) : Tv.Le
 (bnd (Ray a0 1048576) fun r1 =>
(bif (decide (r1 < 0)) then
some true
else
bnd (Rs a0) fun r2 =>
bnd (Rap r2) fun r3 =>
bnd (Rs a0) fun r4 =>
bnd (impl_CodeText r4) fun r5 =>
(bif (!(r5 == r3)) then
some false
else
bnd (Rs a0) fun r6 =>
bnd (Rax r4 r6) fun r7 =>
(bif (!r7) then
some false
else
some true))) : Option (Bool))
 (laws_FnExactCodeText a0) := by
 exact fun r h => fE Rd p21900 h
theorem Rv (t0 : List Quad) (t14 : List Quad) (t15 : Int) (t16 : Int) : Tv.Le
 ((bif (decide (t16 < t15)) then
bnd (geti t14 t16) fun e1 =>
bnd (Ro e1 (t0.length : Int)) fun r2 =>
(bif (!r2) then
some (.inr (t0, false))
else
Ri t0 t14 t15 (wrap64 (t16 + 1)))
else
some (.inl t0)) : Option (List Quad ⊕ (List Quad × Bool)))
 (Ri t0 t14 t15 t16) := by
 rewrite [← Qzn]
 exact fun r h => lE Rdn p14901 h
theorem Rcj (a0 : Int) : Tv.Le (if -9223372036854775808 ≤ a0 ∧ a0 ≤ 9223372036854775807 then some (Lib.itoa a0) else none : Option (List UInt8)) (strconv_Itoa a0) := fun r h => by
 exact prim_le (F := Tb) (G := GT) (sg := fun _ => Rc) (g := 22000) (p := p22000) (x := r) (tv := [.int .i64 a0]) (v := .str r) (by kernel_rfl) rfl (itoa_pf h) rfl
theorem Rcc (a0 : List Quad) (a1 : Int) : Tv.Le
 ((bif (decide ((wrap64 (a1 - (a0.length : Int))) < 0)) then
some (-1)
else
some (wrap64 (a1 - (a0.length : Int)))) : Option (Int))
 (Ray a0 a1) := by
 rewrite [← Qzn]
 exact fun r h => fE Rdj p14600 h
theorem Rce (a0 : List Quad) : Tv.Le
 (bnd (made (a0.length : Int)) fun n1 =>
bnd (Rm a0 0 (List.replicate n1 (Qlq .quad))) fun r2 =>
some r2 : Option (List Quad))
 (Rs a0) := by
 exact fun r h => fE Rdl p14800 h
theorem Rbv (a0 : List Quad) : Tv.Le
 (bnd (Rah a0) fun r1 =>
(bif (!r1) then
some []
else
bnd (Rk a0 [] 0) fun r2 =>
some r2) : Option (List UInt8))
 (Rap a0) := by
 exact fun r h => fE Rc p21700 h
theorem impl_CodeText_le (a0 : List Quad) : Tv.Le (Go.Tx.textT ctx 21800 a0 : Option (List UInt8)) (impl_CodeText a0) := fun r h => by
 exact prim_le (F := Tb) (G := GT) (sg := fun _ => Rc) (g := 21800) (p := p21800) (x := r) (tv := [.sl .share .quad a0]) (v := .str r) (by kernel_rfl) rfl (Go.Tx.text_pf h) rfl
theorem Rcb (a0 : List Quad) (a1 : List Quad) : Tv.Le
 ((bif (!decide ((a0.length : Int) = (a1.length : Int))) then
some false
else
bnd (Rl a0 a1 0) fun r1 =>
selm r1 (fun y2 =>
some true) (fun z3 =>
some z3)) : Option (Bool))
 (Rax a0 a1) := by
 exact fun r h => fE Rd p15100 h
theorem Rco (a0 : Quad) : Tv.Le
 (some a0 : Option (Quad))
 (Rbf a0) := by
 exact fun r h => fE Rdi p12100 h
theorem Rae (t0 : List Quad) (t4 : Int) (b100 : List Quad) : Tv.Le
 ((bif (decide (t4 < (t0.length : Int))) then
bnd (geti t0 t4) fun e1 =>
bnd (Rbf e1) fun r2 =>
bnd (geti b100 t4) fun _ =>
bnd (b100[(Int.toNat t4)]?) fun e4 =>
Rm t0 (wrap64 (t4 + 1)) (b100.set (Int.toNat t4) r2)
else
some b100) : Option (List Quad))
 (Rm t0 t4 b100) := by
 rewrite [← Qzn]
 exact fun r h => lE Rdm p14801 h
theorem Rbn (a0 : List Quad) : Tv.Le
 (bnd (Rt (a0.length : Int) 1 600) fun r1 =>
(bif (!r1) then
some false
else
bnd (Rj a0 (a0.length : Int) 0) fun r2 =>
selm r2 (fun y3 =>
bnd (geti y3.1 (wrap64 (y3.2 - 1))) fun e5 =>
(bif (decide (e5.op = 10)) then
some true
else
bnd (geti y3.1 (wrap64 (y3.2 - 1))) fun e6 =>
some (decide (e6.op = 4)))) (fun z4 =>
some z4.2.1)) : Option (Bool))
 (Rah a0) := by
 rewrite [← Qzn]
 exact fun r h => fE Rd p14700 h
theorem Ras (a0 : Int) : Tv.Le
 ((bif (decide (a0 < (-9223372036854775807))) then
some ([45, 57, 50, 50, 51, 51, 55, 50, 48, 51, 54, 56, 53, 52, 55, 55, 53, 56, 48, 56])
else
(bif (decide (a0 < 0)) then
bnd (Re (wrap64 (0 - a0))) fun r1 =>
bnd (catS [45] r1) fun s2 =>
some s2
else
(bif (decide (a0 < 10)) then
some (Tv.bytes ([(((wrap64 (48 + a0))) % 256)] : List Int))
else
bnd (Re (wrap64 (Int.tdiv a0 10))) fun r3 =>
bnd (catS r3 (Tv.bytes ([(((wrap64 (48 + (Int.tmod a0 10)))) % 256)] : List Int))) fun s4 =>
some s4))) : Option (List UInt8))
 (Re a0) := by
 rewrite [← Qzn]
 exact fun r h => fE Rc p20500 h
theorem Rbx (a0 : Quad) : Tv.Le
 (bnd (Rp a0 600) fun r1 =>
(bif (!r1) then
some []
else
(bif (decide (a0.op = 1)) then
bnd (Rg a0.dst) fun r2 =>
bnd (catS r2 ([32, 61, 32])) fun s3 =>
bnd (Re a0.n) fun r4 =>
bnd (catS s3 r4) fun s5 =>
some s5
else
(bif (decide (a0.op = 2)) then
bnd (Rg a0.dst) fun r6 =>
bnd (catS r6 ([32, 61, 32])) fun s7 =>
bnd (Rg a0.a) fun r8 =>
bnd (catS s7 r8) fun s9 =>
some s9
else
(bif (decide (a0.op = 3)) then
bnd (Rg a0.dst) fun r10 =>
bnd (catS r10 ([32, 61, 32])) fun s11 =>
bnd (Rg a0.a) fun r12 =>
bnd (catS s11 r12) fun s13 =>
bnd (catS s13 [32]) fun s14 =>
bnd (Rbg a0.n) fun r15 =>
bnd (catS s14 r15) fun s16 =>
bnd (catS s16 [32]) fun s17 =>
bnd (Rg a0.b) fun r18 =>
bnd (catS s17 r18) fun s19 =>
some s19
else
(bif (decide (a0.op = 4)) then
bnd (Re a0.n) fun r20 =>
bnd (catS ([106, 117, 109, 112, 32]) r20) fun s21 =>
some s21
else
(bif (decide (a0.op = 5)) then
bnd (Rg a0.a) fun r22 =>
bnd (catS ([122, 101, 114, 111, 32]) r22) fun s23 =>
bnd (catS s23 [32]) fun s24 =>
bnd (Re a0.n) fun r25 =>
bnd (catS s24 r25) fun s26 =>
some s26
else
(bif (decide (a0.op = 6)) then
bnd (Re a0.n) fun r27 =>
bnd (catS ([115, 101, 110, 100, 32]) r27) fun s28 =>
bnd (catS s28 [32]) fun s29 =>
bnd (Rg a0.a) fun r30 =>
bnd (catS s29 r30) fun s31 =>
some s31
else
(bif (decide (a0.op = 7)) then
bnd (Rg a0.dst) fun r32 =>
bnd (catS r32 ([32, 61, 32, 114, 101, 99, 118, 32])) fun s33 =>
bnd (Re a0.n) fun r34 =>
bnd (catS s33 r34) fun s35 =>
some s35
else
(bif (decide (a0.op = 8)) then
some ([121, 105, 101, 108, 100])
else
(bif (decide (a0.op = 9)) then
bnd (Rg a0.a) fun r36 =>
bnd (catS ([112, 114, 105, 110, 116, 32]) r36) fun s37 =>
some s37
else
some ([104, 97, 108, 116]))))))))))) : Option (List UInt8))
 (Raq a0) := by
 exact fun r h => fE Rc p20800 h
theorem Rz (t0 : List Quad) (t3 : List UInt8) (t4 : Int) : Tv.Le
 ((bif (decide (t4 < (t0.length : Int))) then
bnd (Re t4) fun r1 =>
bnd (catS t3 r1) fun s2 =>
bnd (catS s2 ([58, 32])) fun s3 =>
bnd (geti t0 t4) fun e4 =>
bnd (Raq e4) fun r5 =>
bnd (catS s3 r5) fun s6 =>
bnd (catS s6 [10]) fun s7 =>
Rk t0 s7 (wrap64 (t4 + 1))
else
some t3) : Option (List UInt8))
 (Rk t0 t3 t4) := by
 rewrite [← Qzn]
 exact fun r h => lE Rdp p21701 h
theorem Rcm (a0 : Quad) (a1 : Quad) : Tv.Le
 ((bif (!decide (a0.op = a1.op)) then
some false
else
(bif (!decide (a0.dst = a1.dst)) then
some false
else
(bif (!decide (a0.a = a1.a)) then
some false
else
(bif (!decide (a0.b = a1.b)) then
some false
else
(bif (!decide (a0.n = a1.n)) then
some false
else
some true))))) : Option (Bool))
 (Rbe a0 a1) := by
 exact fun r h => fE Rd p15000 h
theorem Rad (t0 : List Quad) (t1 : List Quad) (t5 : Int) : Tv.Le
 ((bif (decide (t5 < (t0.length : Int))) then
bnd (geti t0 t5) fun e1 =>
bnd (geti t1 t5) fun e2 =>
bnd (Rbe e1 e2) fun r3 =>
(bif (!r3) then
some (.inr false)
else
Rl t0 t1 (wrap64 (t5 + 1)))
else
some (.inl ())) : Option (Unit ⊕ Bool))
 (Rl t0 t1 t5) := by
 rewrite [← Qzn]
 exact fun r h => lE Rdo p15101 h
theorem Rda (a0 : Int) (a1 : Int) (a2 : Int) : Tv.Le
 ((bif (decide (a1 ≤ a0)) then
some (decide (a0 ≤ a2))
else
some false) : Option (Bool))
 (Rt a0 a1 a2) := by
 exact fun r h => fE Rd p1600 h
theorem Rbo (a0 : Quad) (a1 : Int) : Tv.Le
 ((bif (decide (a0.op = 1)) then
bnd (Rb a0 true false false) fun r1 =>
(bif r1 then
bnd (Rai a0.n) fun r2 =>
some r2
else
some false)
else
(bif (decide (a0.op = 2)) then
bnd (Rb a0 true true false) fun r3 =>
(bif r3 then
some (decide (a0.n = 0))
else
some false)
else
(bif (decide (a0.op = 3)) then
bnd (Rb a0 true true true) fun r4 =>
(bif r4 then
bnd (Raf a0.n) fun r5 =>
some r5
else
some false)
else
(bif (decide (a0.op = 4)) then
bnd (Rb a0 false false false) fun r6 =>
(bif r6 then
(bif (decide (0 ≤ a0.n)) then
some (decide (a0.n < a1))
else
some false)
else
some false)
else
(bif (decide (a0.op = 5)) then
bnd (Rb a0 false true false) fun r7 =>
(bif r7 then
(bif (decide (0 ≤ a0.n)) then
some (decide (a0.n < a1))
else
some false)
else
some false)
else
(bif (decide (a0.op = 6)) then
bnd (Rb a0 false true false) fun r8 =>
(bif r8 then
bnd (Rt a0.n 0 2) fun r9 =>
some r9
else
some false)
else
(bif (decide (a0.op = 7)) then
bnd (Rb a0 true false false) fun r10 =>
(bif r10 then
bnd (Rt a0.n 0 2) fun r11 =>
some r11
else
some false)
else
(bif (decide (a0.op = 9)) then
bnd (Rb a0 false true false) fun r12 =>
(bif r12 then
some (decide (a0.n = 0))
else
some false)
else
(bif (decide (a0.op = 8)) then
bnd (Rb a0 false false false) fun r13 =>
(bif r13 then
some (decide (a0.n = 0))
else
some false)
else
(bif (decide (a0.op = 10)) then
bnd (Rb a0 false false false) fun r14 =>
(bif r14 then
some (decide (a0.n = 0))
else
some false)
else
some false)))))))))) : Option (Bool))
 (Rp a0 a1) := by
 exact fun r h => fE Rd p12000 h
theorem Rw (t0 : List Quad) (t3 : Int) (t4 : Int) : Tv.Le
 ((bif (decide (t4 < t3)) then
bnd (geti t0 t4) fun e1 =>
bnd (Rp e1 t3) fun r2 =>
(bif (!r2) then
some (.inr (t0, false, t3))
else
Rj t0 t3 (wrap64 (t4 + 1)))
else
some (.inl (t0, t3))) : Option ((List Quad × Int) ⊕ (List Quad × Bool × Int)))
 (Rj t0 t3 t4) := by
 rewrite [← Qzn]
 exact fun r h => lE Rdk p14701 h
theorem Rcz (a0 : Int) : Tv.Le
 (bnd (Re a0) fun r1 =>
bnd (catS [114] r1) fun s2 =>
some s2 : Option (List UInt8))
 (Rg a0) := by
 exact fun r h => fE Rc p20600 h
theorem Rcq (a0 : Int) : Tv.Le
 (bnd (Raf a0) fun r1 =>
(bif (!r1) then
some []
else
bnd (geti ([[124], [94], [38], [61, 61], [60], [60, 60], [62, 62], [43], [45], [42], [47], [37]] : List (List UInt8)) (wrap64 (a0 - 1))) fun e2 =>
some e2) : Option (List UInt8))
 (Rbg a0) := by
 rewrite [← Qzn]
 exact fun r h => fE Rc p20700 h
theorem Rci (a0 : Quad) (a1 : Bool) (a2 : Bool) (a3 : Bool) : Tv.Le
 (bnd (Raa a0.dst a1) fun r1 =>
(bif r1 then
bnd (Raa a0.a a2) fun r2 =>
(bif r2 then
bnd (Raa a0.b a3) fun r3 =>
some r3
else
some false)
else
some false) : Option (Bool))
 (Rb a0 a1 a2 a3) := by
 exact fun r h => fE Rd p11900 h
theorem Rbq (a0 : Int) : Tv.Le
 (bnd (Rt a0 (-2147483648) 2147483647) fun r1 =>
some r1 : Option (Bool))
 (Rai a0) := by
 exact fun r h => fE Rd p6400 h
theorem Rcg (a0 : Int) : Tv.Le
 (bnd (Rt a0 1 12) fun r1 =>
some r1 : Option (Bool))
 (Raf a0) := by
 exact fun r h => fE Rd p1700 h
theorem Rcs (a0 : Int) (a1 : Bool) : Tv.Le
 ((bif a1 then
bnd (Rt a0 0 11) fun r1 =>
some r1
else
some (decide (a0 = 0))) : Option (Bool))
 (Raa a0 a1) := by
 exact fun r h => fE Rd p11800 h
end Go.TFnExactCodeText