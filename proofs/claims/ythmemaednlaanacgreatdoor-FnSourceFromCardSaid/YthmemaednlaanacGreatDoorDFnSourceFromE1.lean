import Derived.Test.YthmemaednlaanacGreatDoorDFnSourceFromP
import Derived.KernelRfl
set_option linter.unusedVariables false
namespace Go.TFnSourceFrom
open Go Go.RowKit Go.Vs Go.Tv
theorem Rrn (a0 : List UInt8) : Tv.Le (if a0.length ≤ 18 then Lib.atoi a0 else none : Option (Int)) (strconv_Atoi a0) := fun r h => by
 exact prim_le (F := Tb) (G := GT) (sg := fun _ => Ryv) (g := 37700) (p := p37700) (x := r) (tv := [.str a0]) (v := .tup [.int .i64 r, .undef]) (by kernel_rfl) rfl (atoi_pf h) rfl
theorem Rad (a0tokens : List (List UInt8)) (a0at : Int) (a0failed : Bool) : Tv.Le
 (bnd (Re ([105, 102]) a0tokens a0at a0failed) fun r1 =>
(bif r1.1 then
bnd (Rf 1 r1.2.1 r1.2.2.1 r1.2.2.2) fun r2 =>
bnd (Rav r2.2.1 r2.2.2.1 r2.2.2.2) fun r3 =>
bnd (Re ([101, 108, 115, 101]) r3.2.1 r3.2.2.1 r3.2.2.2) fun r4 =>
(bif r4.1 then
bnd (Rav r4.2.1 r4.2.2.1 r4.2.2.2) fun r5 =>
some (⟨2, 0, 0, ⟨r2.1.op, r2.1.n, r2.1.args⟩, r3.1, r5.1⟩, r5.2.1, r5.2.2.1, r5.2.2.2)
else
some (⟨2, 0, 0, ⟨r2.1.op, r2.1.n, r2.1.args⟩, r3.1, []⟩, r4.2.1, r4.2.2.1, r4.2.2.2))
else
bnd (Re ([119, 104, 105, 108, 101]) r1.2.1 r1.2.2.1 r1.2.2.2) fun r6 =>
(bif r6.1 then
bnd (Rf 1 r6.2.1 r6.2.2.1 r6.2.2.2) fun r7 =>
bnd (Rav r7.2.1 r7.2.2.1 r7.2.2.2) fun r8 =>
some (⟨3, 0, 0, ⟨r7.1.op, r7.1.n, r7.1.args⟩, r8.1, []⟩, r8.2.1, r8.2.2.1, r8.2.2.2)
else
bnd (Re ([115, 101, 110, 100]) r6.2.1 r6.2.2.1 r6.2.2.2) fun r9 =>
(bif r9.1 then
bnd (Rag r9.2.1 r9.2.2.1 r9.2.2.2) fun r10 =>
bnd (Rf 1 r10.2.1 r10.2.2.1 r10.2.2.2) fun r11 =>
bnd (Rg [59] r11.2.1 r11.2.2.1 r11.2.2.2) fun r12 =>
some (⟨4, 0, r10.1, ⟨r11.1.op, r11.1.n, r11.1.args⟩, [], []⟩, r12.1, r12.2.1, r12.2.2)
else
bnd (Re ([114, 101, 99, 118]) r9.2.1 r9.2.2.1 r9.2.2.2) fun r13 =>
(bif r13.1 then
bnd (Rag r13.2.1 r13.2.2.1 r13.2.2.2) fun r14 =>
bnd (Rj r14.2.1 r14.2.2.1 r14.2.2.2) fun r15 =>
bnd (Rg [59] r15.2.1 r15.2.2.1 r15.2.2.2) fun r16 =>
some (⟨5, r15.1, r14.1, ⟨0, 0, []⟩, [], []⟩, r16.1, r16.2.1, r16.2.2)
else
bnd (Re ([121, 105, 101, 108, 100]) r13.2.1 r13.2.2.1 r13.2.2.2) fun r17 =>
(bif r17.1 then
bnd (Rg [59] r17.2.1 r17.2.2.1 r17.2.2.2) fun r18 =>
some (⟨6, 0, 0, ⟨0, 0, []⟩, [], []⟩, r18.1, r18.2.1, r18.2.2)
else
bnd (Re ([112, 114, 105, 110, 116]) r17.2.1 r17.2.2.1 r17.2.2.2) fun r19 =>
(bif r19.1 then
bnd (Rf 1 r19.2.1 r19.2.2.1 r19.2.2.2) fun r20 =>
bnd (Rg [59] r20.2.1 r20.2.2.1 r20.2.2.2) fun r21 =>
some (⟨7, 0, 0, ⟨r20.1.op, r20.1.n, r20.1.args⟩, [], []⟩, r21.1, r21.2.1, r21.2.2)
else
bnd (Rj r19.2.1 r19.2.2.1 r19.2.2.2) fun r22 =>
bnd (Rg [61] r22.2.1 r22.2.2.1 r22.2.2.2) fun r23 =>
bnd (Rf 1 r23.1 r23.2.1 r23.2.2) fun r24 =>
bnd (Rg [59] r24.2.1 r24.2.2.1 r24.2.2.2) fun r25 =>
some (⟨1, r22.1, 0, ⟨r24.1.op, r24.1.n, r24.1.args⟩, [], []⟩, r25.1, r25.2.1, r25.2.2))))))) : Option (Stm × List (List UInt8) × Int × Bool))
 (Rch a0tokens a0at a0failed) := by
 exact fun r h => fE Rzg p46100 h
theorem Rax (t3b : Bool) (t3 : List Stm) (b0_0 : List (List UInt8)) (b0_1 : Int) (b0_2 : Bool) : Tv.Le
 ((bif (!b0_2) then
bnd (Re [125] b0_0 b0_1 b0_2) fun r1 =>
(bif (!r1.1) then
bnd (Rch r1.2.1 r1.2.2.1 r1.2.2.2) fun r2 =>
bnd (appL t3 ([⟨r2.1.kind, r2.1.var, r2.1.box, ⟨r2.1.e.op, r2.1.e.n, r2.1.e.args⟩, r2.1.body, r2.1.els⟩] : List Stm)) fun l3 =>
Raf true l3 r2.2.1 r2.2.2.1 r2.2.2.2
else
some ((t3b, t3), r1.2.1, r1.2.2.1, r1.2.2.2))
else
some ((t3b, t3), b0_0, b0_1, b0_2)) : Option ((Bool × List Stm) × List (List UInt8) × Int × Bool))
 (Raf t3b t3 b0_0 b0_1 b0_2) := by
 exact fun r h => lE Rzd p45501 h
theorem Rse (a0 : Int) : Tv.Le
 ((bif (decide (48 ≤ a0)) then
(bif (decide (a0 ≤ 57)) then
some 1
else
(bif (decide (97 ≤ a0)) then
(bif (decide (a0 ≤ 122)) then
some 2
else
(bif (decide (a0 = 32)) then
some 3
else
(bif (decide (a0 = 10)) then
some 3
else
bnd (Rbt a0 ([43, 45, 42, 47, 37, 38, 124, 94, 60, 62, 40, 41, 123, 125, 61, 59]) 0) fun r1 =>
selm r1 (fun y2 =>
some 0) (fun z3 =>
some z3))))
else
(bif (decide (a0 = 32)) then
some 3
else
(bif (decide (a0 = 10)) then
some 3
else
bnd (Rbt a0 ([43, 45, 42, 47, 37, 38, 124, 94, 60, 62, 40, 41, 123, 125, 61, 59]) 0) fun r4 =>
selm r4 (fun y5 =>
some 0) (fun z6 =>
some z6)))))
else
(bif (decide (97 ≤ a0)) then
(bif (decide (a0 ≤ 122)) then
some 2
else
(bif (decide (a0 = 32)) then
some 3
else
(bif (decide (a0 = 10)) then
some 3
else
bnd (Rbt a0 ([43, 45, 42, 47, 37, 38, 124, 94, 60, 62, 40, 41, 123, 125, 61, 59]) 0) fun r7 =>
selm r7 (fun y8 =>
some 0) (fun z9 =>
some z9))))
else
(bif (decide (a0 = 32)) then
some 3
else
(bif (decide (a0 = 10)) then
some 3
else
bnd (Rbt a0 ([43, 45, 42, 47, 37, 38, 124, 94, 60, 62, 40, 41, 123, 125, 61, 59]) 0) fun r10 =>
selm r10 (fun y11 =>
some 0) (fun z12 =>
some z12))))) : Option (Int))
 (Rgi a0) := by
 exact fun r h => fE Rda p31800 h
theorem Rhm (a0 : List UInt8) (a1 : Int) : Tv.Le
 (bnd (geti a0 a1) fun c1 =>
bnd (Rgi (c1.toNat : Int)) fun r2 =>
(bif (decide (r2 = 1)) then
bnd (Rjm a0 a1) fun r3 =>
some r3
else
(bif (decide (r2 = 2)) then
bnd (Rjm a0 a1) fun r4 =>
some r4
else
(bif (!decide (r2 = 4)) then
some (-1)
else
(bif (decide ((wrap64 (a1 + 2)) ≤ (a0.length : Int))) then
bnd (cutL a0 a1 (wrap64 (a1 + 2))) fun s5 =>
bnd (Ron s5) fun r6 =>
(bif r6 then
some (wrap64 (a1 + 2))
else
bnd (geti a0 a1) fun c7 =>
(bif (decide ((c7.toNat : Int) = 62)) then
some (-1)
else
some (wrap64 (a1 + 1))))
else
bnd (geti a0 a1) fun c8 =>
(bif (decide ((c8.toNat : Int) = 62)) then
some (-1)
else
some (wrap64 (a1 + 1))))))) : Option (Int))
 (Rgh a0 a1) := by
 rewrite [← Qzc]
 exact fun r h => fE Rda p32100 h
theorem Rek (t0 : List UInt8) (t4b : Bool) (t4 : List (List UInt8)) (t5 : Int) : Tv.Le
 ((bif (decide (t5 < (t0.length : Int))) then
bnd (geti t0 t5) fun c1 =>
bnd (Rgi (c1.toNat : Int)) fun r2 =>
(bif (decide (r2 = 3)) then
Ran t0 t4b t4 (wrap64 (t5 + 1))
else
bnd (Rgh t0 t5) fun r3 =>
(bif (decide (r3 < 0)) then
some (.inr ((false, ([] : List (List UInt8))), false, (t4b, t4)))
else
bnd (cutL t0 t5 r3) fun s4 =>
bnd (appL t4 ([s4] : List (List UInt8))) fun l5 =>
Ran t0 true l5 r3))
else
some (.inl (t4b, t4))) : Option (((Bool × List (List UInt8))) ⊕ ((Bool × List (List UInt8)) × Bool × (Bool × List (List UInt8)))))
 (Ran t0 t4b t4 t5) := by
 rewrite [← Qzc]
 exact fun r h => lE Rsv p32201 h
theorem Rpx (a0 : List UInt8) : Tv.Le
 (bnd (Rer (a0.length : Int) 1 5) fun r1 =>
(bif (!r1) then
some (-1)
else
bnd (Rdv a0 0 0) fun r2 =>
selm r2 (fun y3 =>
some y3) (fun z4 =>
some z4.1)) : Option (Int))
 (Rfs a0) := by
 exact fun r h => fE Rda p32300 h
theorem Rsd (a0 : List (List UInt8)) (a1 : Int) : Tv.Le
 (bnd (Ra a0 a1 ([105, 102])) fun r1 =>
(bif r1 then
bnd (Rao a0 (wrap64 (a1 + 1)) 2) fun r2 =>
some (⟨r2.1.kind, r2.1.var, r2.1.box, ⟨r2.1.e.op, r2.1.e.n, r2.1.e.args⟩, r2.1.body, r2.1.els⟩, r2.2)
else
bnd (Ra a0 a1 ([119, 104, 105, 108, 101])) fun r3 =>
(bif r3 then
bnd (Rao a0 (wrap64 (a1 + 1)) 3) fun r4 =>
some (⟨r4.1.kind, r4.1.var, r4.1.box, ⟨r4.1.e.op, r4.1.e.n, r4.1.e.args⟩, r4.1.body, r4.1.els⟩, r4.2)
else
bnd (Ra a0 a1 ([121, 105, 101, 108, 100])) fun r5 =>
(bif r5 then
bnd (Ra a0 (wrap64 (a1 + 1)) [59]) fun r6 =>
(bif r6 then
some (⟨6, 0, 0, ⟨0, 0, []⟩, [], []⟩, (wrap64 (a1 + 2)))
else
bnd (Ra a0 a1 ([112, 114, 105, 110, 116])) fun r7 =>
(bif r7 then
bnd (Rp a0 (wrap64 (a1 + 1))) fun r8 =>
some (⟨7, 0, 0, ⟨r8.1.op, r8.1.n, r8.1.args⟩, [], []⟩, r8.2)
else
bnd (Ra a0 a1 ([115, 101, 110, 100])) fun r9 =>
(bif r9 then
bnd (Ru a0 (wrap64 (a1 + 1))) fun r10 =>
(bif (decide (0 ≤ r10)) then
bnd (Rp a0 (wrap64 (a1 + 2))) fun r11 =>
bnd (Ru a0 (wrap64 (a1 + 1))) fun r12 =>
some (⟨4, 0, r12, ⟨r11.1.op, r11.1.n, r11.1.args⟩, [], []⟩, r11.2)
else
bnd (Ra a0 a1 ([114, 101, 99, 118])) fun r13 =>
(bif r13 then
bnd (Ru a0 (wrap64 (a1 + 1))) fun r14 =>
(bif (decide (0 ≤ r14)) then
bnd (Ra a0 (wrap64 (a1 + 3)) [59]) fun r15 =>
(bif r15 then
bnd (geti a0 (wrap64 (a1 + 2))) fun e16 =>
bnd (Rc e16) fun r17 =>
(bif (decide (r17 < 0)) then
some (⟨0, 0, 0, ⟨0, 0, []⟩, [], []⟩, (-1))
else
bnd (Ru a0 (wrap64 (a1 + 1))) fun r18 =>
bnd (geti a0 (wrap64 (a1 + 2))) fun e19 =>
bnd (Rc e19) fun r20 =>
some (⟨5, r20, r18, ⟨0, 0, []⟩, [], []⟩, (wrap64 (a1 + 4))))
else
(bif (decide (a1 < (a0.length : Int))) then
bnd (geti a0 a1) fun e21 =>
bnd (Rc e21) fun r22 =>
(bif (decide (0 ≤ r22)) then
bnd (Ra a0 (wrap64 (a1 + 1)) [61]) fun r23 =>
(bif r23 then
bnd (Rp a0 (wrap64 (a1 + 2))) fun r24 =>
bnd (geti a0 a1) fun e25 =>
bnd (Rc e25) fun r26 =>
some (⟨1, r26, 0, ⟨r24.1.op, r24.1.n, r24.1.args⟩, [], []⟩, r24.2)
else
some (⟨0, 0, 0, ⟨0, 0, []⟩, [], []⟩, (-1)))
else
some (⟨0, 0, 0, ⟨0, 0, []⟩, [], []⟩, (-1)))
else
some (⟨0, 0, 0, ⟨0, 0, []⟩, [], []⟩, (-1))))
else
(bif (decide (a1 < (a0.length : Int))) then
bnd (geti a0 a1) fun e27 =>
bnd (Rc e27) fun r28 =>
(bif (decide (0 ≤ r28)) then
bnd (Ra a0 (wrap64 (a1 + 1)) [61]) fun r29 =>
(bif r29 then
bnd (Rp a0 (wrap64 (a1 + 2))) fun r30 =>
bnd (geti a0 a1) fun e31 =>
bnd (Rc e31) fun r32 =>
some (⟨1, r32, 0, ⟨r30.1.op, r30.1.n, r30.1.args⟩, [], []⟩, r30.2)
else
some (⟨0, 0, 0, ⟨0, 0, []⟩, [], []⟩, (-1)))
else
some (⟨0, 0, 0, ⟨0, 0, []⟩, [], []⟩, (-1)))
else
some (⟨0, 0, 0, ⟨0, 0, []⟩, [], []⟩, (-1))))
else
(bif (decide (a1 < (a0.length : Int))) then
bnd (geti a0 a1) fun e33 =>
bnd (Rc e33) fun r34 =>
(bif (decide (0 ≤ r34)) then
bnd (Ra a0 (wrap64 (a1 + 1)) [61]) fun r35 =>
(bif r35 then
bnd (Rp a0 (wrap64 (a1 + 2))) fun r36 =>
bnd (geti a0 a1) fun e37 =>
bnd (Rc e37) fun r38 =>
some (⟨1, r38, 0, ⟨r36.1.op, r36.1.n, r36.1.args⟩, [], []⟩, r36.2)
else
some (⟨0, 0, 0, ⟨0, 0, []⟩, [], []⟩, (-1)))
else
some (⟨0, 0, 0, ⟨0, 0, []⟩, [], []⟩, (-1)))
else
some (⟨0, 0, 0, ⟨0, 0, []⟩, [], []⟩, (-1)))))
else
bnd (Ra a0 a1 ([114, 101, 99, 118])) fun r39 =>
(bif r39 then
bnd (Ru a0 (wrap64 (a1 + 1))) fun r40 =>
(bif (decide (0 ≤ r40)) then
bnd (Ra a0 (wrap64 (a1 + 3)) [59]) fun r41 =>
(bif r41 then
bnd (geti a0 (wrap64 (a1 + 2))) fun e42 =>
bnd (Rc e42) fun r43 =>
(bif (decide (r43 < 0)) then
some (⟨0, 0, 0, ⟨0, 0, []⟩, [], []⟩, (-1))
else
bnd (Ru a0 (wrap64 (a1 + 1))) fun r44 =>
bnd (geti a0 (wrap64 (a1 + 2))) fun e45 =>
bnd (Rc e45) fun r46 =>
some (⟨5, r46, r44, ⟨0, 0, []⟩, [], []⟩, (wrap64 (a1 + 4))))
else
(bif (decide (a1 < (a0.length : Int))) then
bnd (geti a0 a1) fun e47 =>
bnd (Rc e47) fun r48 =>
(bif (decide (0 ≤ r48)) then
bnd (Ra a0 (wrap64 (a1 + 1)) [61]) fun r49 =>
(bif r49 then
bnd (Rp a0 (wrap64 (a1 + 2))) fun r50 =>
bnd (geti a0 a1) fun e51 =>
bnd (Rc e51) fun r52 =>
some (⟨1, r52, 0, ⟨r50.1.op, r50.1.n, r50.1.args⟩, [], []⟩, r50.2)
else
some (⟨0, 0, 0, ⟨0, 0, []⟩, [], []⟩, (-1)))
else
some (⟨0, 0, 0, ⟨0, 0, []⟩, [], []⟩, (-1)))
else
some (⟨0, 0, 0, ⟨0, 0, []⟩, [], []⟩, (-1))))
else
(bif (decide (a1 < (a0.length : Int))) then
bnd (geti a0 a1) fun e53 =>
bnd (Rc e53) fun r54 =>
(bif (decide (0 ≤ r54)) then
bnd (Ra a0 (wrap64 (a1 + 1)) [61]) fun r55 =>
(bif r55 then
bnd (Rp a0 (wrap64 (a1 + 2))) fun r56 =>
bnd (geti a0 a1) fun e57 =>
bnd (Rc e57) fun r58 =>
some (⟨1, r58, 0, ⟨r56.1.op, r56.1.n, r56.1.args⟩, [], []⟩, r56.2)
else
some (⟨0, 0, 0, ⟨0, 0, []⟩, [], []⟩, (-1)))
else
some (⟨0, 0, 0, ⟨0, 0, []⟩, [], []⟩, (-1)))
else
some (⟨0, 0, 0, ⟨0, 0, []⟩, [], []⟩, (-1))))
else
(bif (decide (a1 < (a0.length : Int))) then
bnd (geti a0 a1) fun e59 =>
bnd (Rc e59) fun r60 =>
(bif (decide (0 ≤ r60)) then
bnd (Ra a0 (wrap64 (a1 + 1)) [61]) fun r61 =>
(bif r61 then
bnd (Rp a0 (wrap64 (a1 + 2))) fun r62 =>
bnd (geti a0 a1) fun e63 =>
bnd (Rc e63) fun r64 =>
some (⟨1, r64, 0, ⟨r62.1.op, r62.1.n, r62.1.args⟩, [], []⟩, r62.2)
else
some (⟨0, 0, 0, ⟨0, 0, []⟩, [], []⟩, (-1)))
else
some (⟨0, 0, 0, ⟨0, 0, []⟩, [], []⟩, (-1)))
else
some (⟨0, 0, 0, ⟨0, 0, []⟩, [], []⟩, (-1)))))))
else
bnd (Ra a0 a1 ([112, 114, 105, 110, 116])) fun r65 =>
(bif r65 then
bnd (Rp a0 (wrap64 (a1 + 1))) fun r66 =>
some (⟨7, 0, 0, ⟨r66.1.op, r66.1.n, r66.1.args⟩, [], []⟩, r66.2)
else
bnd (Ra a0 a1 ([115, 101, 110, 100])) fun r67 =>
(bif r67 then
bnd (Ru a0 (wrap64 (a1 + 1))) fun r68 =>
(bif (decide (0 ≤ r68)) then
bnd (Rp a0 (wrap64 (a1 + 2))) fun r69 =>
bnd (Ru a0 (wrap64 (a1 + 1))) fun r70 =>
some (⟨4, 0, r70, ⟨r69.1.op, r69.1.n, r69.1.args⟩, [], []⟩, r69.2)
else
bnd (Ra a0 a1 ([114, 101, 99, 118])) fun r71 =>
(bif r71 then
bnd (Ru a0 (wrap64 (a1 + 1))) fun r72 =>
(bif (decide (0 ≤ r72)) then
bnd (Ra a0 (wrap64 (a1 + 3)) [59]) fun r73 =>
(bif r73 then
bnd (geti a0 (wrap64 (a1 + 2))) fun e74 =>
bnd (Rc e74) fun r75 =>
(bif (decide (r75 < 0)) then
some (⟨0, 0, 0, ⟨0, 0, []⟩, [], []⟩, (-1))
else
bnd (Ru a0 (wrap64 (a1 + 1))) fun r76 =>
bnd (geti a0 (wrap64 (a1 + 2))) fun e77 =>
bnd (Rc e77) fun r78 =>
some (⟨5, r78, r76, ⟨0, 0, []⟩, [], []⟩, (wrap64 (a1 + 4))))
else
(bif (decide (a1 < (a0.length : Int))) then
bnd (geti a0 a1) fun e79 =>
bnd (Rc e79) fun r80 =>
(bif (decide (0 ≤ r80)) then
bnd (Ra a0 (wrap64 (a1 + 1)) [61]) fun r81 =>
(bif r81 then
bnd (Rp a0 (wrap64 (a1 + 2))) fun r82 =>
bnd (geti a0 a1) fun e83 =>
bnd (Rc e83) fun r84 =>
some (⟨1, r84, 0, ⟨r82.1.op, r82.1.n, r82.1.args⟩, [], []⟩, r82.2)
else
some (⟨0, 0, 0, ⟨0, 0, []⟩, [], []⟩, (-1)))
else
some (⟨0, 0, 0, ⟨0, 0, []⟩, [], []⟩, (-1)))
else
some (⟨0, 0, 0, ⟨0, 0, []⟩, [], []⟩, (-1))))
else
(bif (decide (a1 < (a0.length : Int))) then
bnd (geti a0 a1) fun e85 =>
bnd (Rc e85) fun r86 =>
(bif (decide (0 ≤ r86)) then
bnd (Ra a0 (wrap64 (a1 + 1)) [61]) fun r87 =>
(bif r87 then
bnd (Rp a0 (wrap64 (a1 + 2))) fun r88 =>
bnd (geti a0 a1) fun e89 =>
bnd (Rc e89) fun r90 =>
some (⟨1, r90, 0, ⟨r88.1.op, r88.1.n, r88.1.args⟩, [], []⟩, r88.2)
else
some (⟨0, 0, 0, ⟨0, 0, []⟩, [], []⟩, (-1)))
else
some (⟨0, 0, 0, ⟨0, 0, []⟩, [], []⟩, (-1)))
else
some (⟨0, 0, 0, ⟨0, 0, []⟩, [], []⟩, (-1))))
else
(bif (decide (a1 < (a0.length : Int))) then
bnd (geti a0 a1) fun e91 =>
bnd (Rc e91) fun r92 =>
(bif (decide (0 ≤ r92)) then
bnd (Ra a0 (wrap64 (a1 + 1)) [61]) fun r93 =>
(bif r93 then
bnd (Rp a0 (wrap64 (a1 + 2))) fun r94 =>
bnd (geti a0 a1) fun e95 =>
bnd (Rc e95) fun r96 =>
some (⟨1, r96, 0, ⟨r94.1.op, r94.1.n, r94.1.args⟩, [], []⟩, r94.2)
else
some (⟨0, 0, 0, ⟨0, 0, []⟩, [], []⟩, (-1)))
else
some (⟨0, 0, 0, ⟨0, 0, []⟩, [], []⟩, (-1)))
else
some (⟨0, 0, 0, ⟨0, 0, []⟩, [], []⟩, (-1)))))
else
bnd (Ra a0 a1 ([114, 101, 99, 118])) fun r97 =>
(bif r97 then
bnd (Ru a0 (wrap64 (a1 + 1))) fun r98 =>
(bif (decide (0 ≤ r98)) then
bnd (Ra a0 (wrap64 (a1 + 3)) [59]) fun r99 =>
(bif r99 then
bnd (geti a0 (wrap64 (a1 + 2))) fun e100 =>
bnd (Rc e100) fun r101 =>
(bif (decide (r101 < 0)) then
some (⟨0, 0, 0, ⟨0, 0, []⟩, [], []⟩, (-1))
else
bnd (Ru a0 (wrap64 (a1 + 1))) fun r102 =>
bnd (geti a0 (wrap64 (a1 + 2))) fun e103 =>
bnd (Rc e103) fun r104 =>
some (⟨5, r104, r102, ⟨0, 0, []⟩, [], []⟩, (wrap64 (a1 + 4))))
else
(bif (decide (a1 < (a0.length : Int))) then
bnd (geti a0 a1) fun e105 =>
bnd (Rc e105) fun r106 =>
(bif (decide (0 ≤ r106)) then
bnd (Ra a0 (wrap64 (a1 + 1)) [61]) fun r107 =>
(bif r107 then
bnd (Rp a0 (wrap64 (a1 + 2))) fun r108 =>
bnd (geti a0 a1) fun e109 =>
bnd (Rc e109) fun r110 =>
some (⟨1, r110, 0, ⟨r108.1.op, r108.1.n, r108.1.args⟩, [], []⟩, r108.2)
else
some (⟨0, 0, 0, ⟨0, 0, []⟩, [], []⟩, (-1)))
else
some (⟨0, 0, 0, ⟨0, 0, []⟩, [], []⟩, (-1)))
else
some (⟨0, 0, 0, ⟨0, 0, []⟩, [], []⟩, (-1))))
else
(bif (decide (a1 < (a0.length : Int))) then
bnd (geti a0 a1) fun e111 =>
bnd (Rc e111) fun r112 =>
(bif (decide (0 ≤ r112)) then
bnd (Ra a0 (wrap64 (a1 + 1)) [61]) fun r113 =>
(bif r113 then
bnd (Rp a0 (wrap64 (a1 + 2))) fun r114 =>
bnd (geti a0 a1) fun e115 =>
bnd (Rc e115) fun r116 =>
some (⟨1, r116, 0, ⟨r114.1.op, r114.1.n, r114.1.args⟩, [], []⟩, r114.2)
else
some (⟨0, 0, 0, ⟨0, 0, []⟩, [], []⟩, (-1)))
else
some (⟨0, 0, 0, ⟨0, 0, []⟩, [], []⟩, (-1)))
else
some (⟨0, 0, 0, ⟨0, 0, []⟩, [], []⟩, (-1))))
else
(bif (decide (a1 < (a0.length : Int))) then
bnd (geti a0 a1) fun e117 =>
bnd (Rc e117) fun r118 =>
(bif (decide (0 ≤ r118)) then
bnd (Ra a0 (wrap64 (a1 + 1)) [61]) fun r119 =>
(bif r119 then
bnd (Rp a0 (wrap64 (a1 + 2))) fun r120 =>
bnd (geti a0 a1) fun e121 =>
bnd (Rc e121) fun r122 =>
some (⟨1, r122, 0, ⟨r120.1.op, r120.1.n, r120.1.args⟩, [], []⟩, r120.2)
else
some (⟨0, 0, 0, ⟨0, 0, []⟩, [], []⟩, (-1)))
else
some (⟨0, 0, 0, ⟨0, 0, []⟩, [], []⟩, (-1)))
else
some (⟨0, 0, 0, ⟨0, 0, []⟩, [], []⟩, (-1))))))))) : Option (Stm × Int))
 (Reg a0 a1) := by
 rewrite [← Qzc]
 exact fun r h => fE Rtc p46000 h
theorem Rct (t0 : List (List UInt8)) (t1 : Int) (t6b : Bool) (t6 : List Stm) : Tv.Le
 ((bif (decide (0 ≤ t1)) then
(bif (decide (t1 < (t0.length : Int))) then
bnd (geti t0 t1) fun e1 =>
(bif (!(e1 == [125])) then
bnd (Reg t0 t1) fun r2 =>
bnd (appL t6 ([⟨r2.1.kind, r2.1.var, r2.1.box, ⟨r2.1.e.op, r2.1.e.n, r2.1.e.args⟩, r2.1.body, r2.1.els⟩] : List Stm)) fun l3 =>
Rbl t0 r2.2 true l3
else
some (t0, t1, (t6b, t6)))
else
some (t0, t1, (t6b, t6)))
else
some (t0, t1, (t6b, t6))) : Option (List (List UInt8) × Int × (Bool × List Stm)))
 (Rbl t0 t1 t6b t6) := by
 exact fun r h => lE Rzb p45401 h
theorem Rpv (a0 : List Int) : Tv.Le
 (bnd (Rdt a0 0) fun r1 =>
selm r1 (fun y2 =>
some (decide ((y2.length : Int) ≤ 3))) (fun z3 =>
some z3.2) : Option (Bool))
 (Rjw a0) := by
 exact fun r h => fE Rl p23200 h
theorem Ruw (a0 : Int) (a1 : Int) (a2 : Int) : Tv.Le
 ((bif (decide (a1 ≤ a0)) then
some (decide (a0 ≤ a2))
else
some false) : Option (Bool))
 (Rer a0 a1 a2) := by
 exact fun r h => fE Rl p1600 h
theorem Rna (a0 : List Stm) : Tv.Le
 (bnd (Rab a0 3) fun r1 =>
(bif r1 then
bnd (Rap a0) fun r2 =>
some (decide (r2 ≤ 16))
else
some false) : Option (Bool))
 (Ria a0) := by
 exact fun r h => fE Rl p6300 h
theorem Rpt (a0 : List Stm) (a1 : Int) : Tv.Le
 (bnd (Rck a0 a1 0) fun r1 =>
selm r1 (fun y2 =>
some true) (fun z3 =>
some z3) : Option (Bool))
 (Raa a0 a1) := by
 exact fun r h => fE Rl p23100 h
theorem Rfq (t3 : Int) (b100_0 : List Int) (b100_1 : List (List Stm)) : Tv.Le
 ((bif (decide (t3 < (b100_1.length : Int))) then
bnd (geti b100_1 t3) fun e1 =>
bnd (Ria e1) fun r2 =>
(bif (!r2) then
some (.inr false)
else
bnd (geti b100_1 t3) fun e3 =>
bnd (Raa e3 (b100_0.length : Int)) fun r4 =>
(bif (!r4) then
some (.inr false)
else
Rbr (wrap64 (t3 + 1)) b100_0 b100_1))
else
some (.inl ())) : Option (Unit ⊕ Bool))
 (Rbr t3 b100_0 b100_1) := by
 rewrite [← Qzc]
 exact fun r h => lE Rhj p23301 h
theorem Rhy (t0 : List Int) (t1 : List Int) (t5 : Int) : Tv.Le
 ((bif (decide (t5 < (t0.length : Int))) then
bnd (geti t0 t5) fun e1 =>
bnd (geti t1 t5) fun e2 =>
(bif (!decide (e1 = e2)) then
some (.inr false)
else
Reu t0 t1 (wrap64 (t5 + 1)))
else
some (.inl ())) : Option (Unit ⊕ Bool))
 (Reu t0 t1 t5) := by
 rewrite [← Qzc]
 exact fun r h => lE Rhj p9701 h
theorem Rpm (a0 : Exp) (a1 : Exp) : Tv.Le
 ((bif (!decide (a0.op = a1.op)) then
some false
else
(bif (!decide (a0.n = a1.n)) then
some false
else
(bif (!decide ((a0.args.length : Int) = (a1.args.length : Int))) then
some false
else
bnd (Rdr 0 a0.op a0.n a0.args a1.op a1.n a1.args) fun r1 =>
selm r1 (fun y2 =>
some true) (fun z3 =>
some z3)))) : Option (Bool))
 (Rcq a0 a1) := by
 exact fun r h => fE Rl p9800 h
theorem Rhf (t0 : List Stm) (t1 : List Stm) (t5 : Int) : Tv.Le
 ((bif (decide (t5 < (t0.length : Int))) then
bnd (geti t0 t5) fun e1 =>
bnd (geti t1 t5) fun e2 =>
(bif (!decide (e1.kind = e2.kind)) then
some (.inr false)
else
(bif (!decide (e1.var = e2.var)) then
some (.inr false)
else
(bif (!decide (e1.box = e2.box)) then
some (.inr false)
else
bnd (Rcq (⟨e1.e.op, e1.e.n, e1.e.args⟩ : Exp) (⟨e2.e.op, e2.e.n, e2.e.args⟩ : Exp)) fun r3 =>
(bif (!r3) then
some (.inr false)
else
bnd (Ram e1.body e2.body) fun r4 =>
(bif (!r4) then
some (.inr false)
else
bnd (Ram e1.els e2.els) fun r5 =>
(bif (!r5) then
some (.inr false)
else
Rdh t0 t1 (wrap64 (t5 + 1))))))))
else
some (.inl ())) : Option (Unit ⊕ Bool))
 (Rdh t0 t1 t5) := by
 rewrite [← Qzc]
 exact fun r h => lE Rhj p9901 h
theorem Rmn (a0 : Stm) (a1 : List (List UInt8)) : Tv.Le
 ((bif (decide (a0.kind = 1)) then
bnd (Rgr a0.var) fun r1 =>
bnd (appL a1 ([r1, [61]] : List (List UInt8))) fun l2 =>
bnd (Rx (⟨a0.e.op, a0.e.n, a0.e.args⟩ : Exp) l2) fun r3 =>
bnd (appL r3 ([[59]] : List (List UInt8))) fun l4 =>
some l4
else
(bif (decide (a0.kind = 2)) then
bnd (appL a1 ([[105, 102]] : List (List UInt8))) fun l5 =>
bnd (Rx (⟨a0.e.op, a0.e.n, a0.e.args⟩ : Exp) l5) fun r6 =>
bnd (Ray a0.body r6) fun r7 =>
(bif (decide (0 < (a0.els.length : Int))) then
bnd (appL r7 ([[101, 108, 115, 101]] : List (List UInt8))) fun l8 =>
bnd (Ray a0.els l8) fun r9 =>
some r9
else
some r7)
else
(bif (decide (a0.kind = 3)) then
bnd (appL a1 ([[119, 104, 105, 108, 101]] : List (List UInt8))) fun l10 =>
bnd (Rx (⟨a0.e.op, a0.e.n, a0.e.args⟩ : Exp) l10) fun r11 =>
bnd (Ray a0.body r11) fun r12 =>
some r12
else
(bif (decide (a0.kind = 4)) then
bnd (strconv_Itoa a0.box) fun r13 =>
bnd (appL a1 ([[115, 101, 110, 100], r13] : List (List UInt8))) fun l14 =>
bnd (Rx (⟨a0.e.op, a0.e.n, a0.e.args⟩ : Exp) l14) fun r15 =>
bnd (appL r15 ([[59]] : List (List UInt8))) fun l16 =>
some l16
else
(bif (decide (a0.kind = 5)) then
bnd (strconv_Itoa a0.box) fun r17 =>
bnd (Rgr a0.var) fun r18 =>
bnd (appL a1 ([[114, 101, 99, 118], r17, r18] : List (List UInt8))) fun l19 =>
bnd (appL l19 ([[59]] : List (List UInt8))) fun l20 =>
some l20
else
(bif (decide (a0.kind = 6)) then
bnd (appL a1 ([[121, 105, 101, 108, 100]] : List (List UInt8))) fun l21 =>
bnd (appL l21 ([[59]] : List (List UInt8))) fun l22 =>
some l22
else
(bif (decide (a0.kind = 7)) then
bnd (appL a1 ([[112, 114, 105, 110, 116]] : List (List UInt8))) fun l23 =>
bnd (Rx (⟨a0.e.op, a0.e.n, a0.e.args⟩ : Exp) l23) fun r24 =>
bnd (appL r24 ([[59]] : List (List UInt8))) fun l25 =>
some l25
else
bnd (appL a1 ([[59]] : List (List UInt8))) fun l26 =>
some l26))))))) : Option (List (List UInt8)))
 (Rbx a0 a1) := by
 exact fun r h => fE Rdi p46300 h
theorem Rfy (t1b : Bool) (t1 : List (List UInt8)) (t10 : List Stm) (t11 : Int) (t12 : Int) : Tv.Le
 ((bif (decide (t12 < t11)) then
bnd (geti t10 t12) fun e1 =>
bnd (Rbx (⟨e1.kind, e1.var, e1.box, ⟨e1.e.op, e1.e.n, e1.e.args⟩, e1.body, e1.els⟩ : Stm) t1) fun r2 =>
Rbw true r2 t10 t11 (wrap64 (t12 + 1))
else
some (t1b, t1)) : Option ((Bool × List (List UInt8))))
 (Rbw t1b t1 t10 t11 t12) := by
 rewrite [← Qzc]
 exact fun r h => lE Rze p45801 h
theorem Rmh (a0 : List UInt8) : Tv.Le
 ((bif (!(a0 == [])) then
bnd (Rdq a0) fun r1 =>
some (decide (r1 = (a0.length : Int)))
else
some false) : Option (Bool))
 (Rhs a0) := by
 exact fun r h => fE Rl p36200 h
theorem Rgo (t0 : List (List UInt8)) (t5 : List (List UInt8)) (t6 : Int) (t7 : Int) : Tv.Le
 ((bif (decide (t7 < t6)) then
bnd (geti t5 t7) fun e1 =>
bnd (Rhs e1) fun r2 =>
(bif (!r2) then
some (.inr (t0, []))
else
Rcm t0 t5 t6 (wrap64 (t7 + 1)))
else
some (.inl t0)) : Option (List (List UInt8) ⊕ (List (List UInt8) × List UInt8)))
 (Rcm t0 t5 t6 t7) := by
 rewrite [← Qzc]
 exact fun r h => lE Ryu p36301 h
theorem Rrp (a0 : List (List UInt8)) (a1 : List UInt8) : Tv.Le (if a0.length ≤ Vs.LIM ∧ (Lib.join a0 a1).length ≤ Vs.LIM then some (Lib.join a0 a1) else none : Option (List UInt8)) (strings_Join a0 a1) := fun r h => by
 exact prim_le (F := Tb) (G := GT) (sg := fun _ => Rbg) (g := 37800) (p := p37800) (x := r) (tv := [.sl .share .str a0, .str a1]) (v := .str r) (by kernel_rfl) rfl (join_pf h) rfl
theorem Rgq (t0 : List Int) (t5 : List Int) (t6 : Int) (t7 : Int) : Tv.Le
 ((bif (decide (t7 < t6)) then
bnd (geti t5 t7) fun e1 =>
(bif (decide (e1 < 1)) then
some (.inr (t0, false))
else
(bif (decide (4 < e1)) then
some (.inr (t0, false))
else
Rco t0 t5 t6 (wrap64 (t7 + 1))))
else
some (.inl t0)) : Option (List Int ⊕ (List Int × Bool)))
 (Rco t0 t5 t6 t7) := by
 rewrite [← Qzc]
 exact fun r h => lE Rst p22701 h
theorem Rfo (a0 : List Stm) (a1 : Int) (a2 : Int) (a3 : Int) : Tv.Le
 ((bif (decide (16 < (wrap64 (a3 + (a0.length : Int))))) then
some (false, (wrap64 (a3 + (a0.length : Int))))
else
bnd (Rbn a0 a1 a2 (a0.length : Int) 0 (wrap64 (a3 + (a0.length : Int)))) fun r1 =>
selm r1 (fun y2 =>
some (true, y2)) (fun z3 =>
some (z3.1, z3.2))) : Option (Bool × Int))
 (Rbj a0 a1 a2 a3) := by
 rewrite [← Qzc]
 exact fun r h => fE s5300 p5300 h
theorem Rik (t3b : Bool) (t3 : List Int) (t4 : Int) (t5 : Int) (b0_0 : List Int) (b0_1 : Int) : Tv.Le
 ((bif (decide (t5 < t4)) then
bnd (Rb 5 b0_0 b0_1) fun r1 =>
bnd (geti ([1, 1, 2, 3, 4] : List Int) r1.1) fun e2 =>
bnd (appL t3 ([e2] : List Int)) fun l3 =>
Rex true l3 t4 (wrap64 (t5 + 1)) r1.2.1 r1.2.2
else
some ((t3b, t3), b0_0, b0_1)) : Option ((Bool × List Int) × List Int × Int))
 (Rex t3b t3 t4 t5 b0_0 b0_1) := by
 rewrite [← Qzc]
 exact fun r h => lE Ryh p22301 h
theorem Rpz (a1 : Int) (a2 : Int) (a3 : Int) (a4 : Bool) (a0b : List Int) (a0p : Int) : Tv.Le
 (bnd (Rew a1 a2 a3 a4 true ([] : List Stm) 0 a0b a0p) fun r1 =>
some (r1.1.2, r1.2.1, r1.2.2) : Option (List Stm × List Int × Int))
 (Rcx a1 a2 a3 a4 a0b a0p) := by
 exact fun r h => fE Rtv p4600 h
theorem Rpp (a0 : List Stm) : Tv.Le
 (bnd (Rev a0 0 0) fun r1 =>
some r1 : Option (Int))
 (Rap a0) := by
 exact fun r h => fE Rda p4000 h
theorem Rlx (t5m : Md) (t5 : List Stm) (b0_0 : List Int) (b0_1 : Int) : Tv.Le
 (bnd (Rap t5) fun r1 =>
(bif (decide (16 < r1)) then
bnd (cutL t5 0 (wrap64 ((t5.length : Int) - 1))) fun l2 =>
Rey .share l2 b0_0 b0_1
else
some ((t5m, t5), b0_0, b0_1)) : Option ((Md × List Stm) × List Int × Int))
 (Rey t5m t5 b0_0 b0_1) := by
 rewrite [← Qzc]
 exact fun r h => lE s4701 p4701 h
theorem Rsg (a0 : Int) (a1 : Int) : Tv.Le
 (some (a0, a1, ((.own false), ([] : List Exp))) : Option (Int × Int × (Md × List Exp)))
 (Rbf a0 a1) := by
 exact fun r h => fE s300 p300 h
theorem Rrg (a0 : Stm) : Tv.Le
 ((bif (decide (a0.kind = 1)) then
bnd (Rfg a0.var) fun r1 =>
bnd (Rgu ([r1, [61]] : List (List UInt8)) (⟨a0.e.op, a0.e.n, a0.e.args⟩ : Exp)) fun r2 =>
some r2
else
(bif (decide (a0.kind = 4)) then
bnd (Rdx a0.box) fun r3 =>
bnd (Rgu ([[115, 101, 110, 100], r3] : List (List UInt8)) (⟨a0.e.op, a0.e.n, a0.e.args⟩ : Exp)) fun r4 =>
some r4
else
(bif (decide (a0.kind = 7)) then
bnd (Rgu ([[112, 114, 105, 110, 116]] : List (List UInt8)) (⟨a0.e.op, a0.e.n, a0.e.args⟩ : Exp)) fun r5 =>
some r5
else
(bif (decide (a0.kind = 5)) then
bnd (Rdx a0.box) fun r6 =>
bnd (Rfg a0.var) fun r7 =>
some ([[114, 101, 99, 118], r6, r7, [59]] : List (List UInt8))
else
(bif (decide (a0.kind = 6)) then
some ([[121, 105, 101, 108, 100], [59]] : List (List UInt8))
else
(bif (decide (a0.kind = 3)) then
bnd (Rcv (⟨a0.e.op, a0.e.n, a0.e.args⟩ : Exp)) fun r8 =>
bnd (appL ([[119, 104, 105, 108, 101]] : List (List UInt8)) r8) fun l9 =>
bnd (Rcs a0.body) fun r10 =>
bnd (appL l9 r10) fun l11 =>
some l11
else
bnd (Rcv (⟨a0.e.op, a0.e.n, a0.e.args⟩ : Exp)) fun r12 =>
bnd (appL ([[105, 102]] : List (List UInt8)) r12) fun l13 =>
bnd (Rcs a0.body) fun r14 =>
bnd (appL l13 r14) fun l15 =>
(bif (decide ((a0.els.length : Int) = 0)) then
some l15
else
bnd (appL l15 ([[101, 108, 115, 101]] : List (List UInt8))) fun l16 =>
bnd (Rcs a0.els) fun r17 =>
bnd (appL l16 r17) fun l18 =>
some l18))))))) : Option (List (List UInt8)))
 (Reh a0) := by
 exact fun r h => fE Rdi p46400 h
theorem Rig (t0 : List Stm) (t3b : Bool) (t3 : List (List UInt8)) (t4 : Int) : Tv.Le
 ((bif (decide (t4 < (t0.length : Int))) then
bnd (geti t0 t4) fun e1 =>
bnd (Reh (⟨e1.kind, e1.var, e1.box, ⟨e1.e.op, e1.e.n, e1.e.args⟩, e1.body, e1.els⟩ : Stm)) fun r2 =>
bnd (appL t3 r2) fun l3 =>
Rdu t0 true l3 (wrap64 (t4 + 1))
else
some (t3b, t3)) : Option ((Bool × List (List UInt8))))
 (Rdu t0 t3b t3 t4) := by
 rewrite [← Qzc]
 exact fun r h => lE Rzf p45901 h
theorem Rnb (a0 : List UInt8) : Tv.Le
 ((bif (!(a0 == [])) then
bnd (Rgh a0 0) fun r1 =>
some (decide (r1 = (a0.length : Int)))
else
some false) : Option (Bool))
 (Rib a0) := by
 exact fun r h => fE Rl p34900 h
theorem Ref (t0 : List (List UInt8)) (t3 : List UInt8) (t4 : Int) : Tv.Le
 ((bif (decide (t4 < (t0.length : Int))) then
bnd (geti t0 t4) fun e1 =>
bnd (Rib e1) fun r2 =>
(bif (!r2) then
some (.inr ([], t3))
else
(bif (decide (0 < t4)) then
bnd (catS t3 [32]) fun s3 =>
bnd (geti t0 t4) fun e4 =>
bnd (catS s3 e4) fun s5 =>
Rbo t0 s5 (wrap64 (t4 + 1))
else
bnd (geti t0 t4) fun e6 =>
bnd (catS t3 e6) fun s7 =>
Rbo t0 s7 (wrap64 (t4 + 1))))
else
some (.inl t3)) : Option (List UInt8 ⊕ (List UInt8 × List UInt8)))
 (Rbo t0 t3 t4) := by
 rewrite [← Qzc]
 exact fun r h => lE Rys p35001 h
theorem Rde (t0 : List UInt8) (t5 : Int) (t9 : Int) (t10 : Int) : Tv.Le
 ((bif (decide (t5 < (t0.length : Int))) then
bnd (geti t0 t5) fun c1 =>
bnd (Rgp (c1.toNat : Int)) fun r2 =>
(bif r2 then
Rah t0 (wrap64 (t5 + 1)) t9 t10
else
some (t0, t5, t9, t10))
else
some (t0, t5, t9, t10)) : Option (List UInt8 × Int × Int × Int))
 (Rah t0 t5 t9 t10) := by
 rewrite [← Qzc]
 exact fun r h => lE Ruu p33302 h
theorem Rpl (a0 : Int) : Tv.Le
 ((bif (decide (97 ≤ a0)) then
some (decide (a0 ≤ 122))
else
some false) : Option (Bool))
 (Rjp a0) := by
 exact fun r h => fE Rl p33200 h
theorem Rdf (t0 : List UInt8) (t5 : Int) (t9 : Int) (t10 : Int) : Tv.Le
 ((bif (decide (t5 < (t0.length : Int))) then
bnd (geti t0 t5) fun c1 =>
bnd (Rjp (c1.toNat : Int)) fun r2 =>
(bif r2 then
Rai t0 (wrap64 (t5 + 1)) t9 t10
else
some (t0, t5, t9, t10))
else
some (t0, t5, t9, t10)) : Option (List UInt8 × Int × Int × Int))
 (Rai t0 t5 t9 t10) := by
 rewrite [← Qzc]
 exact fun r h => lE Ruu p33302 h
theorem Rdy (t0 : List UInt8) (t9 : Int) (t10 : Int) : Tv.Le
 ((bif (decide (t10 < t9)) then
(bif (decide (t10 = 0)) then
bnd (Rah t0 0 t9 t10) fun r2 =>
(bif (decide (0 < r2.2.1)) then
some (.inr (r2.1, r2.2.1))
else
Rby r2.1 r2.2.2.1 (wrap64 (r2.2.2.2 + 1)))
else
(bif (decide ((t10 - 1) = 0)) then
bnd (Rai t0 0 t9 t10) fun r3 =>
(bif (decide (0 < r3.2.1)) then
some (.inr (r3.1, r3.2.1))
else
Rby r3.1 r3.2.2.1 (wrap64 (r3.2.2.2 + 1)))
else
none))
else
some (.inl t0)) : Option (List UInt8 ⊕ (List UInt8 × Int)))
 (Rby t0 t9 t10) := by
 rewrite [← Qzc]
 exact fun r h => lE Ryn p33301 h
theorem Rla (a0 a1 : List UInt8) : Tv.Le (some (Lib.hasPrefix a0 a1) : Option (Bool)) (strings_HasPrefix a0 a1) := fun r h => by
 exact prim_le (F := Tb) (G := GT) (sg := fun _ => Rl) (g := 37500) (p := p37500) (x := r) (tv := [.str a0, .str a1]) (v := .bool r) (by kernel_rfl) rfl (prefix_pf h) rfl
theorem Rfz (t0 : List UInt8) (t31m : Md) (t31 : List (List UInt8)) (t32 : Int) (t33 : Int) : Tv.Le
 ((bif (decide (t33 < t32)) then
bnd (geti t31 t33) fun e1 =>
bnd (strings_HasPrefix t0 e1) fun r2 =>
(bif r2 then
some (.inr (t0, 2))
else
Rbz t0 t31m t31 t32 (wrap64 (t33 + 1)))
else
some (.inl t0)) : Option (List UInt8 ⊕ (List UInt8 × Int)))
 (Rbz t0 t31m t31 t32 t33) := by
 rewrite [← Qzc]
 exact fun r h => lE Ryo p33303 h
theorem Rlb (a0 : List UInt8) (a1 : Int) : Tv.Le (some (Lib.indexByte a0 a1.toNat.toUInt8) : Option (Int)) (strings_IndexByte a0 a1) := fun r h => by
 exact prim_le (F := Tb) (G := GT) (sg := fun _ => Rda) (g := 37600) (p := p37600) (x := r) (tv := [.str a0, .int .u8 a1]) (v := .int .i64 r) (by kernel_rfl) rfl (index_pf h) rfl
theorem Rdm (a1 : Int) (a0tokens : List (List UInt8)) (a0at : Int) (a0failed : Bool) : Tv.Le
 (bnd (Ral a0tokens a0at a0failed) fun r1 =>
bnd (Rak a1 r1.2.1 r1.2.2.1 r1.2.2.2 0 0 false [] r1.1.op r1.1.n .share r1.1.args) fun r2 =>
some (⟨r2.2.2.2.2.2.2.1, r2.2.2.2.2.2.2.2.1, r2.2.2.2.2.2.2.2.2.2⟩, r2.1, r2.2.1, r2.2.2.1) : Option (Exp × List (List UInt8) × Int × Bool))
 (Rf a1 a0tokens a0at a0failed) := by
 exact fun r h => fE Rsy p34400 h
theorem Rbs (a0tokens : List (List UInt8)) (a0at : Int) (a0failed : Bool) : Tv.Le
 (bnd (Rci a0tokens a0at a0failed) fun r1 =>
(bif (!decide ((r1.1.length : Int) = 1)) then
some (0, r1.2.1, r1.2.2.1, true)
else
bnd (geti r1.1 0) fun c2 =>
(bif (decide ((c2.toNat : Int) < 97)) then
some (0, r1.2.1, r1.2.2.1, true)
else
bnd (geti r1.1 0) fun c3 =>
(bif (decide (101 ≤ (c3.toNat : Int))) then
some (0, r1.2.1, r1.2.2.1, true)
else
bnd (geti r1.1 0) fun c4 =>
some ((wrap64 ((((c4.toNat : Int) - 97) % 256))), r1.2.1, r1.2.2.1, r1.2.2.2)))) : Option (Int × List (List UInt8) × Int × Bool))
 (Rj a0tokens a0at a0failed) := by
 rewrite [← Qzc]
 exact fun r h => fE Rsx p34000 h
theorem Rjl (t0 : Int) (t3 : List UInt8) (t4 : Int) : Tv.Le
 ((bif (decide (t4 < (t3.length : Int))) then
bnd (geti t3 t4) fun c1 =>
(bif (decide ((c1.toNat : Int) = t0)) then
some (.inr 4)
else
Rbt t0 t3 (wrap64 (t4 + 1)))
else
some (.inl ())) : Option (Unit ⊕ Int))
 (Rbt t0 t3 t4) := by
 rewrite [← Qzc]
 exact fun r h => lE Ryk p31801 h
theorem Rng (a0 : List UInt8) (a1 : Int) : Tv.Le
 (bnd (Rhn a0 a1 a1) fun r1 =>
some r1 : Option (Int))
 (Rjm a0 a1) := by
 exact fun r h => fE Rda p31900 h
theorem Rtx (a0 : List UInt8) : Tv.Le
 ((bif (a0 == ([60, 60])) then
some true
else
(bif (a0 == ([62, 62])) then
some true
else
some (a0 == ([61, 61])))) : Option (Bool))
 (Ron a0) := by
 exact fun r h => fE Rl p32000 h
theorem Rfh (t0 : List UInt8) (t3 : Int) (t4 : Int) : Tv.Le
 ((bif (decide (t4 < (t0.length : Int))) then
bnd (geti t0 t4) fun c1 =>
(bif (decide ((c1.toNat : Int) < 48)) then
some (.inr ((-1), t3))
else
bnd (geti t0 t4) fun c2 =>
(bif (decide (57 < (c2.toNat : Int))) then
some (.inr ((-1), t3))
else
bnd (geti t0 t4) fun c3 =>
Rdv t0 (wrap64 ((wrap64 (10 * t3)) + (wrap64 ((((c3.toNat : Int) - 48) % 256))))) (wrap64 (t4 + 1))))
else
some (.inl t3)) : Option (Int ⊕ (Int × Int)))
 (Rdv t0 t3 t4) := by
 rewrite [← Qzc]
 exact fun r h => lE Ryl p32301 h
theorem Rdj (a0 : List (List UInt8)) (a1 : Int) (a2 : Int) : Tv.Le
 (bnd (Rac a0 a1 1) fun r1 =>
(bif (decide (r1.2 < 0)) then
some (⟨0, 0, 0, ⟨0, 0, []⟩, [], []⟩, (-1))
else
bnd (Rbk a0 r1.2) fun r2 =>
(bif (decide (a2 = 2)) then
bnd (Ra a0 r2.2 ([101, 108, 115, 101])) fun r3 =>
(bif r3 then
bnd (Rbk a0 (wrap64 (r2.2 + 1))) fun r4 =>
some (⟨a2, 0, 0, ⟨r1.1.op, r1.1.n, r1.1.args⟩, r2.1, r4.1⟩, r4.2)
else
some (⟨a2, 0, 0, ⟨r1.1.op, r1.1.n, r1.1.args⟩, r2.1, ([] : List Stm)⟩, r2.2))
else
some (⟨a2, 0, 0, ⟨r1.1.op, r1.1.n, r1.1.args⟩, r2.1, ([] : List Stm)⟩, r2.2))) : Option (Stm × Int))
 (Rao a0 a1 a2) := by
 rewrite [← Qzc]
 exact fun r h => fE Rtc p46500 h
theorem Rre (a0 : List (List UInt8)) (a1 : Int) : Tv.Le
 (bnd (Rac a0 a1 1) fun r1 =>
bnd (Ra a0 r1.2 [59]) fun r2 =>
(bif (!r2) then
some (⟨0, 0, []⟩, (-1))
else
some (⟨r1.1.op, r1.1.n, r1.1.args⟩, (wrap64 (r1.2 + 1)))) : Option (Exp × Int))
 (Rp a0 a1) := by
 rewrite [← Qzc]
 exact fun r h => fE Rmx p46600 h
theorem Rty (a0 : List UInt8) : Tv.Le
 (bnd (Rfu a0 0) fun r1 =>
selm r1 (fun y2 =>
some (-1)) (fun z3 =>
some z3) : Option (Int))
 (Rc a0) := by
 exact fun r h => fE Rda p32500 h
theorem Rif (t0 : List Int) (t3 : Int) : Tv.Le
 ((bif (decide (t3 < (t0.length : Int))) then
bnd (geti t0 t3) fun e1 =>
bnd (Rer e1 1 4) fun r2 =>
(bif (!r2) then
some (.inr (t0, false))
else
Rdt t0 (wrap64 (t3 + 1)))
else
some (.inl t0)) : Option (List Int ⊕ (List Int × Bool)))
 (Rdt t0 t3) := by
 rewrite [← Qzc]
 exact fun r h => lE Rst p23201 h
theorem Rol (a0 : List Stm) (a1 : Int) : Tv.Le
 (bnd (Rel a0 a1 0) fun r1 =>
selm r1 (fun y2 =>
some true) (fun z3 =>
some z3) : Option (Bool))
 (Rab a0 a1) := by
 exact fun r h => fE Rl p6200 h
end Go.TFnSourceFrom