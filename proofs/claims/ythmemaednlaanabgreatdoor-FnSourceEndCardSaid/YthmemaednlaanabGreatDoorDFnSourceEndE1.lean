import Derived.Test.YthmemaednlaanabGreatDoorDFnSourceEndP
import Derived.KernelRfl
set_option linter.unusedVariables false
namespace Go.TFnSourceEnd
open Go Go.RowKit Go.Vs Go.Tv
theorem Rav (t3b : Bool) (t3 : List Stm) (b0_0 : List (List UInt8)) (b0_1 : Int) (b0_2 : Bool) : Tv.Le
 ((bif (!b0_2) then
bnd (Re [125] b0_0 b0_1 b0_2) fun r1 =>
(bif (!r1.1) then
bnd (Rbz r1.2.1 r1.2.2.1 r1.2.2.2) fun r2 =>
bnd (appL t3 ([⟨r2.1.kind, r2.1.var, r2.1.box, ⟨r2.1.e.op, r2.1.e.n, r2.1.e.args⟩, r2.1.body, r2.1.els⟩] : List Stm)) fun l3 =>
Rac true l3 r2.2.1 r2.2.2.1 r2.2.2.2
else
some ((t3b, t3), r1.2.1, r1.2.2.1, r1.2.2.2))
else
some ((t3b, t3), b0_0, b0_1, b0_2)) : Option ((Bool × List Stm) × List (List UInt8) × Int × Bool))
 (Rac t3b t3 b0_0 b0_1 b0_2) := by
 exact fun r h => lE Ryf p45501 h
theorem Rlu (a0 : List Int) : Tv.Le
 (bnd (Rcg a0 a0 (a0.length : Int) 0) fun r1 =>
selm r1 (fun y2 =>
some (decide ((y2.length : Int) ≤ 3))) (fun z3 =>
some z3.2) : Option (Bool))
 (Rhe a0) := by
 exact fun r h => fE Rn p22700 h
theorem Rlv (a0 : List Stm) (a1 : Int) : Tv.Le
 (bnd (Rbe a0 a1 0 0) fun r1 =>
some r1.1 : Option (Bool))
 (Rhf a0 a1) := by
 exact fun r h => fE Rn p5400 h
theorem Rez (t22 : List (List Stm)) (t23 : Int) (t24 : Int) (b100_0 : List Int) (b100_1 : List (List Stm)) : Tv.Le
 ((bif (decide (t24 < t23)) then
bnd (geti t22 t24) fun e1 =>
bnd (Rhf e1 (b100_0.length : Int)) fun r2 =>
(bif (!r2) then
some (.inr false)
else
Rbl t22 t23 (wrap64 (t24 + 1)) b100_0 b100_1)
else
some (.inl ())) : Option (Unit ⊕ Bool))
 (Rbl t22 t23 t24 b100_0 b100_1) := by
 rewrite [← Qyy]
 exact fun r h => lE Rgv p22801 h
theorem Rrb (a0 : Int) : Tv.Le
 ((bif (decide (48 ≤ a0)) then
(bif (decide (a0 ≤ 57)) then
some 1
else
(bif (decide (97 ≤ a0)) then
(bif (decide (a0 ≤ 122)) then
some 2
else
(bif (decide (a0 = 32)) then
some 3
else
(bif (decide (a0 = 10)) then
some 3
else
bnd (Rbo a0 ([43, 45, 42, 47, 37, 38, 124, 94, 60, 62, 40, 41, 123, 125, 61, 59]) 0) fun r1 =>
selm r1 (fun y2 =>
some 0) (fun z3 =>
some z3))))
else
(bif (decide (a0 = 32)) then
some 3
else
(bif (decide (a0 = 10)) then
some 3
else
bnd (Rbo a0 ([43, 45, 42, 47, 37, 38, 124, 94, 60, 62, 40, 41, 123, 125, 61, 59]) 0) fun r4 =>
selm r4 (fun y5 =>
some 0) (fun z6 =>
some z6)))))
else
(bif (decide (97 ≤ a0)) then
(bif (decide (a0 ≤ 122)) then
some 2
else
(bif (decide (a0 = 32)) then
some 3
else
(bif (decide (a0 = 10)) then
some 3
else
bnd (Rbo a0 ([43, 45, 42, 47, 37, 38, 124, 94, 60, 62, 40, 41, 123, 125, 61, 59]) 0) fun r7 =>
selm r7 (fun y8 =>
some 0) (fun z9 =>
some z9))))
else
(bif (decide (a0 = 32)) then
some 3
else
(bif (decide (a0 = 10)) then
some 3
else
bnd (Rbo a0 ([43, 45, 42, 47, 37, 38, 124, 94, 60, 62, 40, 41, 123, 125, 61, 59]) 0) fun r10 =>
selm r10 (fun y11 =>
some 0) (fun z12 =>
some z12))))) : Option (Int))
 (Rfr a0) := by
 exact fun r h => fE Rcs p31800 h
theorem Rgx (a0 : List UInt8) (a1 : Int) : Tv.Le
 (bnd (geti a0 a1) fun c1 =>
bnd (Rfr (c1.toNat : Int)) fun r2 =>
(bif (decide (r2 = 1)) then
bnd (Riv a0 a1) fun r3 =>
some r3
else
(bif (decide (r2 = 2)) then
bnd (Riv a0 a1) fun r4 =>
some r4
else
(bif (!decide (r2 = 4)) then
some (-1)
else
(bif (decide ((wrap64 (a1 + 2)) ≤ (a0.length : Int))) then
bnd (cutL a0 a1 (wrap64 (a1 + 2))) fun s5 =>
bnd (Rnv s5) fun r6 =>
(bif r6 then
some (wrap64 (a1 + 2))
else
bnd (geti a0 a1) fun c7 =>
(bif (decide ((c7.toNat : Int) = 62)) then
some (-1)
else
some (wrap64 (a1 + 1))))
else
bnd (geti a0 a1) fun c8 =>
(bif (decide ((c8.toNat : Int) = 62)) then
some (-1)
else
some (wrap64 (a1 + 1))))))) : Option (Int))
 (Rfq a0 a1) := by
 rewrite [← Qyy]
 exact fun r h => fE Rcs p32100 h
theorem Rdw (t0 : List UInt8) (t4b : Bool) (t4 : List (List UInt8)) (t5 : Int) : Tv.Le
 ((bif (decide (t5 < (t0.length : Int))) then
bnd (geti t0 t5) fun c1 =>
bnd (Rfr (c1.toNat : Int)) fun r2 =>
(bif (decide (r2 = 3)) then
Rak t0 t4b t4 (wrap64 (t5 + 1))
else
bnd (Rfq t0 t5) fun r3 =>
(bif (decide (r3 < 0)) then
some (.inr ((false, ([] : List (List UInt8))), false, (t4b, t4)))
else
bnd (cutL t0 t5 r3) fun s4 =>
bnd (appL t4 ([s4] : List (List UInt8))) fun l5 =>
Rak t0 true l5 r3))
else
some (.inl (t4b, t4))) : Option (((Bool × List (List UInt8))) ⊕ ((Bool × List (List UInt8)) × Bool × (Bool × List (List UInt8)))))
 (Rak t0 t4b t4 t5) := by
 rewrite [← Qyy]
 exact fun r h => lE Rrs p32201 h
theorem Rpb (a0 : List UInt8) : Tv.Le
 (bnd (Red (a0.length : Int) 1 5) fun r1 =>
(bif (!r1) then
some (-1)
else
bnd (Rdi a0 0 0) fun r2 =>
selm r2 (fun y3 =>
some y3) (fun z4 =>
some z4.1)) : Option (Int))
 (Rff a0) := by
 exact fun r h => fE Rcs p32300 h
theorem Rra (a0 : List (List UInt8)) (a1 : Int) : Tv.Le
 (bnd (Ra a0 a1 ([105, 102])) fun r1 =>
(bif r1 then
bnd (Ral a0 (wrap64 (a1 + 1)) 2) fun r2 =>
some (⟨r2.1.kind, r2.1.var, r2.1.box, ⟨r2.1.e.op, r2.1.e.n, r2.1.e.args⟩, r2.1.body, r2.1.els⟩, r2.2)
else
bnd (Ra a0 a1 ([119, 104, 105, 108, 101])) fun r3 =>
(bif r3 then
bnd (Ral a0 (wrap64 (a1 + 1)) 3) fun r4 =>
some (⟨r4.1.kind, r4.1.var, r4.1.box, ⟨r4.1.e.op, r4.1.e.n, r4.1.e.args⟩, r4.1.body, r4.1.els⟩, r4.2)
else
bnd (Ra a0 a1 ([121, 105, 101, 108, 100])) fun r5 =>
(bif r5 then
bnd (Ra a0 (wrap64 (a1 + 1)) [59]) fun r6 =>
(bif r6 then
some (⟨6, 0, 0, ⟨0, 0, []⟩, [], []⟩, (wrap64 (a1 + 2)))
else
bnd (Ra a0 a1 ([112, 114, 105, 110, 116])) fun r7 =>
(bif r7 then
bnd (Rp a0 (wrap64 (a1 + 1))) fun r8 =>
some (⟨7, 0, 0, ⟨r8.1.op, r8.1.n, r8.1.args⟩, [], []⟩, r8.2)
else
bnd (Ra a0 a1 ([115, 101, 110, 100])) fun r9 =>
(bif r9 then
bnd (Rr a0 (wrap64 (a1 + 1))) fun r10 =>
(bif (decide (0 ≤ r10)) then
bnd (Rp a0 (wrap64 (a1 + 2))) fun r11 =>
bnd (Rr a0 (wrap64 (a1 + 1))) fun r12 =>
some (⟨4, 0, r12, ⟨r11.1.op, r11.1.n, r11.1.args⟩, [], []⟩, r11.2)
else
bnd (Ra a0 a1 ([114, 101, 99, 118])) fun r13 =>
(bif r13 then
bnd (Rr a0 (wrap64 (a1 + 1))) fun r14 =>
(bif (decide (0 ≤ r14)) then
bnd (Ra a0 (wrap64 (a1 + 3)) [59]) fun r15 =>
(bif r15 then
bnd (geti a0 (wrap64 (a1 + 2))) fun e16 =>
bnd (Rc e16) fun r17 =>
(bif (decide (r17 < 0)) then
some (⟨0, 0, 0, ⟨0, 0, []⟩, [], []⟩, (-1))
else
bnd (Rr a0 (wrap64 (a1 + 1))) fun r18 =>
bnd (geti a0 (wrap64 (a1 + 2))) fun e19 =>
bnd (Rc e19) fun r20 =>
some (⟨5, r20, r18, ⟨0, 0, []⟩, [], []⟩, (wrap64 (a1 + 4))))
else
(bif (decide (a1 < (a0.length : Int))) then
bnd (geti a0 a1) fun e21 =>
bnd (Rc e21) fun r22 =>
(bif (decide (0 ≤ r22)) then
bnd (Ra a0 (wrap64 (a1 + 1)) [61]) fun r23 =>
(bif r23 then
bnd (Rp a0 (wrap64 (a1 + 2))) fun r24 =>
bnd (geti a0 a1) fun e25 =>
bnd (Rc e25) fun r26 =>
some (⟨1, r26, 0, ⟨r24.1.op, r24.1.n, r24.1.args⟩, [], []⟩, r24.2)
else
some (⟨0, 0, 0, ⟨0, 0, []⟩, [], []⟩, (-1)))
else
some (⟨0, 0, 0, ⟨0, 0, []⟩, [], []⟩, (-1)))
else
some (⟨0, 0, 0, ⟨0, 0, []⟩, [], []⟩, (-1))))
else
(bif (decide (a1 < (a0.length : Int))) then
bnd (geti a0 a1) fun e27 =>
bnd (Rc e27) fun r28 =>
(bif (decide (0 ≤ r28)) then
bnd (Ra a0 (wrap64 (a1 + 1)) [61]) fun r29 =>
(bif r29 then
bnd (Rp a0 (wrap64 (a1 + 2))) fun r30 =>
bnd (geti a0 a1) fun e31 =>
bnd (Rc e31) fun r32 =>
some (⟨1, r32, 0, ⟨r30.1.op, r30.1.n, r30.1.args⟩, [], []⟩, r30.2)
else
some (⟨0, 0, 0, ⟨0, 0, []⟩, [], []⟩, (-1)))
else
some (⟨0, 0, 0, ⟨0, 0, []⟩, [], []⟩, (-1)))
else
some (⟨0, 0, 0, ⟨0, 0, []⟩, [], []⟩, (-1))))
else
(bif (decide (a1 < (a0.length : Int))) then
bnd (geti a0 a1) fun e33 =>
bnd (Rc e33) fun r34 =>
(bif (decide (0 ≤ r34)) then
bnd (Ra a0 (wrap64 (a1 + 1)) [61]) fun r35 =>
(bif r35 then
bnd (Rp a0 (wrap64 (a1 + 2))) fun r36 =>
bnd (geti a0 a1) fun e37 =>
bnd (Rc e37) fun r38 =>
some (⟨1, r38, 0, ⟨r36.1.op, r36.1.n, r36.1.args⟩, [], []⟩, r36.2)
else
some (⟨0, 0, 0, ⟨0, 0, []⟩, [], []⟩, (-1)))
else
some (⟨0, 0, 0, ⟨0, 0, []⟩, [], []⟩, (-1)))
else
some (⟨0, 0, 0, ⟨0, 0, []⟩, [], []⟩, (-1)))))
else
bnd (Ra a0 a1 ([114, 101, 99, 118])) fun r39 =>
(bif r39 then
bnd (Rr a0 (wrap64 (a1 + 1))) fun r40 =>
(bif (decide (0 ≤ r40)) then
bnd (Ra a0 (wrap64 (a1 + 3)) [59]) fun r41 =>
(bif r41 then
bnd (geti a0 (wrap64 (a1 + 2))) fun e42 =>
bnd (Rc e42) fun r43 =>
(bif (decide (r43 < 0)) then
some (⟨0, 0, 0, ⟨0, 0, []⟩, [], []⟩, (-1))
else
bnd (Rr a0 (wrap64 (a1 + 1))) fun r44 =>
bnd (geti a0 (wrap64 (a1 + 2))) fun e45 =>
bnd (Rc e45) fun r46 =>
some (⟨5, r46, r44, ⟨0, 0, []⟩, [], []⟩, (wrap64 (a1 + 4))))
else
(bif (decide (a1 < (a0.length : Int))) then
bnd (geti a0 a1) fun e47 =>
bnd (Rc e47) fun r48 =>
(bif (decide (0 ≤ r48)) then
bnd (Ra a0 (wrap64 (a1 + 1)) [61]) fun r49 =>
(bif r49 then
bnd (Rp a0 (wrap64 (a1 + 2))) fun r50 =>
bnd (geti a0 a1) fun e51 =>
bnd (Rc e51) fun r52 =>
some (⟨1, r52, 0, ⟨r50.1.op, r50.1.n, r50.1.args⟩, [], []⟩, r50.2)
else
some (⟨0, 0, 0, ⟨0, 0, []⟩, [], []⟩, (-1)))
else
some (⟨0, 0, 0, ⟨0, 0, []⟩, [], []⟩, (-1)))
else
some (⟨0, 0, 0, ⟨0, 0, []⟩, [], []⟩, (-1))))
else
(bif (decide (a1 < (a0.length : Int))) then
bnd (geti a0 a1) fun e53 =>
bnd (Rc e53) fun r54 =>
(bif (decide (0 ≤ r54)) then
bnd (Ra a0 (wrap64 (a1 + 1)) [61]) fun r55 =>
(bif r55 then
bnd (Rp a0 (wrap64 (a1 + 2))) fun r56 =>
bnd (geti a0 a1) fun e57 =>
bnd (Rc e57) fun r58 =>
some (⟨1, r58, 0, ⟨r56.1.op, r56.1.n, r56.1.args⟩, [], []⟩, r56.2)
else
some (⟨0, 0, 0, ⟨0, 0, []⟩, [], []⟩, (-1)))
else
some (⟨0, 0, 0, ⟨0, 0, []⟩, [], []⟩, (-1)))
else
some (⟨0, 0, 0, ⟨0, 0, []⟩, [], []⟩, (-1))))
else
(bif (decide (a1 < (a0.length : Int))) then
bnd (geti a0 a1) fun e59 =>
bnd (Rc e59) fun r60 =>
(bif (decide (0 ≤ r60)) then
bnd (Ra a0 (wrap64 (a1 + 1)) [61]) fun r61 =>
(bif r61 then
bnd (Rp a0 (wrap64 (a1 + 2))) fun r62 =>
bnd (geti a0 a1) fun e63 =>
bnd (Rc e63) fun r64 =>
some (⟨1, r64, 0, ⟨r62.1.op, r62.1.n, r62.1.args⟩, [], []⟩, r62.2)
else
some (⟨0, 0, 0, ⟨0, 0, []⟩, [], []⟩, (-1)))
else
some (⟨0, 0, 0, ⟨0, 0, []⟩, [], []⟩, (-1)))
else
some (⟨0, 0, 0, ⟨0, 0, []⟩, [], []⟩, (-1)))))))
else
bnd (Ra a0 a1 ([112, 114, 105, 110, 116])) fun r65 =>
(bif r65 then
bnd (Rp a0 (wrap64 (a1 + 1))) fun r66 =>
some (⟨7, 0, 0, ⟨r66.1.op, r66.1.n, r66.1.args⟩, [], []⟩, r66.2)
else
bnd (Ra a0 a1 ([115, 101, 110, 100])) fun r67 =>
(bif r67 then
bnd (Rr a0 (wrap64 (a1 + 1))) fun r68 =>
(bif (decide (0 ≤ r68)) then
bnd (Rp a0 (wrap64 (a1 + 2))) fun r69 =>
bnd (Rr a0 (wrap64 (a1 + 1))) fun r70 =>
some (⟨4, 0, r70, ⟨r69.1.op, r69.1.n, r69.1.args⟩, [], []⟩, r69.2)
else
bnd (Ra a0 a1 ([114, 101, 99, 118])) fun r71 =>
(bif r71 then
bnd (Rr a0 (wrap64 (a1 + 1))) fun r72 =>
(bif (decide (0 ≤ r72)) then
bnd (Ra a0 (wrap64 (a1 + 3)) [59]) fun r73 =>
(bif r73 then
bnd (geti a0 (wrap64 (a1 + 2))) fun e74 =>
bnd (Rc e74) fun r75 =>
(bif (decide (r75 < 0)) then
some (⟨0, 0, 0, ⟨0, 0, []⟩, [], []⟩, (-1))
else
bnd (Rr a0 (wrap64 (a1 + 1))) fun r76 =>
bnd (geti a0 (wrap64 (a1 + 2))) fun e77 =>
bnd (Rc e77) fun r78 =>
some (⟨5, r78, r76, ⟨0, 0, []⟩, [], []⟩, (wrap64 (a1 + 4))))
else
(bif (decide (a1 < (a0.length : Int))) then
bnd (geti a0 a1) fun e79 =>
bnd (Rc e79) fun r80 =>
(bif (decide (0 ≤ r80)) then
bnd (Ra a0 (wrap64 (a1 + 1)) [61]) fun r81 =>
(bif r81 then
bnd (Rp a0 (wrap64 (a1 + 2))) fun r82 =>
bnd (geti a0 a1) fun e83 =>
bnd (Rc e83) fun r84 =>
some (⟨1, r84, 0, ⟨r82.1.op, r82.1.n, r82.1.args⟩, [], []⟩, r82.2)
else
some (⟨0, 0, 0, ⟨0, 0, []⟩, [], []⟩, (-1)))
else
some (⟨0, 0, 0, ⟨0, 0, []⟩, [], []⟩, (-1)))
else
some (⟨0, 0, 0, ⟨0, 0, []⟩, [], []⟩, (-1))))
else
(bif (decide (a1 < (a0.length : Int))) then
bnd (geti a0 a1) fun e85 =>
bnd (Rc e85) fun r86 =>
(bif (decide (0 ≤ r86)) then
bnd (Ra a0 (wrap64 (a1 + 1)) [61]) fun r87 =>
(bif r87 then
bnd (Rp a0 (wrap64 (a1 + 2))) fun r88 =>
bnd (geti a0 a1) fun e89 =>
bnd (Rc e89) fun r90 =>
some (⟨1, r90, 0, ⟨r88.1.op, r88.1.n, r88.1.args⟩, [], []⟩, r88.2)
else
some (⟨0, 0, 0, ⟨0, 0, []⟩, [], []⟩, (-1)))
else
some (⟨0, 0, 0, ⟨0, 0, []⟩, [], []⟩, (-1)))
else
some (⟨0, 0, 0, ⟨0, 0, []⟩, [], []⟩, (-1))))
else
(bif (decide (a1 < (a0.length : Int))) then
bnd (geti a0 a1) fun e91 =>
bnd (Rc e91) fun r92 =>
(bif (decide (0 ≤ r92)) then
bnd (Ra a0 (wrap64 (a1 + 1)) [61]) fun r93 =>
(bif r93 then
bnd (Rp a0 (wrap64 (a1 + 2))) fun r94 =>
bnd (geti a0 a1) fun e95 =>
bnd (Rc e95) fun r96 =>
some (⟨1, r96, 0, ⟨r94.1.op, r94.1.n, r94.1.args⟩, [], []⟩, r94.2)
else
some (⟨0, 0, 0, ⟨0, 0, []⟩, [], []⟩, (-1)))
else
some (⟨0, 0, 0, ⟨0, 0, []⟩, [], []⟩, (-1)))
else
some (⟨0, 0, 0, ⟨0, 0, []⟩, [], []⟩, (-1)))))
else
bnd (Ra a0 a1 ([114, 101, 99, 118])) fun r97 =>
(bif r97 then
bnd (Rr a0 (wrap64 (a1 + 1))) fun r98 =>
(bif (decide (0 ≤ r98)) then
bnd (Ra a0 (wrap64 (a1 + 3)) [59]) fun r99 =>
(bif r99 then
bnd (geti a0 (wrap64 (a1 + 2))) fun e100 =>
bnd (Rc e100) fun r101 =>
(bif (decide (r101 < 0)) then
some (⟨0, 0, 0, ⟨0, 0, []⟩, [], []⟩, (-1))
else
bnd (Rr a0 (wrap64 (a1 + 1))) fun r102 =>
bnd (geti a0 (wrap64 (a1 + 2))) fun e103 =>
bnd (Rc e103) fun r104 =>
some (⟨5, r104, r102, ⟨0, 0, []⟩, [], []⟩, (wrap64 (a1 + 4))))
else
(bif (decide (a1 < (a0.length : Int))) then
bnd (geti a0 a1) fun e105 =>
bnd (Rc e105) fun r106 =>
(bif (decide (0 ≤ r106)) then
bnd (Ra a0 (wrap64 (a1 + 1)) [61]) fun r107 =>
(bif r107 then
bnd (Rp a0 (wrap64 (a1 + 2))) fun r108 =>
bnd (geti a0 a1) fun e109 =>
bnd (Rc e109) fun r110 =>
some (⟨1, r110, 0, ⟨r108.1.op, r108.1.n, r108.1.args⟩, [], []⟩, r108.2)
else
some (⟨0, 0, 0, ⟨0, 0, []⟩, [], []⟩, (-1)))
else
some (⟨0, 0, 0, ⟨0, 0, []⟩, [], []⟩, (-1)))
else
some (⟨0, 0, 0, ⟨0, 0, []⟩, [], []⟩, (-1))))
else
(bif (decide (a1 < (a0.length : Int))) then
bnd (geti a0 a1) fun e111 =>
bnd (Rc e111) fun r112 =>
(bif (decide (0 ≤ r112)) then
bnd (Ra a0 (wrap64 (a1 + 1)) [61]) fun r113 =>
(bif r113 then
bnd (Rp a0 (wrap64 (a1 + 2))) fun r114 =>
bnd (geti a0 a1) fun e115 =>
bnd (Rc e115) fun r116 =>
some (⟨1, r116, 0, ⟨r114.1.op, r114.1.n, r114.1.args⟩, [], []⟩, r114.2)
else
some (⟨0, 0, 0, ⟨0, 0, []⟩, [], []⟩, (-1)))
else
some (⟨0, 0, 0, ⟨0, 0, []⟩, [], []⟩, (-1)))
else
some (⟨0, 0, 0, ⟨0, 0, []⟩, [], []⟩, (-1))))
else
(bif (decide (a1 < (a0.length : Int))) then
bnd (geti a0 a1) fun e117 =>
bnd (Rc e117) fun r118 =>
(bif (decide (0 ≤ r118)) then
bnd (Ra a0 (wrap64 (a1 + 1)) [61]) fun r119 =>
(bif r119 then
bnd (Rp a0 (wrap64 (a1 + 2))) fun r120 =>
bnd (geti a0 a1) fun e121 =>
bnd (Rc e121) fun r122 =>
some (⟨1, r122, 0, ⟨r120.1.op, r120.1.n, r120.1.args⟩, [], []⟩, r120.2)
else
some (⟨0, 0, 0, ⟨0, 0, []⟩, [], []⟩, (-1)))
else
some (⟨0, 0, 0, ⟨0, 0, []⟩, [], []⟩, (-1)))
else
some (⟨0, 0, 0, ⟨0, 0, []⟩, [], []⟩, (-1))))))))) : Option (Stm × Int))
 (Rds a0 a1) := by
 rewrite [← Qyy]
 exact fun r h => fE Rrx p46000 h
theorem Rck (t0 : List (List UInt8)) (t1 : Int) (t6b : Bool) (t6 : List Stm) : Tv.Le
 ((bif (decide (0 ≤ t1)) then
(bif (decide (t1 < (t0.length : Int))) then
bnd (geti t0 t1) fun e1 =>
(bif (!(e1 == [125])) then
bnd (Rds t0 t1) fun r2 =>
bnd (appL t6 ([⟨r2.1.kind, r2.1.var, r2.1.box, ⟨r2.1.e.op, r2.1.e.n, r2.1.e.args⟩, r2.1.body, r2.1.els⟩] : List Stm)) fun l3 =>
Rbg t0 r2.2 true l3
else
some (t0, t1, (t6b, t6)))
else
some (t0, t1, (t6b, t6)))
else
some (t0, t1, (t6b, t6))) : Option (List (List UInt8) × Int × (Bool × List Stm)))
 (Rbg t0 t1 t6b t6) := by
 exact fun r h => lE Ryd p45401 h
theorem Roz (a0 : List Int) : Tv.Le
 (bnd (Rdg a0 0) fun r1 =>
selm r1 (fun y2 =>
some (decide ((y2.length : Int) ≤ 3))) (fun z3 =>
some z3.2) : Option (Bool))
 (Rjh a0) := by
 exact fun r h => fE Rn p23200 h
theorem Rtt (a0 : Int) (a1 : Int) (a2 : Int) : Tv.Le
 ((bif (decide (a1 ≤ a0)) then
some (decide (a0 ≤ a2))
else
some false) : Option (Bool))
 (Red a0 a1 a2) := by
 exact fun r h => fE Rn p1600 h
theorem Rmi (a0 : List Stm) : Tv.Le
 (bnd (Rx a0 3) fun r1 =>
(bif r1 then
bnd (Ran a0) fun r2 =>
some (decide (r2 ≤ 16))
else
some false) : Option (Bool))
 (Rhl a0) := by
 exact fun r h => fE Rn p6300 h
theorem Rox (a0 : List Stm) (a1 : Int) : Tv.Le
 (bnd (Rcc a0 a1 0) fun r1 =>
selm r1 (fun y2 =>
some true) (fun z3 =>
some z3) : Option (Bool))
 (Rw a0 a1) := by
 exact fun r h => fE Rn p23100 h
theorem Rfd (t3 : Int) (b100_0 : List Int) (b100_1 : List (List Stm)) : Tv.Le
 ((bif (decide (t3 < (b100_1.length : Int))) then
bnd (geti b100_1 t3) fun e1 =>
bnd (Rhl e1) fun r2 =>
(bif (!r2) then
some (.inr false)
else
bnd (geti b100_1 t3) fun e3 =>
bnd (Rw e3 (b100_0.length : Int)) fun r4 =>
(bif (!r4) then
some (.inr false)
else
Rbm (wrap64 (t3 + 1)) b100_0 b100_1))
else
some (.inl ())) : Option (Unit ⊕ Bool))
 (Rbm t3 b100_0 b100_1) := by
 rewrite [← Qyy]
 exact fun r h => lE Rgv p23301 h
theorem Rhi (t0 : List Int) (t1 : List Int) (t5 : Int) : Tv.Le
 ((bif (decide (t5 < (t0.length : Int))) then
bnd (geti t0 t5) fun e1 =>
bnd (geti t1 t5) fun e2 =>
(bif (!decide (e1 = e2)) then
some (.inr false)
else
Ref t0 t1 (wrap64 (t5 + 1)))
else
some (.inl ())) : Option (Unit ⊕ Bool))
 (Ref t0 t1 t5) := by
 rewrite [← Qyy]
 exact fun r h => lE Rgv p9701 h
theorem Roq (a0 : Exp) (a1 : Exp) : Tv.Le
 ((bif (!decide (a0.op = a1.op)) then
some false
else
(bif (!decide (a0.n = a1.n)) then
some false
else
(bif (!decide ((a0.args.length : Int) = (a1.args.length : Int))) then
some false
else
bnd (Rde 0 a0.op a0.n a0.args a1.op a1.n a1.args) fun r1 =>
selm r1 (fun y2 =>
some true) (fun z3 =>
some z3)))) : Option (Bool))
 (Rch a0 a1) := by
 exact fun r h => fE Rn p9800 h
theorem Rgr (t0 : List Stm) (t1 : List Stm) (t5 : Int) : Tv.Le
 ((bif (decide (t5 < (t0.length : Int))) then
bnd (geti t0 t5) fun e1 =>
bnd (geti t1 t5) fun e2 =>
(bif (!decide (e1.kind = e2.kind)) then
some (.inr false)
else
(bif (!decide (e1.var = e2.var)) then
some (.inr false)
else
(bif (!decide (e1.box = e2.box)) then
some (.inr false)
else
bnd (Rch (⟨e1.e.op, e1.e.n, e1.e.args⟩ : Exp) (⟨e2.e.op, e2.e.n, e2.e.args⟩ : Exp)) fun r3 =>
(bif (!r3) then
some (.inr false)
else
bnd (Raj e1.body e2.body) fun r4 =>
(bif (!r4) then
some (.inr false)
else
bnd (Raj e1.els e2.els) fun r5 =>
(bif (!r5) then
some (.inr false)
else
Rcy t0 t1 (wrap64 (t5 + 1))))))))
else
some (.inl ())) : Option (Unit ⊕ Bool))
 (Rcy t0 t1 t5) := by
 rewrite [← Qyy]
 exact fun r h => lE Rgv p9901 h
theorem Rcv (t0 : List UInt8) (t5 : Int) (t9 : Int) (t10 : Int) : Tv.Le
 ((bif (decide (t5 < (t0.length : Int))) then
bnd (geti t0 t5) fun c1 =>
bnd (Rfy (c1.toNat : Int)) fun r2 =>
(bif r2 then
Rae t0 (wrap64 (t5 + 1)) t9 t10
else
some (t0, t5, t9, t10))
else
some (t0, t5, t9, t10)) : Option (List UInt8 × Int × Int × Int))
 (Rae t0 t5 t9 t10) := by
 rewrite [← Qyy]
 exact fun r h => lE Rtp p33302 h
theorem Rop (a0 : Int) : Tv.Le
 ((bif (decide (97 ≤ a0)) then
some (decide (a0 ≤ 122))
else
some false) : Option (Bool))
 (Riy a0) := by
 exact fun r h => fE Rn p33200 h
theorem Rcw (t0 : List UInt8) (t5 : Int) (t9 : Int) (t10 : Int) : Tv.Le
 ((bif (decide (t5 < (t0.length : Int))) then
bnd (geti t0 t5) fun c1 =>
bnd (Riy (c1.toNat : Int)) fun r2 =>
(bif r2 then
Raf t0 (wrap64 (t5 + 1)) t9 t10
else
some (t0, t5, t9, t10))
else
some (t0, t5, t9, t10)) : Option (List UInt8 × Int × Int × Int))
 (Raf t0 t5 t9 t10) := by
 rewrite [← Qyy]
 exact fun r h => lE Rtp p33302 h
theorem Rdl (t0 : List UInt8) (t9 : Int) (t10 : Int) : Tv.Le
 ((bif (decide (t10 < t9)) then
(bif (decide (t10 = 0)) then
bnd (Rae t0 0 t9 t10) fun r2 =>
(bif (decide (0 < r2.2.1)) then
some (.inr (r2.1, r2.2.1))
else
Rbq r2.1 r2.2.2.1 (wrap64 (r2.2.2.2 + 1)))
else
(bif (decide ((t10 - 1) = 0)) then
bnd (Raf t0 0 t9 t10) fun r3 =>
(bif (decide (0 < r3.2.1)) then
some (.inr (r3.1, r3.2.1))
else
Rbq r3.1 r3.2.2.1 (wrap64 (r3.2.2.2 + 1)))
else
none))
else
some (.inl t0)) : Option (List UInt8 ⊕ (List UInt8 × Int)))
 (Rbq t0 t9 t10) := by
 rewrite [← Qyy]
 exact fun r h => lE Rxn p33301 h
theorem Rkp (a0 a1 : List UInt8) : Tv.Le (some (Lib.hasPrefix a0 a1) : Option (Bool)) (strings_HasPrefix a0 a1) := fun r h => by
 exact prim_le (F := Tb) (G := GT) (sg := fun _ => Rn) (g := 37500) (p := p37500) (x := r) (tv := [.str a0, .str a1]) (v := .bool r) (by kernel_rfl) rfl (prefix_pf h) rfl
theorem Rfi (t0 : List UInt8) (t31m : Md) (t31 : List (List UInt8)) (t32 : Int) (t33 : Int) : Tv.Le
 ((bif (decide (t33 < t32)) then
bnd (geti t31 t33) fun e1 =>
bnd (strings_HasPrefix t0 e1) fun r2 =>
(bif r2 then
some (.inr (t0, 2))
else
Rbr t0 t31m t31 t32 (wrap64 (t33 + 1)))
else
some (.inl t0)) : Option (List UInt8 ⊕ (List UInt8 × Int)))
 (Rbr t0 t31m t31 t32 t33) := by
 rewrite [← Qyy]
 exact fun r h => lE Rxo p33303 h
theorem Rkq (a0 : List UInt8) (a1 : Int) : Tv.Le (some (Lib.indexByte a0 a1.toNat.toUInt8) : Option (Int)) (strings_IndexByte a0 a1) := fun r h => by
 exact prim_le (F := Tb) (G := GT) (sg := fun _ => Rcs) (g := 37600) (p := p37600) (x := r) (tv := [.str a0, .int .u8 a1]) (v := .int .i64 r) (by kernel_rfl) rfl (index_pf h) rfl
theorem Rhv (t3b : Bool) (t3 : List Int) (t4 : Int) (t5 : Int) (b0_0 : List Int) (b0_1 : Int) : Tv.Le
 ((bif (decide (t5 < t4)) then
bnd (Rb 5 b0_0 b0_1) fun r1 =>
bnd (geti ([1, 1, 2, 3, 4] : List Int) r1.1) fun e2 =>
bnd (appL t3 ([e2] : List Int)) fun l3 =>
Rei true l3 t4 (wrap64 (t5 + 1)) r1.2.1 r1.2.2
else
some ((t3b, t3), b0_0, b0_1)) : Option ((Bool × List Int) × List Int × Int))
 (Rei t3b t3 t4 t5 b0_0 b0_1) := by
 rewrite [← Qyy]
 exact fun r h => lE Rxh p22301 h
theorem Rpd (a1 : Int) (a2 : Int) (a3 : Int) (a4 : Bool) (a0b : List Int) (a0p : Int) : Tv.Le
 (bnd (Reh a1 a2 a3 a4 true ([] : List Stm) 0 a0b a0p) fun r1 =>
some (r1.1.2, r1.2.1, r1.2.2) : Option (List Stm × List Int × Int))
 (Rco a1 a2 a3 a4 a0b a0p) := by
 exact fun r h => fE Rsu p4600 h
theorem Rot (a0 : List Stm) : Tv.Le
 (bnd (Reg a0 0 0) fun r1 =>
some r1 : Option (Int))
 (Ran a0) := by
 exact fun r h => fE Rcs p4000 h
theorem Rlh (t5m : Md) (t5 : List Stm) (b0_0 : List Int) (b0_1 : Int) : Tv.Le
 (bnd (Ran t5) fun r1 =>
(bif (decide (16 < r1)) then
bnd (cutL t5 0 (wrap64 ((t5.length : Int) - 1))) fun l2 =>
Rej .share l2 b0_0 b0_1
else
some ((t5m, t5), b0_0, b0_1)) : Option ((Md × List Stm) × List Int × Int))
 (Rej t5m t5 b0_0 b0_1) := by
 rewrite [← Qyy]
 exact fun r h => lE s4701 p4701 h
theorem Rrd (a0 : Int) (a1 : Int) : Tv.Le
 (some (a0, a1, ((.own false), ([] : List Exp))) : Option (Int × Int × (Md × List Exp)))
 (Rbb a0 a1) := by
 exact fun r h => fE s300 p300 h
theorem Rqh (a0 : Stm) : Tv.Le
 ((bif (decide (a0.kind = 1)) then
bnd (Res a0.var) fun r1 =>
bnd (Rgd ([r1, [61]] : List (List UInt8)) (⟨a0.e.op, a0.e.n, a0.e.args⟩ : Exp)) fun r2 =>
some r2
else
(bif (decide (a0.kind = 4)) then
bnd (Rdj a0.box) fun r3 =>
bnd (Rgd ([[115, 101, 110, 100], r3] : List (List UInt8)) (⟨a0.e.op, a0.e.n, a0.e.args⟩ : Exp)) fun r4 =>
some r4
else
(bif (decide (a0.kind = 7)) then
bnd (Rgd ([[112, 114, 105, 110, 116]] : List (List UInt8)) (⟨a0.e.op, a0.e.n, a0.e.args⟩ : Exp)) fun r5 =>
some r5
else
(bif (decide (a0.kind = 5)) then
bnd (Rdj a0.box) fun r6 =>
bnd (Res a0.var) fun r7 =>
some ([[114, 101, 99, 118], r6, r7, [59]] : List (List UInt8))
else
(bif (decide (a0.kind = 6)) then
some ([[121, 105, 101, 108, 100], [59]] : List (List UInt8))
else
(bif (decide (a0.kind = 3)) then
bnd (Rcm (⟨a0.e.op, a0.e.n, a0.e.args⟩ : Exp)) fun r8 =>
bnd (appL ([[119, 104, 105, 108, 101]] : List (List UInt8)) r8) fun l9 =>
bnd (Rcj a0.body) fun r10 =>
bnd (appL l9 r10) fun l11 =>
some l11
else
bnd (Rcm (⟨a0.e.op, a0.e.n, a0.e.args⟩ : Exp)) fun r12 =>
bnd (appL ([[105, 102]] : List (List UInt8)) r12) fun l13 =>
bnd (Rcj a0.body) fun r14 =>
bnd (appL l13 r14) fun l15 =>
(bif (decide ((a0.els.length : Int) = 0)) then
some l15
else
bnd (appL l15 ([[101, 108, 115, 101]] : List (List UInt8))) fun l16 =>
bnd (Rcj a0.els) fun r17 =>
bnd (appL l16 r17) fun l18 =>
some l18))))))) : Option (List (List UInt8)))
 (Rdt a0) := by
 exact fun r h => fE Rhj p46400 h
theorem Rhr (t0 : List Stm) (t3b : Bool) (t3 : List (List UInt8)) (t4 : Int) : Tv.Le
 ((bif (decide (t4 < (t0.length : Int))) then
bnd (geti t0 t4) fun e1 =>
bnd (Rdt (⟨e1.kind, e1.var, e1.box, ⟨e1.e.op, e1.e.n, e1.e.args⟩, e1.body, e1.els⟩ : Stm)) fun r2 =>
bnd (appL t3 r2) fun l3 =>
Rdh t0 true l3 (wrap64 (t4 + 1))
else
some (t3b, t3)) : Option ((Bool × List (List UInt8))))
 (Rdh t0 t3b t3 t4) := by
 rewrite [← Qyy]
 exact fun r h => lE Ryg p45901 h
theorem Rmj (a0 : List UInt8) : Tv.Le
 ((bif (!(a0 == [])) then
bnd (Rfq a0 0) fun r1 =>
some (decide (r1 = (a0.length : Int)))
else
some false) : Option (Bool))
 (Rhm a0) := by
 exact fun r h => fE Rn p34900 h
theorem Rdr (t0 : List (List UInt8)) (t3 : List UInt8) (t4 : Int) : Tv.Le
 ((bif (decide (t4 < (t0.length : Int))) then
bnd (geti t0 t4) fun e1 =>
bnd (Rhm e1) fun r2 =>
(bif (!r2) then
some (.inr ([], t3))
else
(bif (decide (0 < t4)) then
bnd (catS t3 [32]) fun s3 =>
bnd (geti t0 t4) fun e4 =>
bnd (catS s3 e4) fun s5 =>
Rbj t0 s5 (wrap64 (t4 + 1))
else
bnd (geti t0 t4) fun e6 =>
bnd (catS t3 e6) fun s7 =>
Rbj t0 s7 (wrap64 (t4 + 1))))
else
some (.inl t3)) : Option (List UInt8 ⊕ (List UInt8 × List UInt8)))
 (Rbj t0 t3 t4) := by
 rewrite [← Qyy]
 exact fun r h => lE Rxs p35001 h
theorem Rdb (a1 : Int) (a0tokens : List (List UInt8)) (a0at : Int) (a0failed : Bool) : Tv.Le
 (bnd (Rai a0tokens a0at a0failed) fun r1 =>
bnd (Rah a1 r1.2.1 r1.2.2.1 r1.2.2.2 0 0 false [] r1.1.op r1.1.n .share r1.1.args) fun r2 =>
some (⟨r2.2.2.2.2.2.2.1, r2.2.2.2.2.2.2.2.1, r2.2.2.2.2.2.2.2.2.2⟩, r2.1, r2.2.1, r2.2.2.1) : Option (Exp × List (List UInt8) × Int × Bool))
 (Rf a1 a0tokens a0at a0failed) := by
 exact fun r h => fE Rrv p34400 h
theorem Rbn (a0tokens : List (List UInt8)) (a0at : Int) (a0failed : Bool) : Tv.Le
 (bnd (Rca a0tokens a0at a0failed) fun r1 =>
(bif (!decide ((r1.1.length : Int) = 1)) then
some (0, r1.2.1, r1.2.2.1, true)
else
bnd (geti r1.1 0) fun c2 =>
(bif (decide ((c2.toNat : Int) < 97)) then
some (0, r1.2.1, r1.2.2.1, true)
else
bnd (geti r1.1 0) fun c3 =>
(bif (decide (101 ≤ (c3.toNat : Int))) then
some (0, r1.2.1, r1.2.2.1, true)
else
bnd (geti r1.1 0) fun c4 =>
some ((wrap64 ((((c4.toNat : Int) - 97) % 256))), r1.2.1, r1.2.2.1, r1.2.2.2)))) : Option (Int × List (List UInt8) × Int × Bool))
 (Rk a0tokens a0at a0failed) := by
 rewrite [← Qyy]
 exact fun r h => fE Rru p34000 h
theorem Rfz (t0 : List Int) (t5 : List Int) (t6 : Int) (t7 : Int) : Tv.Le
 ((bif (decide (t7 < t6)) then
bnd (geti t5 t7) fun e1 =>
(bif (decide (e1 < 1)) then
some (.inr (t0, false))
else
(bif (decide (4 < e1)) then
some (.inr (t0, false))
else
Rcg t0 t5 t6 (wrap64 (t7 + 1))))
else
some (.inl t0)) : Option (List Int ⊕ (List Int × Bool)))
 (Rcg t0 t5 t6 t7) := by
 rewrite [← Qyy]
 exact fun r h => lE Rrq p22701 h
theorem Rfb (a0 : List Stm) (a1 : Int) (a2 : Int) (a3 : Int) : Tv.Le
 ((bif (decide (16 < (wrap64 (a3 + (a0.length : Int))))) then
some (false, (wrap64 (a3 + (a0.length : Int))))
else
bnd (Rbi a0 a1 a2 (a0.length : Int) 0 (wrap64 (a3 + (a0.length : Int)))) fun r1 =>
selm r1 (fun y2 =>
some (true, y2)) (fun z3 =>
some (z3.1, z3.2))) : Option (Bool × Int))
 (Rbe a0 a1 a2 a3) := by
 rewrite [← Qyy]
 exact fun r h => fE s5300 p5300 h
theorem Riu (t0 : Int) (t3 : List UInt8) (t4 : Int) : Tv.Le
 ((bif (decide (t4 < (t3.length : Int))) then
bnd (geti t3 t4) fun c1 =>
(bif (decide ((c1.toNat : Int) = t0)) then
some (.inr 4)
else
Rbo t0 t3 (wrap64 (t4 + 1)))
else
some (.inl ())) : Option (Unit ⊕ Int))
 (Rbo t0 t3 t4) := by
 rewrite [← Qyy]
 exact fun r h => lE Rxk p31801 h
theorem Rmo (a0 : List UInt8) (a1 : Int) : Tv.Le
 (bnd (Rgy a0 a1 a1) fun r1 =>
some r1 : Option (Int))
 (Riv a0 a1) := by
 exact fun r h => fE Rcs p31900 h
theorem Rsv (a0 : List UInt8) : Tv.Le
 ((bif (a0 == ([60, 60])) then
some true
else
(bif (a0 == ([62, 62])) then
some true
else
some (a0 == ([61, 61])))) : Option (Bool))
 (Rnv a0) := by
 exact fun r h => fE Rn p32000 h
theorem Ret (t0 : List UInt8) (t3 : Int) (t4 : Int) : Tv.Le
 ((bif (decide (t4 < (t0.length : Int))) then
bnd (geti t0 t4) fun c1 =>
(bif (decide ((c1.toNat : Int) < 48)) then
some (.inr ((-1), t3))
else
bnd (geti t0 t4) fun c2 =>
(bif (decide (57 < (c2.toNat : Int))) then
some (.inr ((-1), t3))
else
bnd (geti t0 t4) fun c3 =>
Rdi t0 (wrap64 ((wrap64 (10 * t3)) + (wrap64 ((((c3.toNat : Int) - 48) % 256))))) (wrap64 (t4 + 1))))
else
some (.inl t3)) : Option (Int ⊕ (Int × Int)))
 (Rdi t0 t3 t4) := by
 rewrite [← Qyy]
 exact fun r h => lE Rxl p32301 h
theorem Rcz (a0 : List (List UInt8)) (a1 : Int) (a2 : Int) : Tv.Le
 (bnd (Ry a0 a1 1) fun r1 =>
(bif (decide (r1.2 < 0)) then
some (⟨0, 0, 0, ⟨0, 0, []⟩, [], []⟩, (-1))
else
bnd (Rbf a0 r1.2) fun r2 =>
(bif (decide (a2 = 2)) then
bnd (Ra a0 r2.2 ([101, 108, 115, 101])) fun r3 =>
(bif r3 then
bnd (Rbf a0 (wrap64 (r2.2 + 1))) fun r4 =>
some (⟨a2, 0, 0, ⟨r1.1.op, r1.1.n, r1.1.args⟩, r2.1, r4.1⟩, r4.2)
else
some (⟨a2, 0, 0, ⟨r1.1.op, r1.1.n, r1.1.args⟩, r2.1, ([] : List Stm)⟩, r2.2))
else
some (⟨a2, 0, 0, ⟨r1.1.op, r1.1.n, r1.1.args⟩, r2.1, ([] : List Stm)⟩, r2.2))) : Option (Stm × Int))
 (Ral a0 a1 a2) := by
 rewrite [← Qyy]
 exact fun r h => fE Rrx p46500 h
theorem Rqf (a0 : List (List UInt8)) (a1 : Int) : Tv.Le
 (bnd (Ry a0 a1 1) fun r1 =>
bnd (Ra a0 r1.2 [59]) fun r2 =>
(bif (!r2) then
some (⟨0, 0, []⟩, (-1))
else
some (⟨r1.1.op, r1.1.n, r1.1.args⟩, (wrap64 (r1.2 + 1)))) : Option (Exp × Int))
 (Rp a0 a1) := by
 rewrite [← Qyy]
 exact fun r h => fE Rmf p46600 h
theorem Rsw (a0 : List UInt8) : Tv.Le
 (bnd (Rfh a0 0) fun r1 =>
selm r1 (fun y2 =>
some (-1)) (fun z3 =>
some z3) : Option (Int))
 (Rc a0) := by
 exact fun r h => fE Rcs p32500 h
theorem Rhq (t0 : List Int) (t3 : Int) : Tv.Le
 ((bif (decide (t3 < (t0.length : Int))) then
bnd (geti t0 t3) fun e1 =>
bnd (Red e1 1 4) fun r2 =>
(bif (!r2) then
some (.inr (t0, false))
else
Rdg t0 (wrap64 (t3 + 1)))
else
some (.inl t0)) : Option (List Int ⊕ (List Int × Bool)))
 (Rdg t0 t3) := by
 rewrite [← Qyy]
 exact fun r h => lE Rrq p23201 h
theorem Rnt (a0 : List Stm) (a1 : Int) : Tv.Le
 (bnd (Rdx a0 a1 0) fun r1 =>
selm r1 (fun y2 =>
some true) (fun z3 =>
some z3) : Option (Bool))
 (Rx a0 a1) := by
 exact fun r h => fE Rn p6200 h
theorem Rhp (t0 : List Stm) (t1 : Int) (t5 : Int) : Tv.Le
 ((bif (decide (t5 < (t0.length : Int))) then
bnd (geti t0 t5) fun e1 =>
(bif (decide (e1.kind = 4)) then
(bif (decide (t1 ≤ e1.box)) then
some (.inr false)
else
bnd (Rw e1.body t1) fun r2 =>
(bif (!r2) then
some (.inr false)
else
bnd (Rw e1.els t1) fun r3 =>
(bif (!r3) then
some (.inr false)
else
Rcc t0 t1 (wrap64 (t5 + 1)))))
else
(bif (decide (e1.kind = 5)) then
(bif (decide (t1 ≤ e1.box)) then
some (.inr false)
else
bnd (Rw e1.body t1) fun r4 =>
(bif (!r4) then
some (.inr false)
else
bnd (Rw e1.els t1) fun r5 =>
(bif (!r5) then
some (.inr false)
else
Rcc t0 t1 (wrap64 (t5 + 1)))))
else
bnd (Rw e1.body t1) fun r6 =>
(bif (!r6) then
some (.inr false)
else
bnd (Rw e1.els t1) fun r7 =>
(bif (!r7) then
some (.inr false)
else
Rcc t0 t1 (wrap64 (t5 + 1))))))
else
some (.inl ())) : Option (Unit ⊕ Bool))
 (Rcc t0 t1 t5) := by
 rewrite [← Qyy]
 exact fun r h => lE Rgv p23101 h
end Go.TFnSourceEnd