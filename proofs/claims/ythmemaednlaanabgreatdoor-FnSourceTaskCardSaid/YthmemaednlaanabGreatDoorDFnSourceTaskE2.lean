import Derived.Test.YthmemaednlaanabGreatDoorDFnSourceTaskP
import Derived.KernelRfl
set_option linter.unusedVariables false
namespace Go.TFnSourceTask
open Go Go.RowKit Go.Vs Go.Tv
theorem Rhb (t5 : Int) (b100_0 : Int) (b100_1 : Int) (b100_2 : List Exp) (b101_0 : Int) (b101_1 : Int) (b101_2 : List Exp) : Tv.Le
 ((bif (decide (t5 < (b100_2.length : Int))) then
bnd (geti b100_2 t5) fun e1 =>
bnd (geti b101_2 t5) fun e2 =>
bnd (Rcg (⟨e1.op, e1.n, e1.args⟩ : Exp) (⟨e2.op, e2.n, e2.args⟩ : Exp)) fun r3 =>
(bif (!r3) then
some (.inr false)
else
Rdb (wrap64 (t5 + 1)) b100_0 b100_1 b100_2 b101_0 b101_1 b101_2)
else
some (.inl ())) : Option (Unit ⊕ Bool))
 (Rdb t5 b100_0 b100_1 b100_2 b101_0 b101_1 b101_2) := by
 rewrite [← Qyy]
 exact fun r h => lE Rgt p9801 h
theorem Rqb (a1 : Int) (a2 : Int) (a3 : Bool) (a0b : List Int) (a0p : Int) : Tv.Le
 (bnd (Rb 10 a0b a0p) fun r1 =>
(bif (decide (r1.1 = 0)) then
bnd (Rhq r1.2.1 r1.2.2) fun r2 =>
some (([⟨r2.1.kind, r2.1.var, r2.1.box, ⟨r2.1.e.op, r2.1.e.n, r2.1.e.args⟩, r2.1.body, r2.1.els⟩] : List Stm), r2.2.1, r2.2.2)
else
(bif (decide (r1.1 = 1)) then
bnd (Rhq r1.2.1 r1.2.2) fun r3 =>
some (([⟨r3.1.kind, r3.1.var, r3.1.box, ⟨r3.1.e.op, r3.1.e.n, r3.1.e.args⟩, r3.1.body, r3.1.els⟩] : List Stm), r3.2.1, r3.2.2)
else
(bif (decide (r1.1 = 2)) then
(bif (decide (0 < a2)) then
bnd (Rnp a1 a2 a3 r1.2.1 r1.2.2) fun r4 =>
some (([⟨r4.1.kind, r4.1.var, r4.1.box, ⟨r4.1.e.op, r4.1.e.n, r4.1.e.args⟩, r4.1.body, r4.1.els⟩] : List Stm), r4.2.1, r4.2.2)
else
bnd (Rb 3 r1.2.1 r1.2.2) fun r5 =>
bnd (Rap (wrap64 (1 + r5.1)) r5.2.1 r5.2.2) fun r6 =>
some (([⟨7, 0, 0, ⟨r6.1, r6.2.1, r6.2.2.1.2⟩, [], []⟩] : List Stm), r6.2.2.2.1, r6.2.2.2.2))
else
(bif (decide (r1.1 = 3)) then
(bif (decide (0 < a2)) then
(bif a3 then
bnd (Rjx a1 a2 r1.2.1 r1.2.2) fun r7 =>
some (r7.1, r7.2.1, r7.2.2)
else
bnd (Rb 3 r1.2.1 r1.2.2) fun r8 =>
bnd (Rap (wrap64 (1 + r8.1)) r8.2.1 r8.2.2) fun r9 =>
some (([⟨7, 0, 0, ⟨r9.1, r9.2.1, r9.2.2.1.2⟩, [], []⟩] : List Stm), r9.2.2.2.1, r9.2.2.2.2))
else
bnd (Rb 3 r1.2.1 r1.2.2) fun r10 =>
bnd (Rap (wrap64 (1 + r10.1)) r10.2.1 r10.2.2) fun r11 =>
some (([⟨7, 0, 0, ⟨r11.1, r11.2.1, r11.2.2.1.2⟩, [], []⟩] : List Stm), r11.2.2.2.1, r11.2.2.2.2))
else
(bif (decide (r1.1 = 4)) then
bnd (Rge a1 r1.2.1 r1.2.2) fun r12 =>
some (([⟨r12.1.kind, r12.1.var, r12.1.box, ⟨r12.1.e.op, r12.1.e.n, r12.1.e.args⟩, r12.1.body, r12.1.els⟩] : List Stm), r12.2.1, r12.2.2)
else
(bif (decide (r1.1 = 5)) then
bnd (Rge a1 r1.2.1 r1.2.2) fun r13 =>
some (([⟨r13.1.kind, r13.1.var, r13.1.box, ⟨r13.1.e.op, r13.1.e.n, r13.1.e.args⟩, r13.1.body, r13.1.els⟩] : List Stm), r13.2.1, r13.2.2)
else
(bif (decide (r1.1 = 6)) then
bnd (Rge a1 r1.2.1 r1.2.2) fun r14 =>
some (([⟨r14.1.kind, r14.1.var, r14.1.box, ⟨r14.1.e.op, r14.1.e.n, r14.1.e.args⟩, r14.1.body, r14.1.els⟩] : List Stm), r14.2.1, r14.2.2)
else
(bif (decide (r1.1 = 7)) then
some (([⟨6, 0, 0, ⟨0, 0, []⟩, [], []⟩] : List Stm), r1.2.1, r1.2.2)
else
bnd (Rb 3 r1.2.1 r1.2.2) fun r15 =>
bnd (Rap (wrap64 (1 + r15.1)) r15.2.1 r15.2.2) fun r16 =>
some (([⟨7, 0, 0, ⟨r16.1, r16.2.1, r16.2.2.1.2⟩, [], []⟩] : List Stm), r16.2.2.2.1, r16.2.2.2.2))))))))) : Option (List Stm × List Int × Int))
 (Rjy a1 a2 a3 a0b a0p) := by
 rewrite [← Qyy]
 exact fun r h => fE Rsj p4500 h
theorem Rhm (t1 : Int) (t2 : Int) (t3 : Int) (t4 : Bool) (t11b : Bool) (t11 : List Stm) (t12 : Int) (b0_0 : List Int) (b0_1 : Int) : Tv.Le
 ((bif (decide (t12 < t3)) then
bnd (Rjy t1 t2 t4 b0_0 b0_1) fun r1 =>
bnd (appL t11 r1.1) fun l2 =>
Reg t1 t2 t3 t4 true l2 (wrap64 (t12 + 1)) r1.2.1 r1.2.2
else
some ((t11b, t11), b0_0, b0_1)) : Option ((Bool × List Stm) × List Int × Int))
 (Reg t1 t2 t3 t4 t11b t11 t12 b0_0 b0_1) := by
 rewrite [← Qyy]
 exact fun r h => lE s4601 p4601 h
theorem Rhi (t0 : List Stm) (t3 : Int) (t4 : Int) : Tv.Le
 ((bif (decide (t4 < (t0.length : Int))) then
bnd (geti t0 t4) fun e1 =>
bnd (Ran e1.body) fun r2 =>
bnd (geti t0 t4) fun e3 =>
bnd (Ran e3.els) fun r4 =>
Ref t0 (wrap64 ((wrap64 ((wrap64 (t3 + 1)) + r2)) + r4)) (wrap64 (t4 + 1))
else
some t3) : Option (Int))
 (Ref t0 t3 t4) := by
 rewrite [← Qyy]
 exact fun r h => lE Rvl p4001 h
theorem Rqt (a0 : Int) : Tv.Le
 (some (Tv.bytes ([(((wrap64 (97 + a0))) % 256)] : List Int)) : Option (List UInt8))
 (Rer a0) := by
 rewrite [← Qyy]
 exact fun r h => fE Rfj p32400 h
theorem Rpw (a0 : List (List UInt8)) (a1 : Exp) : Tv.Le
 (bnd (Rcl (⟨a1.op, a1.n, a1.args⟩ : Exp)) fun r1 =>
bnd (appL a0 r1) fun l2 =>
bnd (appL l2 ([[59]] : List (List UInt8))) fun l3 =>
some l3 : Option (List (List UInt8)))
 (Rgb a0 a1) := by
 exact fun r h => fE Rhd p46700 h
theorem Ros (a0 : Exp) : Tv.Le
 ((bif (decide (a0.op = 0)) then
bnd (Rdi a0.n) fun r1 =>
some ([r1] : List (List UInt8))
else
(bif (decide (a0.op = 13)) then
bnd (Rer a0.n) fun r2 =>
some ([r2] : List (List UInt8))
else
bnd (Rev a0.op) fun r3 =>
bnd (geti a0.args 0) fun e4 =>
bnd (Rcl (⟨e4.op, e4.n, e4.args⟩ : Exp)) fun r5 =>
bnd (geti a0.args 0) fun e6 =>
bnd (Rhz (⟨e6.op, e6.n, e6.args⟩ : Exp)) fun r7 =>
bnd (Rjc r5 (decide (r7 < r3))) fun r8 =>
bnd (Riy a0.op) fun r9 =>
bnd (appL r8 ([r9] : List (List UInt8))) fun l10 =>
bnd (geti a0.args 1) fun e11 =>
bnd (Rcl (⟨e11.op, e11.n, e11.args⟩ : Exp)) fun r12 =>
bnd (geti a0.args 1) fun e13 =>
bnd (Rhz (⟨e13.op, e13.n, e13.args⟩ : Exp)) fun r14 =>
bnd (Rjc r12 (decide (r14 ≤ r3))) fun r15 =>
bnd (appL l10 r15) fun l16 =>
some l16)) : Option (List (List UInt8)))
 (Rcl a0) := by
 exact fun r h => fE Rhd p35300 h
theorem Rq (a0tokens : List (List UInt8)) (a0at : Int) (a0failed : Bool) : Tv.Le
 (bnd (Raw a0tokens a0at a0failed) fun r1 =>
(bif (r1.1 == [40]) then
bnd (Rf 1 r1.2.1 (wrap64 (r1.2.2.1 + 1)) r1.2.2.2) fun r2 =>
bnd (Rg [41] r2.2.1 r2.2.2.1 r2.2.2.2) fun r3 =>
some (⟨r2.1.op, r2.1.n, r2.1.args⟩, r3.1, r3.2.1, r3.2.2)
else
(bif (!(r1.1 == [])) then
bnd (geti r1.1 0) fun c4 =>
bnd (Rfx (c4.toNat : Int)) fun r5 =>
(bif r5 then
bnd (Rad r1.2.1 r1.2.2.1 r1.2.2.2) fun r6 =>
some (⟨0, r6.1, []⟩, r6.2.1, r6.2.2.1, r6.2.2.2)
else
bnd (Rj r1.2.1 r1.2.2.1 r1.2.2.2) fun r7 =>
some (⟨13, r7.1, []⟩, r7.2.1, r7.2.2.1, r7.2.2.2))
else
bnd (Rj r1.2.1 r1.2.2.1 r1.2.2.2) fun r8 =>
some (⟨13, r8.1, []⟩, r8.2.1, r8.2.2.1, r8.2.2.2))) : Option (Exp × List (List UInt8) × Int × Bool))
 (Rai a0tokens a0at a0failed) := by
 rewrite [← Qyy]
 exact fun r h => fE Rrk p34100 h
theorem Rqi (a0 : List UInt8) : Tv.Le
 (bnd (Rea a0 0) fun r1 =>
selm r1 (fun y2 =>
some 0) (fun z3 =>
some z3) : Option (Int))
 (Rkp a0) := by
 exact fun r h => fE Rcq p34200 h
theorem Rpd (a0 : Int) : Tv.Le
 ((bif (decide (a0 = 1)) then
some 1
else
(bif (decide (a0 = 2)) then
some 2
else
(bif (decide (a0 = 3)) then
some 3
else
(bif (decide (a0 = 4)) then
some 4
else
(bif (decide (a0 = 5)) then
some 5
else
(bif (decide (a0 = 6)) then
some 6
else
(bif (decide (a0 = 7)) then
some 6
else
(bif (decide (a0 = 8)) then
some 7
else
(bif (decide (a0 = 9)) then
some 7
else
(bif (decide (a0 = 10)) then
some 8
else
(bif (decide (a0 = 11)) then
some 8
else
(bif (decide (a0 = 12)) then
some 8
else
some 0)))))))))))) : Option (Int))
 (Rht a0) := by
 exact fun r h => fE Rcq p34300 h
theorem Raq (t1 : Int) (b0_0 : List (List UInt8)) (b0_1 : Int) (b0_2 : Bool) (b100_0 : Int) (b100_1 : Int) (b100_2b : Bool) (b100_2 : List Exp) (b101_0 : Int) (b101_1 : Int) (b101_2m : Md) (b101_2 : List Exp) : Tv.Le
 ((bif (!b0_2) then
bnd (Raw b0_0 b0_1 b0_2) fun r1 =>
bnd (Rkp r1.1) fun r2 =>
(bif (decide (r2 = 0)) then
some (r1.2.1, r1.2.2.1, r1.2.2.2, b100_0, b100_1, (b100_2b, b100_2), b101_0, b101_1, (b101_2m, b101_2))
else
bnd (Rht r2) fun r3 =>
(bif (decide (r3 < t1)) then
some (r1.2.1, r1.2.2.1, r1.2.2.2, b100_0, b100_1, (b100_2b, b100_2), b101_0, b101_1, (b101_2m, b101_2))
else
bnd (Rht r2) fun r4 =>
bnd (Rf (wrap64 (r4 + 1)) r1.2.1 (wrap64 (r1.2.2.1 + 1)) r1.2.2.2) fun r5 =>
Rah t1 r5.2.1 r5.2.2.1 r5.2.2.2 b100_0 b100_1 b100_2b b100_2 r2 0 .full ([⟨b101_0, b101_1, b101_2⟩, ⟨r5.1.op, r5.1.n, r5.1.args⟩] : List Exp)))
else
some (b0_0, b0_1, b0_2, b100_0, b100_1, (b100_2b, b100_2), b101_0, b101_1, (b101_2m, b101_2))) : Option (List (List UInt8) × Int × Bool × Int × Int × (Bool × List Exp) × Int × Int × (Md × List Exp)))
 (Rah t1 b0_0 b0_1 b0_2 b100_0 b100_1 b100_2b b100_2 b101_0 b101_1 b101_2m b101_2) := by
 rewrite [← Qyy]
 exact fun r h => lE Rxe p34401 h
theorem Rmy (a0 : Stm) (a1 : Int) : Tv.Le
 ((bif (decide (a0.kind = 1)) then
bnd (Rh a0.var 4 true) fun r1 =>
(bif (!r1) then
some false
else
bnd (Rh a0.box a1 false) fun r2 =>
(bif (!r2) then
some false
else
bnd (Rco (⟨a0.e.op, a0.e.n, a0.e.args⟩ : Exp)) fun r3 =>
(bif (!r3) then
some false
else
(bif (decide ((a0.body.length : Int) = 0)) then
some (decide ((a0.els.length : Int) = 0))
else
some false))))
else
(bif (decide (a0.kind = 2)) then
bnd (Rh a0.var 4 false) fun r4 =>
(bif (!r4) then
some false
else
bnd (Rh a0.box a1 false) fun r5 =>
(bif (!r5) then
some false
else
bnd (Rco (⟨a0.e.op, a0.e.n, a0.e.args⟩ : Exp)) fun r6 =>
(bif (!r6) then
some false
else
some true)))
else
(bif (decide (a0.kind = 3)) then
bnd (Rh a0.var 4 false) fun r7 =>
(bif (!r7) then
some false
else
bnd (Rh a0.box a1 false) fun r8 =>
(bif (!r8) then
some false
else
bnd (Rco (⟨a0.e.op, a0.e.n, a0.e.args⟩ : Exp)) fun r9 =>
(bif (!r9) then
some false
else
some (decide ((a0.els.length : Int) = 0)))))
else
(bif (decide (a0.kind = 4)) then
bnd (Rh a0.var 4 false) fun r10 =>
(bif (!r10) then
some false
else
bnd (Rh a0.box a1 true) fun r11 =>
(bif (!r11) then
some false
else
(bif (decide (a1 ≤ a0.box)) then
some false
else
bnd (Rco (⟨a0.e.op, a0.e.n, a0.e.args⟩ : Exp)) fun r12 =>
(bif (!r12) then
some false
else
(bif (decide ((a0.body.length : Int) = 0)) then
some (decide ((a0.els.length : Int) = 0))
else
some false)))))
else
(bif (decide (a0.kind = 5)) then
bnd (Rh a0.var 4 true) fun r13 =>
(bif (!r13) then
some false
else
bnd (Rh a0.box a1 true) fun r14 =>
(bif (!r14) then
some false
else
(bif (decide (a1 ≤ a0.box)) then
some false
else
(bif (!decide (a0.e.op = 0)) then
some false
else
(bif (!decide (a0.e.n = 0)) then
some false
else
(bif (decide (0 < (a0.e.args.length : Int))) then
some false
else
(bif (decide ((a0.body.length : Int) = 0)) then
some (decide ((a0.els.length : Int) = 0))
else
some false)))))))
else
(bif (decide (a0.kind = 7)) then
bnd (Rh a0.var 4 false) fun r15 =>
(bif (!r15) then
some false
else
bnd (Rh a0.box a1 false) fun r16 =>
(bif (!r16) then
some false
else
bnd (Rco (⟨a0.e.op, a0.e.n, a0.e.args⟩ : Exp)) fun r17 =>
(bif (!r17) then
some false
else
(bif (decide ((a0.body.length : Int) = 0)) then
some (decide ((a0.els.length : Int) = 0))
else
some false))))
else
(bif (decide (a0.kind = 6)) then
bnd (Rh a0.var 4 false) fun r18 =>
(bif (!r18) then
some false
else
bnd (Rh a0.box a1 false) fun r19 =>
(bif (!r19) then
some false
else
(bif (!decide (a0.e.op = 0)) then
some false
else
(bif (!decide (a0.e.n = 0)) then
some false
else
(bif (decide (0 < (a0.e.args.length : Int))) then
some false
else
(bif (decide ((a0.body.length : Int) = 0)) then
some (decide ((a0.els.length : Int) = 0))
else
some false))))))
else
some false))))))) : Option (Bool))
 (Ric a0 a1) := by
 exact fun r h => fE Rn p5200 h
theorem Rag (t0 : List Stm) (t1 : Int) (t2 : Int) (t23 : Int) (t24 : Int) (b0_0 : Int) : Tv.Le
 ((bif (decide (t24 < t23)) then
bnd (geti t0 t24) fun e1 =>
bnd (Ric (⟨e1.kind, e1.var, e1.box, ⟨e1.e.op, e1.e.n, e1.e.args⟩, e1.body, e1.els⟩ : Stm) t1) fun r2 =>
(bif (!r2) then
some (.inr (false, b0_0))
else
(bif (decide (3 < t2)) then
some (.inr (false, b0_0))
else
(bif (!decide (e1.kind = 2)) then
(bif (!decide (e1.kind = 3)) then
Rbj t0 t1 t2 t23 (wrap64 (t24 + 1)) b0_0
else
(bif (decide (3 ≤ t2)) then
some (.inr (false, b0_0))
else
bnd (Rbf e1.body t1 (wrap64 (t2 + 1)) b0_0) fun r3 =>
(bif (!r3.1) then
some (.inr (false, r3.2))
else
bnd (Rbf e1.els t1 (wrap64 (t2 + 1)) r3.2) fun r4 =>
(bif (!r4.1) then
some (.inr (false, r4.2))
else
Rbj t0 t1 t2 t23 (wrap64 (t24 + 1)) r4.2))))
else
(bif (decide (3 ≤ t2)) then
some (.inr (false, b0_0))
else
bnd (Rbf e1.body t1 (wrap64 (t2 + 1)) b0_0) fun r5 =>
(bif (!r5.1) then
some (.inr (false, r5.2))
else
bnd (Rbf e1.els t1 (wrap64 (t2 + 1)) r5.2) fun r6 =>
(bif (!r6.1) then
some (.inr (false, r6.2))
else
Rbj t0 t1 t2 t23 (wrap64 (t24 + 1)) r6.2))))))
else
some (.inl b0_0)) : Option (Int ⊕ (Bool × Int)))
 (Rbj t0 t1 t2 t23 t24 b0_0) := by
 rewrite [← Qyy]
 exact fun r h => lE s5301 p5301 h
theorem Rjh (t0 : List UInt8) (t1 : Int) (t5 : Int) : Tv.Le
 ((bif (decide (t5 < (t0.length : Int))) then
bnd (geti t0 t5) fun c1 =>
bnd (Rfr (c1.toNat : Int)) fun r2 =>
bnd (geti t0 t1) fun c3 =>
bnd (Rfr (c3.toNat : Int)) fun r4 =>
(bif (decide (r2 = r4)) then
Rgw t0 t1 (wrap64 (t5 + 1))
else
some t5)
else
some t5) : Option (Int))
 (Rgw t0 t1 t5) := by
 rewrite [← Qyy]
 exact fun r h => lE Rvl p31901 h
theorem Rff (a0 : List (List UInt8)) (a1 : Int) (a2 : Int) : Tv.Le
 ((bif (decide (8 < a2)) then
bnd (Rew a0 a1) fun r1 =>
some (⟨r1.1.op, r1.1.n, r1.1.args⟩, r1.2)
else
bnd (Rz a0 a1 (wrap64 (a2 + 1))) fun r2 =>
bnd (Rbi a0 a2 r2.2 0 0 false [] r2.1.op r2.1.n .share r2.1.args) fun r3 =>
some (⟨r3.2.2.2.2.1, r3.2.2.2.2.2.1, r3.2.2.2.2.2.2.2⟩, r3.1)) : Option (Exp × Int))
 (Rz a0 a1 a2) := by
 rewrite [← Qyy]
 exact fun r h => fE Rlu p32900 h
theorem Rgl (t0 : List UInt8) (t3 : Int) : Tv.Le
 ((bif (decide (t3 < 4)) then
bnd (Rer t3) fun r1 =>
(bif (t0 == r1) then
some (.inr t3)
else
Rfg t0 (wrap64 (t3 + 1)))
else
some (.inl ())) : Option (Unit ⊕ Int))
 (Rfg t0 t3) := by
 rewrite [← Qyy]
 exact fun r h => lE Rlt p32501 h
theorem Rmb (a0 : Stm) (a1 : Int) : Tv.Le
 ((bif (!decide (a0.kind = 2)) then
(bif (!decide (a0.kind = 3)) then
bnd (Rfv (⟨a0.kind, a0.var, a0.box, ⟨a0.e.op, a0.e.n, a0.e.args⟩, a0.body, a0.els⟩ : Stm)) fun r1 =>
some r1
else
(bif (decide (a1 < 1)) then
some false
else
(bif (decide (a0.kind = 3)) then
(bif (decide (0 < (a0.els.length : Int))) then
some false
else
bnd (Rbv (⟨a0.kind, a0.var, a0.box, ⟨a0.e.op, a0.e.n, a0.e.args⟩, a0.body, a0.els⟩ : Stm) false) fun r2 =>
(bif r2 then
bnd (Rbu (⟨a0.kind, a0.var, a0.box, ⟨a0.e.op, a0.e.n, a0.e.args⟩, a0.body, a0.els⟩ : Stm) false) fun r3 =>
(bif r3 then
bnd (Rbc (⟨a0.e.op, a0.e.n, a0.e.args⟩ : Exp)) fun r4 =>
(bif r4 then
bnd (Ry a0.body (wrap64 (a1 - 1))) fun r5 =>
(bif r5 then
bnd (Ry a0.els (wrap64 (a1 - 1))) fun r6 =>
some r6
else
some false)
else
some false)
else
some false)
else
some false))
else
bnd (Rbv (⟨a0.kind, a0.var, a0.box, ⟨a0.e.op, a0.e.n, a0.e.args⟩, a0.body, a0.els⟩ : Stm) false) fun r7 =>
(bif r7 then
bnd (Rbu (⟨a0.kind, a0.var, a0.box, ⟨a0.e.op, a0.e.n, a0.e.args⟩, a0.body, a0.els⟩ : Stm) false) fun r8 =>
(bif r8 then
bnd (Rbc (⟨a0.e.op, a0.e.n, a0.e.args⟩ : Exp)) fun r9 =>
(bif r9 then
bnd (Ry a0.body (wrap64 (a1 - 1))) fun r10 =>
(bif r10 then
bnd (Ry a0.els (wrap64 (a1 - 1))) fun r11 =>
some r11
else
some false)
else
some false)
else
some false)
else
some false))))
else
(bif (decide (a1 < 1)) then
some false
else
(bif (decide (a0.kind = 3)) then
(bif (decide (0 < (a0.els.length : Int))) then
some false
else
bnd (Rbv (⟨a0.kind, a0.var, a0.box, ⟨a0.e.op, a0.e.n, a0.e.args⟩, a0.body, a0.els⟩ : Stm) false) fun r12 =>
(bif r12 then
bnd (Rbu (⟨a0.kind, a0.var, a0.box, ⟨a0.e.op, a0.e.n, a0.e.args⟩, a0.body, a0.els⟩ : Stm) false) fun r13 =>
(bif r13 then
bnd (Rbc (⟨a0.e.op, a0.e.n, a0.e.args⟩ : Exp)) fun r14 =>
(bif r14 then
bnd (Ry a0.body (wrap64 (a1 - 1))) fun r15 =>
(bif r15 then
bnd (Ry a0.els (wrap64 (a1 - 1))) fun r16 =>
some r16
else
some false)
else
some false)
else
some false)
else
some false))
else
bnd (Rbv (⟨a0.kind, a0.var, a0.box, ⟨a0.e.op, a0.e.n, a0.e.args⟩, a0.body, a0.els⟩ : Stm) false) fun r17 =>
(bif r17 then
bnd (Rbu (⟨a0.kind, a0.var, a0.box, ⟨a0.e.op, a0.e.n, a0.e.args⟩, a0.body, a0.els⟩ : Stm) false) fun r18 =>
(bif r18 then
bnd (Rbc (⟨a0.e.op, a0.e.n, a0.e.args⟩ : Exp)) fun r19 =>
(bif r19 then
bnd (Ry a0.body (wrap64 (a1 - 1))) fun r20 =>
(bif r20 then
bnd (Ry a0.els (wrap64 (a1 - 1))) fun r21 =>
some r21
else
some false)
else
some false)
else
some false)
else
some false)))) : Option (Bool))
 (Rin a0 a1) := by
 rewrite [← Qyy]
 exact fun r h => fE Rn p6100 h
theorem Rgr (t0 : List Stm) (t1 : Int) (t5 : Int) : Tv.Le
 ((bif (decide (t5 < (t0.length : Int))) then
bnd (geti t0 t5) fun e1 =>
bnd (Rin (⟨e1.kind, e1.var, e1.box, ⟨e1.e.op, e1.e.n, e1.e.args⟩, e1.body, e1.els⟩ : Stm) t1) fun r2 =>
(bif (!r2) then
some (.inr false)
else
Rdw t0 t1 (wrap64 (t5 + 1)))
else
some (.inl ())) : Option (Unit ⊕ Bool))
 (Rdw t0 t1 t5) := by
 rewrite [← Qyy]
 exact fun r h => lE Rgt p6201 h
theorem Rqw (a0b : List Int) (a0p : Int) : Tv.Le
 (bnd (Rb 3 a0b a0p) fun r1 =>
bnd (Rb 3 r1.2.1 r1.2.2) fun r2 =>
bnd (Rap (wrap64 (1 + r2.1)) r2.2.1 r2.2.2) fun r3 =>
some (⟨1, r1.1, 0, ⟨r3.1, r3.2.1, r3.2.2.1.2⟩, [], []⟩, r3.2.2.2.1, r3.2.2.2.2) : Option (Stm × List Int × Int))
 (Rhq a0b a0p) := by
 rewrite [← Qyy]
 exact fun r h => fE Roi p4200 h
theorem Rsn (a1 : Int) (a2 : Int) (a3 : Bool) (a0b : List Int) (a0p : Int) : Tv.Le
 (bnd (Rb 2 a0b a0p) fun r1 =>
bnd (Rap (wrap64 (1 + r1.1)) r1.2.1 r1.2.2) fun r2 =>
bnd (Rb 3 r2.2.2.2.1 r2.2.2.2.2) fun r3 =>
bnd (Rcn a1 (wrap64 (a2 - 1)) r3.1 a3 r3.2.1 r3.2.2) fun r4 =>
bnd (Rb 3 r4.2.1 r4.2.2) fun r5 =>
bnd (Rcn a1 (wrap64 (a2 - 1)) r5.1 a3 r5.2.1 r5.2.2) fun r6 =>
some (⟨2, 0, 0, ⟨r2.1, r2.2.1, r2.2.2.1.2⟩, r4.1, r6.1⟩, r6.2.1, r6.2.2) : Option (Stm × List Int × Int))
 (Rnp a1 a2 a3 a0b a0p) := by
 rewrite [← Qyy]
 exact fun r h => fE Roi p4100 h
theorem Rjv (a1 : Int) (a0b : List Int) (a0p : Int) : Tv.Le
 ((bif (decide (a1 < 2)) then
bnd (Rex a0b a0p) fun r1 =>
some (r1.1, r1.2.1, ((Md.dem (Md.dem (Md.dem r1.2.2.1.1))), r1.2.2.1.2), r1.2.2.2.1, r1.2.2.2.2)
else
bnd (Rb 3 a0b a0p) fun r2 =>
(bif (decide (r2.1 = 0)) then
bnd (Rex r2.2.1 r2.2.2) fun r3 =>
some (r3.1, r3.2.1, ((Md.dem (Md.dem (Md.dem r3.2.2.1.1))), r3.2.2.1.2), r3.2.2.2.1, r3.2.2.2.2)
else
bnd (Rno r2.2.1 r2.2.2) fun r4 =>
bnd (Rap (wrap64 (a1 - 1)) r4.2.1 r4.2.2) fun r5 =>
bnd (Rap (wrap64 (a1 - 1)) r5.2.2.2.1 r5.2.2.2.2) fun r6 =>
bnd (Rfs r4.1 (⟨r5.1, r5.2.1, r5.2.2.1.2⟩ : Exp) (⟨r6.1, r6.2.1, r6.2.2.1.2⟩ : Exp)) fun r7 =>
some (r7.1, r7.2.1, ((Md.dem (Md.dem (Md.dem r7.2.2.1))), r7.2.2.2), r6.2.2.2.1, r6.2.2.2.2))) : Option (Int × Int × (Md × List Exp) × List Int × Int))
 (Rap a1 a0b a0p) := by
 rewrite [← Qyy]
 exact fun r h => fE s400 p700 h
theorem Rqa (a1 : Int) (a2 : Int) (a0b : List Int) (a0p : Int) : Tv.Le
 (bnd (Rb 3 a0b a0p) fun r1 =>
bnd (Rcn a1 (wrap64 (a2 - 1)) r1.1 false r1.2.1 r1.2.2) fun r2 =>
bnd (Rbb 13 3) fun r3 =>
bnd (Rbb 0 1) fun r4 =>
bnd (Rfs 8 (⟨r3.1, r3.2.1, r3.2.2.2⟩ : Exp) (⟨r4.1, r4.2.1, r4.2.2.2⟩ : Exp)) fun r5 =>
bnd (Rbb 13 3) fun r6 =>
bnd (Rb 3 r2.2.1 r2.2.2) fun r7 =>
bnd (Rbb 0 (wrap64 (1 + r7.1))) fun r8 =>
bnd (Rfs 5 (⟨r6.1, r6.2.1, r6.2.2.2⟩ : Exp) (⟨r8.1, r8.2.1, r8.2.2.2⟩ : Exp)) fun r9 =>
bnd (appL r2.1 ([⟨1, 3, 0, ⟨r5.1, r5.2.1, r5.2.2.2⟩, [], []⟩] : List Stm)) fun l10 =>
bnd (Rbb 0 0) fun r11 =>
some (([⟨1, 3, 0, ⟨r11.1, r11.2.1, r11.2.2.2⟩, [], []⟩, ⟨3, 0, 0, ⟨r9.1, r9.2.1, r9.2.2.2⟩, l10, []⟩] : List Stm), r7.2.1, r7.2.2) : Option (List Stm × List Int × Int))
 (Rjx a1 a2 a0b a0p) := by
 rewrite [← Qyy]
 exact fun r h => fE Rsj p4300 h
theorem Rqc (a1 : Int) (a0b : List Int) (a0p : Int) : Tv.Le
 ((bif (decide (a1 < 1)) then
bnd (Rhq a0b a0p) fun r1 =>
some (⟨r1.1.kind, r1.1.var, r1.1.box, ⟨r1.1.e.op, r1.1.e.n, r1.1.e.args⟩, r1.1.body, r1.1.els⟩, r1.2.1, r1.2.2)
else
bnd (Rb a1 a0b a0p) fun r2 =>
bnd (Rb 2 r2.2.1 r2.2.2) fun r3 =>
(bif (decide (r3.1 = 0)) then
bnd (Rb 3 r3.2.1 r3.2.2) fun r4 =>
bnd (Rap (wrap64 (1 + r4.1)) r4.2.1 r4.2.2) fun r5 =>
some (⟨4, 0, r2.1, ⟨r5.1, r5.2.1, r5.2.2.1.2⟩, [], []⟩, r5.2.2.2.1, r5.2.2.2.2)
else
bnd (Rb 3 r3.2.1 r3.2.2) fun r6 =>
some (⟨5, r6.1, r2.1, ⟨0, 0, []⟩, [], []⟩, r6.2.1, r6.2.2))) : Option (Stm × List Int × Int))
 (Rge a1 a0b a0p) := by
 rewrite [← Qyy]
 exact fun r h => fE Roi p4400 h
theorem Rpt (a0 : Int) : Tv.Le
 (bnd (Rga a0) fun r1 =>
(bif (!r1) then
some 0
else
bnd (geti ([1, 2, 3, 4, 5, 6, 6, 7, 7, 8, 8, 8] : List Int) (wrap64 (a0 - 1))) fun e2 =>
some e2) : Option (Int))
 (Rev a0) := by
 rewrite [← Qyy]
 exact fun r h => fE Rcq p32700 h
theorem Rpy (a0 : Exp) : Tv.Le
 ((bif (decide ((a0.args.length : Int) = 0)) then
some 9
else
bnd (Rev a0.op) fun r1 =>
some r1) : Option (Int))
 (Rhz a0) := by
 exact fun r h => fE Rcq p35200 h
theorem Rqu (a0 : List (List UInt8)) (a1 : Bool) : Tv.Le
 ((bif (!a1) then
some a0
else
bnd (appL ([[40]] : List (List UInt8)) a0) fun l1 =>
bnd (appL l1 ([[41]] : List (List UInt8))) fun l2 =>
some l2) : Option (List (List UInt8)))
 (Rjc a0 a1) := by
 exact fun r h => fE Rhd p35100 h
theorem Rqk (a0 : Int) : Tv.Le
 (bnd (Rga a0) fun r1 =>
(bif (!r1) then
some []
else
bnd (geti ([[124], [94], [38], [61, 61], [60], [60, 60], [62, 62], [43], [45], [42], [47], [37]] : List (List UInt8)) (wrap64 (a0 - 1))) fun e2 =>
some e2) : Option (List UInt8))
 (Riy a0) := by
 rewrite [← Qyy]
 exact fun r h => fE Rfj p20700 h
theorem Rih (t0 : List UInt8) (t6 : Int) : Tv.Le
 ((bif (decide (t6 < 12)) then
bnd (geti ([[124], [94], [38], [61, 61], [60], [60, 60], [62, 62], [43], [45], [42], [47], [37]] : List (List UInt8)) t6) fun s1 =>
(bif (s1 == t0) then
some (.inr (wrap64 (1 + t6)))
else
Rea t0 (wrap64 (t6 + 1)))
else
some (.inl ())) : Option (Unit ⊕ Int))
 (Rea t0 t6) := by
 rewrite [← Qyy]
 exact fun r h => lE Rlt p34201 h
theorem Rem (a0 : Int) (a1 : Int) (a2 : Bool) : Tv.Le
 ((bif (decide (a0 = 0)) then
some true
else
(bif a2 then
(bif (decide (0 < a0)) then
some (decide (a0 < a1))
else
some false)
else
some false)) : Option (Bool))
 (Rh a0 a1 a2) := by
 exact fun r h => fE Rn p11100 h
theorem Rmw (a0 : Exp) : Tv.Le
 (bnd (Rdz (⟨a0.op, a0.n, a0.args⟩ : Exp) 5) fun r1 =>
some r1 : Option (Bool))
 (Rco a0) := by
 exact fun r h => fE Rn p1200 h
theorem Rbw (a0 : List (List UInt8)) (a1 : Int) : Tv.Le
 ((bif (decide ((a0.length : Int) ≤ a1)) then
some (⟨0, 0, []⟩, (-1))
else
bnd (geti a0 a1) fun e1 =>
(bif (e1 == [40]) then
bnd (Rz a0 (wrap64 (a1 + 1)) 1) fun r2 =>
(bif (decide (r2.2 < 0)) then
some (⟨0, 0, []⟩, (-1))
else
(bif (decide ((a0.length : Int) ≤ r2.2)) then
some (⟨0, 0, []⟩, (-1))
else
bnd (geti a0 r2.2) fun e3 =>
(bif (!(e3 == [41])) then
some (⟨0, 0, []⟩, (-1))
else
some (⟨r2.1.op, r2.1.n, r2.1.args⟩, (wrap64 (r2.2 + 1))))))
else
bnd (geti a0 a1) fun e4 =>
bnd (Rfe e4) fun r5 =>
(bif (decide (0 ≤ r5)) then
bnd (geti a0 a1) fun e6 =>
bnd (Rfe e6) fun r7 =>
bnd (Rbb 0 r7) fun r8 =>
some (⟨r8.1, r8.2.1, r8.2.2.2⟩, (wrap64 (a1 + 1)))
else
bnd (geti a0 a1) fun e9 =>
bnd (Rc e9) fun r10 =>
(bif (decide (0 ≤ r10)) then
bnd (geti a0 a1) fun e11 =>
bnd (Rc e11) fun r12 =>
bnd (Rbb 13 r12) fun r13 =>
some (⟨r13.1, r13.2.1, r13.2.2.2⟩, (wrap64 (a1 + 1)))
else
some (⟨0, 0, []⟩, (-1)))))) : Option (Exp × Int))
 (Rew a0 a1) := by
 rewrite [← Qyy]
 exact fun r h => fE Rlu p32600 h
theorem Rti (a0 : List UInt8) : Tv.Le
 (bnd (Rgc a0 1) fun r1 =>
selm r1 (fun y2 =>
some 0) (fun z3 =>
some z3) : Option (Int))
 (Rme a0) := by
 exact fun r h => fE Rcq p32800 h
theorem Rqr (a0 : Int) (a1 : Exp) (a2 : Exp) : Tv.Le
 (some (a0, 0, (.full, ([⟨a1.op, a1.n, a1.args⟩, ⟨a2.op, a2.n, a2.args⟩] : List Exp))) : Option (Int × Int × (Md × List Exp)))
 (Rfs a0 a1 a2) := by
 exact fun r h => fE s300 p500 h
theorem Rck (t0 : List (List UInt8)) (t2 : Int) (t9 : Int) (b100_0 : Int) (b100_1 : Int) (b100_2b : Bool) (b100_2 : List Exp) (b101_0 : Int) (b101_1 : Int) (b101_2m : Md) (b101_2 : List Exp) : Tv.Le
 ((bif (decide (0 ≤ t9)) then
(bif (decide (t9 < (t0.length : Int))) then
bnd (geti t0 t9) fun e1 =>
bnd (Rme e1) fun r2 =>
bnd (Rev r2) fun r3 =>
(bif (decide (r3 = t2)) then
bnd (geti t0 t9) fun e4 =>
bnd (Rme e4) fun r5 =>
bnd (Rz t0 (wrap64 (t9 + 1)) (wrap64 (t2 + 1))) fun r6 =>
bnd (Rfs r5 (⟨b101_0, b101_1, b101_2⟩ : Exp) (⟨r6.1.op, r6.1.n, r6.1.args⟩ : Exp)) fun r7 =>
Rbi t0 t2 r6.2 b100_0 b100_1 b100_2b b100_2 r7.1 r7.2.1 (Md.dem r7.2.2.1) r7.2.2.2
else
some (t9, b100_0, b100_1, (b100_2b, b100_2), b101_0, b101_1, (b101_2m, b101_2)))
else
some (t9, b100_0, b100_1, (b100_2b, b100_2), b101_0, b101_1, (b101_2m, b101_2)))
else
some (t9, b100_0, b100_1, (b100_2b, b100_2), b101_0, b101_1, (b101_2m, b101_2))) : Option (Int × Int × Int × (Bool × List Exp) × Int × Int × (Md × List Exp)))
 (Rbi t0 t2 t9 b100_0 b100_1 b100_2b b100_2 b101_0 b101_1 b101_2m b101_2) := by
 rewrite [← Qyy]
 exact fun r h => lE Rwz p32901 h
theorem Rnl (a0 : Stm) : Tv.Le
 ((bif (decide (0 < (a0.body.length : Int))) then
some false
else
(bif (decide (0 < (a0.els.length : Int))) then
some false
else
(bif (decide (a0.kind = 1)) then
bnd (Rbv (⟨a0.kind, a0.var, a0.box, ⟨a0.e.op, a0.e.n, a0.e.args⟩, a0.body, a0.els⟩ : Stm) true) fun r1 =>
(bif r1 then
bnd (Rbu (⟨a0.kind, a0.var, a0.box, ⟨a0.e.op, a0.e.n, a0.e.args⟩, a0.body, a0.els⟩ : Stm) false) fun r2 =>
(bif r2 then
bnd (Rbc (⟨a0.e.op, a0.e.n, a0.e.args⟩ : Exp)) fun r3 =>
some r3
else
some false)
else
some false)
else
(bif (decide (a0.kind = 4)) then
bnd (Rbv (⟨a0.kind, a0.var, a0.box, ⟨a0.e.op, a0.e.n, a0.e.args⟩, a0.body, a0.els⟩ : Stm) false) fun r4 =>
(bif r4 then
bnd (Rbu (⟨a0.kind, a0.var, a0.box, ⟨a0.e.op, a0.e.n, a0.e.args⟩, a0.body, a0.els⟩ : Stm) true) fun r5 =>
(bif r5 then
bnd (Rbc (⟨a0.e.op, a0.e.n, a0.e.args⟩ : Exp)) fun r6 =>
some r6
else
some false)
else
some false)
else
(bif (decide (a0.kind = 5)) then
bnd (Rbv (⟨a0.kind, a0.var, a0.box, ⟨a0.e.op, a0.e.n, a0.e.args⟩, a0.body, a0.els⟩ : Stm) true) fun r7 =>
(bif r7 then
bnd (Rbu (⟨a0.kind, a0.var, a0.box, ⟨a0.e.op, a0.e.n, a0.e.args⟩, a0.body, a0.els⟩ : Stm) true) fun r8 =>
(bif r8 then
bnd (Rgu (⟨a0.e.op, a0.e.n, a0.e.args⟩ : Exp)) fun r9 =>
some r9
else
some false)
else
some false)
else
(bif (decide (a0.kind = 6)) then
bnd (Rbv (⟨a0.kind, a0.var, a0.box, ⟨a0.e.op, a0.e.n, a0.e.args⟩, a0.body, a0.els⟩ : Stm) false) fun r10 =>
(bif r10 then
bnd (Rbu (⟨a0.kind, a0.var, a0.box, ⟨a0.e.op, a0.e.n, a0.e.args⟩, a0.body, a0.els⟩ : Stm) false) fun r11 =>
(bif r11 then
bnd (Rgu (⟨a0.e.op, a0.e.n, a0.e.args⟩ : Exp)) fun r12 =>
some r12
else
some false)
else
some false)
else
(bif (decide (a0.kind = 7)) then
bnd (Rbv (⟨a0.kind, a0.var, a0.box, ⟨a0.e.op, a0.e.n, a0.e.args⟩, a0.body, a0.els⟩ : Stm) false) fun r13 =>
(bif r13 then
bnd (Rbu (⟨a0.kind, a0.var, a0.box, ⟨a0.e.op, a0.e.n, a0.e.args⟩, a0.body, a0.els⟩ : Stm) false) fun r14 =>
(bif r14 then
bnd (Rbc (⟨a0.e.op, a0.e.n, a0.e.args⟩ : Exp)) fun r15 =>
some r15
else
some false)
else
some false)
else
some false))))))) : Option (Bool))
 (Rfv a0) := by
 exact fun r h => fE Rn p6000 h
theorem Rqn (a0 : Stm) (a1 : Bool) : Tv.Le
 ((bif a1 then
bnd (Reb a0.var 0 3) fun r1 =>
some r1
else
some (decide (a0.var = 0))) : Option (Bool))
 (Rbv a0 a1) := by
 exact fun r h => fE Rn p5700 h
theorem Rqm (a0 : Stm) (a1 : Bool) : Tv.Le
 ((bif a1 then
bnd (Reb a0.box 0 2) fun r1 =>
some r1
else
some (decide (a0.box = 0))) : Option (Bool))
 (Rbu a0 a1) := by
 exact fun r h => fE Rn p5800 h
theorem Rnh (a0 : Exp) : Tv.Le
 (bnd (Rjs (⟨a0.op, a0.n, a0.args⟩ : Exp) 5) fun r1 =>
some r1 : Option (Bool))
 (Rbc a0) := by
 exact fun r h => fE Rn p1900 h
theorem Rjw (a0b : List Int) (a0p : Int) : Tv.Le
 (bnd (Rb 4 a0b a0p) fun r1 =>
(bif (decide (r1.1 = 0)) then
bnd (Rb 4 r1.2.1 r1.2.2) fun r2 =>
bnd (Rbb 0 r2.1) fun r3 =>
some (r3.1, r3.2.1, ((Md.dem (Md.dem (Md.dem r3.2.2.1))), r3.2.2.2), r2.2.1, r2.2.2)
else
(bif (decide (r1.1 = 1)) then
bnd (Rb 8 r1.2.1 r1.2.2) fun r4 =>
bnd (geti ([5, 31, 32, 100, 2047, 2048, 65536, 99999] : List Int) r4.1) fun e5 =>
bnd (Rbb 0 e5) fun r6 =>
some (r6.1, r6.2.1, ((Md.dem (Md.dem (Md.dem r6.2.2.1))), r6.2.2.2), r4.2.1, r4.2.2)
else
bnd (Rb 4 r1.2.1 r1.2.2) fun r7 =>
bnd (Rbb 13 r7.1) fun r8 =>
some (r8.1, r8.2.1, ((Md.dem (Md.dem (Md.dem r8.2.2.1))), r8.2.2.2), r7.2.1, r7.2.2))) : Option (Int × Int × (Md × List Exp) × List Int × Int))
 (Rex a0b a0p) := by
 exact fun r h => fE s400 p400 h
theorem Rsm (a0b : List Int) (a0p : Int) : Tv.Le
 (bnd (Rb 12 a0b a0p) fun r1 =>
some ((wrap64 (1 + r1.1)), r1.2.1, r1.2.2) : Option (Int × List Int × Int))
 (Rno a0b a0p) := by
 rewrite [← Qyy]
 exact fun r h => fE s200 p600 h
theorem Rpu (a0 : Int) : Tv.Le
 (bnd (Reb a0 1 12) fun r1 =>
some r1 : Option (Bool))
 (Rga a0) := by
 exact fun r h => fE Rn p1700 h
theorem Rmx (a0 : Exp) (a1 : Int) : Tv.Le
 ((bif (decide (a0.op = 0)) then
(bif (decide (0 ≤ a0.n)) then
(bif (decide (a0.n ≤ 99999)) then
(bif (decide ((a0.args.length : Int) = 0)) then
some (decide (0 < a1))
else
some false)
else
some false)
else
some false)
else
(bif (decide (a0.op = 13)) then
(bif (decide (0 ≤ a0.n)) then
(bif (decide (a0.n < 4)) then
(bif (decide ((a0.args.length : Int) = 0)) then
some (decide (0 < a1))
else
some false)
else
some false)
else
some false)
else
bnd (Rjj a0.op) fun r1 =>
(bif r1 then
(bif (decide (a0.n = 0)) then
(bif (decide ((a0.args.length : Int) = 2)) then
(bif (decide (1 < a1)) then
bnd (geti a0.args 0) fun e2 =>
bnd (Rdz (⟨e2.op, e2.n, e2.args⟩ : Exp) (wrap64 (a1 - 1))) fun r3 =>
(bif r3 then
bnd (geti a0.args 1) fun e4 =>
bnd (Rdz (⟨e4.op, e4.n, e4.args⟩ : Exp) (wrap64 (a1 - 1))) fun r5 =>
some r5
else
some false)
else
some false)
else
some false)
else
some false)
else
some false))) : Option (Bool))
 (Rdz a0 a1) := by
 rewrite [← Qyy]
 exact fun r h => fE Rn p1100 h
theorem Rju (t0 : List UInt8) (t3 : Int) : Tv.Le
 ((bif (decide (t3 ≤ 12)) then
bnd (Riy t3) fun r1 =>
(bif (t0 == r1) then
some (.inr t3)
else
Rgc t0 (wrap64 (t3 + 1)))
else
some (.inl ())) : Option (Unit ⊕ Int))
 (Rgc t0 t3) := by
 rewrite [← Qyy]
 exact fun r h => lE Rlt p32801 h
theorem Rol (a0 : Exp) : Tv.Le
 ((bif (decide (a0.op = 0)) then
(bif (decide (a0.n = 0)) then
some (decide ((a0.args.length : Int) = 0))
else
some false)
else
some false) : Option (Bool))
 (Rgu a0) := by
 exact fun r h => fE Rn p5900 h
theorem Rnz (a0 : Exp) (a1 : Int) : Tv.Le
 ((bif (decide (a1 < 1)) then
some false
else
(bif (decide (a0.op = 0)) then
bnd (Reb a0.n 0 99999) fun r1 =>
(bif r1 then
some (decide ((a0.args.length : Int) = 0))
else
some false)
else
(bif (decide (a0.op = 13)) then
bnd (Reb a0.n 0 3) fun r2 =>
(bif r2 then
some (decide ((a0.args.length : Int) = 0))
else
some false)
else
bnd (Rga a0.op) fun r3 =>
(bif r3 then
(bif (decide (a0.n = 0)) then
(bif (decide ((a0.args.length : Int) = 2)) then
bnd (geti a0.args 0) fun e4 =>
bnd (Rjs (⟨e4.op, e4.n, e4.args⟩ : Exp) (wrap64 (a1 - 1))) fun r5 =>
(bif r5 then
bnd (geti a0.args 1) fun e6 =>
bnd (Rjs (⟨e6.op, e6.n, e6.args⟩ : Exp) (wrap64 (a1 - 1))) fun r7 =>
some r7
else
some false)
else
some false)
else
some false)
else
some false)))) : Option (Bool))
 (Rjs a0 a1) := by
 rewrite [← Qyy]
 exact fun r h => fE Rn p1800 h
theorem Rpf (a0 : Int) : Tv.Le
 ((bif (decide (1 ≤ a0)) then
some (decide (a0 ≤ 12))
else
some false) : Option (Bool))
 (Rjj a0) := by
 exact fun r h => fE Rn p1000 h
end Go.TFnSourceTask