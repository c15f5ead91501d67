import Derived.Test.YthmemaednlaanabGreatDoorDFnSourceEndP
import Derived.KernelRfl
set_option linter.unusedVariables false
namespace Go.TFnSourceEnd
open Go Go.RowKit Go.Vs Go.Tv
theorem Rhh (t5 : Int) (b100_0 : Int) (b100_1 : Int) (b100_2 : List Exp) (b101_0 : Int) (b101_1 : Int) (b101_2 : List Exp) : Tv.Le
 ((bif (decide (t5 < (b100_2.length : Int))) then
bnd (geti b100_2 t5) fun e1 =>
bnd (geti b101_2 t5) fun e2 =>
bnd (Rch (⟨e1.op, e1.n, e1.args⟩ : Exp) (⟨e2.op, e2.n, e2.args⟩ : Exp)) fun r3 =>
(bif (!r3) then
some (.inr false)
else
Rde (wrap64 (t5 + 1)) b100_0 b100_1 b100_2 b101_0 b101_1 b101_2)
else
some (.inl ())) : Option (Unit ⊕ Bool))
 (Rde t5 b100_0 b100_1 b100_2 b101_0 b101_1 b101_2) := by
 rewrite [← Qyy]
 exact fun r h => lE Rgv p9801 h
theorem Rql (a1 : Int) (a2 : Int) (a3 : Bool) (a0b : List Int) (a0p : Int) : Tv.Le
 (bnd (Rb 10 a0b a0p) fun r1 =>
(bif (decide (r1.1 = 0)) then
bnd (Rhw r1.2.1 r1.2.2) fun r2 =>
some (([⟨r2.1.kind, r2.1.var, r2.1.box, ⟨r2.1.e.op, r2.1.e.n, r2.1.e.args⟩, r2.1.body, r2.1.els⟩] : List Stm), r2.2.1, r2.2.2)
else
(bif (decide (r1.1 = 1)) then
bnd (Rhw r1.2.1 r1.2.2) fun r3 =>
some (([⟨r3.1.kind, r3.1.var, r3.1.box, ⟨r3.1.e.op, r3.1.e.n, r3.1.e.args⟩, r3.1.body, r3.1.els⟩] : List Stm), r3.2.1, r3.2.2)
else
(bif (decide (r1.1 = 2)) then
(bif (decide (0 < a2)) then
bnd (Rny a1 a2 a3 r1.2.1 r1.2.2) fun r4 =>
some (([⟨r4.1.kind, r4.1.var, r4.1.box, ⟨r4.1.e.op, r4.1.e.n, r4.1.e.args⟩, r4.1.body, r4.1.els⟩] : List Stm), r4.2.1, r4.2.2)
else
bnd (Rb 3 r1.2.1 r1.2.2) fun r5 =>
bnd (Rap (wrap64 (1 + r5.1)) r5.2.1 r5.2.2) fun r6 =>
some (([⟨7, 0, 0, ⟨r6.1, r6.2.1, r6.2.2.1.2⟩, [], []⟩] : List Stm), r6.2.2.2.1, r6.2.2.2.2))
else
(bif (decide (r1.1 = 3)) then
(bif (decide (0 < a2)) then
(bif a3 then
bnd (Rkd a1 a2 r1.2.1 r1.2.2) fun r7 =>
some (r7.1, r7.2.1, r7.2.2)
else
bnd (Rb 3 r1.2.1 r1.2.2) fun r8 =>
bnd (Rap (wrap64 (1 + r8.1)) r8.2.1 r8.2.2) fun r9 =>
some (([⟨7, 0, 0, ⟨r9.1, r9.2.1, r9.2.2.1.2⟩, [], []⟩] : List Stm), r9.2.2.2.1, r9.2.2.2.2))
else
bnd (Rb 3 r1.2.1 r1.2.2) fun r10 =>
bnd (Rap (wrap64 (1 + r10.1)) r10.2.1 r10.2.2) fun r11 =>
some (([⟨7, 0, 0, ⟨r11.1, r11.2.1, r11.2.2.1.2⟩, [], []⟩] : List Stm), r11.2.2.2.1, r11.2.2.2.2))
else
(bif (decide (r1.1 = 4)) then
bnd (Rgg a1 r1.2.1 r1.2.2) fun r12 =>
some (([⟨r12.1.kind, r12.1.var, r12.1.box, ⟨r12.1.e.op, r12.1.e.n, r12.1.e.args⟩, r12.1.body, r12.1.els⟩] : List Stm), r12.2.1, r12.2.2)
else
(bif (decide (r1.1 = 5)) then
bnd (Rgg a1 r1.2.1 r1.2.2) fun r13 =>
some (([⟨r13.1.kind, r13.1.var, r13.1.box, ⟨r13.1.e.op, r13.1.e.n, r13.1.e.args⟩, r13.1.body, r13.1.els⟩] : List Stm), r13.2.1, r13.2.2)
else
(bif (decide (r1.1 = 6)) then
bnd (Rgg a1 r1.2.1 r1.2.2) fun r14 =>
some (([⟨r14.1.kind, r14.1.var, r14.1.box, ⟨r14.1.e.op, r14.1.e.n, r14.1.e.args⟩, r14.1.body, r14.1.els⟩] : List Stm), r14.2.1, r14.2.2)
else
(bif (decide (r1.1 = 7)) then
some (([⟨6, 0, 0, ⟨0, 0, []⟩, [], []⟩] : List Stm), r1.2.1, r1.2.2)
else
bnd (Rb 3 r1.2.1 r1.2.2) fun r15 =>
bnd (Rap (wrap64 (1 + r15.1)) r15.2.1 r15.2.2) fun r16 =>
some (([⟨7, 0, 0, ⟨r16.1, r16.2.1, r16.2.2.1.2⟩, [], []⟩] : List Stm), r16.2.2.2.1, r16.2.2.2.2))))))))) : Option (List Stm × List Int × Int))
 (Rke a1 a2 a3 a0b a0p) := by
 rewrite [← Qyy]
 exact fun r h => fE Rsu p4500 h
theorem Rhs (t1 : Int) (t2 : Int) (t3 : Int) (t4 : Bool) (t11b : Bool) (t11 : List Stm) (t12 : Int) (b0_0 : List Int) (b0_1 : Int) : Tv.Le
 ((bif (decide (t12 < t3)) then
bnd (Rke t1 t2 t4 b0_0 b0_1) fun r1 =>
bnd (appL t11 r1.1) fun l2 =>
Reh t1 t2 t3 t4 true l2 (wrap64 (t12 + 1)) r1.2.1 r1.2.2
else
some ((t11b, t11), b0_0, b0_1)) : Option ((Bool × List Stm) × List Int × Int))
 (Reh t1 t2 t3 t4 t11b t11 t12 b0_0 b0_1) := by
 rewrite [← Qyy]
 exact fun r h => lE s4601 p4601 h
theorem Rho (t0 : List Stm) (t3 : Int) (t4 : Int) : Tv.Le
 ((bif (decide (t4 < (t0.length : Int))) then
bnd (geti t0 t4) fun e1 =>
bnd (Ran e1.body) fun r2 =>
bnd (geti t0 t4) fun e3 =>
bnd (Ran e3.els) fun r4 =>
Reg t0 (wrap64 ((wrap64 ((wrap64 (t3 + 1)) + r2)) + r4)) (wrap64 (t4 + 1))
else
some t3) : Option (Int))
 (Reg t0 t3 t4) := by
 rewrite [← Qyy]
 exact fun r h => lE Rvv p4001 h
theorem Rre (a0 : Int) : Tv.Le
 (some (Tv.bytes ([(((wrap64 (97 + a0))) % 256)] : List Int)) : Option (List UInt8))
 (Res a0) := by
 rewrite [← Qyy]
 exact fun r h => fE Rdo p32400 h
theorem Rqg (a0 : List (List UInt8)) (a1 : Exp) : Tv.Le
 (bnd (Rcm (⟨a1.op, a1.n, a1.args⟩ : Exp)) fun r1 =>
bnd (appL a0 r1) fun l2 =>
bnd (appL l2 ([[59]] : List (List UInt8))) fun l3 =>
some l3 : Option (List (List UInt8)))
 (Rgd a0 a1) := by
 exact fun r h => fE Rhj p46700 h
theorem Rpc (a0 : Exp) : Tv.Le
 ((bif (decide (a0.op = 0)) then
bnd (Rdj a0.n) fun r1 =>
some ([r1] : List (List UInt8))
else
(bif (decide (a0.op = 13)) then
bnd (Res a0.n) fun r2 =>
some ([r2] : List (List UInt8))
else
bnd (Rev a0.op) fun r3 =>
bnd (geti a0.args 0) fun e4 =>
bnd (Rcm (⟨e4.op, e4.n, e4.args⟩ : Exp)) fun r5 =>
bnd (geti a0.args 0) fun e6 =>
bnd (Rif (⟨e6.op, e6.n, e6.args⟩ : Exp)) fun r7 =>
bnd (Rji r5 (decide (r7 < r3))) fun r8 =>
bnd (Rje a0.op) fun r9 =>
bnd (appL r8 ([r9] : List (List UInt8))) fun l10 =>
bnd (geti a0.args 1) fun e11 =>
bnd (Rcm (⟨e11.op, e11.n, e11.args⟩ : Exp)) fun r12 =>
bnd (geti a0.args 1) fun e13 =>
bnd (Rif (⟨e13.op, e13.n, e13.args⟩ : Exp)) fun r14 =>
bnd (Rji r12 (decide (r14 ≤ r3))) fun r15 =>
bnd (appL l10 r15) fun l16 =>
some l16)) : Option (List (List UInt8)))
 (Rcm a0) := by
 exact fun r h => fE Rhj p35300 h
theorem Rq (a0tokens : List (List UInt8)) (a0at : Int) (a0failed : Bool) : Tv.Le
 (bnd (Raw a0tokens a0at a0failed) fun r1 =>
(bif (r1.1 == [40]) then
bnd (Rf 1 r1.2.1 (wrap64 (r1.2.2.1 + 1)) r1.2.2.2) fun r2 =>
bnd (Rg [41] r2.2.1 r2.2.2.1 r2.2.2.2) fun r3 =>
some (⟨r2.1.op, r2.1.n, r2.1.args⟩, r3.1, r3.2.1, r3.2.2)
else
(bif (!(r1.1 == [])) then
bnd (geti r1.1 0) fun c4 =>
bnd (Rfy (c4.toNat : Int)) fun r5 =>
(bif r5 then
bnd (Rad r1.2.1 r1.2.2.1 r1.2.2.2) fun r6 =>
some (⟨0, r6.1, []⟩, r6.2.1, r6.2.2.1, r6.2.2.2)
else
bnd (Rk r1.2.1 r1.2.2.1 r1.2.2.2) fun r7 =>
some (⟨13, r7.1, []⟩, r7.2.1, r7.2.2.1, r7.2.2.2))
else
bnd (Rk r1.2.1 r1.2.2.1 r1.2.2.2) fun r8 =>
some (⟨13, r8.1, []⟩, r8.2.1, r8.2.2.1, r8.2.2.2))) : Option (Exp × List (List UInt8) × Int × Bool))
 (Rai a0tokens a0at a0failed) := by
 rewrite [← Qyy]
 exact fun r h => fE Rrv p34100 h
theorem Rqt (a0 : List UInt8) : Tv.Le
 (bnd (Rec a0 0) fun r1 =>
selm r1 (fun y2 =>
some 0) (fun z3 =>
some z3) : Option (Int))
 (Rkw a0) := by
 exact fun r h => fE Rcs p34200 h
theorem Rpn (a0 : Int) : Tv.Le
 ((bif (decide (a0 = 1)) then
some 1
else
(bif (decide (a0 = 2)) then
some 2
else
(bif (decide (a0 = 3)) then
some 3
else
(bif (decide (a0 = 4)) then
some 4
else
(bif (decide (a0 = 5)) then
some 5
else
(bif (decide (a0 = 6)) then
some 6
else
(bif (decide (a0 = 7)) then
some 6
else
(bif (decide (a0 = 8)) then
some 7
else
(bif (decide (a0 = 9)) then
some 7
else
(bif (decide (a0 = 10)) then
some 8
else
(bif (decide (a0 = 11)) then
some 8
else
(bif (decide (a0 = 12)) then
some 8
else
some 0)))))))))))) : Option (Int))
 (Rhy a0) := by
 exact fun r h => fE Rcs p34300 h
theorem Raq (t1 : Int) (b0_0 : List (List UInt8)) (b0_1 : Int) (b0_2 : Bool) (b100_0 : Int) (b100_1 : Int) (b100_2b : Bool) (b100_2 : List Exp) (b101_0 : Int) (b101_1 : Int) (b101_2m : Md) (b101_2 : List Exp) : Tv.Le
 ((bif (!b0_2) then
bnd (Raw b0_0 b0_1 b0_2) fun r1 =>
bnd (Rkw r1.1) fun r2 =>
(bif (decide (r2 = 0)) then
some (r1.2.1, r1.2.2.1, r1.2.2.2, b100_0, b100_1, (b100_2b, b100_2), b101_0, b101_1, (b101_2m, b101_2))
else
bnd (Rhy r2) fun r3 =>
(bif (decide (r3 < t1)) then
some (r1.2.1, r1.2.2.1, r1.2.2.2, b100_0, b100_1, (b100_2b, b100_2), b101_0, b101_1, (b101_2m, b101_2))
else
bnd (Rhy r2) fun r4 =>
bnd (Rf (wrap64 (r4 + 1)) r1.2.1 (wrap64 (r1.2.2.1 + 1)) r1.2.2.2) fun r5 =>
Rah t1 r5.2.1 r5.2.2.1 r5.2.2.2 b100_0 b100_1 b100_2b b100_2 r2 0 .full ([⟨b101_0, b101_1, b101_2⟩, ⟨r5.1.op, r5.1.n, r5.1.args⟩] : List Exp)))
else
some (b0_0, b0_1, b0_2, b100_0, b100_1, (b100_2b, b100_2), b101_0, b101_1, (b101_2m, b101_2))) : Option (List (List UInt8) × Int × Bool × Int × Int × (Bool × List Exp) × Int × Int × (Md × List Exp)))
 (Rah t1 b0_0 b0_1 b0_2 b100_0 b100_1 b100_2b b100_2 b101_0 b101_1 b101_2m b101_2) := by
 rewrite [← Qyy]
 exact fun r h => lE Rxr p34401 h
theorem Rnh (a0 : Stm) (a1 : Int) : Tv.Le
 ((bif (decide (a0.kind = 1)) then
bnd (Rh a0.var 4 true) fun r1 =>
(bif (!r1) then
some false
else
bnd (Rh a0.box a1 false) fun r2 =>
(bif (!r2) then
some false
else
bnd (Rcp (⟨a0.e.op, a0.e.n, a0.e.args⟩ : Exp)) fun r3 =>
(bif (!r3) then
some false
else
(bif (decide ((a0.body.length : Int) = 0)) then
some (decide ((a0.els.length : Int) = 0))
else
some false))))
else
(bif (decide (a0.kind = 2)) then
bnd (Rh a0.var 4 false) fun r4 =>
(bif (!r4) then
some false
else
bnd (Rh a0.box a1 false) fun r5 =>
(bif (!r5) then
some false
else
bnd (Rcp (⟨a0.e.op, a0.e.n, a0.e.args⟩ : Exp)) fun r6 =>
(bif (!r6) then
some false
else
some true)))
else
(bif (decide (a0.kind = 3)) then
bnd (Rh a0.var 4 false) fun r7 =>
(bif (!r7) then
some false
else
bnd (Rh a0.box a1 false) fun r8 =>
(bif (!r8) then
some false
else
bnd (Rcp (⟨a0.e.op, a0.e.n, a0.e.args⟩ : Exp)) fun r9 =>
(bif (!r9) then
some false
else
some (decide ((a0.els.length : Int) = 0)))))
else
(bif (decide (a0.kind = 4)) then
bnd (Rh a0.var 4 false) fun r10 =>
(bif (!r10) then
some false
else
bnd (Rh a0.box a1 true) fun r11 =>
(bif (!r11) then
some false
else
(bif (decide (a1 ≤ a0.box)) then
some false
else
bnd (Rcp (⟨a0.e.op, a0.e.n, a0.e.args⟩ : Exp)) fun r12 =>
(bif (!r12) then
some false
else
(bif (decide ((a0.body.length : Int) = 0)) then
some (decide ((a0.els.length : Int) = 0))
else
some false)))))
else
(bif (decide (a0.kind = 5)) then
bnd (Rh a0.var 4 true) fun r13 =>
(bif (!r13) then
some false
else
bnd (Rh a0.box a1 true) fun r14 =>
(bif (!r14) then
some false
else
(bif (decide (a1 ≤ a0.box)) then
some false
else
(bif (!decide (a0.e.op = 0)) then
some false
else
(bif (!decide (a0.e.n = 0)) then
some false
else
(bif (decide (0 < (a0.e.args.length : Int))) then
some false
else
(bif (decide ((a0.body.length : Int) = 0)) then
some (decide ((a0.els.length : Int) = 0))
else
some false)))))))
else
(bif (decide (a0.kind = 7)) then
bnd (Rh a0.var 4 false) fun r15 =>
(bif (!r15) then
some false
else
bnd (Rh a0.box a1 false) fun r16 =>
(bif (!r16) then
some false
else
bnd (Rcp (⟨a0.e.op, a0.e.n, a0.e.args⟩ : Exp)) fun r17 =>
(bif (!r17) then
some false
else
(bif (decide ((a0.body.length : Int) = 0)) then
some (decide ((a0.els.length : Int) = 0))
else
some false))))
else
(bif (decide (a0.kind = 6)) then
bnd (Rh a0.var 4 false) fun r18 =>
(bif (!r18) then
some false
else
bnd (Rh a0.box a1 false) fun r19 =>
(bif (!r19) then
some false
else
(bif (!decide (a0.e.op = 0)) then
some false
else
(bif (!decide (a0.e.n = 0)) then
some false
else
(bif (decide (0 < (a0.e.args.length : Int))) then
some false
else
(bif (decide ((a0.body.length : Int) = 0)) then
some (decide ((a0.els.length : Int) = 0))
else
some false))))))
else
some false))))))) : Option (Bool))
 (Rii a0 a1) := by
 exact fun r h => fE Rn p5200 h
theorem Rag (t0 : List Stm) (t1 : Int) (t2 : Int) (t23 : Int) (t24 : Int) (b0_0 : Int) : Tv.Le
 ((bif (decide (t24 < t23)) then
bnd (geti t0 t24) fun e1 =>
bnd (Rii (⟨e1.kind, e1.var, e1.box, ⟨e1.e.op, e1.e.n, e1.e.args⟩, e1.body, e1.els⟩ : Stm) t1) fun r2 =>
(bif (!r2) then
some (.inr (false, b0_0))
else
(bif (decide (3 < t2)) then
some (.inr (false, b0_0))
else
(bif (!decide (e1.kind = 2)) then
(bif (!decide (e1.kind = 3)) then
Rbi t0 t1 t2 t23 (wrap64 (t24 + 1)) b0_0
else
(bif (decide (3 ≤ t2)) then
some (.inr (false, b0_0))
else
bnd (Rbe e1.body t1 (wrap64 (t2 + 1)) b0_0) fun r3 =>
(bif (!r3.1) then
some (.inr (false, r3.2))
else
bnd (Rbe e1.els t1 (wrap64 (t2 + 1)) r3.2) fun r4 =>
(bif (!r4.1) then
some (.inr (false, r4.2))
else
Rbi t0 t1 t2 t23 (wrap64 (t24 + 1)) r4.2))))
else
(bif (decide (3 ≤ t2)) then
some (.inr (false, b0_0))
else
bnd (Rbe e1.body t1 (wrap64 (t2 + 1)) b0_0) fun r5 =>
(bif (!r5.1) then
some (.inr (false, r5.2))
else
bnd (Rbe e1.els t1 (wrap64 (t2 + 1)) r5.2) fun r6 =>
(bif (!r6.1) then
some (.inr (false, r6.2))
else
Rbi t0 t1 t2 t23 (wrap64 (t24 + 1)) r6.2))))))
else
some (.inl b0_0)) : Option (Int ⊕ (Bool × Int)))
 (Rbi t0 t1 t2 t23 t24 b0_0) := by
 rewrite [← Qyy]
 exact fun r h => lE s5301 p5301 h
theorem Rjn (t0 : List UInt8) (t1 : Int) (t5 : Int) : Tv.Le
 ((bif (decide (t5 < (t0.length : Int))) then
bnd (geti t0 t5) fun c1 =>
bnd (Rfr (c1.toNat : Int)) fun r2 =>
bnd (geti t0 t1) fun c3 =>
bnd (Rfr (c3.toNat : Int)) fun r4 =>
(bif (decide (r2 = r4)) then
Rgy t0 t1 (wrap64 (t5 + 1))
else
some t5)
else
some t5) : Option (Int))
 (Rgy t0 t1 t5) := by
 rewrite [← Qyy]
 exact fun r h => lE Rvv p31901 h
theorem Rfg (a0 : List (List UInt8)) (a1 : Int) (a2 : Int) : Tv.Le
 ((bif (decide (8 < a2)) then
bnd (Rew a0 a1) fun r1 =>
some (⟨r1.1.op, r1.1.n, r1.1.args⟩, r1.2)
else
bnd (Ry a0 a1 (wrap64 (a2 + 1))) fun r2 =>
bnd (Rbh a0 a2 r2.2 0 0 false [] r2.1.op r2.1.n .share r2.1.args) fun r3 =>
some (⟨r3.2.2.2.2.1, r3.2.2.2.2.2.1, r3.2.2.2.2.2.2.2⟩, r3.1)) : Option (Exp × Int))
 (Ry a0 a1 a2) := by
 rewrite [← Qyy]
 exact fun r h => fE Rmf p32900 h
theorem Rgn (t0 : List UInt8) (t3 : Int) : Tv.Le
 ((bif (decide (t3 < 4)) then
bnd (Res t3) fun r1 =>
(bif (t0 == r1) then
some (.inr t3)
else
Rfh t0 (wrap64 (t3 + 1)))
else
some (.inl ())) : Option (Unit ⊕ Int))
 (Rfh t0 t3) := by
 rewrite [← Qyy]
 exact fun r h => lE Rme p32501 h
theorem Rmm (a0 : Stm) (a1 : Int) : Tv.Le
 ((bif (!decide (a0.kind = 2)) then
(bif (!decide (a0.kind = 3)) then
bnd (Rfv (⟨a0.kind, a0.var, a0.box, ⟨a0.e.op, a0.e.n, a0.e.args⟩, a0.body, a0.els⟩ : Stm)) fun r1 =>
some r1
else
(bif (decide (a1 < 1)) then
some false
else
(bif (decide (a0.kind = 3)) then
(bif (decide (0 < (a0.els.length : Int))) then
some false
else
bnd (Rbv (⟨a0.kind, a0.var, a0.box, ⟨a0.e.op, a0.e.n, a0.e.args⟩, a0.body, a0.els⟩ : Stm) false) fun r2 =>
(bif r2 then
bnd (Rbu (⟨a0.kind, a0.var, a0.box, ⟨a0.e.op, a0.e.n, a0.e.args⟩, a0.body, a0.els⟩ : Stm) false) fun r3 =>
(bif r3 then
bnd (Rbc (⟨a0.e.op, a0.e.n, a0.e.args⟩ : Exp)) fun r4 =>
(bif r4 then
bnd (Rx a0.body (wrap64 (a1 - 1))) fun r5 =>
(bif r5 then
bnd (Rx a0.els (wrap64 (a1 - 1))) fun r6 =>
some r6
else
some false)
else
some false)
else
some false)
else
some false))
else
bnd (Rbv (⟨a0.kind, a0.var, a0.box, ⟨a0.e.op, a0.e.n, a0.e.args⟩, a0.body, a0.els⟩ : Stm) false) fun r7 =>
(bif r7 then
bnd (Rbu (⟨a0.kind, a0.var, a0.box, ⟨a0.e.op, a0.e.n, a0.e.args⟩, a0.body, a0.els⟩ : Stm) false) fun r8 =>
(bif r8 then
bnd (Rbc (⟨a0.e.op, a0.e.n, a0.e.args⟩ : Exp)) fun r9 =>
(bif r9 then
bnd (Rx a0.body (wrap64 (a1 - 1))) fun r10 =>
(bif r10 then
bnd (Rx a0.els (wrap64 (a1 - 1))) fun r11 =>
some r11
else
some false)
else
some false)
else
some false)
else
some false))))
else
(bif (decide (a1 < 1)) then
some false
else
(bif (decide (a0.kind = 3)) then
(bif (decide (0 < (a0.els.length : Int))) then
some false
else
bnd (Rbv (⟨a0.kind, a0.var, a0.box, ⟨a0.e.op, a0.e.n, a0.e.args⟩, a0.body, a0.els⟩ : Stm) false) fun r12 =>
(bif r12 then
bnd (Rbu (⟨a0.kind, a0.var, a0.box, ⟨a0.e.op, a0.e.n, a0.e.args⟩, a0.body, a0.els⟩ : Stm) false) fun r13 =>
(bif r13 then
bnd (Rbc (⟨a0.e.op, a0.e.n, a0.e.args⟩ : Exp)) fun r14 =>
(bif r14 then
bnd (Rx a0.body (wrap64 (a1 - 1))) fun r15 =>
(bif r15 then
bnd (Rx a0.els (wrap64 (a1 - 1))) fun r16 =>
some r16
else
some false)
else
some false)
else
some false)
else
some false))
else
bnd (Rbv (⟨a0.kind, a0.var, a0.box, ⟨a0.e.op, a0.e.n, a0.e.args⟩, a0.body, a0.els⟩ : Stm) false) fun r17 =>
(bif r17 then
bnd (Rbu (⟨a0.kind, a0.var, a0.box, ⟨a0.e.op, a0.e.n, a0.e.args⟩, a0.body, a0.els⟩ : Stm) false) fun r18 =>
(bif r18 then
bnd (Rbc (⟨a0.e.op, a0.e.n, a0.e.args⟩ : Exp)) fun r19 =>
(bif r19 then
bnd (Rx a0.body (wrap64 (a1 - 1))) fun r20 =>
(bif r20 then
bnd (Rx a0.els (wrap64 (a1 - 1))) fun r21 =>
some r21
else
some false)
else
some false)
else
some false)
else
some false)))) : Option (Bool))
 (Ris a0 a1) := by
 rewrite [← Qyy]
 exact fun r h => fE Rn p6100 h
theorem Rgt (t0 : List Stm) (t1 : Int) (t5 : Int) : Tv.Le
 ((bif (decide (t5 < (t0.length : Int))) then
bnd (geti t0 t5) fun e1 =>
bnd (Ris (⟨e1.kind, e1.var, e1.box, ⟨e1.e.op, e1.e.n, e1.e.args⟩, e1.body, e1.els⟩ : Stm) t1) fun r2 =>
(bif (!r2) then
some (.inr false)
else
Rdx t0 t1 (wrap64 (t5 + 1)))
else
some (.inl ())) : Option (Unit ⊕ Bool))
 (Rdx t0 t1 t5) := by
 rewrite [← Qyy]
 exact fun r h => lE Rgv p6201 h
theorem Rrh (a0b : List Int) (a0p : Int) : Tv.Le
 (bnd (Rb 3 a0b a0p) fun r1 =>
bnd (Rb 3 r1.2.1 r1.2.2) fun r2 =>
bnd (Rap (wrap64 (1 + r2.1)) r2.2.1 r2.2.2) fun r3 =>
some (⟨1, r1.1, 0, ⟨r3.1, r3.2.1, r3.2.2.1.2⟩, [], []⟩, r3.2.2.2.1, r3.2.2.2.2) : Option (Stm × List Int × Int))
 (Rhw a0b a0p) := by
 rewrite [← Qyy]
 exact fun r h => fE Ros p4200 h
theorem Rsy (a1 : Int) (a2 : Int) (a3 : Bool) (a0b : List Int) (a0p : Int) : Tv.Le
 (bnd (Rb 2 a0b a0p) fun r1 =>
bnd (Rap (wrap64 (1 + r1.1)) r1.2.1 r1.2.2) fun r2 =>
bnd (Rb 3 r2.2.2.2.1 r2.2.2.2.2) fun r3 =>
bnd (Rco a1 (wrap64 (a2 - 1)) r3.1 a3 r3.2.1 r3.2.2) fun r4 =>
bnd (Rb 3 r4.2.1 r4.2.2) fun r5 =>
bnd (Rco a1 (wrap64 (a2 - 1)) r5.1 a3 r5.2.1 r5.2.2) fun r6 =>
some (⟨2, 0, 0, ⟨r2.1, r2.2.1, r2.2.2.1.2⟩, r4.1, r6.1⟩, r6.2.1, r6.2.2) : Option (Stm × List Int × Int))
 (Rny a1 a2 a3 a0b a0p) := by
 rewrite [← Qyy]
 exact fun r h => fE Ros p4100 h
theorem Rkb (a1 : Int) (a0b : List Int) (a0p : Int) : Tv.Le
 ((bif (decide (a1 < 2)) then
bnd (Rex a0b a0p) fun r1 =>
some (r1.1, r1.2.1, ((Md.dem (Md.dem (Md.dem r1.2.2.1.1))), r1.2.2.1.2), r1.2.2.2.1, r1.2.2.2.2)
else
bnd (Rb 3 a0b a0p) fun r2 =>
(bif (decide (r2.1 = 0)) then
bnd (Rex r2.2.1 r2.2.2) fun r3 =>
some (r3.1, r3.2.1, ((Md.dem (Md.dem (Md.dem r3.2.2.1.1))), r3.2.2.1.2), r3.2.2.2.1, r3.2.2.2.2)
else
bnd (Rnx r2.2.1 r2.2.2) fun r4 =>
bnd (Rap (wrap64 (a1 - 1)) r4.2.1 r4.2.2) fun r5 =>
bnd (Rap (wrap64 (a1 - 1)) r5.2.2.2.1 r5.2.2.2.2) fun r6 =>
bnd (Rfs r4.1 (⟨r5.1, r5.2.1, r5.2.2.1.2⟩ : Exp) (⟨r6.1, r6.2.1, r6.2.2.1.2⟩ : Exp)) fun r7 =>
some (r7.1, r7.2.1, ((Md.dem (Md.dem (Md.dem r7.2.2.1))), r7.2.2.2), r6.2.2.2.1, r6.2.2.2.2))) : Option (Int × Int × (Md × List Exp) × List Int × Int))
 (Rap a1 a0b a0p) := by
 rewrite [← Qyy]
 exact fun r h => fE s400 p700 h
theorem Rqk (a1 : Int) (a2 : Int) (a0b : List Int) (a0p : Int) : Tv.Le
 (bnd (Rb 3 a0b a0p) fun r1 =>
bnd (Rco a1 (wrap64 (a2 - 1)) r1.1 false r1.2.1 r1.2.2) fun r2 =>
bnd (Rbb 13 3) fun r3 =>
bnd (Rbb 0 1) fun r4 =>
bnd (Rfs 8 (⟨r3.1, r3.2.1, r3.2.2.2⟩ : Exp) (⟨r4.1, r4.2.1, r4.2.2.2⟩ : Exp)) fun r5 =>
bnd (Rbb 13 3) fun r6 =>
bnd (Rb 3 r2.2.1 r2.2.2) fun r7 =>
bnd (Rbb 0 (wrap64 (1 + r7.1))) fun r8 =>
bnd (Rfs 5 (⟨r6.1, r6.2.1, r6.2.2.2⟩ : Exp) (⟨r8.1, r8.2.1, r8.2.2.2⟩ : Exp)) fun r9 =>
bnd (appL r2.1 ([⟨1, 3, 0, ⟨r5.1, r5.2.1, r5.2.2.2⟩, [], []⟩] : List Stm)) fun l10 =>
bnd (Rbb 0 0) fun r11 =>
some (([⟨1, 3, 0, ⟨r11.1, r11.2.1, r11.2.2.2⟩, [], []⟩, ⟨3, 0, 0, ⟨r9.1, r9.2.1, r9.2.2.2⟩, l10, []⟩] : List Stm), r7.2.1, r7.2.2) : Option (List Stm × List Int × Int))
 (Rkd a1 a2 a0b a0p) := by
 rewrite [← Qyy]
 exact fun r h => fE Rsu p4300 h
theorem Rqm (a1 : Int) (a0b : List Int) (a0p : Int) : Tv.Le
 ((bif (decide (a1 < 1)) then
bnd (Rhw a0b a0p) fun r1 =>
some (⟨r1.1.kind, r1.1.var, r1.1.box, ⟨r1.1.e.op, r1.1.e.n, r1.1.e.args⟩, r1.1.body, r1.1.els⟩, r1.2.1, r1.2.2)
else
bnd (Rb a1 a0b a0p) fun r2 =>
bnd (Rb 2 r2.2.1 r2.2.2) fun r3 =>
(bif (decide (r3.1 = 0)) then
bnd (Rb 3 r3.2.1 r3.2.2) fun r4 =>
bnd (Rap (wrap64 (1 + r4.1)) r4.2.1 r4.2.2) fun r5 =>
some (⟨4, 0, r2.1, ⟨r5.1, r5.2.1, r5.2.2.1.2⟩, [], []⟩, r5.2.2.2.1, r5.2.2.2.2)
else
bnd (Rb 3 r3.2.1 r3.2.2) fun r6 =>
some (⟨5, r6.1, r2.1, ⟨0, 0, []⟩, [], []⟩, r6.2.1, r6.2.2))) : Option (Stm × List Int × Int))
 (Rgg a1 a0b a0p) := by
 rewrite [← Qyy]
 exact fun r h => fE Ros p4400 h
theorem Rqd (a0 : Int) : Tv.Le
 (bnd (Rgc a0) fun r1 =>
(bif (!r1) then
some 0
else
bnd (geti ([1, 2, 3, 4, 5, 6, 6, 7, 7, 8, 8, 8] : List Int) (wrap64 (a0 - 1))) fun e2 =>
some e2) : Option (Int))
 (Rev a0) := by
 rewrite [← Qyy]
 exact fun r h => fE Rcs p32700 h
theorem Rqi (a0 : Exp) : Tv.Le
 ((bif (decide ((a0.args.length : Int) = 0)) then
some 9
else
bnd (Rev a0.op) fun r1 =>
some r1) : Option (Int))
 (Rif a0) := by
 exact fun r h => fE Rcs p35200 h
theorem Rrf (a0 : List (List UInt8)) (a1 : Bool) : Tv.Le
 ((bif (!a1) then
some a0
else
bnd (appL ([[40]] : List (List UInt8)) a0) fun l1 =>
bnd (appL l1 ([[41]] : List (List UInt8))) fun l2 =>
some l2) : Option (List (List UInt8)))
 (Rji a0 a1) := by
 exact fun r h => fE Rhj p35100 h
theorem Rqv (a0 : Int) : Tv.Le
 (bnd (Rgc a0) fun r1 =>
(bif (!r1) then
some []
else
bnd (geti ([[124], [94], [38], [61, 61], [60], [60, 60], [62, 62], [43], [45], [42], [47], [37]] : List (List UInt8)) (wrap64 (a0 - 1))) fun e2 =>
some e2) : Option (List UInt8))
 (Rje a0) := by
 rewrite [← Qyy]
 exact fun r h => fE Rdo p20700 h
theorem Rim (t0 : List UInt8) (t6 : Int) : Tv.Le
 ((bif (decide (t6 < 12)) then
bnd (geti ([[124], [94], [38], [61, 61], [60], [60, 60], [62, 62], [43], [45], [42], [47], [37]] : List (List UInt8)) t6) fun s1 =>
(bif (s1 == t0) then
some (.inr (wrap64 (1 + t6)))
else
Rec t0 (wrap64 (t6 + 1)))
else
some (.inl ())) : Option (Unit ⊕ Int))
 (Rec t0 t6) := by
 rewrite [← Qyy]
 exact fun r h => lE Rme p34201 h
theorem Ren (a0 : Int) (a1 : Int) (a2 : Bool) : Tv.Le
 ((bif (decide (a0 = 0)) then
some true
else
(bif a2 then
(bif (decide (0 < a0)) then
some (decide (a0 < a1))
else
some false)
else
some false)) : Option (Bool))
 (Rh a0 a1 a2) := by
 exact fun r h => fE Rn p11100 h
theorem Rne (a0 : Exp) : Tv.Le
 (bnd (Reb (⟨a0.op, a0.n, a0.args⟩ : Exp) 5) fun r1 =>
some r1 : Option (Bool))
 (Rcp a0) := by
 exact fun r h => fE Rn p1200 h
theorem Rbw (a0 : List (List UInt8)) (a1 : Int) : Tv.Le
 ((bif (decide ((a0.length : Int) ≤ a1)) then
some (⟨0, 0, []⟩, (-1))
else
bnd (geti a0 a1) fun e1 =>
(bif (e1 == [40]) then
bnd (Ry a0 (wrap64 (a1 + 1)) 1) fun r2 =>
(bif (decide (r2.2 < 0)) then
some (⟨0, 0, []⟩, (-1))
else
(bif (decide ((a0.length : Int) ≤ r2.2)) then
some (⟨0, 0, []⟩, (-1))
else
bnd (geti a0 r2.2) fun e3 =>
(bif (!(e3 == [41])) then
some (⟨0, 0, []⟩, (-1))
else
some (⟨r2.1.op, r2.1.n, r2.1.args⟩, (wrap64 (r2.2 + 1))))))
else
bnd (geti a0 a1) fun e4 =>
bnd (Rff e4) fun r5 =>
(bif (decide (0 ≤ r5)) then
bnd (geti a0 a1) fun e6 =>
bnd (Rff e6) fun r7 =>
bnd (Rbb 0 r7) fun r8 =>
some (⟨r8.1, r8.2.1, r8.2.2.2⟩, (wrap64 (a1 + 1)))
else
bnd (geti a0 a1) fun e9 =>
bnd (Rc e9) fun r10 =>
(bif (decide (0 ≤ r10)) then
bnd (geti a0 a1) fun e11 =>
bnd (Rc e11) fun r12 =>
bnd (Rbb 13 r12) fun r13 =>
some (⟨r13.1, r13.2.1, r13.2.2.2⟩, (wrap64 (a1 + 1)))
else
some (⟨0, 0, []⟩, (-1)))))) : Option (Exp × Int))
 (Rew a0 a1) := by
 rewrite [← Qyy]
 exact fun r h => fE Rmf p32600 h
theorem Rts (a0 : List UInt8) : Tv.Le
 (bnd (Rge a0 1) fun r1 =>
selm r1 (fun y2 =>
some 0) (fun z3 =>
some z3) : Option (Int))
 (Rmp a0) := by
 exact fun r h => fE Rcs p32800 h
theorem Rrc (a0 : Int) (a1 : Exp) (a2 : Exp) : Tv.Le
 (some (a0, 0, (.full, ([⟨a1.op, a1.n, a1.args⟩, ⟨a2.op, a2.n, a2.args⟩] : List Exp))) : Option (Int × Int × (Md × List Exp)))
 (Rfs a0 a1 a2) := by
 exact fun r h => fE s300 p500 h
theorem Rcl (t0 : List (List UInt8)) (t2 : Int) (t9 : Int) (b100_0 : Int) (b100_1 : Int) (b100_2b : Bool) (b100_2 : List Exp) (b101_0 : Int) (b101_1 : Int) (b101_2m : Md) (b101_2 : List Exp) : Tv.Le
 ((bif (decide (0 ≤ t9)) then
(bif (decide (t9 < (t0.length : Int))) then
bnd (geti t0 t9) fun e1 =>
bnd (Rmp e1) fun r2 =>
bnd (Rev r2) fun r3 =>
(bif (decide (r3 = t2)) then
bnd (geti t0 t9) fun e4 =>
bnd (Rmp e4) fun r5 =>
bnd (Ry t0 (wrap64 (t9 + 1)) (wrap64 (t2 + 1))) fun r6 =>
bnd (Rfs r5 (⟨b101_0, b101_1, b101_2⟩ : Exp) (⟨r6.1.op, r6.1.n, r6.1.args⟩ : Exp)) fun r7 =>
Rbh t0 t2 r6.2 b100_0 b100_1 b100_2b b100_2 r7.1 r7.2.1 (Md.dem r7.2.2.1) r7.2.2.2
else
some (t9, b100_0, b100_1, (b100_2b, b100_2), b101_0, b101_1, (b101_2m, b101_2)))
else
some (t9, b100_0, b100_1, (b100_2b, b100_2), b101_0, b101_1, (b101_2m, b101_2)))
else
some (t9, b100_0, b100_1, (b100_2b, b100_2), b101_0, b101_1, (b101_2m, b101_2))) : Option (Int × Int × Int × (Bool × List Exp) × Int × Int × (Md × List Exp)))
 (Rbh t0 t2 t9 b100_0 b100_1 b100_2b b100_2 b101_0 b101_1 b101_2m b101_2) := by
 rewrite [← Qyy]
 exact fun r h => lE Rxm p32901 h
theorem Rnu (a0 : Stm) : Tv.Le
 ((bif (decide (0 < (a0.body.length : Int))) then
some false
else
(bif (decide (0 < (a0.els.length : Int))) then
some false
else
(bif (decide (a0.kind = 1)) then
bnd (Rbv (⟨a0.kind, a0.var, a0.box, ⟨a0.e.op, a0.e.n, a0.e.args⟩, a0.body, a0.els⟩ : Stm) true) fun r1 =>
(bif r1 then
bnd (Rbu (⟨a0.kind, a0.var, a0.box, ⟨a0.e.op, a0.e.n, a0.e.args⟩, a0.body, a0.els⟩ : Stm) false) fun r2 =>
(bif r2 then
bnd (Rbc (⟨a0.e.op, a0.e.n, a0.e.args⟩ : Exp)) fun r3 =>
some r3
else
some false)
else
some false)
else
(bif (decide (a0.kind = 4)) then
bnd (Rbv (⟨a0.kind, a0.var, a0.box, ⟨a0.e.op, a0.e.n, a0.e.args⟩, a0.body, a0.els⟩ : Stm) false) fun r4 =>
(bif r4 then
bnd (Rbu (⟨a0.kind, a0.var, a0.box, ⟨a0.e.op, a0.e.n, a0.e.args⟩, a0.body, a0.els⟩ : Stm) true) fun r5 =>
(bif r5 then
bnd (Rbc (⟨a0.e.op, a0.e.n, a0.e.args⟩ : Exp)) fun r6 =>
some r6
else
some false)
else
some false)
else
(bif (decide (a0.kind = 5)) then
bnd (Rbv (⟨a0.kind, a0.var, a0.box, ⟨a0.e.op, a0.e.n, a0.e.args⟩, a0.body, a0.els⟩ : Stm) true) fun r7 =>
(bif r7 then
bnd (Rbu (⟨a0.kind, a0.var, a0.box, ⟨a0.e.op, a0.e.n, a0.e.args⟩, a0.body, a0.els⟩ : Stm) true) fun r8 =>
(bif r8 then
bnd (Rgw (⟨a0.e.op, a0.e.n, a0.e.args⟩ : Exp)) fun r9 =>
some r9
else
some false)
else
some false)
else
(bif (decide (a0.kind = 6)) then
bnd (Rbv (⟨a0.kind, a0.var, a0.box, ⟨a0.e.op, a0.e.n, a0.e.args⟩, a0.body, a0.els⟩ : Stm) false) fun r10 =>
(bif r10 then
bnd (Rbu (⟨a0.kind, a0.var, a0.box, ⟨a0.e.op, a0.e.n, a0.e.args⟩, a0.body, a0.els⟩ : Stm) false) fun r11 =>
(bif r11 then
bnd (Rgw (⟨a0.e.op, a0.e.n, a0.e.args⟩ : Exp)) fun r12 =>
some r12
else
some false)
else
some false)
else
(bif (decide (a0.kind = 7)) then
bnd (Rbv (⟨a0.kind, a0.var, a0.box, ⟨a0.e.op, a0.e.n, a0.e.args⟩, a0.body, a0.els⟩ : Stm) false) fun r13 =>
(bif r13 then
bnd (Rbu (⟨a0.kind, a0.var, a0.box, ⟨a0.e.op, a0.e.n, a0.e.args⟩, a0.body, a0.els⟩ : Stm) false) fun r14 =>
(bif r14 then
bnd (Rbc (⟨a0.e.op, a0.e.n, a0.e.args⟩ : Exp)) fun r15 =>
some r15
else
some false)
else
some false)
else
some false))))))) : Option (Bool))
 (Rfv a0) := by
 exact fun r h => fE Rn p6000 h
theorem Rqy (a0 : Stm) (a1 : Bool) : Tv.Le
 ((bif a1 then
bnd (Red a0.var 0 3) fun r1 =>
some r1
else
some (decide (a0.var = 0))) : Option (Bool))
 (Rbv a0 a1) := by
 exact fun r h => fE Rn p5700 h
theorem Rqx (a0 : Stm) (a1 : Bool) : Tv.Le
 ((bif a1 then
bnd (Red a0.box 0 2) fun r1 =>
some r1
else
some (decide (a0.box = 0))) : Option (Bool))
 (Rbu a0 a1) := by
 exact fun r h => fE Rn p5800 h
theorem Rnq (a0 : Exp) : Tv.Le
 (bnd (Rjy (⟨a0.op, a0.n, a0.args⟩ : Exp) 5) fun r1 =>
some r1 : Option (Bool))
 (Rbc a0) := by
 exact fun r h => fE Rn p1900 h
theorem Rkc (a0b : List Int) (a0p : Int) : Tv.Le
 (bnd (Rb 4 a0b a0p) fun r1 =>
(bif (decide (r1.1 = 0)) then
bnd (Rb 4 r1.2.1 r1.2.2) fun r2 =>
bnd (Rbb 0 r2.1) fun r3 =>
some (r3.1, r3.2.1, ((Md.dem (Md.dem (Md.dem r3.2.2.1))), r3.2.2.2), r2.2.1, r2.2.2)
else
(bif (decide (r1.1 = 1)) then
bnd (Rb 8 r1.2.1 r1.2.2) fun r4 =>
bnd (geti ([5, 31, 32, 100, 2047, 2048, 65536, 99999] : List Int) r4.1) fun e5 =>
bnd (Rbb 0 e5) fun r6 =>
some (r6.1, r6.2.1, ((Md.dem (Md.dem (Md.dem r6.2.2.1))), r6.2.2.2), r4.2.1, r4.2.2)
else
bnd (Rb 4 r1.2.1 r1.2.2) fun r7 =>
bnd (Rbb 13 r7.1) fun r8 =>
some (r8.1, r8.2.1, ((Md.dem (Md.dem (Md.dem r8.2.2.1))), r8.2.2.2), r7.2.1, r7.2.2))) : Option (Int × Int × (Md × List Exp) × List Int × Int))
 (Rex a0b a0p) := by
 exact fun r h => fE s400 p400 h
theorem Rsx (a0b : List Int) (a0p : Int) : Tv.Le
 (bnd (Rb 12 a0b a0p) fun r1 =>
some ((wrap64 (1 + r1.1)), r1.2.1, r1.2.2) : Option (Int × List Int × Int))
 (Rnx a0b a0p) := by
 rewrite [← Qyy]
 exact fun r h => fE s200 p600 h
theorem Rqe (a0 : Int) : Tv.Le
 (bnd (Red a0 1 12) fun r1 =>
some r1 : Option (Bool))
 (Rgc a0) := by
 exact fun r h => fE Rn p1700 h
theorem Rng (a0 : Exp) (a1 : Int) : Tv.Le
 ((bif (decide (a0.op = 0)) then
(bif (decide (0 ≤ a0.n)) then
(bif (decide (a0.n ≤ 99999)) then
(bif (decide ((a0.args.length : Int) = 0)) then
some (decide (0 < a1))
else
some false)
else
some false)
else
some false)
else
(bif (decide (a0.op = 13)) then
(bif (decide (0 ≤ a0.n)) then
(bif (decide (a0.n < 4)) then
(bif (decide ((a0.args.length : Int) = 0)) then
some (decide (0 < a1))
else
some false)
else
some false)
else
some false)
else
bnd (Rjp a0.op) fun r1 =>
(bif r1 then
(bif (decide (a0.n = 0)) then
(bif (decide ((a0.args.length : Int) = 2)) then
(bif (decide (1 < a1)) then
bnd (geti a0.args 0) fun e2 =>
bnd (Reb (⟨e2.op, e2.n, e2.args⟩ : Exp) (wrap64 (a1 - 1))) fun r3 =>
(bif r3 then
bnd (geti a0.args 1) fun e4 =>
bnd (Reb (⟨e4.op, e4.n, e4.args⟩ : Exp) (wrap64 (a1 - 1))) fun r5 =>
some r5
else
some false)
else
some false)
else
some false)
else
some false)
else
some false))) : Option (Bool))
 (Reb a0 a1) := by
 rewrite [← Qyy]
 exact fun r h => fE Rn p1100 h
theorem Rka (t0 : List UInt8) (t3 : Int) : Tv.Le
 ((bif (decide (t3 ≤ 12)) then
bnd (Rje t3) fun r1 =>
(bif (t0 == r1) then
some (.inr t3)
else
Rge t0 (wrap64 (t3 + 1)))
else
some (.inl ())) : Option (Unit ⊕ Int))
 (Rge t0 t3) := by
 rewrite [← Qyy]
 exact fun r h => lE Rme p32801 h
theorem Rov (a0 : Exp) : Tv.Le
 ((bif (decide (a0.op = 0)) then
(bif (decide (a0.n = 0)) then
some (decide ((a0.args.length : Int) = 0))
else
some false)
else
some false) : Option (Bool))
 (Rgw a0) := by
 exact fun r h => fE Rn p5900 h
theorem Roj (a0 : Exp) (a1 : Int) : Tv.Le
 ((bif (decide (a1 < 1)) then
some false
else
(bif (decide (a0.op = 0)) then
bnd (Red a0.n 0 99999) fun r1 =>
(bif r1 then
some (decide ((a0.args.length : Int) = 0))
else
some false)
else
(bif (decide (a0.op = 13)) then
bnd (Red a0.n 0 3) fun r2 =>
(bif r2 then
some (decide ((a0.args.length : Int) = 0))
else
some false)
else
bnd (Rgc a0.op) fun r3 =>
(bif r3 then
(bif (decide (a0.n = 0)) then
(bif (decide ((a0.args.length : Int) = 2)) then
bnd (geti a0.args 0) fun e4 =>
bnd (Rjy (⟨e4.op, e4.n, e4.args⟩ : Exp) (wrap64 (a1 - 1))) fun r5 =>
(bif r5 then
bnd (geti a0.args 1) fun e6 =>
bnd (Rjy (⟨e6.op, e6.n, e6.args⟩ : Exp) (wrap64 (a1 - 1))) fun r7 =>
some r7
else
some false)
else
some false)
else
some false)
else
some false)))) : Option (Bool))
 (Rjy a0 a1) := by
 rewrite [← Qyy]
 exact fun r h => fE Rn p1800 h
theorem Rpp (a0 : Int) : Tv.Le
 ((bif (decide (1 ≤ a0)) then
some (decide (a0 ≤ 12))
else
some false) : Option (Bool))
 (Rjp a0) := by
 exact fun r h => fE Rn p1000 h
end Go.TFnSourceEnd