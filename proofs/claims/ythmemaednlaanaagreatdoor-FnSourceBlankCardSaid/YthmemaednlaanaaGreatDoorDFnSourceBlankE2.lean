import Derived.Test.YthmemaednlaanaaGreatDoorDFnSourceBlankP
import Derived.KernelRfl
set_option linter.unusedVariables false
namespace Go.TFnSourceBlank
open Go Go.RowKit Go.Vs Go.Tv
theorem Rqd (a1 : Int) (a2 : Int) (a3 : Bool) (a0b : List Int) (a0p : Int) : Tv.Le
 (bnd (Rb 10 a0b a0p) fun r1 =>
(bif (decide (r1.1 = 0)) then
bnd (Rhr r1.2.1 r1.2.2) fun r2 =>
some (([⟨r2.1.kind, r2.1.var, r2.1.box, ⟨r2.1.e.op, r2.1.e.n, r2.1.e.args⟩, r2.1.body, r2.1.els⟩] : List Stm), r2.2.1, r2.2.2)
else
(bif (decide (r1.1 = 1)) then
bnd (Rhr r1.2.1 r1.2.2) fun r3 =>
some (([⟨r3.1.kind, r3.1.var, r3.1.box, ⟨r3.1.e.op, r3.1.e.n, r3.1.e.args⟩, r3.1.body, r3.1.els⟩] : List Stm), r3.2.1, r3.2.2)
else
(bif (decide (r1.1 = 2)) then
(bif (decide (0 < a2)) then
bnd (Rns a1 a2 a3 r1.2.1 r1.2.2) fun r4 =>
some (([⟨r4.1.kind, r4.1.var, r4.1.box, ⟨r4.1.e.op, r4.1.e.n, r4.1.e.args⟩, r4.1.body, r4.1.els⟩] : List Stm), r4.2.1, r4.2.2)
else
bnd (Rb 3 r1.2.1 r1.2.2) fun r5 =>
bnd (Raq (wrap64 (1 + r5.1)) r5.2.1 r5.2.2) fun r6 =>
some (([⟨7, 0, 0, ⟨r6.1, r6.2.1, r6.2.2.1.2⟩, [], []⟩] : List Stm), r6.2.2.2.1, r6.2.2.2.2))
else
(bif (decide (r1.1 = 3)) then
(bif (decide (0 < a2)) then
(bif a3 then
bnd (Rkb a1 a2 r1.2.1 r1.2.2) fun r7 =>
some (r7.1, r7.2.1, r7.2.2)
else
bnd (Rb 3 r1.2.1 r1.2.2) fun r8 =>
bnd (Raq (wrap64 (1 + r8.1)) r8.2.1 r8.2.2) fun r9 =>
some (([⟨7, 0, 0, ⟨r9.1, r9.2.1, r9.2.2.1.2⟩, [], []⟩] : List Stm), r9.2.2.2.1, r9.2.2.2.2))
else
bnd (Rb 3 r1.2.1 r1.2.2) fun r10 =>
bnd (Raq (wrap64 (1 + r10.1)) r10.2.1 r10.2.2) fun r11 =>
some (([⟨7, 0, 0, ⟨r11.1, r11.2.1, r11.2.2.1.2⟩, [], []⟩] : List Stm), r11.2.2.2.1, r11.2.2.2.2))
else
(bif (decide (r1.1 = 4)) then
bnd (Rgf a1 r1.2.1 r1.2.2) fun r12 =>
some (([⟨r12.1.kind, r12.1.var, r12.1.box, ⟨r12.1.e.op, r12.1.e.n, r12.1.e.args⟩, r12.1.body, r12.1.els⟩] : List Stm), r12.2.1, r12.2.2)
else
(bif (decide (r1.1 = 5)) then
bnd (Rgf a1 r1.2.1 r1.2.2) fun r13 =>
some (([⟨r13.1.kind, r13.1.var, r13.1.box, ⟨r13.1.e.op, r13.1.e.n, r13.1.e.args⟩, r13.1.body, r13.1.els⟩] : List Stm), r13.2.1, r13.2.2)
else
(bif (decide (r1.1 = 6)) then
bnd (Rgf a1 r1.2.1 r1.2.2) fun r14 =>
some (([⟨r14.1.kind, r14.1.var, r14.1.box, ⟨r14.1.e.op, r14.1.e.n, r14.1.e.args⟩, r14.1.body, r14.1.els⟩] : List Stm), r14.2.1, r14.2.2)
else
(bif (decide (r1.1 = 7)) then
some (([⟨6, 0, 0, ⟨0, 0, []⟩, [], []⟩] : List Stm), r1.2.1, r1.2.2)
else
bnd (Rb 3 r1.2.1 r1.2.2) fun r15 =>
bnd (Raq (wrap64 (1 + r15.1)) r15.2.1 r15.2.2) fun r16 =>
some (([⟨7, 0, 0, ⟨r16.1, r16.2.1, r16.2.2.1.2⟩, [], []⟩] : List Stm), r16.2.2.2.1, r16.2.2.2.2))))))))) : Option (List Stm × List Int × Int))
 (Rkc a1 a2 a3 a0b a0p) := by
 rewrite [← Qze]
 exact fun r h => fE Rsm p4500 h
theorem Rhn (t1 : Int) (t2 : Int) (t3 : Int) (t4 : Bool) (t11b : Bool) (t11 : List Stm) (t12 : Int) (b0_0 : List Int) (b0_1 : Int) : Tv.Le
 ((bif (decide (t12 < t3)) then
bnd (Rkc t1 t2 t4 b0_0 b0_1) fun r1 =>
bnd (appL t11 r1.1) fun l2 =>
Reg t1 t2 t3 t4 true l2 (wrap64 (t12 + 1)) r1.2.1 r1.2.2
else
some ((t11b, t11), b0_0, b0_1)) : Option ((Bool × List Stm) × List Int × Int))
 (Reg t1 t2 t3 t4 t11b t11 t12 b0_0 b0_1) := by
 rewrite [← Qze]
 exact fun r h => lE s4601 p4601 h
theorem Rhj (t0 : List Stm) (t3 : Int) (t4 : Int) : Tv.Le
 ((bif (decide (t4 < (t0.length : Int))) then
bnd (geti t0 t4) fun e1 =>
bnd (Rao e1.body) fun r2 =>
bnd (geti t0 t4) fun e3 =>
bnd (Rao e3.els) fun r4 =>
Ref t0 (wrap64 ((wrap64 ((wrap64 (t3 + 1)) + r2)) + r4)) (wrap64 (t4 + 1))
else
some t3) : Option (Int))
 (Ref t0 t3 t4) := by
 rewrite [← Qze]
 exact fun r h => lE Rvl p4001 h
theorem Rqw (a0 : Int) : Tv.Le
 (some (Tv.bytes ([(((wrap64 (97 + a0))) % 256)] : List Int)) : Option (List UInt8))
 (Rer a0) := by
 rewrite [← Qze]
 exact fun r h => fE Rfl p32400 h
theorem Rpy (a0 : List (List UInt8)) (a1 : Exp) : Tv.Le
 (bnd (Rcm (⟨a1.op, a1.n, a1.args⟩ : Exp)) fun r1 =>
bnd (appL a0 r1) fun l2 =>
bnd (appL l2 ([[59]] : List (List UInt8))) fun l3 =>
some l3 : Option (List (List UInt8)))
 (Rgc a0 a1) := by
 exact fun r h => fE Rhe p46700 h
theorem Rov (a0 : Exp) : Tv.Le
 ((bif (decide (a0.op = 0)) then
bnd (Rdi a0.n) fun r1 =>
some ([r1] : List (List UInt8))
else
(bif (decide (a0.op = 13)) then
bnd (Rer a0.n) fun r2 =>
some ([r2] : List (List UInt8))
else
bnd (Rew a0.op) fun r3 =>
bnd (geti a0.args 0) fun e4 =>
bnd (Rcm (⟨e4.op, e4.n, e4.args⟩ : Exp)) fun r5 =>
bnd (geti a0.args 0) fun e6 =>
bnd (Rhz (⟨e6.op, e6.n, e6.args⟩ : Exp)) fun r7 =>
bnd (Rje r5 (decide (r7 < r3))) fun r8 =>
bnd (Rja a0.op) fun r9 =>
bnd (appL r8 ([r9] : List (List UInt8))) fun l10 =>
bnd (geti a0.args 1) fun e11 =>
bnd (Rcm (⟨e11.op, e11.n, e11.args⟩ : Exp)) fun r12 =>
bnd (geti a0.args 1) fun e13 =>
bnd (Rhz (⟨e13.op, e13.n, e13.args⟩ : Exp)) fun r14 =>
bnd (Rje r12 (decide (r14 ≤ r3))) fun r15 =>
bnd (appL l10 r15) fun l16 =>
some l16)) : Option (List (List UInt8)))
 (Rcm a0) := by
 exact fun r h => fE Rhe p35300 h
theorem Rr (a0tokens : List (List UInt8)) (a0at : Int) (a0failed : Bool) : Tv.Le
 (bnd (Rax a0tokens a0at a0failed) fun r1 =>
(bif (r1.1 == [40]) then
bnd (Rf 1 r1.2.1 (wrap64 (r1.2.2.1 + 1)) r1.2.2.2) fun r2 =>
bnd (Rh [41] r2.2.1 r2.2.2.1 r2.2.2.2) fun r3 =>
some (⟨r2.1.op, r2.1.n, r2.1.args⟩, r3.1, r3.2.1, r3.2.2)
else
(bif (!(r1.1 == [])) then
bnd (geti r1.1 0) fun c4 =>
bnd (Rfy (c4.toNat : Int)) fun r5 =>
(bif r5 then
bnd (Rad r1.2.1 r1.2.2.1 r1.2.2.2) fun r6 =>
some (⟨0, r6.1, []⟩, r6.2.1, r6.2.2.1, r6.2.2.2)
else
bnd (Rl r1.2.1 r1.2.2.1 r1.2.2.2) fun r7 =>
some (⟨13, r7.1, []⟩, r7.2.1, r7.2.2.1, r7.2.2.2))
else
bnd (Rl r1.2.1 r1.2.2.1 r1.2.2.2) fun r8 =>
some (⟨13, r8.1, []⟩, r8.2.1, r8.2.2.1, r8.2.2.2))) : Option (Exp × List (List UInt8) × Int × Bool))
 (Rai a0tokens a0at a0failed) := by
 rewrite [← Qze]
 exact fun r h => fE Rro p34100 h
theorem Rql (a0 : List UInt8) : Tv.Le
 (bnd (Rea a0 0) fun r1 =>
selm r1 (fun y2 =>
some 0) (fun z3 =>
some z3) : Option (Int))
 (Rku a0) := by
 exact fun r h => fE Rcr p34200 h
theorem Rpg (a0 : Int) : Tv.Le
 ((bif (decide (a0 = 1)) then
some 1
else
(bif (decide (a0 = 2)) then
some 2
else
(bif (decide (a0 = 3)) then
some 3
else
(bif (decide (a0 = 4)) then
some 4
else
(bif (decide (a0 = 5)) then
some 5
else
(bif (decide (a0 = 6)) then
some 6
else
(bif (decide (a0 = 7)) then
some 6
else
(bif (decide (a0 = 8)) then
some 7
else
(bif (decide (a0 = 9)) then
some 7
else
(bif (decide (a0 = 10)) then
some 8
else
(bif (decide (a0 = 11)) then
some 8
else
(bif (decide (a0 = 12)) then
some 8
else
some 0)))))))))))) : Option (Int))
 (Rht a0) := by
 exact fun r h => fE Rcr p34300 h
theorem Rar (t1 : Int) (b0_0 : List (List UInt8)) (b0_1 : Int) (b0_2 : Bool) (b100_0 : Int) (b100_1 : Int) (b100_2b : Bool) (b100_2 : List Exp) (b101_0 : Int) (b101_1 : Int) (b101_2m : Md) (b101_2 : List Exp) : Tv.Le
 ((bif (!b0_2) then
bnd (Rax b0_0 b0_1 b0_2) fun r1 =>
bnd (Rku r1.1) fun r2 =>
(bif (decide (r2 = 0)) then
some (r1.2.1, r1.2.2.1, r1.2.2.2, b100_0, b100_1, (b100_2b, b100_2), b101_0, b101_1, (b101_2m, b101_2))
else
bnd (Rht r2) fun r3 =>
(bif (decide (r3 < t1)) then
some (r1.2.1, r1.2.2.1, r1.2.2.2, b100_0, b100_1, (b100_2b, b100_2), b101_0, b101_1, (b101_2m, b101_2))
else
bnd (Rht r2) fun r4 =>
bnd (Rf (wrap64 (r4 + 1)) r1.2.1 (wrap64 (r1.2.2.1 + 1)) r1.2.2.2) fun r5 =>
Rah t1 r5.2.1 r5.2.2.1 r5.2.2.2 b100_0 b100_1 b100_2b b100_2 r2 0 .full ([⟨b101_0, b101_1, b101_2⟩, ⟨r5.1.op, r5.1.n, r5.1.args⟩] : List Exp)))
else
some (b0_0, b0_1, b0_2, b100_0, b100_1, (b100_2b, b100_2), b101_0, b101_1, (b101_2m, b101_2))) : Option (List (List UInt8) × Int × Bool × Int × Int × (Bool × List Exp) × Int × Int × (Md × List Exp)))
 (Rah t1 b0_0 b0_1 b0_2 b100_0 b100_1 b100_2b b100_2 b101_0 b101_1 b101_2m b101_2) := by
 rewrite [← Qze]
 exact fun r h => lE Rxf p34401 h
theorem Rna (a0 : Stm) (a1 : Int) : Tv.Le
 ((bif (decide (a0.kind = 1)) then
bnd (Ri a0.var 4 true) fun r1 =>
(bif (!r1) then
some false
else
bnd (Ri a0.box a1 false) fun r2 =>
(bif (!r2) then
some false
else
bnd (Rcp (⟨a0.e.op, a0.e.n, a0.e.args⟩ : Exp)) fun r3 =>
(bif (!r3) then
some false
else
(bif (decide ((a0.body.length : Int) = 0)) then
some (decide ((a0.els.length : Int) = 0))
else
some false))))
else
(bif (decide (a0.kind = 2)) then
bnd (Ri a0.var 4 false) fun r4 =>
(bif (!r4) then
some false
else
bnd (Ri a0.box a1 false) fun r5 =>
(bif (!r5) then
some false
else
bnd (Rcp (⟨a0.e.op, a0.e.n, a0.e.args⟩ : Exp)) fun r6 =>
(bif (!r6) then
some false
else
some true)))
else
(bif (decide (a0.kind = 3)) then
bnd (Ri a0.var 4 false) fun r7 =>
(bif (!r7) then
some false
else
bnd (Ri a0.box a1 false) fun r8 =>
(bif (!r8) then
some false
else
bnd (Rcp (⟨a0.e.op, a0.e.n, a0.e.args⟩ : Exp)) fun r9 =>
(bif (!r9) then
some false
else
some (decide ((a0.els.length : Int) = 0)))))
else
(bif (decide (a0.kind = 4)) then
bnd (Ri a0.var 4 false) fun r10 =>
(bif (!r10) then
some false
else
bnd (Ri a0.box a1 true) fun r11 =>
(bif (!r11) then
some false
else
(bif (decide (a1 ≤ a0.box)) then
some false
else
bnd (Rcp (⟨a0.e.op, a0.e.n, a0.e.args⟩ : Exp)) fun r12 =>
(bif (!r12) then
some false
else
(bif (decide ((a0.body.length : Int) = 0)) then
some (decide ((a0.els.length : Int) = 0))
else
some false)))))
else
(bif (decide (a0.kind = 5)) then
bnd (Ri a0.var 4 true) fun r13 =>
(bif (!r13) then
some false
else
bnd (Ri a0.box a1 true) fun r14 =>
(bif (!r14) then
some false
else
(bif (decide (a1 ≤ a0.box)) then
some false
else
(bif (!decide (a0.e.op = 0)) then
some false
else
(bif (!decide (a0.e.n = 0)) then
some false
else
(bif (decide (0 < (a0.e.args.length : Int))) then
some false
else
(bif (decide ((a0.body.length : Int) = 0)) then
some (decide ((a0.els.length : Int) = 0))
else
some false)))))))
else
(bif (decide (a0.kind = 7)) then
bnd (Ri a0.var 4 false) fun r15 =>
(bif (!r15) then
some false
else
bnd (Ri a0.box a1 false) fun r16 =>
(bif (!r16) then
some false
else
bnd (Rcp (⟨a0.e.op, a0.e.n, a0.e.args⟩ : Exp)) fun r17 =>
(bif (!r17) then
some false
else
(bif (decide ((a0.body.length : Int) = 0)) then
some (decide ((a0.els.length : Int) = 0))
else
some false))))
else
(bif (decide (a0.kind = 6)) then
bnd (Ri a0.var 4 false) fun r18 =>
(bif (!r18) then
some false
else
bnd (Ri a0.box a1 false) fun r19 =>
(bif (!r19) then
some false
else
(bif (!decide (a0.e.op = 0)) then
some false
else
(bif (!decide (a0.e.n = 0)) then
some false
else
(bif (decide (0 < (a0.e.args.length : Int))) then
some false
else
(bif (decide ((a0.body.length : Int) = 0)) then
some (decide ((a0.els.length : Int) = 0))
else
some false))))))
else
some false))))))) : Option (Bool))
 (Rie a0 a1) := by
 exact fun r h => fE Ro p5200 h
theorem Rag (t0 : List Stm) (t1 : Int) (t2 : Int) (t23 : Int) (t24 : Int) (b0_0 : Int) : Tv.Le
 ((bif (decide (t24 < t23)) then
bnd (geti t0 t24) fun e1 =>
bnd (Rie (⟨e1.kind, e1.var, e1.box, ⟨e1.e.op, e1.e.n, e1.e.args⟩, e1.body, e1.els⟩ : Stm) t1) fun r2 =>
(bif (!r2) then
some (.inr (false, b0_0))
else
(bif (decide (3 < t2)) then
some (.inr (false, b0_0))
else
(bif (!decide (e1.kind = 2)) then
(bif (!decide (e1.kind = 3)) then
Rbj t0 t1 t2 t23 (wrap64 (t24 + 1)) b0_0
else
(bif (decide (3 ≤ t2)) then
some (.inr (false, b0_0))
else
bnd (Rbf e1.body t1 (wrap64 (t2 + 1)) b0_0) fun r3 =>
(bif (!r3.1) then
some (.inr (false, r3.2))
else
bnd (Rbf e1.els t1 (wrap64 (t2 + 1)) r3.2) fun r4 =>
(bif (!r4.1) then
some (.inr (false, r4.2))
else
Rbj t0 t1 t2 t23 (wrap64 (t24 + 1)) r4.2))))
else
(bif (decide (3 ≤ t2)) then
some (.inr (false, b0_0))
else
bnd (Rbf e1.body t1 (wrap64 (t2 + 1)) b0_0) fun r5 =>
(bif (!r5.1) then
some (.inr (false, r5.2))
else
bnd (Rbf e1.els t1 (wrap64 (t2 + 1)) r5.2) fun r6 =>
(bif (!r6.1) then
some (.inr (false, r6.2))
else
Rbj t0 t1 t2 t23 (wrap64 (t24 + 1)) r6.2))))))
else
some (.inl b0_0)) : Option (Int ⊕ (Bool × Int)))
 (Rbj t0 t1 t2 t23 t24 b0_0) := by
 rewrite [← Qze]
 exact fun r h => lE s5301 p5301 h
theorem Rjj (t0 : List UInt8) (t1 : Int) (t5 : Int) : Tv.Le
 ((bif (decide (t5 < (t0.length : Int))) then
bnd (geti t0 t5) fun c1 =>
bnd (Rft (c1.toNat : Int)) fun r2 =>
bnd (geti t0 t1) fun c3 =>
bnd (Rft (c3.toNat : Int)) fun r4 =>
(bif (decide (r2 = r4)) then
Rgx t0 t1 (wrap64 (t5 + 1))
else
some t5)
else
some t5) : Option (Int))
 (Rgx t0 t1 t5) := by
 rewrite [← Qze]
 exact fun r h => lE Rvl p31901 h
theorem Rfh (a0 : List (List UInt8)) (a1 : Int) (a2 : Int) : Tv.Le
 ((bif (decide (8 < a2)) then
bnd (Rex a0 a1) fun r1 =>
some (⟨r1.1.op, r1.1.n, r1.1.args⟩, r1.2)
else
bnd (Rz a0 a1 (wrap64 (a2 + 1))) fun r2 =>
bnd (Rbi a0 a2 r2.2 0 0 false [] r2.1.op r2.1.n .share r2.1.args) fun r3 =>
some (⟨r3.2.2.2.2.1, r3.2.2.2.2.2.1, r3.2.2.2.2.2.2.2⟩, r3.1)) : Option (Exp × Int))
 (Rz a0 a1 a2) := by
 rewrite [← Qze]
 exact fun r h => fE Rlz p32900 h
theorem Rgm (t0 : List UInt8) (t3 : Int) : Tv.Le
 ((bif (decide (t3 < 4)) then
bnd (Rer t3) fun r1 =>
(bif (t0 == r1) then
some (.inr t3)
else
Rfi t0 (wrap64 (t3 + 1)))
else
some (.inl ())) : Option (Unit ⊕ Int))
 (Rfi t0 t3) := by
 rewrite [← Qze]
 exact fun r h => lE Rly p32501 h
theorem Rmg (a0 : Stm) (a1 : Int) : Tv.Le
 ((bif (!decide (a0.kind = 2)) then
(bif (!decide (a0.kind = 3)) then
bnd (Rfx (⟨a0.kind, a0.var, a0.box, ⟨a0.e.op, a0.e.n, a0.e.args⟩, a0.body, a0.els⟩ : Stm)) fun r1 =>
some r1
else
(bif (decide (a1 < 1)) then
some false
else
(bif (decide (a0.kind = 3)) then
(bif (decide (0 < (a0.els.length : Int))) then
some false
else
bnd (Rbw (⟨a0.kind, a0.var, a0.box, ⟨a0.e.op, a0.e.n, a0.e.args⟩, a0.body, a0.els⟩ : Stm) false) fun r2 =>
(bif r2 then
bnd (Rbv (⟨a0.kind, a0.var, a0.box, ⟨a0.e.op, a0.e.n, a0.e.args⟩, a0.body, a0.els⟩ : Stm) false) fun r3 =>
(bif r3 then
bnd (Rbd (⟨a0.e.op, a0.e.n, a0.e.args⟩ : Exp)) fun r4 =>
(bif r4 then
bnd (Ry a0.body (wrap64 (a1 - 1))) fun r5 =>
(bif r5 then
bnd (Ry a0.els (wrap64 (a1 - 1))) fun r6 =>
some r6
else
some false)
else
some false)
else
some false)
else
some false))
else
bnd (Rbw (⟨a0.kind, a0.var, a0.box, ⟨a0.e.op, a0.e.n, a0.e.args⟩, a0.body, a0.els⟩ : Stm) false) fun r7 =>
(bif r7 then
bnd (Rbv (⟨a0.kind, a0.var, a0.box, ⟨a0.e.op, a0.e.n, a0.e.args⟩, a0.body, a0.els⟩ : Stm) false) fun r8 =>
(bif r8 then
bnd (Rbd (⟨a0.e.op, a0.e.n, a0.e.args⟩ : Exp)) fun r9 =>
(bif r9 then
bnd (Ry a0.body (wrap64 (a1 - 1))) fun r10 =>
(bif r10 then
bnd (Ry a0.els (wrap64 (a1 - 1))) fun r11 =>
some r11
else
some false)
else
some false)
else
some false)
else
some false))))
else
(bif (decide (a1 < 1)) then
some false
else
(bif (decide (a0.kind = 3)) then
(bif (decide (0 < (a0.els.length : Int))) then
some false
else
bnd (Rbw (⟨a0.kind, a0.var, a0.box, ⟨a0.e.op, a0.e.n, a0.e.args⟩, a0.body, a0.els⟩ : Stm) false) fun r12 =>
(bif r12 then
bnd (Rbv (⟨a0.kind, a0.var, a0.box, ⟨a0.e.op, a0.e.n, a0.e.args⟩, a0.body, a0.els⟩ : Stm) false) fun r13 =>
(bif r13 then
bnd (Rbd (⟨a0.e.op, a0.e.n, a0.e.args⟩ : Exp)) fun r14 =>
(bif r14 then
bnd (Ry a0.body (wrap64 (a1 - 1))) fun r15 =>
(bif r15 then
bnd (Ry a0.els (wrap64 (a1 - 1))) fun r16 =>
some r16
else
some false)
else
some false)
else
some false)
else
some false))
else
bnd (Rbw (⟨a0.kind, a0.var, a0.box, ⟨a0.e.op, a0.e.n, a0.e.args⟩, a0.body, a0.els⟩ : Stm) false) fun r17 =>
(bif r17 then
bnd (Rbv (⟨a0.kind, a0.var, a0.box, ⟨a0.e.op, a0.e.n, a0.e.args⟩, a0.body, a0.els⟩ : Stm) false) fun r18 =>
(bif r18 then
bnd (Rbd (⟨a0.e.op, a0.e.n, a0.e.args⟩ : Exp)) fun r19 =>
(bif r19 then
bnd (Ry a0.body (wrap64 (a1 - 1))) fun r20 =>
(bif r20 then
bnd (Ry a0.els (wrap64 (a1 - 1))) fun r21 =>
some r21
else
some false)
else
some false)
else
some false)
else
some false)))) : Option (Bool))
 (Rip a0 a1) := by
 rewrite [← Qze]
 exact fun r h => fE Ro p6100 h
theorem Rgs (t0 : List Stm) (t1 : Int) (t5 : Int) : Tv.Le
 ((bif (decide (t5 < (t0.length : Int))) then
bnd (geti t0 t5) fun e1 =>
bnd (Rip (⟨e1.kind, e1.var, e1.box, ⟨e1.e.op, e1.e.n, e1.e.args⟩, e1.body, e1.els⟩ : Stm) t1) fun r2 =>
(bif (!r2) then
some (.inr false)
else
Rdw t0 t1 (wrap64 (t5 + 1)))
else
some (.inl ())) : Option (Unit ⊕ Bool))
 (Rdw t0 t1 t5) := by
 rewrite [← Qze]
 exact fun r h => lE Rgu p6201 h
theorem Rqz (a0b : List Int) (a0p : Int) : Tv.Le
 (bnd (Rb 3 a0b a0p) fun r1 =>
bnd (Rb 3 r1.2.1 r1.2.2) fun r2 =>
bnd (Raq (wrap64 (1 + r2.1)) r2.2.1 r2.2.2) fun r3 =>
some (⟨1, r1.1, 0, ⟨r3.1, r3.2.1, r3.2.2.1.2⟩, [], []⟩, r3.2.2.2.1, r3.2.2.2.2) : Option (Stm × List Int × Int))
 (Rhr a0b a0p) := by
 rewrite [← Qze]
 exact fun r h => fE Rol p4200 h
theorem Rsr (a1 : Int) (a2 : Int) (a3 : Bool) (a0b : List Int) (a0p : Int) : Tv.Le
 (bnd (Rb 2 a0b a0p) fun r1 =>
bnd (Raq (wrap64 (1 + r1.1)) r1.2.1 r1.2.2) fun r2 =>
bnd (Rb 3 r2.2.2.2.1 r2.2.2.2.2) fun r3 =>
bnd (Rco a1 (wrap64 (a2 - 1)) r3.1 a3 r3.2.1 r3.2.2) fun r4 =>
bnd (Rb 3 r4.2.1 r4.2.2) fun r5 =>
bnd (Rco a1 (wrap64 (a2 - 1)) r5.1 a3 r5.2.1 r5.2.2) fun r6 =>
some (⟨2, 0, 0, ⟨r2.1, r2.2.1, r2.2.2.1.2⟩, r4.1, r6.1⟩, r6.2.1, r6.2.2) : Option (Stm × List Int × Int))
 (Rns a1 a2 a3 a0b a0p) := by
 rewrite [← Qze]
 exact fun r h => fE Rol p4100 h
theorem Rjz (a1 : Int) (a0b : List Int) (a0p : Int) : Tv.Le
 ((bif (decide (a1 < 2)) then
bnd (Rey a0b a0p) fun r1 =>
some (r1.1, r1.2.1, ((Md.dem (Md.dem (Md.dem r1.2.2.1.1))), r1.2.2.1.2), r1.2.2.2.1, r1.2.2.2.2)
else
bnd (Rb 3 a0b a0p) fun r2 =>
(bif (decide (r2.1 = 0)) then
bnd (Rey r2.2.1 r2.2.2) fun r3 =>
some (r3.1, r3.2.1, ((Md.dem (Md.dem (Md.dem r3.2.2.1.1))), r3.2.2.1.2), r3.2.2.2.1, r3.2.2.2.2)
else
bnd (Rnr r2.2.1 r2.2.2) fun r4 =>
bnd (Raq (wrap64 (a1 - 1)) r4.2.1 r4.2.2) fun r5 =>
bnd (Raq (wrap64 (a1 - 1)) r5.2.2.2.1 r5.2.2.2.2) fun r6 =>
bnd (Rfu r4.1 (⟨r5.1, r5.2.1, r5.2.2.1.2⟩ : Exp) (⟨r6.1, r6.2.1, r6.2.2.1.2⟩ : Exp)) fun r7 =>
some (r7.1, r7.2.1, ((Md.dem (Md.dem (Md.dem r7.2.2.1))), r7.2.2.2), r6.2.2.2.1, r6.2.2.2.2))) : Option (Int × Int × (Md × List Exp) × List Int × Int))
 (Raq a1 a0b a0p) := by
 rewrite [← Qze]
 exact fun r h => fE s400 p700 h
theorem Rqc (a1 : Int) (a2 : Int) (a0b : List Int) (a0p : Int) : Tv.Le
 (bnd (Rb 3 a0b a0p) fun r1 =>
bnd (Rco a1 (wrap64 (a2 - 1)) r1.1 false r1.2.1 r1.2.2) fun r2 =>
bnd (Rbc 13 3) fun r3 =>
bnd (Rbc 0 1) fun r4 =>
bnd (Rfu 8 (⟨r3.1, r3.2.1, r3.2.2.2⟩ : Exp) (⟨r4.1, r4.2.1, r4.2.2.2⟩ : Exp)) fun r5 =>
bnd (Rbc 13 3) fun r6 =>
bnd (Rb 3 r2.2.1 r2.2.2) fun r7 =>
bnd (Rbc 0 (wrap64 (1 + r7.1))) fun r8 =>
bnd (Rfu 5 (⟨r6.1, r6.2.1, r6.2.2.2⟩ : Exp) (⟨r8.1, r8.2.1, r8.2.2.2⟩ : Exp)) fun r9 =>
bnd (appL r2.1 ([⟨1, 3, 0, ⟨r5.1, r5.2.1, r5.2.2.2⟩, [], []⟩] : List Stm)) fun l10 =>
bnd (Rbc 0 0) fun r11 =>
some (([⟨1, 3, 0, ⟨r11.1, r11.2.1, r11.2.2.2⟩, [], []⟩, ⟨3, 0, 0, ⟨r9.1, r9.2.1, r9.2.2.2⟩, l10, []⟩] : List Stm), r7.2.1, r7.2.2) : Option (List Stm × List Int × Int))
 (Rkb a1 a2 a0b a0p) := by
 rewrite [← Qze]
 exact fun r h => fE Rsm p4300 h
theorem Rqe (a1 : Int) (a0b : List Int) (a0p : Int) : Tv.Le
 ((bif (decide (a1 < 1)) then
bnd (Rhr a0b a0p) fun r1 =>
some (⟨r1.1.kind, r1.1.var, r1.1.box, ⟨r1.1.e.op, r1.1.e.n, r1.1.e.args⟩, r1.1.body, r1.1.els⟩, r1.2.1, r1.2.2)
else
bnd (Rb a1 a0b a0p) fun r2 =>
bnd (Rb 2 r2.2.1 r2.2.2) fun r3 =>
(bif (decide (r3.1 = 0)) then
bnd (Rb 3 r3.2.1 r3.2.2) fun r4 =>
bnd (Raq (wrap64 (1 + r4.1)) r4.2.1 r4.2.2) fun r5 =>
some (⟨4, 0, r2.1, ⟨r5.1, r5.2.1, r5.2.2.1.2⟩, [], []⟩, r5.2.2.2.1, r5.2.2.2.2)
else
bnd (Rb 3 r3.2.1 r3.2.2) fun r6 =>
some (⟨5, r6.1, r2.1, ⟨0, 0, []⟩, [], []⟩, r6.2.1, r6.2.2))) : Option (Stm × List Int × Int))
 (Rgf a1 a0b a0p) := by
 rewrite [← Qze]
 exact fun r h => fE Rol p4400 h
theorem Rpv (a0 : Int) : Tv.Le
 (bnd (Rgb a0) fun r1 =>
(bif (!r1) then
some 0
else
bnd (geti ([1, 2, 3, 4, 5, 6, 6, 7, 7, 8, 8, 8] : List Int) (wrap64 (a0 - 1))) fun e2 =>
some e2) : Option (Int))
 (Rew a0) := by
 rewrite [← Qze]
 exact fun r h => fE Rcr p32700 h
theorem Rqa (a0 : Exp) : Tv.Le
 ((bif (decide ((a0.args.length : Int) = 0)) then
some 9
else
bnd (Rew a0.op) fun r1 =>
some r1) : Option (Int))
 (Rhz a0) := by
 exact fun r h => fE Rcr p35200 h
theorem Rqx (a0 : List (List UInt8)) (a1 : Bool) : Tv.Le
 ((bif (!a1) then
some a0
else
bnd (appL ([[40]] : List (List UInt8)) a0) fun l1 =>
bnd (appL l1 ([[41]] : List (List UInt8))) fun l2 =>
some l2) : Option (List (List UInt8)))
 (Rje a0 a1) := by
 exact fun r h => fE Rhe p35100 h
theorem Rqn (a0 : Int) : Tv.Le
 (bnd (Rgb a0) fun r1 =>
(bif (!r1) then
some []
else
bnd (geti ([[124], [94], [38], [61, 61], [60], [60, 60], [62, 62], [43], [45], [42], [47], [37]] : List (List UInt8)) (wrap64 (a0 - 1))) fun e2 =>
some e2) : Option (List UInt8))
 (Rja a0) := by
 rewrite [← Qze]
 exact fun r h => fE Rfl p20700 h
theorem Rij (t0 : List UInt8) (t6 : Int) : Tv.Le
 ((bif (decide (t6 < 12)) then
bnd (geti ([[124], [94], [38], [61, 61], [60], [60, 60], [62, 62], [43], [45], [42], [47], [37]] : List (List UInt8)) t6) fun s1 =>
(bif (s1 == t0) then
some (.inr (wrap64 (1 + t6)))
else
Rea t0 (wrap64 (t6 + 1)))
else
some (.inl ())) : Option (Unit ⊕ Int))
 (Rea t0 t6) := by
 rewrite [← Qze]
 exact fun r h => lE Rly p34201 h
theorem Rem (a0 : Int) (a1 : Int) (a2 : Bool) : Tv.Le
 ((bif (decide (a0 = 0)) then
some true
else
(bif a2 then
(bif (decide (0 < a0)) then
some (decide (a0 < a1))
else
some false)
else
some false)) : Option (Bool))
 (Ri a0 a1 a2) := by
 exact fun r h => fE Ro p11100 h
theorem Rmy (a0 : Exp) : Tv.Le
 (bnd (Rdz (⟨a0.op, a0.n, a0.args⟩ : Exp) 5) fun r1 =>
some r1 : Option (Bool))
 (Rcp a0) := by
 exact fun r h => fE Ro p1200 h
theorem Rbx (a0 : List (List UInt8)) (a1 : Int) : Tv.Le
 ((bif (decide ((a0.length : Int) ≤ a1)) then
some (⟨0, 0, []⟩, (-1))
else
bnd (geti a0 a1) fun e1 =>
(bif (e1 == [40]) then
bnd (Rz a0 (wrap64 (a1 + 1)) 1) fun r2 =>
(bif (decide (r2.2 < 0)) then
some (⟨0, 0, []⟩, (-1))
else
(bif (decide ((a0.length : Int) ≤ r2.2)) then
some (⟨0, 0, []⟩, (-1))
else
bnd (geti a0 r2.2) fun e3 =>
(bif (!(e3 == [41])) then
some (⟨0, 0, []⟩, (-1))
else
some (⟨r2.1.op, r2.1.n, r2.1.args⟩, (wrap64 (r2.2 + 1))))))
else
bnd (geti a0 a1) fun e4 =>
bnd (Rfg e4) fun r5 =>
(bif (decide (0 ≤ r5)) then
bnd (geti a0 a1) fun e6 =>
bnd (Rfg e6) fun r7 =>
bnd (Rbc 0 r7) fun r8 =>
some (⟨r8.1, r8.2.1, r8.2.2.2⟩, (wrap64 (a1 + 1)))
else
bnd (geti a0 a1) fun e9 =>
bnd (Rc e9) fun r10 =>
(bif (decide (0 ≤ r10)) then
bnd (geti a0 a1) fun e11 =>
bnd (Rc e11) fun r12 =>
bnd (Rbc 13 r12) fun r13 =>
some (⟨r13.1, r13.2.1, r13.2.2.2⟩, (wrap64 (a1 + 1)))
else
some (⟨0, 0, []⟩, (-1)))))) : Option (Exp × Int))
 (Rex a0 a1) := by
 rewrite [← Qze]
 exact fun r h => fE Rlz p32600 h
theorem Rtj (a0 : List UInt8) : Tv.Le
 (bnd (Rgd a0 1) fun r1 =>
selm r1 (fun y2 =>
some 0) (fun z3 =>
some z3) : Option (Int))
 (Rmj a0) := by
 exact fun r h => fE Rcr p32800 h
theorem Rqu (a0 : Int) (a1 : Exp) (a2 : Exp) : Tv.Le
 (some (a0, 0, (.full, ([⟨a1.op, a1.n, a1.args⟩, ⟨a2.op, a2.n, a2.args⟩] : List Exp))) : Option (Int × Int × (Md × List Exp)))
 (Rfu a0 a1 a2) := by
 exact fun r h => fE s300 p500 h
theorem Rcl (t0 : List (List UInt8)) (t2 : Int) (t9 : Int) (b100_0 : Int) (b100_1 : Int) (b100_2b : Bool) (b100_2 : List Exp) (b101_0 : Int) (b101_1 : Int) (b101_2m : Md) (b101_2 : List Exp) : Tv.Le
 ((bif (decide (0 ≤ t9)) then
(bif (decide (t9 < (t0.length : Int))) then
bnd (geti t0 t9) fun e1 =>
bnd (Rmj e1) fun r2 =>
bnd (Rew r2) fun r3 =>
(bif (decide (r3 = t2)) then
bnd (geti t0 t9) fun e4 =>
bnd (Rmj e4) fun r5 =>
bnd (Rz t0 (wrap64 (t9 + 1)) (wrap64 (t2 + 1))) fun r6 =>
bnd (Rfu r5 (⟨b101_0, b101_1, b101_2⟩ : Exp) (⟨r6.1.op, r6.1.n, r6.1.args⟩ : Exp)) fun r7 =>
Rbi t0 t2 r6.2 b100_0 b100_1 b100_2b b100_2 r7.1 r7.2.1 (Md.dem r7.2.2.1) r7.2.2.2
else
some (t9, b100_0, b100_1, (b100_2b, b100_2), b101_0, b101_1, (b101_2m, b101_2)))
else
some (t9, b100_0, b100_1, (b100_2b, b100_2), b101_0, b101_1, (b101_2m, b101_2)))
else
some (t9, b100_0, b100_1, (b100_2b, b100_2), b101_0, b101_1, (b101_2m, b101_2))) : Option (Int × Int × Int × (Bool × List Exp) × Int × Int × (Md × List Exp)))
 (Rbi t0 t2 t9 b100_0 b100_1 b100_2b b100_2 b101_0 b101_1 b101_2m b101_2) := by
 rewrite [← Qze]
 exact fun r h => lE Rxa p32901 h
theorem Rno (a0 : Stm) : Tv.Le
 ((bif (decide (0 < (a0.body.length : Int))) then
some false
else
(bif (decide (0 < (a0.els.length : Int))) then
some false
else
(bif (decide (a0.kind = 1)) then
bnd (Rbw (⟨a0.kind, a0.var, a0.box, ⟨a0.e.op, a0.e.n, a0.e.args⟩, a0.body, a0.els⟩ : Stm) true) fun r1 =>
(bif r1 then
bnd (Rbv (⟨a0.kind, a0.var, a0.box, ⟨a0.e.op, a0.e.n, a0.e.args⟩, a0.body, a0.els⟩ : Stm) false) fun r2 =>
(bif r2 then
bnd (Rbd (⟨a0.e.op, a0.e.n, a0.e.args⟩ : Exp)) fun r3 =>
some r3
else
some false)
else
some false)
else
(bif (decide (a0.kind = 4)) then
bnd (Rbw (⟨a0.kind, a0.var, a0.box, ⟨a0.e.op, a0.e.n, a0.e.args⟩, a0.body, a0.els⟩ : Stm) false) fun r4 =>
(bif r4 then
bnd (Rbv (⟨a0.kind, a0.var, a0.box, ⟨a0.e.op, a0.e.n, a0.e.args⟩, a0.body, a0.els⟩ : Stm) true) fun r5 =>
(bif r5 then
bnd (Rbd (⟨a0.e.op, a0.e.n, a0.e.args⟩ : Exp)) fun r6 =>
some r6
else
some false)
else
some false)
else
(bif (decide (a0.kind = 5)) then
bnd (Rbw (⟨a0.kind, a0.var, a0.box, ⟨a0.e.op, a0.e.n, a0.e.args⟩, a0.body, a0.els⟩ : Stm) true) fun r7 =>
(bif r7 then
bnd (Rbv (⟨a0.kind, a0.var, a0.box, ⟨a0.e.op, a0.e.n, a0.e.args⟩, a0.body, a0.els⟩ : Stm) true) fun r8 =>
(bif r8 then
bnd (Rgv (⟨a0.e.op, a0.e.n, a0.e.args⟩ : Exp)) fun r9 =>
some r9
else
some false)
else
some false)
else
(bif (decide (a0.kind = 6)) then
bnd (Rbw (⟨a0.kind, a0.var, a0.box, ⟨a0.e.op, a0.e.n, a0.e.args⟩, a0.body, a0.els⟩ : Stm) false) fun r10 =>
(bif r10 then
bnd (Rbv (⟨a0.kind, a0.var, a0.box, ⟨a0.e.op, a0.e.n, a0.e.args⟩, a0.body, a0.els⟩ : Stm) false) fun r11 =>
(bif r11 then
bnd (Rgv (⟨a0.e.op, a0.e.n, a0.e.args⟩ : Exp)) fun r12 =>
some r12
else
some false)
else
some false)
else
(bif (decide (a0.kind = 7)) then
bnd (Rbw (⟨a0.kind, a0.var, a0.box, ⟨a0.e.op, a0.e.n, a0.e.args⟩, a0.body, a0.els⟩ : Stm) false) fun r13 =>
(bif r13 then
bnd (Rbv (⟨a0.kind, a0.var, a0.box, ⟨a0.e.op, a0.e.n, a0.e.args⟩, a0.body, a0.els⟩ : Stm) false) fun r14 =>
(bif r14 then
bnd (Rbd (⟨a0.e.op, a0.e.n, a0.e.args⟩ : Exp)) fun r15 =>
some r15
else
some false)
else
some false)
else
some false))))))) : Option (Bool))
 (Rfx a0) := by
 exact fun r h => fE Ro p6000 h
theorem Rqq (a0 : Stm) (a1 : Bool) : Tv.Le
 ((bif a1 then
bnd (Reb a0.var 0 3) fun r1 =>
some r1
else
some (decide (a0.var = 0))) : Option (Bool))
 (Rbw a0 a1) := by
 exact fun r h => fE Ro p5700 h
theorem Rqp (a0 : Stm) (a1 : Bool) : Tv.Le
 ((bif a1 then
bnd (Reb a0.box 0 2) fun r1 =>
some r1
else
some (decide (a0.box = 0))) : Option (Bool))
 (Rbv a0 a1) := by
 exact fun r h => fE Ro p5800 h
theorem Rnk (a0 : Exp) : Tv.Le
 (bnd (Rjw (⟨a0.op, a0.n, a0.args⟩ : Exp) 5) fun r1 =>
some r1 : Option (Bool))
 (Rbd a0) := by
 exact fun r h => fE Ro p1900 h
theorem Rka (a0b : List Int) (a0p : Int) : Tv.Le
 (bnd (Rb 4 a0b a0p) fun r1 =>
(bif (decide (r1.1 = 0)) then
bnd (Rb 4 r1.2.1 r1.2.2) fun r2 =>
bnd (Rbc 0 r2.1) fun r3 =>
some (r3.1, r3.2.1, ((Md.dem (Md.dem (Md.dem r3.2.2.1))), r3.2.2.2), r2.2.1, r2.2.2)
else
(bif (decide (r1.1 = 1)) then
bnd (Rb 8 r1.2.1 r1.2.2) fun r4 =>
bnd (geti ([5, 31, 32, 100, 2047, 2048, 65536, 99999] : List Int) r4.1) fun e5 =>
bnd (Rbc 0 e5) fun r6 =>
some (r6.1, r6.2.1, ((Md.dem (Md.dem (Md.dem r6.2.2.1))), r6.2.2.2), r4.2.1, r4.2.2)
else
bnd (Rb 4 r1.2.1 r1.2.2) fun r7 =>
bnd (Rbc 13 r7.1) fun r8 =>
some (r8.1, r8.2.1, ((Md.dem (Md.dem (Md.dem r8.2.2.1))), r8.2.2.2), r7.2.1, r7.2.2))) : Option (Int × Int × (Md × List Exp) × List Int × Int))
 (Rey a0b a0p) := by
 exact fun r h => fE s400 p400 h
theorem Rsq (a0b : List Int) (a0p : Int) : Tv.Le
 (bnd (Rb 12 a0b a0p) fun r1 =>
some ((wrap64 (1 + r1.1)), r1.2.1, r1.2.2) : Option (Int × List Int × Int))
 (Rnr a0b a0p) := by
 rewrite [← Qze]
 exact fun r h => fE s200 p600 h
theorem Rpw (a0 : Int) : Tv.Le
 (bnd (Reb a0 1 12) fun r1 =>
some r1 : Option (Bool))
 (Rgb a0) := by
 exact fun r h => fE Ro p1700 h
theorem Rmz (a0 : Exp) (a1 : Int) : Tv.Le
 ((bif (decide (a0.op = 0)) then
(bif (decide (0 ≤ a0.n)) then
(bif (decide (a0.n ≤ 99999)) then
(bif (decide ((a0.args.length : Int) = 0)) then
some (decide (0 < a1))
else
some false)
else
some false)
else
some false)
else
(bif (decide (a0.op = 13)) then
(bif (decide (0 ≤ a0.n)) then
(bif (decide (a0.n < 4)) then
(bif (decide ((a0.args.length : Int) = 0)) then
some (decide (0 < a1))
else
some false)
else
some false)
else
some false)
else
bnd (Rjm a0.op) fun r1 =>
(bif r1 then
(bif (decide (a0.n = 0)) then
(bif (decide ((a0.args.length : Int) = 2)) then
(bif (decide (1 < a1)) then
bnd (geti a0.args 0) fun e2 =>
bnd (Rdz (⟨e2.op, e2.n, e2.args⟩ : Exp) (wrap64 (a1 - 1))) fun r3 =>
(bif r3 then
bnd (geti a0.args 1) fun e4 =>
bnd (Rdz (⟨e4.op, e4.n, e4.args⟩ : Exp) (wrap64 (a1 - 1))) fun r5 =>
some r5
else
some false)
else
some false)
else
some false)
else
some false)
else
some false))) : Option (Bool))
 (Rdz a0 a1) := by
 rewrite [← Qze]
 exact fun r h => fE Ro p1100 h
theorem Rjy (t0 : List UInt8) (t3 : Int) : Tv.Le
 ((bif (decide (t3 ≤ 12)) then
bnd (Rja t3) fun r1 =>
(bif (t0 == r1) then
some (.inr t3)
else
Rgd t0 (wrap64 (t3 + 1)))
else
some (.inl ())) : Option (Unit ⊕ Int))
 (Rgd t0 t3) := by
 rewrite [← Qze]
 exact fun r h => lE Rly p32801 h
theorem Roo (a0 : Exp) : Tv.Le
 ((bif (decide (a0.op = 0)) then
(bif (decide (a0.n = 0)) then
some (decide ((a0.args.length : Int) = 0))
else
some false)
else
some false) : Option (Bool))
 (Rgv a0) := by
 exact fun r h => fE Ro p5900 h
theorem Roc (a0 : Exp) (a1 : Int) : Tv.Le
 ((bif (decide (a1 < 1)) then
some false
else
(bif (decide (a0.op = 0)) then
bnd (Reb a0.n 0 99999) fun r1 =>
(bif r1 then
some (decide ((a0.args.length : Int) = 0))
else
some false)
else
(bif (decide (a0.op = 13)) then
bnd (Reb a0.n 0 3) fun r2 =>
(bif r2 then
some (decide ((a0.args.length : Int) = 0))
else
some false)
else
bnd (Rgb a0.op) fun r3 =>
(bif r3 then
(bif (decide (a0.n = 0)) then
(bif (decide ((a0.args.length : Int) = 2)) then
bnd (geti a0.args 0) fun e4 =>
bnd (Rjw (⟨e4.op, e4.n, e4.args⟩ : Exp) (wrap64 (a1 - 1))) fun r5 =>
(bif r5 then
bnd (geti a0.args 1) fun e6 =>
bnd (Rjw (⟨e6.op, e6.n, e6.args⟩ : Exp) (wrap64 (a1 - 1))) fun r7 =>
some r7
else
some false)
else
some false)
else
some false)
else
some false)))) : Option (Bool))
 (Rjw a0 a1) := by
 rewrite [← Qze]
 exact fun r h => fE Ro p1800 h
theorem Rpi (a0 : Int) : Tv.Le
 ((bif (decide (1 ≤ a0)) then
some (decide (a0 ≤ 12))
else
some false) : Option (Bool))
 (Rjm a0) := by
 exact fun r h => fE Ro p1000 h
end Go.TFnSourceBlank