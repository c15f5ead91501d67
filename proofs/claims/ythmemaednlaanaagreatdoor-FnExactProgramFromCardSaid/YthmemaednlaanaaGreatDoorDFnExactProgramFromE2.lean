import Derived.Test.YthmemaednlaanaaGreatDoorDFnExactProgramFromP
import Derived.KernelRfl
set_option linter.unusedVariables false
namespace Go.TFnExactProgramFrom
open Go Go.RowKit Go.Vs Go.Tv
theorem Rib (a0 : List Exp) (a1 : Int) : Tv.Le
 (bnd (Rby a0 a1 0) fun r1 =>
selm r1 (fun y2 =>
some y2) (fun z3 =>
some z3.2) : Option (Int))
 (Rgc a0 a1) := by
 exact fun r h => fE Rbi p10700 h
theorem Rgp (t0 : List Stm) (t1 : Int) (t5 : Int) : Tv.Le
 ((bif (decide (t5 < (t0.length : Int))) then
bnd (geti t0 t5) fun e1 =>
(bif (!decide (e1.kind = t1)) then
some (.inr (t1, (-1)))
else
bnd (geti t0 t5) fun e2 =>
(bif (!decide (e2.var = (wrap64 (t1 + 1)))) then
some (.inr ((wrap64 (t1 + 1)), (-1)))
else
bnd (geti t0 t5) fun e3 =>
(bif (!decide (e3.box = (wrap64 ((wrap64 (t1 + 1)) + 1)))) then
some (.inr ((wrap64 ((wrap64 (t1 + 1)) + 1)), (-1)))
else
bnd (geti t0 t5) fun e4 =>
(bif (!decide (e4.e.op = (wrap64 ((wrap64 ((wrap64 (t1 + 1)) + 1)) + 1)))) then
some (.inr ((wrap64 ((wrap64 ((wrap64 (t1 + 1)) + 1)) + 1)), (-1)))
else
bnd (geti t0 t5) fun e5 =>
(bif (!decide (e5.e.n = (wrap64 ((wrap64 ((wrap64 ((wrap64 (t1 + 1)) + 1)) + 1)) + 1)))) then
some (.inr ((wrap64 ((wrap64 ((wrap64 ((wrap64 (t1 + 1)) + 1)) + 1)) + 1)), (-1)))
else
bnd (geti t0 t5) fun e6 =>
bnd (Rgc e6.e.args (wrap64 ((wrap64 ((wrap64 ((wrap64 ((wrap64 (t1 + 1)) + 1)) + 1)) + 1)) + 1))) fun r7 =>
(bif (decide (r7 < 0)) then
some (.inr (r7, (-1)))
else
bnd (geti t0 t5) fun e8 =>
bnd (Rei e8.body r7) fun r9 =>
(bif (decide (r9 < 0)) then
some (.inr (r9, (-1)))
else
bnd (geti t0 t5) fun e10 =>
bnd (Rei e10.els r9) fun r11 =>
(bif (decide (r11 < 0)) then
some (.inr (r11, (-1)))
else
Rbz t0 r11 (wrap64 (t5 + 1))))))))))
else
some (.inl t1)) : Option (Int ⊕ (Int × Int)))
 (Rbz t0 t1 t5) := by
 rewrite [← Qze]
 exact fun r h => lE Riz p10801 h
theorem Rdi (a1 : Int) (a0tokens : List (List UInt8)) (a0at : Int) (a0failed : Bool) : Tv.Le
 (bnd (Rao a0tokens a0at a0failed) fun r1 =>
bnd (Ran a1 r1.2.1 r1.2.2.1 r1.2.2.2 0 0 false [] r1.1.op r1.1.n .share r1.1.args) fun r2 =>
some (⟨r2.2.2.2.2.2.2.1, r2.2.2.2.2.2.2.2.1, r2.2.2.2.2.2.2.2.2.2⟩, r2.1, r2.2.1, r2.2.2.1) : Option (Exp × List (List UInt8) × Int × Bool))
 (Rg a1 a0tokens a0at a0failed) := by
 exact fun r h => fE Rpr p34400 h
theorem Rjb (t0 : List UInt8) (t1 : Int) (t5 : Int) : Tv.Le
 ((bif (decide (t5 < (t0.length : Int))) then
bnd (geti t0 t5) fun c1 =>
bnd (Rfz (c1.toNat : Int)) fun r2 =>
bnd (geti t0 t1) fun c3 =>
bnd (Rfz (c3.toNat : Int)) fun r4 =>
(bif (decide (r2 = r4)) then
Rgu t0 t1 (wrap64 (t5 + 1))
else
some t5)
else
some t5) : Option (Int))
 (Rgu t0 t1 t5) := by
 rewrite [← Qze]
 exact fun r h => lE Rtt p31901 h
theorem Rfo (a0 : List (List UInt8)) (a1 : Int) (a2 : Int) : Tv.Le
 ((bif (decide (8 < a2)) then
bnd (Rez a0 a1) fun r1 =>
some (⟨r1.1.op, r1.1.n, r1.1.args⟩, r1.2)
else
bnd (Rae a0 a1 (wrap64 (a2 + 1))) fun r2 =>
bnd (Rbo a0 a2 r2.2 0 0 false [] r2.1.op r2.1.n .share r2.1.args) fun r3 =>
some (⟨r3.2.2.2.2.1, r3.2.2.2.2.2.1, r3.2.2.2.2.2.2.2⟩, r3.1)) : Option (Exp × Int))
 (Rae a0 a1 a2) := by
 rewrite [← Qze]
 exact fun r h => fE Rll p32900 h
theorem Rpe (a0 : Int) : Tv.Le
 (some (Tv.bytes ([(((wrap64 (97 + a0))) % 256)] : List Int)) : Option (List UInt8))
 (Rkw a0) := by
 rewrite [← Qze]
 exact fun r h => fE Rpl p32400 h
theorem Rgn (t0 : List UInt8) (t3 : Int) : Tv.Le
 ((bif (decide (t3 < 4)) then
bnd (Rkw t3) fun r1 =>
(bif (t0 == r1) then
some (.inr t3)
else
Rfp t0 (wrap64 (t3 + 1)))
else
some (.inl ())) : Option (Unit ⊕ Int))
 (Rfp t0 t3) := by
 rewrite [← Qze]
 exact fun r h => lE Rlk p32501 h
theorem Rlo (a0 : Stm) (a1 : Int) : Tv.Le
 ((bif (!decide (a0.kind = 2)) then
(bif (!decide (a0.kind = 3)) then
bnd (Rgd (⟨a0.kind, a0.var, a0.box, ⟨a0.e.op, a0.e.n, a0.e.args⟩, a0.body, a0.els⟩ : Stm)) fun r1 =>
some r1
else
(bif (decide (a1 < 1)) then
some false
else
(bif (decide (a0.kind = 3)) then
(bif (decide (0 < (a0.els.length : Int))) then
some false
else
bnd (Rce (⟨a0.kind, a0.var, a0.box, ⟨a0.e.op, a0.e.n, a0.e.args⟩, a0.body, a0.els⟩ : Stm) false) fun r2 =>
(bif r2 then
bnd (Rcd (⟨a0.kind, a0.var, a0.box, ⟨a0.e.op, a0.e.n, a0.e.args⟩, a0.body, a0.els⟩ : Stm) false) fun r3 =>
(bif r3 then
bnd (Rbj (⟨a0.e.op, a0.e.n, a0.e.args⟩ : Exp)) fun r4 =>
(bif r4 then
bnd (Rab a0.body (wrap64 (a1 - 1))) fun r5 =>
(bif r5 then
bnd (Rab a0.els (wrap64 (a1 - 1))) fun r6 =>
some r6
else
some false)
else
some false)
else
some false)
else
some false))
else
bnd (Rce (⟨a0.kind, a0.var, a0.box, ⟨a0.e.op, a0.e.n, a0.e.args⟩, a0.body, a0.els⟩ : Stm) false) fun r7 =>
(bif r7 then
bnd (Rcd (⟨a0.kind, a0.var, a0.box, ⟨a0.e.op, a0.e.n, a0.e.args⟩, a0.body, a0.els⟩ : Stm) false) fun r8 =>
(bif r8 then
bnd (Rbj (⟨a0.e.op, a0.e.n, a0.e.args⟩ : Exp)) fun r9 =>
(bif r9 then
bnd (Rab a0.body (wrap64 (a1 - 1))) fun r10 =>
(bif r10 then
bnd (Rab a0.els (wrap64 (a1 - 1))) fun r11 =>
some r11
else
some false)
else
some false)
else
some false)
else
some false))))
else
(bif (decide (a1 < 1)) then
some false
else
(bif (decide (a0.kind = 3)) then
(bif (decide (0 < (a0.els.length : Int))) then
some false
else
bnd (Rce (⟨a0.kind, a0.var, a0.box, ⟨a0.e.op, a0.e.n, a0.e.args⟩, a0.body, a0.els⟩ : Stm) false) fun r12 =>
(bif r12 then
bnd (Rcd (⟨a0.kind, a0.var, a0.box, ⟨a0.e.op, a0.e.n, a0.e.args⟩, a0.body, a0.els⟩ : Stm) false) fun r13 =>
(bif r13 then
bnd (Rbj (⟨a0.e.op, a0.e.n, a0.e.args⟩ : Exp)) fun r14 =>
(bif r14 then
bnd (Rab a0.body (wrap64 (a1 - 1))) fun r15 =>
(bif r15 then
bnd (Rab a0.els (wrap64 (a1 - 1))) fun r16 =>
some r16
else
some false)
else
some false)
else
some false)
else
some false))
else
bnd (Rce (⟨a0.kind, a0.var, a0.box, ⟨a0.e.op, a0.e.n, a0.e.args⟩, a0.body, a0.els⟩ : Stm) false) fun r17 =>
(bif r17 then
bnd (Rcd (⟨a0.kind, a0.var, a0.box, ⟨a0.e.op, a0.e.n, a0.e.args⟩, a0.body, a0.els⟩ : Stm) false) fun r18 =>
(bif r18 then
bnd (Rbj (⟨a0.e.op, a0.e.n, a0.e.args⟩ : Exp)) fun r19 =>
(bif r19 then
bnd (Rab a0.body (wrap64 (a1 - 1))) fun r20 =>
(bif r20 then
bnd (Rab a0.els (wrap64 (a1 - 1))) fun r21 =>
some r21
else
some false)
else
some false)
else
some false)
else
some false)))) : Option (Bool))
 (Rig a0 a1) := by
 rewrite [← Qze]
 exact fun r h => fE Rk p6100 h
theorem Rgq (t0 : List Stm) (t1 : Int) (t5 : Int) : Tv.Le
 ((bif (decide (t5 < (t0.length : Int))) then
bnd (geti t0 t5) fun e1 =>
bnd (Rig (⟨e1.kind, e1.var, e1.box, ⟨e1.e.op, e1.e.n, e1.e.args⟩, e1.body, e1.els⟩ : Stm) t1) fun r2 =>
(bif (!r2) then
some (.inr false)
else
Rdz t0 t1 (wrap64 (t5 + 1)))
else
some (.inl ())) : Option (Unit ⊕ Bool))
 (Rdz t0 t1 t5) := by
 rewrite [← Qze]
 exact fun r h => lE Rgs p6201 h
theorem Rhi (t0 : List Stm) (t3 : Int) (t4 : Int) : Tv.Le
 ((bif (decide (t4 < (t0.length : Int))) then
bnd (geti t0 t4) fun e1 =>
bnd (Raw e1.body) fun r2 =>
bnd (geti t0 t4) fun e3 =>
bnd (Raw e3.els) fun r4 =>
Ren t0 (wrap64 ((wrap64 ((wrap64 (t3 + 1)) + r2)) + r4)) (wrap64 (t4 + 1))
else
some t3) : Option (Int))
 (Ren t0 t3 t4) := by
 rewrite [← Qze]
 exact fun r h => lE Rtt p4001 h
theorem Rp (a0tokens : List (List UInt8)) (a0at : Int) (a0failed : Bool) (A : List Ent) : Tv.Le
 (bnd (Raq a0tokens a0at a0failed) fun r1 =>
(bif (r1.1 == [40]) then
bnd (Ri 1 r1.2.1 (wrap64 (r1.2.2.1 + 1)) r1.2.2.2 A) fun r2 =>
bnd (Rc [41] r2.2.1 r2.2.2.1 r2.2.2.2.1) fun r3 =>
some (r2.1, r3.1, r3.2.1, r3.2.2, r2.2.2.2.2)
else
(bif (!(r1.1 == [])) then
bnd (geti r1.1 0) fun c4 =>
bnd (Rex (c4.toNat : Int)) fun r5 =>
(bif r5 then
bnd (Rl r1.2.1 r1.2.2.1 r1.2.2.2) fun r6 =>
some (⟨0, r6.1, ⟨none, 0⟩⟩, r6.2.1, r6.2.2.1, r6.2.2.2, A)
else
bnd (Re r1.2.1 r1.2.2.1 r1.2.2.2) fun r7 =>
some (⟨13, r7.1, ⟨none, 0⟩⟩, r7.2.1, r7.2.2.1, r7.2.2.2, A))
else
bnd (Re r1.2.1 r1.2.2.1 r1.2.2.2) fun r8 =>
some (⟨13, r8.1, ⟨none, 0⟩⟩, r8.2.1, r8.2.2.1, r8.2.2.2, A))) : Option (ExpH × List (List UInt8) × Int × Bool × List Ent))
 (Rcq a0tokens a0at a0failed A) := by
 rewrite [← Qze]
 exact fun r h => fE Rps p43900 h
theorem Roq (a0 : List UInt8) : Tv.Le
 (bnd (Reg a0 0) fun r1 =>
selm r1 (fun y2 =>
some 0) (fun z3 =>
some z3) : Option (Int))
 (Rip a0) := by
 exact fun r h => fE Rbi p34200 h
theorem Rnw (a0 : Int) : Tv.Le
 ((bif (decide (a0 = 1)) then
some 1
else
(bif (decide (a0 = 2)) then
some 2
else
(bif (decide (a0 = 3)) then
some 3
else
(bif (decide (a0 = 4)) then
some 4
else
(bif (decide (a0 = 5)) then
some 5
else
(bif (decide (a0 = 6)) then
some 6
else
(bif (decide (a0 = 7)) then
some 6
else
(bif (decide (a0 = 8)) then
some 7
else
(bif (decide (a0 = 9)) then
some 7
else
(bif (decide (a0 = 10)) then
some 8
else
(bif (decide (a0 = 11)) then
some 8
else
(bif (decide (a0 = 12)) then
some 8
else
some 0)))))))))))) : Option (Int))
 (Rew a0) := by
 exact fun r h => fE Rbi p34300 h
theorem Ral (t1 : Int) (b0_0 : List (List UInt8)) (b0_1 : Int) (b0_2 : Bool) (b100_0 : Int) (b100_1 : Int) (b100_2 : Hd) (b101_0 : Int) (b101_1 : Int) (b101_2 : Hd) (b99 : List Ent) : Tv.Le
 ((bif (!b0_2) then
bnd (Raq b0_0 b0_1 b0_2) fun r1 =>
bnd (Rip r1.1) fun r2 =>
(bif (decide (r2 = 0)) then
some (r1.2.1, r1.2.2.1, r1.2.2.2, b100_0, b100_1, b100_2, b101_0, b101_1, b101_2, b99)
else
bnd (Rew r2) fun r3 =>
(bif (decide (r3 < t1)) then
some (r1.2.1, r1.2.2.1, r1.2.2.2, b100_0, b100_1, b100_2, b101_0, b101_1, b101_2, b99)
else
bnd (Rew r2) fun r4 =>
bnd (Ri (wrap64 (r4 + 1)) r1.2.1 (wrap64 (r1.2.2.1 + 1)) r1.2.2.2 b99) fun r5 =>
Rad t1 r5.2.1 r5.2.2.1 r5.2.2.2.1 b100_0 b100_1 b100_2 r2 0 (⟨(some (List.length r5.2.2.2.2)), 2⟩ : Hd) (Qao r5.2.2.2.2 .expH ([⟨b101_0, b101_1, b101_2⟩, r5.1] : List ExpH))))
else
some (b0_0, b0_1, b0_2, b100_0, b100_1, b100_2, b101_0, b101_1, b101_2, b99)) : Option (List (List UInt8) × Int × Bool × Int × Int × Hd × Int × Int × Hd × List Ent))
 (Rad t1 b0_0 b0_1 b0_2 b100_0 b100_1 b100_2 b101_0 b101_1 b101_2 b99) := by
 rewrite [← Qze]
 exact fun r h => lE Ruw p43801 h
theorem Rmb (a0 : Stm) (a1 : Int) : Tv.Le
 ((bif (decide (a0.kind = 1)) then
bnd (Rh a0.var 4 true) fun r1 =>
(bif (!r1) then
some false
else
bnd (Rh a0.box a1 false) fun r2 =>
(bif (!r2) then
some false
else
bnd (Rcx (⟨a0.e.op, a0.e.n, a0.e.args⟩ : Exp)) fun r3 =>
(bif (!r3) then
some false
else
(bif (decide ((a0.body.length : Int) = 0)) then
some (decide ((a0.els.length : Int) = 0))
else
some false))))
else
(bif (decide (a0.kind = 2)) then
bnd (Rh a0.var 4 false) fun r4 =>
(bif (!r4) then
some false
else
bnd (Rh a0.box a1 false) fun r5 =>
(bif (!r5) then
some false
else
bnd (Rcx (⟨a0.e.op, a0.e.n, a0.e.args⟩ : Exp)) fun r6 =>
(bif (!r6) then
some false
else
some true)))
else
(bif (decide (a0.kind = 3)) then
bnd (Rh a0.var 4 false) fun r7 =>
(bif (!r7) then
some false
else
bnd (Rh a0.box a1 false) fun r8 =>
(bif (!r8) then
some false
else
bnd (Rcx (⟨a0.e.op, a0.e.n, a0.e.args⟩ : Exp)) fun r9 =>
(bif (!r9) then
some false
else
some (decide ((a0.els.length : Int) = 0)))))
else
(bif (decide (a0.kind = 4)) then
bnd (Rh a0.var 4 false) fun r10 =>
(bif (!r10) then
some false
else
bnd (Rh a0.box a1 true) fun r11 =>
(bif (!r11) then
some false
else
(bif (decide (a1 ≤ a0.box)) then
some false
else
bnd (Rcx (⟨a0.e.op, a0.e.n, a0.e.args⟩ : Exp)) fun r12 =>
(bif (!r12) then
some false
else
(bif (decide ((a0.body.length : Int) = 0)) then
some (decide ((a0.els.length : Int) = 0))
else
some false)))))
else
(bif (decide (a0.kind = 5)) then
bnd (Rh a0.var 4 true) fun r13 =>
(bif (!r13) then
some false
else
bnd (Rh a0.box a1 true) fun r14 =>
(bif (!r14) then
some false
else
(bif (decide (a1 ≤ a0.box)) then
some false
else
(bif (!decide (a0.e.op = 0)) then
some false
else
(bif (!decide (a0.e.n = 0)) then
some false
else
(bif (decide (0 < (a0.e.args.length : Int))) then
some false
else
(bif (decide ((a0.body.length : Int) = 0)) then
some (decide ((a0.els.length : Int) = 0))
else
some false)))))))
else
(bif (decide (a0.kind = 7)) then
bnd (Rh a0.var 4 false) fun r15 =>
(bif (!r15) then
some false
else
bnd (Rh a0.box a1 false) fun r16 =>
(bif (!r16) then
some false
else
bnd (Rcx (⟨a0.e.op, a0.e.n, a0.e.args⟩ : Exp)) fun r17 =>
(bif (!r17) then
some false
else
(bif (decide ((a0.body.length : Int) = 0)) then
some (decide ((a0.els.length : Int) = 0))
else
some false))))
else
(bif (decide (a0.kind = 6)) then
bnd (Rh a0.var 4 false) fun r18 =>
(bif (!r18) then
some false
else
bnd (Rh a0.box a1 false) fun r19 =>
(bif (!r19) then
some false
else
(bif (!decide (a0.e.op = 0)) then
some false
else
(bif (!decide (a0.e.n = 0)) then
some false
else
(bif (decide (0 < (a0.e.args.length : Int))) then
some false
else
(bif (decide ((a0.body.length : Int) = 0)) then
some (decide ((a0.els.length : Int) = 0))
else
some false))))))
else
some false))))))) : Option (Bool))
 (Rhv a0 a1) := by
 exact fun r h => fE Rk p5200 h
theorem Ram (t0 : List Stm) (t1 : Int) (t2 : Int) (t23 : Int) (t24 : Int) (b0_0 : Int) : Tv.Le
 ((bif (decide (t24 < t23)) then
bnd (geti t0 t24) fun e1 =>
bnd (Rhv (⟨e1.kind, e1.var, e1.box, ⟨e1.e.op, e1.e.n, e1.e.args⟩, e1.body, e1.els⟩ : Stm) t1) fun r2 =>
(bif (!r2) then
some (.inr (false, b0_0))
else
(bif (decide (3 < t2)) then
some (.inr (false, b0_0))
else
(bif (!decide (e1.kind = 2)) then
(bif (!decide (e1.kind = 3)) then
Rbq t0 t1 t2 t23 (wrap64 (t24 + 1)) b0_0
else
(bif (decide (3 ≤ t2)) then
some (.inr (false, b0_0))
else
bnd (Rbl e1.body t1 (wrap64 (t2 + 1)) b0_0) fun r3 =>
(bif (!r3.1) then
some (.inr (false, r3.2))
else
bnd (Rbl e1.els t1 (wrap64 (t2 + 1)) r3.2) fun r4 =>
(bif (!r4.1) then
some (.inr (false, r4.2))
else
Rbq t0 t1 t2 t23 (wrap64 (t24 + 1)) r4.2))))
else
(bif (decide (3 ≤ t2)) then
some (.inr (false, b0_0))
else
bnd (Rbl e1.body t1 (wrap64 (t2 + 1)) b0_0) fun r5 =>
(bif (!r5.1) then
some (.inr (false, r5.2))
else
bnd (Rbl e1.els t1 (wrap64 (t2 + 1)) r5.2) fun r6 =>
(bif (!r6.1) then
some (.inr (false, r6.2))
else
Rbq t0 t1 t2 t23 (wrap64 (t24 + 1)) r6.2))))))
else
some (.inl b0_0)) : Option (Int ⊕ (Bool × Int)))
 (Rbq t0 t1 t2 t23 t24 b0_0) := by
 rewrite [← Qze]
 exact fun r h => lE s5301 p5301 h
theorem Ror (a0 : Exp) (a1 : Exp) : Tv.Le
 ((bif (!decide (a0.op = a1.op)) then
some false
else
(bif (!decide (a0.n = a1.n)) then
some false
else
bnd (Rjh a0.args a1.args) fun r1 =>
(bif (!r1) then
some false
else
some true))) : Option (Bool))
 (Rfu a0 a1) := by
 exact fun r h => fE Rk p8100 h
theorem Rfr (t0 : Hd) (t1 : Int) (t5 : Int) (b99 : List Ent) : Tv.Le
 ((bif (decide (t5 < ((t0.n : Nat) : Int))) then
bnd (idxN t0.n t5) fun i1 =>
bnd (Qlr b99 .expH t0.id i1) fun e2 =>
bnd (idxN t0.n t5) fun i3 =>
bnd (Qlr (Qia b99 .expH t0.id i1 (⟨t1, e2.n, e2.args⟩ : ExpH)) .expH t0.id i3) fun e4 =>
bnd (idxN t0.n t5) fun i5 =>
bnd (Qlr (Qia (Qia b99 .expH t0.id i1 (⟨t1, e2.n, e2.args⟩ : ExpH)) .expH t0.id i3 (⟨e4.op, (wrap64 (t1 + 1)), e4.args⟩ : ExpH)) .expH t0.id i5) fun e6 =>
bnd (Rem e6.args (wrap64 ((wrap64 (t1 + 1)) + 1)) (Qia (Qia b99 .expH t0.id i1 (⟨t1, e2.n, e2.args⟩ : ExpH)) .expH t0.id i3 (⟨e4.op, (wrap64 (t1 + 1)), e4.args⟩ : ExpH))) fun r7 =>
Rdj t0 r7.1 (wrap64 (t5 + 1)) r7.2
else
some (t1, b99)) : Option (Int × List Ent))
 (Rdj t0 t1 t5 b99) := by
 rewrite [← Qze]
 exact fun r h => lE Rja p41301 h
theorem Rgo (t0 : List Exp) (t1 : Int) (t5 : Int) : Tv.Le
 ((bif (decide (t5 < (t0.length : Int))) then
bnd (geti t0 t5) fun e1 =>
(bif (!decide (e1.op = t1)) then
some (.inr (t1, (-1)))
else
bnd (geti t0 t5) fun e2 =>
(bif (!decide (e2.n = (wrap64 (t1 + 1)))) then
some (.inr ((wrap64 (t1 + 1)), (-1)))
else
bnd (geti t0 t5) fun e3 =>
bnd (Rgc e3.args (wrap64 ((wrap64 (t1 + 1)) + 1))) fun r4 =>
(bif (decide (r4 < 0)) then
some (.inr (r4, (-1)))
else
Rby t0 r4 (wrap64 (t5 + 1)))))
else
some (.inl t1)) : Option (Int ⊕ (Int × Int)))
 (Rby t0 t1 t5) := by
 rewrite [← Qze]
 exact fun r h => lE Riz p10701 h
theorem Ro (a0tokens : List (List UInt8)) (a0at : Int) (a0failed : Bool) : Tv.Le
 (bnd (Raq a0tokens a0at a0failed) fun r1 =>
(bif (r1.1 == [40]) then
bnd (Rg 1 r1.2.1 (wrap64 (r1.2.2.1 + 1)) r1.2.2.2) fun r2 =>
bnd (Rc [41] r2.2.1 r2.2.2.1 r2.2.2.2) fun r3 =>
some (⟨r2.1.op, r2.1.n, r2.1.args⟩, r3.1, r3.2.1, r3.2.2)
else
(bif (!(r1.1 == [])) then
bnd (geti r1.1 0) fun c4 =>
bnd (Rex (c4.toNat : Int)) fun r5 =>
(bif r5 then
bnd (Rl r1.2.1 r1.2.2.1 r1.2.2.2) fun r6 =>
some (⟨0, r6.1, []⟩, r6.2.1, r6.2.2.1, r6.2.2.2)
else
bnd (Re r1.2.1 r1.2.2.1 r1.2.2.2) fun r7 =>
some (⟨13, r7.1, []⟩, r7.2.1, r7.2.2.1, r7.2.2.2))
else
bnd (Re r1.2.1 r1.2.2.1 r1.2.2.2) fun r8 =>
some (⟨13, r8.1, []⟩, r8.2.1, r8.2.2.1, r8.2.2.2))) : Option (Exp × List (List UInt8) × Int × Bool))
 (Rao a0tokens a0at a0failed) := by
 rewrite [← Qze]
 exact fun r h => fE Rpr p34100 h
theorem Rat (t1 : Int) (b0_0 : List (List UInt8)) (b0_1 : Int) (b0_2 : Bool) (b100_0 : Int) (b100_1 : Int) (b100_2b : Bool) (b100_2 : List Exp) (b101_0 : Int) (b101_1 : Int) (b101_2m : Md) (b101_2 : List Exp) : Tv.Le
 ((bif (!b0_2) then
bnd (Raq b0_0 b0_1 b0_2) fun r1 =>
bnd (Rip r1.1) fun r2 =>
(bif (decide (r2 = 0)) then
some (r1.2.1, r1.2.2.1, r1.2.2.2, b100_0, b100_1, (b100_2b, b100_2), b101_0, b101_1, (b101_2m, b101_2))
else
bnd (Rew r2) fun r3 =>
(bif (decide (r3 < t1)) then
some (r1.2.1, r1.2.2.1, r1.2.2.2, b100_0, b100_1, (b100_2b, b100_2), b101_0, b101_1, (b101_2m, b101_2))
else
bnd (Rew r2) fun r4 =>
bnd (Rg (wrap64 (r4 + 1)) r1.2.1 (wrap64 (r1.2.2.1 + 1)) r1.2.2.2) fun r5 =>
Ran t1 r5.2.1 r5.2.2.1 r5.2.2.2 b100_0 b100_1 b100_2b b100_2 r2 0 .full ([⟨b101_0, b101_1, b101_2⟩, ⟨r5.1.op, r5.1.n, r5.1.args⟩] : List Exp)))
else
some (b0_0, b0_1, b0_2, b100_0, b100_1, (b100_2b, b100_2), b101_0, b101_1, (b101_2m, b101_2))) : Option (List (List UInt8) × Int × Bool × Int × Int × (Bool × List Exp) × Int × Int × (Md × List Exp)))
 (Ran t1 b0_0 b0_1 b0_2 b100_0 b100_1 b100_2b b100_2 b101_0 b101_1 b101_2m b101_2) := by
 rewrite [← Qze]
 exact fun r h => lE Ruu p34401 h
theorem Rcf (a0 : List (List UInt8)) (a1 : Int) : Tv.Le
 ((bif (decide ((a0.length : Int) ≤ a1)) then
some (⟨0, 0, []⟩, (-1))
else
bnd (geti a0 a1) fun e1 =>
(bif (e1 == [40]) then
bnd (Rae a0 (wrap64 (a1 + 1)) 1) fun r2 =>
(bif (decide (r2.2 < 0)) then
some (⟨0, 0, []⟩, (-1))
else
(bif (decide ((a0.length : Int) ≤ r2.2)) then
some (⟨0, 0, []⟩, (-1))
else
bnd (geti a0 r2.2) fun e3 =>
(bif (!(e3 == [41])) then
some (⟨0, 0, []⟩, (-1))
else
some (⟨r2.1.op, r2.1.n, r2.1.args⟩, (wrap64 (r2.2 + 1))))))
else
bnd (geti a0 a1) fun e4 =>
bnd (Rfn e4) fun r5 =>
(bif (decide (0 ≤ r5)) then
bnd (geti a0 a1) fun e6 =>
bnd (Rfn e6) fun r7 =>
bnd (Rix 0 r7) fun r8 =>
some (⟨r8.1, r8.2.1, r8.2.2.2⟩, (wrap64 (a1 + 1)))
else
bnd (geti a0 a1) fun e9 =>
bnd (Rf e9) fun r10 =>
(bif (decide (0 ≤ r10)) then
bnd (geti a0 a1) fun e11 =>
bnd (Rf e11) fun r12 =>
bnd (Rix 13 r12) fun r13 =>
some (⟨r13.1, r13.2.1, r13.2.2.2⟩, (wrap64 (a1 + 1)))
else
some (⟨0, 0, []⟩, (-1)))))) : Option (Exp × Int))
 (Rez a0 a1) := by
 rewrite [← Qze]
 exact fun r h => fE Rll p32600 h
theorem Rri (a0 : List UInt8) : Tv.Le
 (bnd (Rgk a0 1) fun r1 =>
selm r1 (fun y2 =>
some 0) (fun z3 =>
some z3) : Option (Int))
 (Rlr a0) := by
 exact fun r h => fE Rbi p32800 h
theorem Rok (a0 : Int) : Tv.Le
 (bnd (Rgj a0) fun r1 =>
(bif (!r1) then
some 0
else
bnd (geti ([1, 2, 3, 4, 5, 6, 6, 7, 7, 8, 8, 8] : List Int) (wrap64 (a0 - 1))) fun e2 =>
some e2) : Option (Int))
 (Rjn a0) := by
 rewrite [← Qze]
 exact fun r h => fE Rbi p32700 h
theorem Rpc (a0 : Int) (a1 : Exp) (a2 : Exp) : Tv.Le
 (some (a0, 0, (.full, ([⟨a1.op, a1.n, a1.args⟩, ⟨a2.op, a2.n, a2.args⟩] : List Exp))) : Option (Int × Int × (Md × List Exp)))
 (Rkv a0 a1 a2) := by
 exact fun r h => fE s300 p500 h
theorem Rcu (t0 : List (List UInt8)) (t2 : Int) (t9 : Int) (b100_0 : Int) (b100_1 : Int) (b100_2b : Bool) (b100_2 : List Exp) (b101_0 : Int) (b101_1 : Int) (b101_2m : Md) (b101_2 : List Exp) : Tv.Le
 ((bif (decide (0 ≤ t9)) then
(bif (decide (t9 < (t0.length : Int))) then
bnd (geti t0 t9) fun e1 =>
bnd (Rlr e1) fun r2 =>
bnd (Rjn r2) fun r3 =>
(bif (decide (r3 = t2)) then
bnd (geti t0 t9) fun e4 =>
bnd (Rlr e4) fun r5 =>
bnd (Rae t0 (wrap64 (t9 + 1)) (wrap64 (t2 + 1))) fun r6 =>
bnd (Rkv r5 (⟨b101_0, b101_1, b101_2⟩ : Exp) (⟨r6.1.op, r6.1.n, r6.1.args⟩ : Exp)) fun r7 =>
Rbo t0 t2 r6.2 b100_0 b100_1 b100_2b b100_2 r7.1 r7.2.1 (Md.dem r7.2.2.1) r7.2.2.2
else
some (t9, b100_0, b100_1, (b100_2b, b100_2), b101_0, b101_1, (b101_2m, b101_2)))
else
some (t9, b100_0, b100_1, (b100_2b, b100_2), b101_0, b101_1, (b101_2m, b101_2)))
else
some (t9, b100_0, b100_1, (b100_2b, b100_2), b101_0, b101_1, (b101_2m, b101_2))) : Option (Int × Int × Int × (Bool × List Exp) × Int × Int × (Md × List Exp)))
 (Rbo t0 t2 t9 b100_0 b100_1 b100_2b b100_2 b101_0 b101_1 b101_2m b101_2) := by
 rewrite [← Qze]
 exact fun r h => lE Rup p32901 h
theorem Rmm (a0 : Stm) : Tv.Le
 ((bif (decide (0 < (a0.body.length : Int))) then
some false
else
(bif (decide (0 < (a0.els.length : Int))) then
some false
else
(bif (decide (a0.kind = 1)) then
bnd (Rce (⟨a0.kind, a0.var, a0.box, ⟨a0.e.op, a0.e.n, a0.e.args⟩, a0.body, a0.els⟩ : Stm) true) fun r1 =>
(bif r1 then
bnd (Rcd (⟨a0.kind, a0.var, a0.box, ⟨a0.e.op, a0.e.n, a0.e.args⟩, a0.body, a0.els⟩ : Stm) false) fun r2 =>
(bif r2 then
bnd (Rbj (⟨a0.e.op, a0.e.n, a0.e.args⟩ : Exp)) fun r3 =>
some r3
else
some false)
else
some false)
else
(bif (decide (a0.kind = 4)) then
bnd (Rce (⟨a0.kind, a0.var, a0.box, ⟨a0.e.op, a0.e.n, a0.e.args⟩, a0.body, a0.els⟩ : Stm) false) fun r4 =>
(bif r4 then
bnd (Rcd (⟨a0.kind, a0.var, a0.box, ⟨a0.e.op, a0.e.n, a0.e.args⟩, a0.body, a0.els⟩ : Stm) true) fun r5 =>
(bif r5 then
bnd (Rbj (⟨a0.e.op, a0.e.n, a0.e.args⟩ : Exp)) fun r6 =>
some r6
else
some false)
else
some false)
else
(bif (decide (a0.kind = 5)) then
bnd (Rce (⟨a0.kind, a0.var, a0.box, ⟨a0.e.op, a0.e.n, a0.e.args⟩, a0.body, a0.els⟩ : Stm) true) fun r7 =>
(bif r7 then
bnd (Rcd (⟨a0.kind, a0.var, a0.box, ⟨a0.e.op, a0.e.n, a0.e.args⟩, a0.body, a0.els⟩ : Stm) true) fun r8 =>
(bif r8 then
bnd (Rgt (⟨a0.e.op, a0.e.n, a0.e.args⟩ : Exp)) fun r9 =>
some r9
else
some false)
else
some false)
else
(bif (decide (a0.kind = 6)) then
bnd (Rce (⟨a0.kind, a0.var, a0.box, ⟨a0.e.op, a0.e.n, a0.e.args⟩, a0.body, a0.els⟩ : Stm) false) fun r10 =>
(bif r10 then
bnd (Rcd (⟨a0.kind, a0.var, a0.box, ⟨a0.e.op, a0.e.n, a0.e.args⟩, a0.body, a0.els⟩ : Stm) false) fun r11 =>
(bif r11 then
bnd (Rgt (⟨a0.e.op, a0.e.n, a0.e.args⟩ : Exp)) fun r12 =>
some r12
else
some false)
else
some false)
else
(bif (decide (a0.kind = 7)) then
bnd (Rce (⟨a0.kind, a0.var, a0.box, ⟨a0.e.op, a0.e.n, a0.e.args⟩, a0.body, a0.els⟩ : Stm) false) fun r13 =>
(bif r13 then
bnd (Rcd (⟨a0.kind, a0.var, a0.box, ⟨a0.e.op, a0.e.n, a0.e.args⟩, a0.body, a0.els⟩ : Stm) false) fun r14 =>
(bif r14 then
bnd (Rbj (⟨a0.e.op, a0.e.n, a0.e.args⟩ : Exp)) fun r15 =>
some r15
else
some false)
else
some false)
else
some false))))))) : Option (Bool))
 (Rgd a0) := by
 exact fun r h => fE Rk p6000 h
theorem Roy (a0 : Stm) (a1 : Bool) : Tv.Le
 ((bif a1 then
bnd (Rej a0.var 0 3) fun r1 =>
some r1
else
some (decide (a0.var = 0))) : Option (Bool))
 (Rce a0 a1) := by
 exact fun r h => fE Rk p5700 h
theorem Rox (a0 : Stm) (a1 : Bool) : Tv.Le
 ((bif a1 then
bnd (Rej a0.box 0 2) fun r1 =>
some r1
else
some (decide (a0.box = 0))) : Option (Bool))
 (Rcd a0 a1) := by
 exact fun r h => fE Rk p5800 h
theorem Rmj (a0 : Exp) : Tv.Le
 (bnd (Rjp (⟨a0.op, a0.n, a0.args⟩ : Exp) 5) fun r1 =>
some r1 : Option (Bool))
 (Rbj a0) := by
 exact fun r h => fE Rk p1900 h
theorem Rhz (t0 : List UInt8) (t6 : Int) : Tv.Le
 ((bif (decide (t6 < 12)) then
bnd (geti ([[124], [94], [38], [61, 61], [60], [60, 60], [62, 62], [43], [45], [42], [47], [37]] : List (List UInt8)) t6) fun s1 =>
(bif (s1 == t0) then
some (.inr (wrap64 (1 + t6)))
else
Reg t0 (wrap64 (t6 + 1)))
else
some (.inl ())) : Option (Unit ⊕ Int))
 (Reg t0 t6) := by
 rewrite [← Qze]
 exact fun r h => lE Rlk p34201 h
theorem Rer (a0 : Int) (a1 : Int) (a2 : Bool) : Tv.Le
 ((bif (decide (a0 = 0)) then
some true
else
(bif a2 then
(bif (decide (0 < a0)) then
some (decide (a0 < a1))
else
some false)
else
some false)) : Option (Bool))
 (Rh a0 a1 a2) := by
 exact fun r h => fE Rk p11100 h
theorem Rlz (a0 : Exp) : Tv.Le
 (bnd (Ref (⟨a0.op, a0.n, a0.args⟩ : Exp) 5) fun r1 =>
some r1 : Option (Bool))
 (Rcx a0) := by
 exact fun r h => fE Rk p1200 h
theorem Roc (a0 : List Exp) (a1 : List Exp) : Tv.Le
 ((bif (!decide ((a0.length : Int) = (a1.length : Int))) then
some false
else
bnd (Rff a0 a1 0) fun r1 =>
selm r1 (fun y2 =>
some true) (fun z3 =>
some z3)) : Option (Bool))
 (Rjh a0 a1) := by
 exact fun r h => fE Rk p8000 h
theorem Rpd (a0 : Int) (a1 : Int) : Tv.Le
 (some (a0, a1, ((.own false), ([] : List Exp))) : Option (Int × Int × (Md × List Exp)))
 (Rix a0 a1) := by
 exact fun r h => fE s300 p300 h
theorem Rov (a0 : Int) : Tv.Le
 (bnd (Rgj a0) fun r1 =>
(bif (!r1) then
some []
else
bnd (geti ([[124], [94], [38], [61, 61], [60], [60, 60], [62, 62], [43], [45], [42], [47], [37]] : List (List UInt8)) (wrap64 (a0 - 1))) fun e2 =>
some e2) : Option (List UInt8))
 (Rkt a0) := by
 rewrite [← Qze]
 exact fun r h => fE Rpl p20700 h
theorem Rjr (t0 : List UInt8) (t3 : Int) : Tv.Le
 ((bif (decide (t3 ≤ 12)) then
bnd (Rkt t3) fun r1 =>
(bif (t0 == r1) then
some (.inr t3)
else
Rgk t0 (wrap64 (t3 + 1)))
else
some (.inl ())) : Option (Unit ⊕ Int))
 (Rgk t0 t3) := by
 rewrite [← Qze]
 exact fun r h => lE Rlk p32801 h
theorem Rol (a0 : Int) : Tv.Le
 (bnd (Rej a0 1 12) fun r1 =>
some r1 : Option (Bool))
 (Rgj a0) := by
 exact fun r h => fE Rk p1700 h
theorem Rnl (a0 : Exp) : Tv.Le
 ((bif (decide (a0.op = 0)) then
(bif (decide (a0.n = 0)) then
some (decide ((a0.args.length : Int) = 0))
else
some false)
else
some false) : Option (Bool))
 (Rgt a0) := by
 exact fun r h => fE Rk p5900 h
theorem Rmw (a0 : Exp) (a1 : Int) : Tv.Le
 ((bif (decide (a1 < 1)) then
some false
else
(bif (decide (a0.op = 0)) then
bnd (Rej a0.n 0 99999) fun r1 =>
(bif r1 then
some (decide ((a0.args.length : Int) = 0))
else
some false)
else
(bif (decide (a0.op = 13)) then
bnd (Rej a0.n 0 3) fun r2 =>
(bif r2 then
some (decide ((a0.args.length : Int) = 0))
else
some false)
else
bnd (Rgj a0.op) fun r3 =>
(bif r3 then
(bif (decide (a0.n = 0)) then
(bif (decide ((a0.args.length : Int) = 2)) then
bnd (geti a0.args 0) fun e4 =>
bnd (Rjp (⟨e4.op, e4.n, e4.args⟩ : Exp) (wrap64 (a1 - 1))) fun r5 =>
(bif r5 then
bnd (geti a0.args 1) fun e6 =>
bnd (Rjp (⟨e6.op, e6.n, e6.args⟩ : Exp) (wrap64 (a1 - 1))) fun r7 =>
some r7
else
some false)
else
some false)
else
some false)
else
some false)))) : Option (Bool))
 (Rjp a0 a1) := by
 rewrite [← Qze]
 exact fun r h => fE Rk p1800 h
theorem Rma (a0 : Exp) (a1 : Int) : Tv.Le
 ((bif (decide (a0.op = 0)) then
(bif (decide (0 ≤ a0.n)) then
(bif (decide (a0.n ≤ 99999)) then
(bif (decide ((a0.args.length : Int) = 0)) then
some (decide (0 < a1))
else
some false)
else
some false)
else
some false)
else
(bif (decide (a0.op = 13)) then
(bif (decide (0 ≤ a0.n)) then
(bif (decide (a0.n < 4)) then
(bif (decide ((a0.args.length : Int) = 0)) then
some (decide (0 < a1))
else
some false)
else
some false)
else
some false)
else
bnd (Rje a0.op) fun r1 =>
(bif r1 then
(bif (decide (a0.n = 0)) then
(bif (decide ((a0.args.length : Int) = 2)) then
(bif (decide (1 < a1)) then
bnd (geti a0.args 0) fun e2 =>
bnd (Ref (⟨e2.op, e2.n, e2.args⟩ : Exp) (wrap64 (a1 - 1))) fun r3 =>
(bif r3 then
bnd (geti a0.args 1) fun e4 =>
bnd (Ref (⟨e4.op, e4.n, e4.args⟩ : Exp) (wrap64 (a1 - 1))) fun r5 =>
some r5
else
some false)
else
some false)
else
some false)
else
some false)
else
some false))) : Option (Bool))
 (Ref a0 a1) := by
 rewrite [← Qze]
 exact fun r h => fE Rk p1100 h
theorem Rho (t0 : List Exp) (t1 : List Exp) (t5 : Int) : Tv.Le
 ((bif (decide (t5 < (t0.length : Int))) then
bnd (geti t0 t5) fun e1 =>
bnd (geti t1 t5) fun e2 =>
bnd (Rfu (⟨e1.op, e1.n, e1.args⟩ : Exp) (⟨e2.op, e2.n, e2.args⟩ : Exp)) fun r3 =>
(bif (!r3) then
some (.inr false)
else
Rff t0 t1 (wrap64 (t5 + 1)))
else
some (.inl ())) : Option (Unit ⊕ Bool))
 (Rff t0 t1 t5) := by
 rewrite [← Qze]
 exact fun r h => lE Rgs p8001 h
theorem Rny (a0 : Int) : Tv.Le
 ((bif (decide (1 ≤ a0)) then
some (decide (a0 ≤ 12))
else
some false) : Option (Bool))
 (Rje a0) := by
 exact fun r h => fE Rk p1000 h
end Go.TFnExactProgramFrom