import Derived.Test.YthmemaednlaanaaGreatDoorDFnSourceBackP
import Derived.KernelRfl
set_option linter.unusedVariables false
namespace Go.TFnSourceBack
open Go Go.RowKit Go.Vs Go.Tv
theorem Rjb (t5 : Hd) (b0_0 : List Int) (b0_1 : Int) (b99 : List Ent) : Tv.Le
 (bnd (Qgz b99 .stm t5.id) fun l1 =>
bnd (Rab l1) fun r2 =>
(bif (decide (16 < r2)) then
bnd (Qup b99 .stm t5.id t5.n (wrap64 (((t5.n : Nat) : Int) - 1))) fun q3 =>
Rcz (⟨(some (List.length b99)), q3.1⟩ : Hd) b0_0 b0_1 q3.2
else
some (t5, b0_0, b0_1, b99)) : Option (Hd × List Int × Int × List Ent))
 (Rcz t5 b0_0 b0_1 b99) := by
 rewrite [← Qze]
 exact fun r h => lE Rqr p38001 h
theorem Rob (a1 : Int) (a2 : Int) (a3 : Int) (a4 : Bool) (a0b : List Int) (a0p : Int) : Tv.Le
 (bnd (Rdq a1 a2 a3 a4 true ([] : List Stm) 0 a0b a0p) fun r1 =>
some (r1.1.2, r1.2.1, r1.2.2) : Option (List Stm × List Int × Int))
 (Rcm a1 a2 a3 a4 a0b a0p) := by
 exact fun r h => fE Rro p4600 h
theorem Rmd (a0 : Stm) (a1 : Int) : Tv.Le
 ((bif (decide (a0.kind = 1)) then
bnd (Rf a0.var 4 true) fun r1 =>
(bif (!r1) then
some false
else
bnd (Rf a0.box a1 false) fun r2 =>
(bif (!r2) then
some false
else
bnd (Rbz (⟨a0.e.op, a0.e.n, a0.e.args⟩ : Exp)) fun r3 =>
(bif (!r3) then
some false
else
(bif (decide ((a0.body.length : Int) = 0)) then
some (decide ((a0.els.length : Int) = 0))
else
some false))))
else
(bif (decide (a0.kind = 2)) then
bnd (Rf a0.var 4 false) fun r4 =>
(bif (!r4) then
some false
else
bnd (Rf a0.box a1 false) fun r5 =>
(bif (!r5) then
some false
else
bnd (Rbz (⟨a0.e.op, a0.e.n, a0.e.args⟩ : Exp)) fun r6 =>
(bif (!r6) then
some false
else
some true)))
else
(bif (decide (a0.kind = 3)) then
bnd (Rf a0.var 4 false) fun r7 =>
(bif (!r7) then
some false
else
bnd (Rf a0.box a1 false) fun r8 =>
(bif (!r8) then
some false
else
bnd (Rbz (⟨a0.e.op, a0.e.n, a0.e.args⟩ : Exp)) fun r9 =>
(bif (!r9) then
some false
else
some (decide ((a0.els.length : Int) = 0)))))
else
(bif (decide (a0.kind = 4)) then
bnd (Rf a0.var 4 false) fun r10 =>
(bif (!r10) then
some false
else
bnd (Rf a0.box a1 true) fun r11 =>
(bif (!r11) then
some false
else
(bif (decide (a1 ≤ a0.box)) then
some false
else
bnd (Rbz (⟨a0.e.op, a0.e.n, a0.e.args⟩ : Exp)) fun r12 =>
(bif (!r12) then
some false
else
(bif (decide ((a0.body.length : Int) = 0)) then
some (decide ((a0.els.length : Int) = 0))
else
some false)))))
else
(bif (decide (a0.kind = 5)) then
bnd (Rf a0.var 4 true) fun r13 =>
(bif (!r13) then
some false
else
bnd (Rf a0.box a1 true) fun r14 =>
(bif (!r14) then
some false
else
(bif (decide (a1 ≤ a0.box)) then
some false
else
(bif (!decide (a0.e.op = 0)) then
some false
else
(bif (!decide (a0.e.n = 0)) then
some false
else
(bif (decide (0 < (a0.e.args.length : Int))) then
some false
else
(bif (decide ((a0.body.length : Int) = 0)) then
some (decide ((a0.els.length : Int) = 0))
else
some false)))))))
else
(bif (decide (a0.kind = 7)) then
bnd (Rf a0.var 4 false) fun r15 =>
(bif (!r15) then
some false
else
bnd (Rf a0.box a1 false) fun r16 =>
(bif (!r16) then
some false
else
bnd (Rbz (⟨a0.e.op, a0.e.n, a0.e.args⟩ : Exp)) fun r17 =>
(bif (!r17) then
some false
else
(bif (decide ((a0.body.length : Int) = 0)) then
some (decide ((a0.els.length : Int) = 0))
else
some false))))
else
(bif (decide (a0.kind = 6)) then
bnd (Rf a0.var 4 false) fun r18 =>
(bif (!r18) then
some false
else
bnd (Rf a0.box a1 false) fun r19 =>
(bif (!r19) then
some false
else
(bif (!decide (a0.e.op = 0)) then
some false
else
(bif (!decide (a0.e.n = 0)) then
some false
else
(bif (decide (0 < (a0.e.args.length : Int))) then
some false
else
(bif (decide ((a0.body.length : Int) = 0)) then
some (decide ((a0.els.length : Int) = 0))
else
some false))))))
else
some false))))))) : Option (Bool))
 (Rhl a0 a1) := by
 exact fun r h => fE Rh p5200 h
theorem Rx (t0 : List Stm) (t1 : Int) (t2 : Int) (t23 : Int) (t24 : Int) (b0_0 : Int) : Tv.Le
 ((bif (decide (t24 < t23)) then
bnd (geti t0 t24) fun e1 =>
bnd (Rhl (⟨e1.kind, e1.var, e1.box, ⟨e1.e.op, e1.e.n, e1.e.args⟩, e1.body, e1.els⟩ : Stm) t1) fun r2 =>
(bif (!r2) then
some (.inr (false, b0_0))
else
(bif (decide (3 < t2)) then
some (.inr (false, b0_0))
else
(bif (!decide (e1.kind = 2)) then
(bif (!decide (e1.kind = 3)) then
Rat t0 t1 t2 t23 (wrap64 (t24 + 1)) b0_0
else
(bif (decide (3 ≤ t2)) then
some (.inr (false, b0_0))
else
bnd (Rar e1.body t1 (wrap64 (t2 + 1)) b0_0) fun r3 =>
(bif (!r3.1) then
some (.inr (false, r3.2))
else
bnd (Rar e1.els t1 (wrap64 (t2 + 1)) r3.2) fun r4 =>
(bif (!r4.1) then
some (.inr (false, r4.2))
else
Rat t0 t1 t2 t23 (wrap64 (t24 + 1)) r4.2))))
else
(bif (decide (3 ≤ t2)) then
some (.inr (false, b0_0))
else
bnd (Rar e1.body t1 (wrap64 (t2 + 1)) b0_0) fun r5 =>
(bif (!r5.1) then
some (.inr (false, r5.2))
else
bnd (Rar e1.els t1 (wrap64 (t2 + 1)) r5.2) fun r6 =>
(bif (!r6.1) then
some (.inr (false, r6.2))
else
Rat t0 t1 t2 t23 (wrap64 (t24 + 1)) r6.2))))))
else
some (.inl b0_0)) : Option (Int ⊕ (Bool × Int)))
 (Rat t0 t1 t2 t23 t24 b0_0) := by
 rewrite [← Qze]
 exact fun r h => lE s5301 p5301 h
theorem Rop (a0 : Int) : Tv.Le
 ((bif (decide (a0 = 1)) then
some 1
else
(bif (decide (a0 = 2)) then
some 2
else
(bif (decide (a0 = 3)) then
some 3
else
(bif (decide (a0 = 4)) then
some 4
else
(bif (decide (a0 = 5)) then
some 5
else
(bif (decide (a0 = 6)) then
some 6
else
(bif (decide (a0 = 7)) then
some 6
else
(bif (decide (a0 = 8)) then
some 7
else
(bif (decide (a0 = 9)) then
some 7
else
(bif (decide (a0 = 10)) then
some 8
else
(bif (decide (a0 = 11)) then
some 8
else
(bif (decide (a0 = 12)) then
some 8
else
some 0)))))))))))) : Option (Int))
 (Rbr a0) := by
 exact fun r h => fE Rdz p34300 h
theorem Rir (a0 : Exp) (a1 : Int) (a2 : List (List UInt8)) : Tv.Le
 (bnd (Rey a0.op) fun r1 =>
(bif (!r1) then
bnd (Rm (⟨a0.op, a0.n, a0.args⟩ : Exp) a2) fun r2 =>
some r2
else
bnd (Rbr a0.op) fun r3 =>
(bif (decide (a1 ≤ r3)) then
bnd (Rm (⟨a0.op, a0.n, a0.args⟩ : Exp) a2) fun r4 =>
some r4
else
bnd (appL a2 ([[40]] : List (List UInt8))) fun l5 =>
bnd (Rm (⟨a0.op, a0.n, a0.args⟩ : Exp) l5) fun r6 =>
bnd (appL r6 ([[41]] : List (List UInt8))) fun l7 =>
some l7)) : Option (List (List UInt8)))
 (Rcw a0 a1 a2) := by
 exact fun r h => fE Rcf p36500 h
theorem Rpq (a0 : Int) : Tv.Le
 (bnd (Rey a0) fun r1 =>
(bif (!r1) then
some []
else
bnd (geti ([[124], [94], [38], [61, 61], [60], [60, 60], [62, 62], [43], [45], [42], [47], [37]] : List (List UInt8)) (wrap64 (a0 - 1))) fun _ =>
bnd (([[124], [94], [38], [61, 61], [60], [60, 60], [62, 62], [43], [45], [42], [47], [37]] : List (List UInt8))[(Int.toNat (wrap64 (a0 - 1)))]?) fun s2 =>
some s2) : Option (List UInt8))
 (Rjs a0) := by
 rewrite [← Qze]
 exact fun r h => fE Rax p21000 h
theorem Rlk (a0 : Stm) (a1 : Int) : Tv.Le
 ((bif (!decide (a0.kind = 2)) then
(bif (!decide (a0.kind = 3)) then
bnd (Rex (⟨a0.kind, a0.var, a0.box, ⟨a0.e.op, a0.e.n, a0.e.args⟩, a0.body, a0.els⟩ : Stm)) fun r1 =>
some r1
else
(bif (decide (a1 < 1)) then
some false
else
(bif (decide (a0.kind = 3)) then
(bif (decide (0 < (a0.els.length : Int))) then
some false
else
bnd (Rbk (⟨a0.kind, a0.var, a0.box, ⟨a0.e.op, a0.e.n, a0.e.args⟩, a0.body, a0.els⟩ : Stm) false) fun r2 =>
(bif r2 then
bnd (Rbj (⟨a0.kind, a0.var, a0.box, ⟨a0.e.op, a0.e.n, a0.e.args⟩, a0.body, a0.els⟩ : Stm) false) fun r3 =>
(bif r3 then
bnd (Rap (⟨a0.e.op, a0.e.n, a0.e.args⟩ : Exp)) fun r4 =>
(bif r4 then
bnd (Rp a0.body (wrap64 (a1 - 1))) fun r5 =>
(bif r5 then
bnd (Rp a0.els (wrap64 (a1 - 1))) fun r6 =>
some r6
else
some false)
else
some false)
else
some false)
else
some false))
else
bnd (Rbk (⟨a0.kind, a0.var, a0.box, ⟨a0.e.op, a0.e.n, a0.e.args⟩, a0.body, a0.els⟩ : Stm) false) fun r7 =>
(bif r7 then
bnd (Rbj (⟨a0.kind, a0.var, a0.box, ⟨a0.e.op, a0.e.n, a0.e.args⟩, a0.body, a0.els⟩ : Stm) false) fun r8 =>
(bif r8 then
bnd (Rap (⟨a0.e.op, a0.e.n, a0.e.args⟩ : Exp)) fun r9 =>
(bif r9 then
bnd (Rp a0.body (wrap64 (a1 - 1))) fun r10 =>
(bif r10 then
bnd (Rp a0.els (wrap64 (a1 - 1))) fun r11 =>
some r11
else
some false)
else
some false)
else
some false)
else
some false))))
else
(bif (decide (a1 < 1)) then
some false
else
(bif (decide (a0.kind = 3)) then
(bif (decide (0 < (a0.els.length : Int))) then
some false
else
bnd (Rbk (⟨a0.kind, a0.var, a0.box, ⟨a0.e.op, a0.e.n, a0.e.args⟩, a0.body, a0.els⟩ : Stm) false) fun r12 =>
(bif r12 then
bnd (Rbj (⟨a0.kind, a0.var, a0.box, ⟨a0.e.op, a0.e.n, a0.e.args⟩, a0.body, a0.els⟩ : Stm) false) fun r13 =>
(bif r13 then
bnd (Rap (⟨a0.e.op, a0.e.n, a0.e.args⟩ : Exp)) fun r14 =>
(bif r14 then
bnd (Rp a0.body (wrap64 (a1 - 1))) fun r15 =>
(bif r15 then
bnd (Rp a0.els (wrap64 (a1 - 1))) fun r16 =>
some r16
else
some false)
else
some false)
else
some false)
else
some false))
else
bnd (Rbk (⟨a0.kind, a0.var, a0.box, ⟨a0.e.op, a0.e.n, a0.e.args⟩, a0.body, a0.els⟩ : Stm) false) fun r17 =>
(bif r17 then
bnd (Rbj (⟨a0.kind, a0.var, a0.box, ⟨a0.e.op, a0.e.n, a0.e.args⟩, a0.body, a0.els⟩ : Stm) false) fun r18 =>
(bif r18 then
bnd (Rap (⟨a0.e.op, a0.e.n, a0.e.args⟩ : Exp)) fun r19 =>
(bif r19 then
bnd (Rp a0.body (wrap64 (a1 - 1))) fun r20 =>
(bif r20 then
bnd (Rp a0.els (wrap64 (a1 - 1))) fun r21 =>
some r21
else
some false)
else
some false)
else
some false)
else
some false)))) : Option (Bool))
 (Rht a0 a1) := by
 rewrite [← Qze]
 exact fun r h => fE Rh p6100 h
theorem Rfu (t0 : List Stm) (t1 : Int) (t5 : Int) : Tv.Le
 ((bif (decide (t5 < (t0.length : Int))) then
bnd (geti t0 t5) fun e1 =>
bnd (Rht (⟨e1.kind, e1.var, e1.box, ⟨e1.e.op, e1.e.n, e1.e.args⟩, e1.body, e1.els⟩ : Stm) t1) fun r2 =>
(bif (!r2) then
some (.inr false)
else
Rdg t0 t1 (wrap64 (t5 + 1)))
else
some (.inl ())) : Option (Unit ⊕ Bool))
 (Rdg t0 t1 t5) := by
 rewrite [← Qze]
 exact fun r h => lE Rfx p6201 h
theorem Rgr (t0 : List Stm) (t3 : Int) (t4 : Int) : Tv.Le
 ((bif (decide (t4 < (t0.length : Int))) then
bnd (geti t0 t4) fun e1 =>
bnd (Rab e1.body) fun r2 =>
bnd (geti t0 t4) fun e3 =>
bnd (Rab e3.els) fun r4 =>
Rdp t0 (wrap64 ((wrap64 ((wrap64 (t3 + 1)) + r2)) + r4)) (wrap64 (t4 + 1))
else
some t3) : Option (Int))
 (Rdp t0 t3 t4) := by
 rewrite [← Qze]
 exact fun r h => lE Rud p4001 h
theorem Rpc (a0 : Int) : Tv.Le
 (bnd (Rff a0) fun r1 =>
(bif (!r1) then
some 0
else
bnd (geti ([1, 2, 3, 4, 5, 6, 6, 7, 7, 8, 8, 8] : List Int) (wrap64 (a0 - 1))) fun e2 =>
some e2) : Option (Int))
 (Rfe a0) := by
 rewrite [← Qze]
 exact fun r h => fE Rdz p32700 h
theorem Rpg (a0 : Exp) : Tv.Le
 ((bif (decide ((a0.args.length : Int) = 0)) then
some 9
else
bnd (Rfe a0.op) fun r1 =>
some r1) : Option (Int))
 (Rhi a0) := by
 exact fun r h => fE Rdz p35200 h
theorem Rqb (a0 : List (List UInt8)) (a1 : Bool) : Tv.Le
 ((bif (!a1) then
some a0
else
bnd (appL ([[40]] : List (List UInt8)) a0) fun l1 =>
bnd (appL l1 ([[41]] : List (List UInt8))) fun l2 =>
some l2) : Option (List (List UInt8)))
 (Rii a0 a1) := by
 exact fun r h => fE Rcf p35100 h
theorem Rpu (a0 : Int) : Tv.Le
 (bnd (Rff a0) fun r1 =>
(bif (!r1) then
some []
else
bnd (geti ([[124], [94], [38], [61, 61], [60], [60, 60], [62, 62], [43], [45], [42], [47], [37]] : List (List UInt8)) (wrap64 (a0 - 1))) fun e2 =>
some e2) : Option (List UInt8))
 (Rke a0) := by
 rewrite [← Qze]
 exact fun r h => fE Rax p20700 h
theorem Rpx (a0 : Int) : Tv.Le
 ((bif (decide (48 ≤ a0)) then
(bif (decide (a0 ≤ 57)) then
some 1
else
(bif (decide (97 ≤ a0)) then
(bif (decide (a0 ≤ 122)) then
some 2
else
(bif (decide (a0 = 32)) then
some 3
else
(bif (decide (a0 = 10)) then
some 3
else
bnd (Rba a0 ([43, 45, 42, 47, 37, 38, 124, 94, 60, 62, 40, 41, 123, 125, 61, 59]) 0) fun r1 =>
selm r1 (fun y2 =>
some 0) (fun z3 =>
some z3))))
else
(bif (decide (a0 = 32)) then
some 3
else
(bif (decide (a0 = 10)) then
some 3
else
bnd (Rba a0 ([43, 45, 42, 47, 37, 38, 124, 94, 60, 62, 40, 41, 123, 125, 61, 59]) 0) fun r4 =>
selm r4 (fun y5 =>
some 0) (fun z6 =>
some z6)))))
else
(bif (decide (97 ≤ a0)) then
(bif (decide (a0 ≤ 122)) then
some 2
else
(bif (decide (a0 = 32)) then
some 3
else
(bif (decide (a0 = 10)) then
some 3
else
bnd (Rba a0 ([43, 45, 42, 47, 37, 38, 124, 94, 60, 62, 40, 41, 123, 125, 61, 59]) 0) fun r7 =>
selm r7 (fun y8 =>
some 0) (fun z9 =>
some z9))))
else
(bif (decide (a0 = 32)) then
some 3
else
(bif (decide (a0 = 10)) then
some 3
else
bnd (Rba a0 ([43, 45, 42, 47, 37, 38, 124, 94, 60, 62, 40, 41, 123, 125, 61, 59]) 0) fun r10 =>
selm r10 (fun y11 =>
some 0) (fun z12 =>
some z12))))) : Option (Int))
 (Rgv a0) := by
 exact fun r h => fE Rdz p31800 h
theorem Rll (a0 : List UInt8) (a1 : Int) : Tv.Le
 (bnd (Rga a0 a1 a1) fun r1 =>
some r1 : Option (Int))
 (Rhw a0 a1) := by
 exact fun r h => fE Rdz p31900 h
theorem Rrq (a0 : List UInt8) : Tv.Le
 ((bif (a0 == ([60, 60])) then
some true
else
(bif (a0 == ([62, 62])) then
some true
else
some (a0 == ([61, 61])))) : Option (Bool))
 (Rmr a0) := by
 exact fun r h => fE Rh p32000 h
theorem Rl (a0tokens : List (List UInt8)) (a0at : Int) (a0failed : Bool) : Tv.Le
 (bnd (Ral a0tokens a0at a0failed) fun r1 =>
(bif (r1.1 == [40]) then
bnd (Rc 1 r1.2.1 (wrap64 (r1.2.2.1 + 1)) r1.2.2.2) fun r2 =>
bnd (Re [41] r2.2.1 r2.2.2.1 r2.2.2.2) fun r3 =>
some (⟨r2.1.op, r2.1.n, r2.1.args⟩, r3.1, r3.2.1, r3.2.2)
else
(bif (!(r1.1 == [])) then
bnd (geti r1.1 0) fun c4 =>
bnd (Rfa (c4.toNat : Int)) fun r5 =>
(bif r5 then
bnd (Ru r1.2.1 r1.2.2.1 r1.2.2.2) fun r6 =>
some (⟨0, r6.1, []⟩, r6.2.1, r6.2.2.1, r6.2.2.2)
else
bnd (Rg r1.2.1 r1.2.2.1 r1.2.2.2) fun r7 =>
some (⟨13, r7.1, []⟩, r7.2.1, r7.2.2.1, r7.2.2.2))
else
bnd (Rg r1.2.1 r1.2.2.1 r1.2.2.2) fun r8 =>
some (⟨13, r8.1, []⟩, r8.2.1, r8.2.2.1, r8.2.2.2))) : Option (Exp × List (List UInt8) × Int × Bool))
 (Rz a0tokens a0at a0failed) := by
 rewrite [← Qze]
 exact fun r h => fE Rqp p34100 h
theorem Rps (a0 : List UInt8) : Tv.Le
 (bnd (Rdm a0 0) fun r1 =>
selm r1 (fun y2 =>
some 0) (fun z3 =>
some z3) : Option (Int))
 (Rjx a0) := by
 exact fun r h => fE Rdz p34200 h
theorem Rae (t1 : Int) (b0_0 : List (List UInt8)) (b0_1 : Int) (b0_2 : Bool) (b100_0 : Int) (b100_1 : Int) (b100_2b : Bool) (b100_2 : List Exp) (b101_0 : Int) (b101_1 : Int) (b101_2m : Md) (b101_2 : List Exp) : Tv.Le
 ((bif (!b0_2) then
bnd (Ral b0_0 b0_1 b0_2) fun r1 =>
bnd (Rjx r1.1) fun r2 =>
(bif (decide (r2 = 0)) then
some (r1.2.1, r1.2.2.1, r1.2.2.2, b100_0, b100_1, (b100_2b, b100_2), b101_0, b101_1, (b101_2m, b101_2))
else
bnd (Rbr r2) fun r3 =>
(bif (decide (r3 < t1)) then
some (r1.2.1, r1.2.2.1, r1.2.2.2, b100_0, b100_1, (b100_2b, b100_2), b101_0, b101_1, (b101_2m, b101_2))
else
bnd (Rbr r2) fun r4 =>
bnd (Rc (wrap64 (r4 + 1)) r1.2.1 (wrap64 (r1.2.2.1 + 1)) r1.2.2.2) fun r5 =>
Ry t1 r5.2.1 r5.2.2.1 r5.2.2.2 b100_0 b100_1 b100_2b b100_2 r2 0 .full ([⟨b101_0, b101_1, b101_2⟩, ⟨r5.1.op, r5.1.n, r5.1.args⟩] : List Exp)))
else
some (b0_0, b0_1, b0_2, b100_0, b100_1, (b100_2b, b100_2), b101_0, b101_1, (b101_2m, b101_2))) : Option (List (List UInt8) × Int × Bool × Int × Int × (Bool × List Exp) × Int × Int × (Md × List Exp)))
 (Ry t1 b0_0 b0_1 b0_2 b100_0 b100_1 b100_2b b100_2 b101_0 b101_1 b101_2m b101_2) := by
 rewrite [← Qze]
 exact fun r h => lE Rvt p34401 h
theorem Rpi (a1 : Int) (a2 : Int) (a3 : Bool) (a0b : List Int) (a0p : Int) : Tv.Le
 (bnd (Ra 10 a0b a0p) fun r1 =>
(bif (decide (r1.1 = 0)) then
bnd (Rhb r1.2.1 r1.2.2) fun r2 =>
some (([⟨r2.1.kind, r2.1.var, r2.1.box, ⟨r2.1.e.op, r2.1.e.n, r2.1.e.args⟩, r2.1.body, r2.1.els⟩] : List Stm), r2.2.1, r2.2.2)
else
(bif (decide (r1.1 = 1)) then
bnd (Rhb r1.2.1 r1.2.2) fun r3 =>
some (([⟨r3.1.kind, r3.1.var, r3.1.box, ⟨r3.1.e.op, r3.1.e.n, r3.1.e.args⟩, r3.1.body, r3.1.els⟩] : List Stm), r3.2.1, r3.2.2)
else
(bif (decide (r1.1 = 2)) then
(bif (decide (0 < a2)) then
bnd (Rmu a1 a2 a3 r1.2.1 r1.2.2) fun r4 =>
some (([⟨r4.1.kind, r4.1.var, r4.1.box, ⟨r4.1.e.op, r4.1.e.n, r4.1.e.args⟩, r4.1.body, r4.1.els⟩] : List Stm), r4.2.1, r4.2.2)
else
bnd (Ra 3 r1.2.1 r1.2.2) fun r5 =>
bnd (Rad (wrap64 (1 + r5.1)) r5.2.1 r5.2.2) fun r6 =>
some (([⟨7, 0, 0, ⟨r6.1, r6.2.1, r6.2.2.1.2⟩, [], []⟩] : List Stm), r6.2.2.2.1, r6.2.2.2.2))
else
(bif (decide (r1.1 = 3)) then
(bif (decide (0 < a2)) then
(bif a3 then
bnd (Rja a1 a2 r1.2.1 r1.2.2) fun r7 =>
some (r7.1, r7.2.1, r7.2.2)
else
bnd (Ra 3 r1.2.1 r1.2.2) fun r8 =>
bnd (Rad (wrap64 (1 + r8.1)) r8.2.1 r8.2.2) fun r9 =>
some (([⟨7, 0, 0, ⟨r9.1, r9.2.1, r9.2.2.1.2⟩, [], []⟩] : List Stm), r9.2.2.2.1, r9.2.2.2.2))
else
bnd (Ra 3 r1.2.1 r1.2.2) fun r10 =>
bnd (Rad (wrap64 (1 + r10.1)) r10.2.1 r10.2.2) fun r11 =>
some (([⟨7, 0, 0, ⟨r11.1, r11.2.1, r11.2.2.1.2⟩, [], []⟩] : List Stm), r11.2.2.2.1, r11.2.2.2.2))
else
(bif (decide (r1.1 = 4)) then
bnd (Rfj a1 r1.2.1 r1.2.2) fun r12 =>
some (([⟨r12.1.kind, r12.1.var, r12.1.box, ⟨r12.1.e.op, r12.1.e.n, r12.1.e.args⟩, r12.1.body, r12.1.els⟩] : List Stm), r12.2.1, r12.2.2)
else
(bif (decide (r1.1 = 5)) then
bnd (Rfj a1 r1.2.1 r1.2.2) fun r13 =>
some (([⟨r13.1.kind, r13.1.var, r13.1.box, ⟨r13.1.e.op, r13.1.e.n, r13.1.e.args⟩, r13.1.body, r13.1.els⟩] : List Stm), r13.2.1, r13.2.2)
else
(bif (decide (r1.1 = 6)) then
bnd (Rfj a1 r1.2.1 r1.2.2) fun r14 =>
some (([⟨r14.1.kind, r14.1.var, r14.1.box, ⟨r14.1.e.op, r14.1.e.n, r14.1.e.args⟩, r14.1.body, r14.1.els⟩] : List Stm), r14.2.1, r14.2.2)
else
(bif (decide (r1.1 = 7)) then
some (([⟨6, 0, 0, ⟨0, 0, []⟩, [], []⟩] : List Stm), r1.2.1, r1.2.2)
else
bnd (Ra 3 r1.2.1 r1.2.2) fun r15 =>
bnd (Rad (wrap64 (1 + r15.1)) r15.2.1 r15.2.2) fun r16 =>
some (([⟨7, 0, 0, ⟨r16.1, r16.2.1, r16.2.2.1.2⟩, [], []⟩] : List Stm), r16.2.2.2.1, r16.2.2.2.2))))))))) : Option (List Stm × List Int × Int))
 (Rhj a1 a2 a3 a0b a0p) := by
 rewrite [← Qze]
 exact fun r h => fE Rro p4500 h
theorem Rfh (t1 : Int) (t2 : Int) (t3 : Int) (t4 : Bool) (t11 : Hd) (t12 : Int) (b0_0 : List Int) (b0_1 : Int) (b99 : List Ent) : Tv.Le
 ((bif (decide (t12 < t3)) then
bnd (Rhj t1 t2 t4 b0_0 b0_1) fun r1 =>
bnd (Qju b99 .stm t11.id t11.n r1.1) fun B2 =>
Rcx t1 t2 t3 t4 (⟨(some (List.length b99)), (t11.n + List.length r1.1)⟩ : Hd) (wrap64 (t12 + 1)) r1.2.1 r1.2.2 B2
else
some (t11, b0_0, b0_1, b99)) : Option (Hd × List Int × Int × List Ent))
 (Rcx t1 t2 t3 t4 t11 t12 b0_0 b0_1 b99) := by
 rewrite [← Qze]
 exact fun r h => lE Rqr p38101 h
theorem Rgx (t1 : Int) (t2 : Int) (t3 : Int) (t4 : Bool) (t11b : Bool) (t11 : List Stm) (t12 : Int) (b0_0 : List Int) (b0_1 : Int) : Tv.Le
 ((bif (decide (t12 < t3)) then
bnd (Rhj t1 t2 t4 b0_0 b0_1) fun r1 =>
bnd (appL t11 r1.1) fun l2 =>
Rdq t1 t2 t3 t4 true l2 (wrap64 (t12 + 1)) r1.2.1 r1.2.2
else
some ((t11b, t11), b0_0, b0_1)) : Option ((Bool × List Stm) × List Int × Int))
 (Rdq t1 t2 t3 t4 t11b t11 t12 b0_0 b0_1) := by
 rewrite [← Qze]
 exact fun r h => lE s4601 p4601 h
theorem Rdu (a0 : Int) (a1 : Int) (a2 : Bool) : Tv.Le
 ((bif (decide (a0 = 0)) then
some true
else
(bif a2 then
(bif (decide (0 < a0)) then
some (decide (a0 < a1))
else
some false)
else
some false)) : Option (Bool))
 (Rf a0 a1 a2) := by
 exact fun r h => fE Rh p11100 h
theorem Rma (a0 : Exp) : Tv.Le
 (bnd (Rdl (⟨a0.op, a0.n, a0.args⟩ : Exp) 5) fun r1 =>
some r1 : Option (Bool))
 (Rbz a0) := by
 exact fun r h => fE Rh p1200 h
theorem Roq (a0 : Int) : Tv.Le
 ((bif (decide (1 ≤ a0)) then
some (decide (a0 ≤ 12))
else
some false) : Option (Bool))
 (Rey a0) := by
 exact fun r h => fE Rh p1000 h
theorem Rmq (a0 : Stm) : Tv.Le
 ((bif (decide (0 < (a0.body.length : Int))) then
some false
else
(bif (decide (0 < (a0.els.length : Int))) then
some false
else
(bif (decide (a0.kind = 1)) then
bnd (Rbk (⟨a0.kind, a0.var, a0.box, ⟨a0.e.op, a0.e.n, a0.e.args⟩, a0.body, a0.els⟩ : Stm) true) fun r1 =>
(bif r1 then
bnd (Rbj (⟨a0.kind, a0.var, a0.box, ⟨a0.e.op, a0.e.n, a0.e.args⟩, a0.body, a0.els⟩ : Stm) false) fun r2 =>
(bif r2 then
bnd (Rap (⟨a0.e.op, a0.e.n, a0.e.args⟩ : Exp)) fun r3 =>
some r3
else
some false)
else
some false)
else
(bif (decide (a0.kind = 4)) then
bnd (Rbk (⟨a0.kind, a0.var, a0.box, ⟨a0.e.op, a0.e.n, a0.e.args⟩, a0.body, a0.els⟩ : Stm) false) fun r4 =>
(bif r4 then
bnd (Rbj (⟨a0.kind, a0.var, a0.box, ⟨a0.e.op, a0.e.n, a0.e.args⟩, a0.body, a0.els⟩ : Stm) true) fun r5 =>
(bif r5 then
bnd (Rap (⟨a0.e.op, a0.e.n, a0.e.args⟩ : Exp)) fun r6 =>
some r6
else
some false)
else
some false)
else
(bif (decide (a0.kind = 5)) then
bnd (Rbk (⟨a0.kind, a0.var, a0.box, ⟨a0.e.op, a0.e.n, a0.e.args⟩, a0.body, a0.els⟩ : Stm) true) fun r7 =>
(bif r7 then
bnd (Rbj (⟨a0.kind, a0.var, a0.box, ⟨a0.e.op, a0.e.n, a0.e.args⟩, a0.body, a0.els⟩ : Stm) true) fun r8 =>
(bif r8 then
bnd (Rfy (⟨a0.e.op, a0.e.n, a0.e.args⟩ : Exp)) fun r9 =>
some r9
else
some false)
else
some false)
else
(bif (decide (a0.kind = 6)) then
bnd (Rbk (⟨a0.kind, a0.var, a0.box, ⟨a0.e.op, a0.e.n, a0.e.args⟩, a0.body, a0.els⟩ : Stm) false) fun r10 =>
(bif r10 then
bnd (Rbj (⟨a0.kind, a0.var, a0.box, ⟨a0.e.op, a0.e.n, a0.e.args⟩, a0.body, a0.els⟩ : Stm) false) fun r11 =>
(bif r11 then
bnd (Rfy (⟨a0.e.op, a0.e.n, a0.e.args⟩ : Exp)) fun r12 =>
some r12
else
some false)
else
some false)
else
(bif (decide (a0.kind = 7)) then
bnd (Rbk (⟨a0.kind, a0.var, a0.box, ⟨a0.e.op, a0.e.n, a0.e.args⟩, a0.body, a0.els⟩ : Stm) false) fun r13 =>
(bif r13 then
bnd (Rbj (⟨a0.kind, a0.var, a0.box, ⟨a0.e.op, a0.e.n, a0.e.args⟩, a0.body, a0.els⟩ : Stm) false) fun r14 =>
(bif r14 then
bnd (Rap (⟨a0.e.op, a0.e.n, a0.e.args⟩ : Exp)) fun r15 =>
some r15
else
some false)
else
some false)
else
some false))))))) : Option (Bool))
 (Rex a0) := by
 exact fun r h => fE Rh p6000 h
theorem Rpw (a0 : Stm) (a1 : Bool) : Tv.Le
 ((bif a1 then
bnd (Reg a0.var 0 3) fun r1 =>
some r1
else
some (decide (a0.var = 0))) : Option (Bool))
 (Rbk a0 a1) := by
 exact fun r h => fE Rh p5700 h
theorem Rpv (a0 : Stm) (a1 : Bool) : Tv.Le
 ((bif a1 then
bnd (Reg a0.box 0 2) fun r1 =>
some r1
else
some (decide (a0.box = 0))) : Option (Bool))
 (Rbj a0 a1) := by
 exact fun r h => fE Rh p5800 h
theorem Rmm (a0 : Exp) : Tv.Le
 (bnd (Rix (⟨a0.op, a0.n, a0.args⟩ : Exp) 5) fun r1 =>
some r1 : Option (Bool))
 (Rap a0) := by
 exact fun r h => fE Rh p1900 h
theorem Rpd (a0 : Int) : Tv.Le
 (bnd (Reg a0 1 12) fun r1 =>
some r1 : Option (Bool))
 (Rff a0) := by
 exact fun r h => fE Rh p1700 h
theorem Rhv (t0 : Int) (t3 : List UInt8) (t4 : Int) : Tv.Le
 ((bif (decide (t4 < (t3.length : Int))) then
bnd (geti t3 t4) fun c1 =>
(bif (decide ((c1.toNat : Int) = t0)) then
some (.inr 4)
else
Rba t0 t3 (wrap64 (t4 + 1)))
else
some (.inl ())) : Option (Unit ⊕ Int))
 (Rba t0 t3 t4) := by
 rewrite [← Qze]
 exact fun r h => lE Rvl p31801 h
theorem Rio (t0 : List UInt8) (t1 : Int) (t5 : Int) : Tv.Le
 ((bif (decide (t5 < (t0.length : Int))) then
bnd (geti t0 t5) fun c1 =>
bnd (Rgv (c1.toNat : Int)) fun r2 =>
bnd (geti t0 t1) fun c3 =>
bnd (Rgv (c3.toNat : Int)) fun r4 =>
(bif (decide (r2 = r4)) then
Rga t0 t1 (wrap64 (t5 + 1))
else
some t5)
else
some t5) : Option (Int))
 (Rga t0 t1 t5) := by
 rewrite [← Qze]
 exact fun r h => lE Rud p31901 h
theorem Rho (t0 : List UInt8) (t6 : Int) : Tv.Le
 ((bif (decide (t6 < 12)) then
bnd (geti ([[124], [94], [38], [61, 61], [60], [60, 60], [62, 62], [43], [45], [42], [47], [37]] : List (List UInt8)) t6) fun s1 =>
(bif (s1 == t0) then
some (.inr (wrap64 (1 + t6)))
else
Rdm t0 (wrap64 (t6 + 1)))
else
some (.inl ())) : Option (Unit ⊕ Int))
 (Rdm t0 t6) := by
 rewrite [← Qze]
 exact fun r h => lE Rvs p34201 h
theorem Rqd (a0b : List Int) (a0p : Int) : Tv.Le
 (bnd (Ra 3 a0b a0p) fun r1 =>
bnd (Ra 3 r1.2.1 r1.2.2) fun r2 =>
bnd (Rad (wrap64 (1 + r2.1)) r2.2.1 r2.2.2) fun r3 =>
some (⟨1, r1.1, 0, ⟨r3.1, r3.2.1, r3.2.2.1.2⟩, [], []⟩, r3.2.2.2.1, r3.2.2.2.2) : Option (Stm × List Int × Int))
 (Rhb a0b a0p) := by
 rewrite [← Qze]
 exact fun r h => fE Rnr p4200 h
theorem Rrs (a1 : Int) (a2 : Int) (a3 : Bool) (a0b : List Int) (a0p : Int) : Tv.Le
 (bnd (Ra 2 a0b a0p) fun r1 =>
bnd (Rad (wrap64 (1 + r1.1)) r1.2.1 r1.2.2) fun r2 =>
bnd (Ra 3 r2.2.2.2.1 r2.2.2.2.2) fun r3 =>
bnd (Rcm a1 (wrap64 (a2 - 1)) r3.1 a3 r3.2.1 r3.2.2) fun r4 =>
bnd (Ra 3 r4.2.1 r4.2.2) fun r5 =>
bnd (Rcm a1 (wrap64 (a2 - 1)) r5.1 a3 r5.2.1 r5.2.2) fun r6 =>
some (⟨2, 0, 0, ⟨r2.1, r2.2.1, r2.2.2.1.2⟩, r4.1, r6.1⟩, r6.2.1, r6.2.2) : Option (Stm × List Int × Int))
 (Rmu a1 a2 a3 a0b a0p) := by
 rewrite [← Qze]
 exact fun r h => fE Rnr p4100 h
theorem Riy (a1 : Int) (a0b : List Int) (a0p : Int) : Tv.Le
 ((bif (decide (a1 < 2)) then
bnd (Rch a0b a0p) fun r1 =>
some (r1.1, r1.2.1, ((Md.dem (Md.dem (Md.dem r1.2.2.1.1))), r1.2.2.1.2), r1.2.2.2.1, r1.2.2.2.2)
else
bnd (Ra 3 a0b a0p) fun r2 =>
(bif (decide (r2.1 = 0)) then
bnd (Rch r2.2.1 r2.2.2) fun r3 =>
some (r3.1, r3.2.1, ((Md.dem (Md.dem (Md.dem r3.2.2.1.1))), r3.2.2.1.2), r3.2.2.2.1, r3.2.2.2.2)
else
bnd (Rmt r2.2.1 r2.2.2) fun r4 =>
bnd (Rad (wrap64 (a1 - 1)) r4.2.1 r4.2.2) fun r5 =>
bnd (Rad (wrap64 (a1 - 1)) r5.2.2.2.1 r5.2.2.2.2) fun r6 =>
bnd (Rgw r4.1 (⟨r5.1, r5.2.1, r5.2.2.1.2⟩ : Exp) (⟨r6.1, r6.2.1, r6.2.2.1.2⟩ : Exp)) fun r7 =>
some (r7.1, r7.2.1, ((Md.dem (Md.dem (Md.dem r7.2.2.1))), r7.2.2.2), r6.2.2.2.1, r6.2.2.2.2))) : Option (Int × Int × (Md × List Exp) × List Int × Int))
 (Rad a1 a0b a0p) := by
 rewrite [← Qze]
 exact fun r h => fE s400 p700 h
theorem Rph (a1 : Int) (a2 : Int) (a0b : List Int) (a0p : Int) : Tv.Le
 (bnd (Ra 3 a0b a0p) fun r1 =>
bnd (Rcm a1 (wrap64 (a2 - 1)) r1.1 false r1.2.1 r1.2.2) fun r2 =>
bnd (Rbl 13 3) fun r3 =>
bnd (Rbl 0 1) fun r4 =>
bnd (Rgw 8 (⟨r3.1, r3.2.1, r3.2.2.2⟩ : Exp) (⟨r4.1, r4.2.1, r4.2.2.2⟩ : Exp)) fun r5 =>
bnd (Rbl 13 3) fun r6 =>
bnd (Ra 3 r2.2.1 r2.2.2) fun r7 =>
bnd (Rbl 0 (wrap64 (1 + r7.1))) fun r8 =>
bnd (Rgw 5 (⟨r6.1, r6.2.1, r6.2.2.2⟩ : Exp) (⟨r8.1, r8.2.1, r8.2.2.2⟩ : Exp)) fun r9 =>
bnd (appL r2.1 ([⟨1, 3, 0, ⟨r5.1, r5.2.1, r5.2.2.2⟩, [], []⟩] : List Stm)) fun l10 =>
bnd (Rbl 0 0) fun r11 =>
some (([⟨1, 3, 0, ⟨r11.1, r11.2.1, r11.2.2.2⟩, [], []⟩, ⟨3, 0, 0, ⟨r9.1, r9.2.1, r9.2.2.2⟩, l10, []⟩] : List Stm), r7.2.1, r7.2.2) : Option (List Stm × List Int × Int))
 (Rja a1 a2 a0b a0p) := by
 rewrite [← Qze]
 exact fun r h => fE Rro p4300 h
theorem Rpj (a1 : Int) (a0b : List Int) (a0p : Int) : Tv.Le
 ((bif (decide (a1 < 1)) then
bnd (Rhb a0b a0p) fun r1 =>
some (⟨r1.1.kind, r1.1.var, r1.1.box, ⟨r1.1.e.op, r1.1.e.n, r1.1.e.args⟩, r1.1.body, r1.1.els⟩, r1.2.1, r1.2.2)
else
bnd (Ra a1 a0b a0p) fun r2 =>
bnd (Ra 2 r2.2.1 r2.2.2) fun r3 =>
(bif (decide (r3.1 = 0)) then
bnd (Ra 3 r3.2.1 r3.2.2) fun r4 =>
bnd (Rad (wrap64 (1 + r4.1)) r4.2.1 r4.2.2) fun r5 =>
some (⟨4, 0, r2.1, ⟨r5.1, r5.2.1, r5.2.2.1.2⟩, [], []⟩, r5.2.2.2.1, r5.2.2.2.2)
else
bnd (Ra 3 r3.2.1 r3.2.2) fun r6 =>
some (⟨5, r6.1, r2.1, ⟨0, 0, []⟩, [], []⟩, r6.2.1, r6.2.2))) : Option (Stm × List Int × Int))
 (Rfj a1 a0b a0p) := by
 rewrite [← Qze]
 exact fun r h => fE Rnr p4400 h
theorem Rmc (a0 : Exp) (a1 : Int) : Tv.Le
 ((bif (decide (a0.op = 0)) then
(bif (decide (0 ≤ a0.n)) then
(bif (decide (a0.n ≤ 99999)) then
(bif (decide ((a0.args.length : Int) = 0)) then
some (decide (0 < a1))
else
some false)
else
some false)
else
some false)
else
(bif (decide (a0.op = 13)) then
(bif (decide (0 ≤ a0.n)) then
(bif (decide (a0.n < 4)) then
(bif (decide ((a0.args.length : Int) = 0)) then
some (decide (0 < a1))
else
some false)
else
some false)
else
some false)
else
bnd (Rey a0.op) fun r1 =>
(bif r1 then
(bif (decide (a0.n = 0)) then
(bif (decide ((a0.args.length : Int) = 2)) then
(bif (decide (1 < a1)) then
bnd (geti a0.args 0) fun e2 =>
bnd (Rdl (⟨e2.op, e2.n, e2.args⟩ : Exp) (wrap64 (a1 - 1))) fun r3 =>
(bif r3 then
bnd (geti a0.args 1) fun e4 =>
bnd (Rdl (⟨e4.op, e4.n, e4.args⟩ : Exp) (wrap64 (a1 - 1))) fun r5 =>
some r5
else
some false)
else
some false)
else
some false)
else
some false)
else
some false))) : Option (Bool))
 (Rdl a0 a1) := by
 rewrite [← Qze]
 exact fun r h => fE Rh p1100 h
theorem Rnu (a0 : Exp) : Tv.Le
 ((bif (decide (a0.op = 0)) then
(bif (decide (a0.n = 0)) then
some (decide ((a0.args.length : Int) = 0))
else
some false)
else
some false) : Option (Bool))
 (Rfy a0) := by
 exact fun r h => fE Rh p5900 h
theorem Rnh (a0 : Exp) (a1 : Int) : Tv.Le
 ((bif (decide (a1 < 1)) then
some false
else
(bif (decide (a0.op = 0)) then
bnd (Reg a0.n 0 99999) fun r1 =>
(bif r1 then
some (decide ((a0.args.length : Int) = 0))
else
some false)
else
(bif (decide (a0.op = 13)) then
bnd (Reg a0.n 0 3) fun r2 =>
(bif r2 then
some (decide ((a0.args.length : Int) = 0))
else
some false)
else
bnd (Rff a0.op) fun r3 =>
(bif r3 then
(bif (decide (a0.n = 0)) then
(bif (decide ((a0.args.length : Int) = 2)) then
bnd (geti a0.args 0) fun e4 =>
bnd (Rix (⟨e4.op, e4.n, e4.args⟩ : Exp) (wrap64 (a1 - 1))) fun r5 =>
(bif r5 then
bnd (geti a0.args 1) fun e6 =>
bnd (Rix (⟨e6.op, e6.n, e6.args⟩ : Exp) (wrap64 (a1 - 1))) fun r7 =>
some r7
else
some false)
else
some false)
else
some false)
else
some false)))) : Option (Bool))
 (Rix a0 a1) := by
 rewrite [← Qze]
 exact fun r h => fE Rh p1800 h
theorem Rrr (a0b : List Int) (a0p : Int) : Tv.Le
 (bnd (Ra 12 a0b a0p) fun r1 =>
some ((wrap64 (1 + r1.1)), r1.2.1, r1.2.2) : Option (Int × List Int × Int))
 (Rmt a0b a0p) := by
 rewrite [← Qze]
 exact fun r h => fE s200 p600 h
theorem Rpy (a0 : Int) (a1 : Exp) (a2 : Exp) : Tv.Le
 (some (a0, 0, (.full, ([⟨a1.op, a1.n, a1.args⟩, ⟨a2.op, a2.n, a2.args⟩] : List Exp))) : Option (Int × Int × (Md × List Exp)))
 (Rgw a0 a1 a2) := by
 exact fun r h => fE s300 p500 h
end Go.TFnSourceBack