import Derived.Test.YtbgodlimjjgogaaDFnExactTaskNewP
import Derived.KernelRfl
set_option linter.unusedVariables false
namespace Go.TFnExactTaskNew
open Go Go.RowKit Go.Vs Go.Tv
theorem Rdt (t0 : List Int) (t1 : List Int) (t5 : Int) : Tv.Le
 ((bif (decide (t5 < (t0.length : Int))) then
bnd (geti t0 t5) fun e1 =>
bnd (geti t1 t5) fun e2 =>
(bif (!decide (e1 = e2)) then
some (.inr false)
else
Rbx t0 t1 (wrap64 (t5 + 1)))
else
some (.inl ())) : Option (Unit ⊕ Bool))
 (Rbx t0 t1 t5) := by
 rewrite [← Qyx]
 exact fun r h => lE Rhc p8401 h
theorem Rii (a0 : Exp) (a1 : Exp) : Tv.Le
 ((bif (!decide (a0.op = a1.op)) then
some false
else
(bif (!decide (a0.n = a1.n)) then
some false
else
bnd (Rek a0.args a1.args) fun r1 =>
(bif (!r1) then
some false
else
some true))) : Option (Bool))
 (Rbq a0 a1) := by
 exact fun r h => fE Rd p8100 h
theorem Rbn (t0 : Hd) (t1 : Int) (t5 : Int) (b99 : List Ent) : Tv.Le
 ((bif (decide (t5 < ((t0.n : Nat) : Int))) then
bnd (idxN t0.n t5) fun i1 =>
bnd (Qjs b99 .expH t0.id i1) fun e2 =>
bnd (idxN t0.n t5) fun i3 =>
bnd (Qjs (Qdz b99 .expH t0.id i1 (⟨t1, e2.n, e2.args⟩ : ExpH)) .expH t0.id i3) fun e4 =>
bnd (idxN t0.n t5) fun i5 =>
bnd (Qjs (Qdz (Qdz b99 .expH t0.id i1 (⟨t1, e2.n, e2.args⟩ : ExpH)) .expH t0.id i3 (⟨e4.op, (wrap64 (t1 + 1)), e4.args⟩ : ExpH)) .expH t0.id i5) fun e6 =>
bnd (Rav e6.args (wrap64 ((wrap64 (t1 + 1)) + 1)) (Qdz (Qdz b99 .expH t0.id i1 (⟨t1, e2.n, e2.args⟩ : ExpH)) .expH t0.id i3 (⟨e4.op, (wrap64 (t1 + 1)), e4.args⟩ : ExpH))) fun r7 =>
Rac t0 r7.1 (wrap64 (t5 + 1)) r7.2
else
some (t1, b99)) : Option (Int × List Ent))
 (Rac t0 t1 t5 b99) := by
 rewrite [← Qyx]
 exact fun r h => lE Rfk p41301 h
theorem Rcc (t0 : Hd) (t1 : Int) (t5 : Int) (b99 : List Ent) : Tv.Le
 ((bif (decide (t5 < ((t0.n : Nat) : Int))) then
bnd (idxN t0.n t5) fun i1 =>
bnd (Qjs b99 .int t0.id i1) fun e2 =>
Raj t0 (wrap64 (t1 + 1)) (wrap64 (t5 + 1)) (Qdz b99 .int t0.id i1 t1)
else
some (t1, b99)) : Option (Int × List Ent))
 (Raj t0 t1 t5 b99) := by
 rewrite [← Qyx]
 exact fun r h => lE Rfk p38701 h
theorem Rct (t0 : List Int) (t1 : Int) (t5 : Int) : Tv.Le
 ((bif (decide (t5 < (t0.length : Int))) then
bnd (geti t0 t5) fun e1 =>
(bif (!decide (e1 = t1)) then
some (.inr (t1, (-1)))
else
Rag t0 (wrap64 (t1 + 1)) (wrap64 (t5 + 1)))
else
some (.inl t1)) : Option (Int ⊕ (Int × Int)))
 (Rag t0 t1 t5) := by
 rewrite [← Qyx]
 exact fun r h => lE Rfa p10601 h
theorem Rdv (a0 : List Exp) (a1 : Int) : Tv.Le
 (bnd (Ro a0 a1 0) fun r1 =>
selm r1 (fun y2 =>
some y2) (fun z3 =>
some z3.2) : Option (Int))
 (Rby a0 a1) := by
 exact fun r h => fE Rbv p10700 h
theorem Rch (t0 : List Stm) (t1 : Int) (t5 : Int) : Tv.Le
 ((bif (decide (t5 < (t0.length : Int))) then
bnd (geti t0 t5) fun e1 =>
(bif (!decide (e1.kind = t1)) then
some (.inr (t1, (-1)))
else
bnd (geti t0 t5) fun e2 =>
(bif (!decide (e2.var = (wrap64 (t1 + 1)))) then
some (.inr ((wrap64 (t1 + 1)), (-1)))
else
bnd (geti t0 t5) fun e3 =>
(bif (!decide (e3.box = (wrap64 ((wrap64 (t1 + 1)) + 1)))) then
some (.inr ((wrap64 ((wrap64 (t1 + 1)) + 1)), (-1)))
else
bnd (geti t0 t5) fun e4 =>
(bif (!decide (e4.e.op = (wrap64 ((wrap64 ((wrap64 (t1 + 1)) + 1)) + 1)))) then
some (.inr ((wrap64 ((wrap64 ((wrap64 (t1 + 1)) + 1)) + 1)), (-1)))
else
bnd (geti t0 t5) fun e5 =>
(bif (!decide (e5.e.n = (wrap64 ((wrap64 ((wrap64 ((wrap64 (t1 + 1)) + 1)) + 1)) + 1)))) then
some (.inr ((wrap64 ((wrap64 ((wrap64 ((wrap64 (t1 + 1)) + 1)) + 1)) + 1)), (-1)))
else
bnd (geti t0 t5) fun e6 =>
bnd (Rby e6.e.args (wrap64 ((wrap64 ((wrap64 ((wrap64 ((wrap64 (t1 + 1)) + 1)) + 1)) + 1)) + 1))) fun r7 =>
(bif (decide (r7 < 0)) then
some (.inr (r7, (-1)))
else
bnd (geti t0 t5) fun e8 =>
bnd (Rat e8.body r7) fun r9 =>
(bif (decide (r9 < 0)) then
some (.inr (r9, (-1)))
else
bnd (geti t0 t5) fun e10 =>
bnd (Rat e10.els r9) fun r11 =>
(bif (decide (r11 < 0)) then
some (.inr (r11, (-1)))
else
Rp t0 r11 (wrap64 (t5 + 1))))))))))
else
some (.inl t1)) : Option (Int ⊕ (Int × Int)))
 (Rp t0 t1 t5) := by
 rewrite [← Qyx]
 exact fun r h => lE Rfa p10801 h
theorem Rgp (a0 : Exp) : Tv.Le
 (bnd (Rae a0.args (a0.args.length : Int) 0 0 0 false [] a0.op a0.n false []) fun r1 =>
some (⟨r1.2.2.2.1, r1.2.2.2.2.1, r1.2.2.2.2.2.2⟩) : Option (Exp))
 (Ru a0) := by
 exact fun r h => fE Rji p9100 h
theorem Rcf (t3b : Bool) (t3 : List Stm) (t6 : List Stm) (t7 : Int) (t8 : Int) : Tv.Le
 ((bif (decide (t8 < t7)) then
bnd (geti t6 t8) fun e1 =>
bnd (Rg e1.body) fun r2 =>
bnd (Rg e1.els) fun r3 =>
bnd (Ru (⟨e1.e.op, e1.e.n, e1.e.args⟩ : Exp)) fun r4 =>
bnd (appL t3 ([⟨e1.kind, e1.var, e1.box, ⟨r4.op, r4.n, r4.args⟩, r2, r3⟩] : List Stm)) fun l5 =>
Ry true l5 t6 t7 (wrap64 (t8 + 1))
else
some (t3b, t3)) : Option ((Bool × List Stm)))
 (Ry t3b t3 t6 t7 t8) := by
 rewrite [← Qyx]
 exact fun r h => lE Rks p9201 h
theorem Rhu (a0 : List Exp) (a1 : Int) : Tv.Le
 ((bif (decide ((wrap64 (a1 - (a0.length : Int))) < 0)) then
some (-1)
else
bnd (Rbf a0 (wrap64 (a1 - (a0.length : Int))) 0) fun r1 =>
selm r1 (fun y2 =>
some y2) (fun z3 =>
some z3.2)) : Option (Int))
 (Rel a0 a1) := by
 rewrite [← Qyx]
 exact fun r h => fE Rbv p6800 h
theorem Rhx (a0 : List Exp) : Tv.Le
 (bnd (made (a0.length : Int)) fun n1 =>
bnd (Rbj a0 0 (List.replicate n1 (Qiq .exp))) fun r2 =>
some r2 : Option (List Exp))
 (Rem a0) := by
 exact fun r h => fE s7400 p7400 h
theorem Rfo (a0 : Stm) (a1 : Int) : Tv.Le
 ((bif (!decide (a0.kind = 2)) then
(bif (!decide (a0.kind = 3)) then
bnd (Rca (⟨a0.kind, a0.var, a0.box, ⟨a0.e.op, a0.e.n, a0.e.args⟩, a0.body, a0.els⟩ : Stm)) fun r1 =>
some r1
else
(bif (decide (a1 < 1)) then
some false
else
(bif (decide (a0.kind = 3)) then
(bif (decide (0 < (a0.els.length : Int))) then
some false
else
bnd (Rr (⟨a0.kind, a0.var, a0.box, ⟨a0.e.op, a0.e.n, a0.e.args⟩, a0.body, a0.els⟩ : Stm) false) fun r2 =>
(bif r2 then
bnd (Rq (⟨a0.kind, a0.var, a0.box, ⟨a0.e.op, a0.e.n, a0.e.args⟩, a0.body, a0.els⟩ : Stm) false) fun r3 =>
(bif r3 then
bnd (Rk (⟨a0.e.op, a0.e.n, a0.e.args⟩ : Exp)) fun r4 =>
(bif r4 then
bnd (Rb a0.body (wrap64 (a1 - 1))) fun r5 =>
(bif r5 then
bnd (Rb a0.els (wrap64 (a1 - 1))) fun r6 =>
some r6
else
some false)
else
some false)
else
some false)
else
some false))
else
bnd (Rr (⟨a0.kind, a0.var, a0.box, ⟨a0.e.op, a0.e.n, a0.e.args⟩, a0.body, a0.els⟩ : Stm) false) fun r7 =>
(bif r7 then
bnd (Rq (⟨a0.kind, a0.var, a0.box, ⟨a0.e.op, a0.e.n, a0.e.args⟩, a0.body, a0.els⟩ : Stm) false) fun r8 =>
(bif r8 then
bnd (Rk (⟨a0.e.op, a0.e.n, a0.e.args⟩ : Exp)) fun r9 =>
(bif r9 then
bnd (Rb a0.body (wrap64 (a1 - 1))) fun r10 =>
(bif r10 then
bnd (Rb a0.els (wrap64 (a1 - 1))) fun r11 =>
some r11
else
some false)
else
some false)
else
some false)
else
some false))))
else
(bif (decide (a1 < 1)) then
some false
else
(bif (decide (a0.kind = 3)) then
(bif (decide (0 < (a0.els.length : Int))) then
some false
else
bnd (Rr (⟨a0.kind, a0.var, a0.box, ⟨a0.e.op, a0.e.n, a0.e.args⟩, a0.body, a0.els⟩ : Stm) false) fun r12 =>
(bif r12 then
bnd (Rq (⟨a0.kind, a0.var, a0.box, ⟨a0.e.op, a0.e.n, a0.e.args⟩, a0.body, a0.els⟩ : Stm) false) fun r13 =>
(bif r13 then
bnd (Rk (⟨a0.e.op, a0.e.n, a0.e.args⟩ : Exp)) fun r14 =>
(bif r14 then
bnd (Rb a0.body (wrap64 (a1 - 1))) fun r15 =>
(bif r15 then
bnd (Rb a0.els (wrap64 (a1 - 1))) fun r16 =>
some r16
else
some false)
else
some false)
else
some false)
else
some false))
else
bnd (Rr (⟨a0.kind, a0.var, a0.box, ⟨a0.e.op, a0.e.n, a0.e.args⟩, a0.body, a0.els⟩ : Stm) false) fun r17 =>
(bif r17 then
bnd (Rq (⟨a0.kind, a0.var, a0.box, ⟨a0.e.op, a0.e.n, a0.e.args⟩, a0.body, a0.els⟩ : Stm) false) fun r18 =>
(bif r18 then
bnd (Rk (⟨a0.e.op, a0.e.n, a0.e.args⟩ : Exp)) fun r19 =>
(bif r19 then
bnd (Rb a0.body (wrap64 (a1 - 1))) fun r20 =>
(bif r20 then
bnd (Rb a0.els (wrap64 (a1 - 1))) fun r21 =>
some r21
else
some false)
else
some false)
else
some false)
else
some false)))) : Option (Bool))
 (Rdy a0 a1) := by
 rewrite [← Qyx]
 exact fun r h => fE Rd p6100 h
theorem Rck (t0 : List Stm) (t1 : Int) (t5 : Int) : Tv.Le
 ((bif (decide (t5 < (t0.length : Int))) then
bnd (geti t0 t5) fun e1 =>
bnd (Rdy (⟨e1.kind, e1.var, e1.box, ⟨e1.e.op, e1.e.n, e1.e.args⟩, e1.body, e1.els⟩ : Stm) t1) fun r2 =>
(bif (!r2) then
some (.inr false)
else
Raq t0 t1 (wrap64 (t5 + 1)))
else
some (.inl ())) : Option (Unit ⊕ Bool))
 (Raq t0 t1 t5) := by
 rewrite [← Qyx]
 exact fun r h => lE Rhc p6201 h
theorem Rde (t0 : List Stm) (t3 : Int) (t4 : Int) : Tv.Le
 ((bif (decide (t4 < (t0.length : Int))) then
bnd (geti t0 t4) fun e1 =>
bnd (Rh e1.body) fun r2 =>
bnd (geti t0 t4) fun e3 =>
bnd (Rh e3.els) fun r4 =>
Raw t0 (wrap64 ((wrap64 ((wrap64 (t3 + 1)) + r2)) + r4)) (wrap64 (t4 + 1))
else
some t3) : Option (Int))
 (Raw t0 t3 t4) := by
 rewrite [← Qyx]
 exact fun r h => lE s4001 p4001 h
theorem Riz (a0 : Int) (a1 : Int) : Tv.Le
 (some (a0, a1, ((.own false), ([] : List Exp))) : Option (Int × Int × (Md × List Exp)))
 (Rfc a0 a1) := by
 exact fun r h => fE s300 p300 h
theorem Riw (a0 : Int) (a1 : Exp) (a2 : Exp) : Tv.Le
 (some (a0, 0, (.full, ([⟨a1.op, a1.n, a1.args⟩, ⟨a2.op, a2.n, a2.args⟩] : List Exp))) : Option (Int × Int × (Md × List Exp)))
 (Rfb a0 a1 a2) := by
 exact fun r h => fE s300 p500 h
theorem Rgc (a0 : List Exp) (A : List Ent) : Tv.Le
 (bnd (made (a0.length : Int)) fun n1 =>
bnd (Rao a0 (⟨(some (List.length A)), n1⟩ : Hd) 0 (Qaj A .expH (List.replicate n1 (Qiq .expH)))) fun r2 =>
some (r2.1, r2.2) : Option (Hd × List Ent))
 (Rdr a0 A) := by
 exact fun r h => fE Rld p41600 h
theorem Raz (a0 : List Stm) (a1 : Int) (a2 : Int) (a3 : Int) : Tv.Le
 ((bif (decide (16 < (wrap64 (a3 + (a0.length : Int))))) then
some (false, (wrap64 (a3 + (a0.length : Int))))
else
bnd (Rm a0 a1 a2 (a0.length : Int) 0 (wrap64 (a3 + (a0.length : Int)))) fun r1 =>
selm r1 (fun y2 =>
some (true, y2)) (fun z3 =>
some (z3.1, z3.2))) : Option (Bool × Int))
 (Rl a0 a1 a2 a3) := by
 rewrite [← Qyx]
 exact fun r h => fE s5300 p5300 h
theorem Rcb (t12 : List Exp) (t13 : Int) (t14 : Int) (b101_0 : Int) (b101_1 : Int) (b101_2 : Hd) (b102_0 : Int) (b102_1 : Int) (b102_2 : Hd) (b99 : List Ent) : Tv.Le
 ((bif (decide (t14 < t13)) then
bnd (geti t12 t14) fun e1 =>
bnd (Rba (⟨e1.op, e1.n, e1.args⟩ : Exp) b99) fun r2 =>
bnd (Qnd r2.2 .expH b102_2.id b102_2.n ([r2.1] : List ExpH)) fun B3 =>
Rai t12 t13 (wrap64 (t14 + 1)) b101_0 b101_1 b101_2 b102_0 b102_1 (⟨(some (List.length r2.2)), (b102_2.n + List.length ([r2.1] : List ExpH))⟩ : Hd) B3
else
some (b101_0, b101_1, b101_2, b102_0, b102_1, b102_2, b99)) : Option (Int × Int × Hd × Int × Int × Hd × List Ent))
 (Rai t12 t13 t14 b101_0 b101_1 b101_2 b102_0 b102_1 b102_2 b99) := by
 rewrite [← Qyx]
 exact fun r h => lE Rlc p41401 h
theorem Rhr (a0 : List Exp) (a1 : List Exp) : Tv.Le
 ((bif (!decide ((a0.length : Int) = (a1.length : Int))) then
some false
else
bnd (Rbb a0 a1 0) fun r1 =>
selm r1 (fun y2 =>
some true) (fun z3 =>
some z3)) : Option (Bool))
 (Rek a0 a1) := by
 exact fun r h => fE Rd p8000 h
theorem Rcg (t0 : List Exp) (t1 : Int) (t5 : Int) : Tv.Le
 ((bif (decide (t5 < (t0.length : Int))) then
bnd (geti t0 t5) fun e1 =>
(bif (!decide (e1.op = t1)) then
some (.inr (t1, (-1)))
else
bnd (geti t0 t5) fun e2 =>
(bif (!decide (e2.n = (wrap64 (t1 + 1)))) then
some (.inr ((wrap64 (t1 + 1)), (-1)))
else
bnd (geti t0 t5) fun e3 =>
bnd (Rby e3.args (wrap64 ((wrap64 (t1 + 1)) + 1))) fun r4 =>
(bif (decide (r4 < 0)) then
some (.inr (r4, (-1)))
else
Ro t0 r4 (wrap64 (t5 + 1)))))
else
some (.inl t1)) : Option (Int ⊕ (Int × Int)))
 (Ro t0 t1 t5) := by
 rewrite [← Qyx]
 exact fun r h => lE Rfa p10701 h
theorem Rcp (t12 : List Exp) (t13 : Int) (t14 : Int) (b101_0 : Int) (b101_1 : Int) (b101_2b : Bool) (b101_2 : List Exp) (b102_0 : Int) (b102_1 : Int) (b102_2b : Bool) (b102_2 : List Exp) : Tv.Le
 ((bif (decide (t14 < t13)) then
bnd (geti t12 t14) fun e1 =>
bnd (Ru (⟨e1.op, e1.n, e1.args⟩ : Exp)) fun r2 =>
bnd (appL b102_2 ([⟨r2.op, r2.n, r2.args⟩] : List Exp)) fun l3 =>
Rae t12 t13 (wrap64 (t14 + 1)) b101_0 b101_1 b101_2b b101_2 b102_0 b102_1 true l3
else
some (b101_0, b101_1, (b101_2b, b101_2), b102_0, b102_1, (b102_2b, b102_2))) : Option (Int × Int × (Bool × List Exp) × Int × Int × (Bool × List Exp)))
 (Rae t12 t13 t14 b101_0 b101_1 b101_2b b101_2 b102_0 b102_1 b102_2b b102_2) := by
 rewrite [← Qyx]
 exact fun r h => lE s9101 p9101 h
theorem Rbg (t0 : List Exp) (t1 : Int) (t5 : Int) : Tv.Le
 ((bif (decide (t5 < (t0.length : Int))) then
bnd (geti t0 t5) fun e1 =>
bnd (Rbs (⟨e1.op, e1.n, e1.args⟩ : Exp) t1) fun r2 =>
(bif (decide (r2 < 0)) then
some (.inr (r2, (-1)))
else
Rbf t0 r2 (wrap64 (t5 + 1)))
else
some (.inl t1)) : Option (Int ⊕ (Int × Int)))
 (Rbf t0 t1 t5) := by
 rewrite [← Qyx]
 exact fun r h => lE Rfa p6801 h
theorem Rdl (t0 : List Exp) (t4 : Int) (b100 : List Exp) : Tv.Le
 ((bif (decide (t4 < (t0.length : Int))) then
bnd (geti t0 t4) fun e1 =>
bnd (Rbt (⟨e1.op, e1.n, e1.args⟩ : Exp)) fun r2 =>
bnd (geti b100 t4) fun _ =>
bnd (b100[(Int.toNat t4)]?) fun e4 =>
Rbj t0 (wrap64 (t4 + 1)) (b100.set (Int.toNat t4) (⟨r2.op, r2.n, r2.args⟩))
else
some b100) : Option (List Exp))
 (Rbj t0 t4 b100) := by
 rewrite [← Qyx]
 exact fun r h => lE s7401 p7401 h
theorem Rgj (a0 : Stm) : Tv.Le
 ((bif (decide (0 < (a0.body.length : Int))) then
some false
else
(bif (decide (0 < (a0.els.length : Int))) then
some false
else
(bif (decide (a0.kind = 1)) then
bnd (Rr (⟨a0.kind, a0.var, a0.box, ⟨a0.e.op, a0.e.n, a0.e.args⟩, a0.body, a0.els⟩ : Stm) true) fun r1 =>
(bif r1 then
bnd (Rq (⟨a0.kind, a0.var, a0.box, ⟨a0.e.op, a0.e.n, a0.e.args⟩, a0.body, a0.els⟩ : Stm) false) fun r2 =>
(bif r2 then
bnd (Rk (⟨a0.e.op, a0.e.n, a0.e.args⟩ : Exp)) fun r3 =>
some r3
else
some false)
else
some false)
else
(bif (decide (a0.kind = 4)) then
bnd (Rr (⟨a0.kind, a0.var, a0.box, ⟨a0.e.op, a0.e.n, a0.e.args⟩, a0.body, a0.els⟩ : Stm) false) fun r4 =>
(bif r4 then
bnd (Rq (⟨a0.kind, a0.var, a0.box, ⟨a0.e.op, a0.e.n, a0.e.args⟩, a0.body, a0.els⟩ : Stm) true) fun r5 =>
(bif r5 then
bnd (Rk (⟨a0.e.op, a0.e.n, a0.e.args⟩ : Exp)) fun r6 =>
some r6
else
some false)
else
some false)
else
(bif (decide (a0.kind = 5)) then
bnd (Rr (⟨a0.kind, a0.var, a0.box, ⟨a0.e.op, a0.e.n, a0.e.args⟩, a0.body, a0.els⟩ : Stm) true) fun r7 =>
(bif r7 then
bnd (Rq (⟨a0.kind, a0.var, a0.box, ⟨a0.e.op, a0.e.n, a0.e.args⟩, a0.body, a0.els⟩ : Stm) true) fun r8 =>
(bif r8 then
bnd (Rcn (⟨a0.e.op, a0.e.n, a0.e.args⟩ : Exp)) fun r9 =>
some r9
else
some false)
else
some false)
else
(bif (decide (a0.kind = 6)) then
bnd (Rr (⟨a0.kind, a0.var, a0.box, ⟨a0.e.op, a0.e.n, a0.e.args⟩, a0.body, a0.els⟩ : Stm) false) fun r10 =>
(bif r10 then
bnd (Rq (⟨a0.kind, a0.var, a0.box, ⟨a0.e.op, a0.e.n, a0.e.args⟩, a0.body, a0.els⟩ : Stm) false) fun r11 =>
(bif r11 then
bnd (Rcn (⟨a0.e.op, a0.e.n, a0.e.args⟩ : Exp)) fun r12 =>
some r12
else
some false)
else
some false)
else
(bif (decide (a0.kind = 7)) then
bnd (Rr (⟨a0.kind, a0.var, a0.box, ⟨a0.e.op, a0.e.n, a0.e.args⟩, a0.body, a0.els⟩ : Stm) false) fun r13 =>
(bif r13 then
bnd (Rq (⟨a0.kind, a0.var, a0.box, ⟨a0.e.op, a0.e.n, a0.e.args⟩, a0.body, a0.els⟩ : Stm) false) fun r14 =>
(bif r14 then
bnd (Rk (⟨a0.e.op, a0.e.n, a0.e.args⟩ : Exp)) fun r15 =>
some r15
else
some false)
else
some false)
else
some false))))))) : Option (Bool))
 (Rca a0) := by
 exact fun r h => fE Rd p6000 h
theorem Riv (a0 : Stm) (a1 : Bool) : Tv.Le
 ((bif a1 then
bnd (Rdf a0.var 0 3) fun r1 =>
some r1
else
some (decide (a0.var = 0))) : Option (Bool))
 (Rr a0 a1) := by
 exact fun r h => fE Rd p5700 h
theorem Riu (a0 : Stm) (a1 : Bool) : Tv.Le
 ((bif a1 then
bnd (Rdf a0.box 0 2) fun r1 =>
some r1
else
some (decide (a0.box = 0))) : Option (Bool))
 (Rq a0 a1) := by
 exact fun r h => fE Rd p5800 h
theorem Rgg (a0 : Exp) : Tv.Le
 (bnd (Rep (⟨a0.op, a0.n, a0.args⟩ : Exp) 5) fun r1 =>
some r1 : Option (Bool))
 (Rk a0) := by
 exact fun r h => fE Rd p1900 h
theorem Rci (t0 : List Exp) (t3 : Hd) (t4 : Int) (b99 : List Ent) : Tv.Le
 ((bif (decide (t4 < (t0.length : Int))) then
bnd (geti t0 t4) fun e1 =>
bnd (Rcm (⟨e1.op, e1.n, e1.args⟩ : Exp) b99) fun r2 =>
bnd (idxN t3.n t4) fun i3 =>
bnd (Qjs r2.2 .expH t3.id i3) fun e4 =>
Rao t0 t3 (wrap64 (t4 + 1)) (Qdz r2.2 .expH t3.id i3 r2.1)
else
some (t3, b99)) : Option (Hd × List Ent))
 (Rao t0 t3 t4 b99) := by
 rewrite [← Qyx]
 exact fun r h => lE Rle p41601 h
theorem Rfw (a0 : Stm) (a1 : Int) : Tv.Le
 ((bif (decide (a0.kind = 1)) then
bnd (Ra a0.var 4 true) fun r1 =>
(bif (!r1) then
some false
else
bnd (Ra a0.box a1 false) fun r2 =>
(bif (!r2) then
some false
else
bnd (Rx (⟨a0.e.op, a0.e.n, a0.e.args⟩ : Exp)) fun r3 =>
(bif (!r3) then
some false
else
(bif (decide ((a0.body.length : Int) = 0)) then
some (decide ((a0.els.length : Int) = 0))
else
some false))))
else
(bif (decide (a0.kind = 2)) then
bnd (Ra a0.var 4 false) fun r4 =>
(bif (!r4) then
some false
else
bnd (Ra a0.box a1 false) fun r5 =>
(bif (!r5) then
some false
else
bnd (Rx (⟨a0.e.op, a0.e.n, a0.e.args⟩ : Exp)) fun r6 =>
(bif (!r6) then
some false
else
some true)))
else
(bif (decide (a0.kind = 3)) then
bnd (Ra a0.var 4 false) fun r7 =>
(bif (!r7) then
some false
else
bnd (Ra a0.box a1 false) fun r8 =>
(bif (!r8) then
some false
else
bnd (Rx (⟨a0.e.op, a0.e.n, a0.e.args⟩ : Exp)) fun r9 =>
(bif (!r9) then
some false
else
some (decide ((a0.els.length : Int) = 0)))))
else
(bif (decide (a0.kind = 4)) then
bnd (Ra a0.var 4 false) fun r10 =>
(bif (!r10) then
some false
else
bnd (Ra a0.box a1 true) fun r11 =>
(bif (!r11) then
some false
else
(bif (decide (a1 ≤ a0.box)) then
some false
else
bnd (Rx (⟨a0.e.op, a0.e.n, a0.e.args⟩ : Exp)) fun r12 =>
(bif (!r12) then
some false
else
(bif (decide ((a0.body.length : Int) = 0)) then
some (decide ((a0.els.length : Int) = 0))
else
some false)))))
else
(bif (decide (a0.kind = 5)) then
bnd (Ra a0.var 4 true) fun r13 =>
(bif (!r13) then
some false
else
bnd (Ra a0.box a1 true) fun r14 =>
(bif (!r14) then
some false
else
(bif (decide (a1 ≤ a0.box)) then
some false
else
(bif (!decide (a0.e.op = 0)) then
some false
else
(bif (!decide (a0.e.n = 0)) then
some false
else
(bif (decide (0 < (a0.e.args.length : Int))) then
some false
else
(bif (decide ((a0.body.length : Int) = 0)) then
some (decide ((a0.els.length : Int) = 0))
else
some false)))))))
else
(bif (decide (a0.kind = 7)) then
bnd (Ra a0.var 4 false) fun r15 =>
(bif (!r15) then
some false
else
bnd (Ra a0.box a1 false) fun r16 =>
(bif (!r16) then
some false
else
bnd (Rx (⟨a0.e.op, a0.e.n, a0.e.args⟩ : Exp)) fun r17 =>
(bif (!r17) then
some false
else
(bif (decide ((a0.body.length : Int) = 0)) then
some (decide ((a0.els.length : Int) = 0))
else
some false))))
else
(bif (decide (a0.kind = 6)) then
bnd (Ra a0.var 4 false) fun r18 =>
(bif (!r18) then
some false
else
bnd (Ra a0.box a1 false) fun r19 =>
(bif (!r19) then
some false
else
(bif (!decide (a0.e.op = 0)) then
some false
else
(bif (!decide (a0.e.n = 0)) then
some false
else
(bif (decide (0 < (a0.e.args.length : Int))) then
some false
else
(bif (decide ((a0.body.length : Int) = 0)) then
some (decide ((a0.els.length : Int) = 0))
else
some false))))))
else
some false))))))) : Option (Bool))
 (Rdq a0 a1) := by
 exact fun r h => fE Rd p5200 h
theorem Rf (t0 : List Stm) (t1 : Int) (t2 : Int) (t23 : Int) (t24 : Int) (b0_0 : Int) : Tv.Le
 ((bif (decide (t24 < t23)) then
bnd (geti t0 t24) fun e1 =>
bnd (Rdq (⟨e1.kind, e1.var, e1.box, ⟨e1.e.op, e1.e.n, e1.e.args⟩, e1.body, e1.els⟩ : Stm) t1) fun r2 =>
(bif (!r2) then
some (.inr (false, b0_0))
else
(bif (decide (3 < t2)) then
some (.inr (false, b0_0))
else
(bif (!decide (e1.kind = 2)) then
(bif (!decide (e1.kind = 3)) then
Rm t0 t1 t2 t23 (wrap64 (t24 + 1)) b0_0
else
(bif (decide (3 ≤ t2)) then
some (.inr (false, b0_0))
else
bnd (Rl e1.body t1 (wrap64 (t2 + 1)) b0_0) fun r3 =>
(bif (!r3.1) then
some (.inr (false, r3.2))
else
bnd (Rl e1.els t1 (wrap64 (t2 + 1)) r3.2) fun r4 =>
(bif (!r4.1) then
some (.inr (false, r4.2))
else
Rm t0 t1 t2 t23 (wrap64 (t24 + 1)) r4.2))))
else
(bif (decide (3 ≤ t2)) then
some (.inr (false, b0_0))
else
bnd (Rl e1.body t1 (wrap64 (t2 + 1)) b0_0) fun r5 =>
(bif (!r5.1) then
some (.inr (false, r5.2))
else
bnd (Rl e1.els t1 (wrap64 (t2 + 1)) r5.2) fun r6 =>
(bif (!r6.1) then
some (.inr (false, r6.2))
else
Rm t0 t1 t2 t23 (wrap64 (t24 + 1)) r6.2))))))
else
some (.inl b0_0)) : Option (Int ⊕ (Bool × Int)))
 (Rm t0 t1 t2 t23 t24 b0_0) := by
 rewrite [← Qyx]
 exact fun r h => lE s5301 p5301 h
theorem Rdj (t0 : List Exp) (t1 : List Exp) (t5 : Int) : Tv.Le
 ((bif (decide (t5 < (t0.length : Int))) then
bnd (geti t0 t5) fun e1 =>
bnd (geti t1 t5) fun e2 =>
bnd (Rbq (⟨e1.op, e1.n, e1.args⟩ : Exp) (⟨e2.op, e2.n, e2.args⟩ : Exp)) fun r3 =>
(bif (!r3) then
some (.inr false)
else
Rbb t0 t1 (wrap64 (t5 + 1)))
else
some (.inl ())) : Option (Unit ⊕ Bool))
 (Rbb t0 t1 t5) := by
 rewrite [← Qyx]
 exact fun r h => lE Rhc p8001 h
theorem Rhg (a0 : Exp) : Tv.Le
 ((bif (decide (a0.op = 0)) then
(bif (decide (a0.n = 0)) then
some (decide ((a0.args.length : Int) = 0))
else
some false)
else
some false) : Option (Bool))
 (Rcn a0) := by
 exact fun r h => fE Rd p5900 h
theorem Rjs (a0 : Int) (a1 : Int) (a2 : Int) : Tv.Le
 ((bif (decide (a1 ≤ a0)) then
some (decide (a0 ≤ a2))
else
some false) : Option (Bool))
 (Rdf a0 a1 a2) := by
 exact fun r h => fE Rd p1600 h
theorem Rgm (a0 : Exp) (a1 : Int) : Tv.Le
 ((bif (decide (a1 < 1)) then
some false
else
(bif (decide (a0.op = 0)) then
bnd (Rdf a0.n 0 99999) fun r1 =>
(bif r1 then
some (decide ((a0.args.length : Int) = 0))
else
some false)
else
(bif (decide (a0.op = 13)) then
bnd (Rdf a0.n 0 3) fun r2 =>
(bif r2 then
some (decide ((a0.args.length : Int) = 0))
else
some false)
else
bnd (Ren a0.op) fun r3 =>
(bif r3 then
(bif (decide (a0.n = 0)) then
(bif (decide ((a0.args.length : Int) = 2)) then
bnd (geti a0.args 0) fun e4 =>
bnd (Rep (⟨e4.op, e4.n, e4.args⟩ : Exp) (wrap64 (a1 - 1))) fun r5 =>
(bif r5 then
bnd (geti a0.args 1) fun e6 =>
bnd (Rep (⟨e6.op, e6.n, e6.args⟩ : Exp) (wrap64 (a1 - 1))) fun r7 =>
some r7
else
some false)
else
some false)
else
some false)
else
some false)))) : Option (Bool))
 (Rep a0 a1) := by
 rewrite [← Qyx]
 exact fun r h => fE Rd p1800 h
theorem Reu (a0 : Int) (a1 : Int) (a2 : Bool) : Tv.Le
 ((bif (decide (a0 = 0)) then
some true
else
(bif a2 then
(bif (decide (0 < a0)) then
some (decide (a0 < a1))
else
some false)
else
some false)) : Option (Bool))
 (Ra a0 a1 a2) := by
 exact fun r h => fE Rd p11100 h
theorem Rfs (a0 : Exp) : Tv.Le
 (bnd (Ras (⟨a0.op, a0.n, a0.args⟩ : Exp) 5) fun r1 =>
some r1 : Option (Bool))
 (Rx a0) := by
 exact fun r h => fE Rd p1200 h
theorem Ric (a0 : Int) : Tv.Le
 (bnd (Rdf a0 1 12) fun r1 =>
some r1 : Option (Bool))
 (Ren a0) := by
 exact fun r h => fE Rd p1700 h
theorem Rfv (a0 : Exp) (a1 : Int) : Tv.Le
 ((bif (decide (a0.op = 0)) then
(bif (decide (0 ≤ a0.n)) then
(bif (decide (a0.n ≤ 99999)) then
(bif (decide ((a0.args.length : Int) = 0)) then
some (decide (0 < a1))
else
some false)
else
some false)
else
some false)
else
(bif (decide (a0.op = 13)) then
(bif (decide (0 ≤ a0.n)) then
(bif (decide (a0.n < 4)) then
(bif (decide ((a0.args.length : Int) = 0)) then
some (decide (0 < a1))
else
some false)
else
some false)
else
some false)
else
bnd (Rei a0.op) fun r1 =>
(bif r1 then
(bif (decide (a0.n = 0)) then
(bif (decide ((a0.args.length : Int) = 2)) then
(bif (decide (1 < a1)) then
bnd (geti a0.args 0) fun e2 =>
bnd (Ras (⟨e2.op, e2.n, e2.args⟩ : Exp) (wrap64 (a1 - 1))) fun r3 =>
(bif r3 then
bnd (geti a0.args 1) fun e4 =>
bnd (Ras (⟨e4.op, e4.n, e4.args⟩ : Exp) (wrap64 (a1 - 1))) fun r5 =>
some r5
else
some false)
else
some false)
else
some false)
else
some false)
else
some false))) : Option (Bool))
 (Ras a0 a1) := by
 rewrite [← Qyx]
 exact fun r h => fE Rd p1100 h
theorem Rho (a0 : Int) : Tv.Le
 ((bif (decide (1 ≤ a0)) then
some (decide (a0 ≤ 12))
else
some false) : Option (Bool))
 (Rei a0) := by
 exact fun r h => fE Rd p1000 h
end Go.TFnExactTaskNew