import Derived.Test.YtpkgdoapdijmeaaDFnExactWorldNewP
import Derived.KernelRfl
set_option linter.unusedVariables false
namespace Go.TFnExactWorldNew
open Go Go.RowKit Go.Vs Go.Tv
theorem Ro (a0 : List Stm) (a1 : Int) (a2 : Int) (a3 : Int) : Tv.Le
 ((bif (decide (16 < (wrap64 (a3 + (a0.length : Int))))) then
some (false, (wrap64 (a3 + (a0.length : Int))))
else
bnd (Rl a0 a1 a2 (a0.length : Int) 0 (wrap64 (a3 + (a0.length : Int)))) fun r1 =>
selm r1 (fun y2 =>
some (true, y2)) (fun z3 =>
some (z3.1, z3.2))) : Option (Bool × Int))
 (Rj a0 a1 a2 a3) := by
 rewrite [← Qzb]
 exact fun r h => fE s5300 p5300 h
theorem Rjx (a0 : Exp) (A : List Ent) : Tv.Le
 (bnd (Rbf a0.args (a0.args.length : Int) 0 0 0 (⟨none, 0⟩ : Hd) a0.op a0.n (⟨none, 0⟩ : Hd) A) fun r1 =>
some (⟨r1.2.2.2.1, r1.2.2.2.2.1, r1.2.2.2.2.2.1⟩, r1.2.2.2.2.2.2) : Option (ExpH × List Ent))
 (Rco a0 A) := by
 exact fun r h => fE Rqa p41400 h
theorem Rdh (t3 : Hd) (t6 : List Stm) (t7 : Int) (t8 : Int) (b99 : List Ent) : Tv.Le
 ((bif (decide (t8 < t7)) then
bnd (geti t6 t8) fun e1 =>
bnd (Rax e1.body b99) fun r2 =>
bnd (Rax e1.els r2.2) fun r3 =>
bnd (Rco (⟨e1.e.op, e1.e.n, e1.e.args⟩ : Exp) r3.2) fun r4 =>
bnd (Qnf r4.2 .stmH t3.id t3.n ([⟨e1.kind, e1.var, e1.box, r4.1.op, r4.1.n, r4.1.args, r2.1, r3.1⟩] : List StmH)) fun B5 =>
Raq (⟨(some (List.length r4.2)), (t3.n + List.length ([⟨e1.kind, e1.var, e1.box, r4.1.op, r4.1.n, r4.1.args, r2.1, r3.1⟩] : List StmH))⟩ : Hd) t6 t7 (wrap64 (t8 + 1)) B5
else
some (t3, b99)) : Option (Hd × List Ent))
 (Raq t3 t6 t7 t8 b99) := by
 rewrite [← Qzb]
 exact fun r h => lE Rpz p41101 h
theorem Rox (a0 : Stm) (a1 : Stm) : Tv.Le
 ((bif (!decide (a0.kind = a1.kind)) then
some false
else
(bif (!decide (a0.var = a1.var)) then
some false
else
(bif (!decide (a0.box = a1.box)) then
some false
else
bnd (Rdn (⟨a0.e.op, a0.e.n, a0.e.args⟩ : Exp) (⟨a1.e.op, a1.e.n, a1.e.args⟩ : Exp)) fun r1 =>
(bif (!r1) then
some false
else
bnd (Rag a0.body a1.body) fun r2 =>
(bif (!r2) then
some false
else
bnd (Rag a0.els a1.els) fun r3 =>
(bif (!r3) then
some false
else
some true)))))) : Option (Bool))
 (Rfl a0 a1) := by
 exact fun r h => fE Re p8200 h
theorem Rgl (t0 : List Stm) (t1 : List Stm) (t5 : Int) : Tv.Le
 ((bif (decide (t5 < (t0.length : Int))) then
bnd (geti t0 t5) fun e1 =>
bnd (geti t1 t5) fun e2 =>
bnd (Rfl (⟨e1.kind, e1.var, e1.box, ⟨e1.e.op, e1.e.n, e1.e.args⟩, e1.body, e1.els⟩ : Stm) (⟨e2.kind, e2.var, e2.box, ⟨e2.e.op, e2.e.n, e2.e.args⟩, e2.body, e2.els⟩ : Stm)) fun r3 =>
(bif (!r3) then
some (.inr false)
else
Rcq t0 t1 (wrap64 (t5 + 1)))
else
some (.inl ())) : Option (Unit ⊕ Bool))
 (Rcq t0 t1 t5) := by
 rewrite [← Qzb]
 exact fun r h => lE Rcm p8301 h
theorem Rfr (a0 : Hd) (a1 : Int) (A : List Ent) : Tv.Le
 (bnd (Rar a0 a1 0 A) fun r1 =>
some (r1.1, r1.2) : Option (Int × List Ent))
 (Rcb a0 a1 A) := by
 exact fun r h => fE Rbj p41300 h
theorem Rdj (t0 : Hd) (t1 : Int) (t5 : Int) (b99 : List Ent) : Tv.Le
 ((bif (decide (t5 < ((t0.n : Nat) : Int))) then
bnd (idxN t0.n t5) fun i1 =>
bnd (Qju b99 .stmH t0.id i1) fun e2 =>
bnd (idxN t0.n t5) fun i3 =>
bnd (Qju (Qdz b99 .stmH t0.id i1 (⟨t1, e2.var, e2.box, e2.eop, e2.en, e2.args, e2.body, e2.els⟩ : StmH)) .stmH t0.id i3) fun e4 =>
bnd (idxN t0.n t5) fun i5 =>
bnd (Qju (Qdz (Qdz b99 .stmH t0.id i1 (⟨t1, e2.var, e2.box, e2.eop, e2.en, e2.args, e2.body, e2.els⟩ : StmH)) .stmH t0.id i3 (⟨e4.kind, (wrap64 (t1 + 1)), e4.box, e4.eop, e4.en, e4.args, e4.body, e4.els⟩ : StmH)) .stmH t0.id i5) fun e6 =>
bnd (idxN t0.n t5) fun i7 =>
bnd (Qju (Qdz (Qdz (Qdz b99 .stmH t0.id i1 (⟨t1, e2.var, e2.box, e2.eop, e2.en, e2.args, e2.body, e2.els⟩ : StmH)) .stmH t0.id i3 (⟨e4.kind, (wrap64 (t1 + 1)), e4.box, e4.eop, e4.en, e4.args, e4.body, e4.els⟩ : StmH)) .stmH t0.id i5 (⟨e6.kind, e6.var, (wrap64 ((wrap64 (t1 + 1)) + 1)), e6.eop, e6.en, e6.args, e6.body, e6.els⟩ : StmH)) .stmH t0.id i7) fun e8 =>
bnd (idxN t0.n t5) fun i9 =>
bnd (Qju (Qdz (Qdz (Qdz (Qdz b99 .stmH t0.id i1 (⟨t1, e2.var, e2.box, e2.eop, e2.en, e2.args, e2.body, e2.els⟩ : StmH)) .stmH t0.id i3 (⟨e4.kind, (wrap64 (t1 + 1)), e4.box, e4.eop, e4.en, e4.args, e4.body, e4.els⟩ : StmH)) .stmH t0.id i5 (⟨e6.kind, e6.var, (wrap64 ((wrap64 (t1 + 1)) + 1)), e6.eop, e6.en, e6.args, e6.body, e6.els⟩ : StmH)) .stmH t0.id i7 (⟨e8.kind, e8.var, e8.box, (wrap64 ((wrap64 ((wrap64 (t1 + 1)) + 1)) + 1)), e8.en, e8.args, e8.body, e8.els⟩ : StmH)) .stmH t0.id i9) fun e10 =>
bnd (idxN t0.n t5) fun i11 =>
bnd (Qju (Qdz (Qdz (Qdz (Qdz (Qdz b99 .stmH t0.id i1 (⟨t1, e2.var, e2.box, e2.eop, e2.en, e2.args, e2.body, e2.els⟩ : StmH)) .stmH t0.id i3 (⟨e4.kind, (wrap64 (t1 + 1)), e4.box, e4.eop, e4.en, e4.args, e4.body, e4.els⟩ : StmH)) .stmH t0.id i5 (⟨e6.kind, e6.var, (wrap64 ((wrap64 (t1 + 1)) + 1)), e6.eop, e6.en, e6.args, e6.body, e6.els⟩ : StmH)) .stmH t0.id i7 (⟨e8.kind, e8.var, e8.box, (wrap64 ((wrap64 ((wrap64 (t1 + 1)) + 1)) + 1)), e8.en, e8.args, e8.body, e8.els⟩ : StmH)) .stmH t0.id i9 (⟨e10.kind, e10.var, e10.box, e10.eop, (wrap64 ((wrap64 ((wrap64 ((wrap64 (t1 + 1)) + 1)) + 1)) + 1)), e10.args, e10.body, e10.els⟩ : StmH)) .stmH t0.id i11) fun e12 =>
bnd (Rcb e12.args (wrap64 ((wrap64 ((wrap64 ((wrap64 ((wrap64 (t1 + 1)) + 1)) + 1)) + 1)) + 1)) (Qdz (Qdz (Qdz (Qdz (Qdz b99 .stmH t0.id i1 (⟨t1, e2.var, e2.box, e2.eop, e2.en, e2.args, e2.body, e2.els⟩ : StmH)) .stmH t0.id i3 (⟨e4.kind, (wrap64 (t1 + 1)), e4.box, e4.eop, e4.en, e4.args, e4.body, e4.els⟩ : StmH)) .stmH t0.id i5 (⟨e6.kind, e6.var, (wrap64 ((wrap64 (t1 + 1)) + 1)), e6.eop, e6.en, e6.args, e6.body, e6.els⟩ : StmH)) .stmH t0.id i7 (⟨e8.kind, e8.var, e8.box, (wrap64 ((wrap64 ((wrap64 (t1 + 1)) + 1)) + 1)), e8.en, e8.args, e8.body, e8.els⟩ : StmH)) .stmH t0.id i9 (⟨e10.kind, e10.var, e10.box, e10.eop, (wrap64 ((wrap64 ((wrap64 ((wrap64 (t1 + 1)) + 1)) + 1)) + 1)), e10.args, e10.body, e10.els⟩ : StmH))) fun r13 =>
bnd (idxN t0.n t5) fun i14 =>
bnd (Qju r13.2 .stmH t0.id i14) fun e15 =>
bnd (Rac e15.body r13.1 r13.2) fun r16 =>
bnd (idxN t0.n t5) fun i17 =>
bnd (Qju r16.2 .stmH t0.id i17) fun e18 =>
bnd (Rac e18.els r16.1 r16.2) fun r19 =>
Ras t0 r19.1 (wrap64 (t5 + 1)) r19.2
else
some (t1, b99)) : Option (Int × List Ent))
 (Ras t0 t1 t5 b99) := by
 rewrite [← Qzb]
 exact fun r h => lE Rdl p40901 h
theorem Rhf (a0 : List Exp) (a1 : Int) : Tv.Le
 (bnd (Rs a0 a1 0) fun r1 =>
selm r1 (fun y2 =>
some y2) (fun z3 =>
some z3.2) : Option (Int))
 (Rea a0 a1) := by
 exact fun r h => fE Rak p10700 h
theorem Reu (t0 : List Stm) (t1 : Int) (t5 : Int) : Tv.Le
 ((bif (decide (t5 < (t0.length : Int))) then
bnd (geti t0 t5) fun e1 =>
(bif (!decide (e1.kind = t1)) then
some (.inr (t1, (-1)))
else
bnd (geti t0 t5) fun e2 =>
(bif (!decide (e2.var = (wrap64 (t1 + 1)))) then
some (.inr ((wrap64 (t1 + 1)), (-1)))
else
bnd (geti t0 t5) fun e3 =>
(bif (!decide (e3.box = (wrap64 ((wrap64 (t1 + 1)) + 1)))) then
some (.inr ((wrap64 ((wrap64 (t1 + 1)) + 1)), (-1)))
else
bnd (geti t0 t5) fun e4 =>
(bif (!decide (e4.e.op = (wrap64 ((wrap64 ((wrap64 (t1 + 1)) + 1)) + 1)))) then
some (.inr ((wrap64 ((wrap64 ((wrap64 (t1 + 1)) + 1)) + 1)), (-1)))
else
bnd (geti t0 t5) fun e5 =>
(bif (!decide (e5.e.n = (wrap64 ((wrap64 ((wrap64 ((wrap64 (t1 + 1)) + 1)) + 1)) + 1)))) then
some (.inr ((wrap64 ((wrap64 ((wrap64 ((wrap64 (t1 + 1)) + 1)) + 1)) + 1)), (-1)))
else
bnd (geti t0 t5) fun e6 =>
bnd (Rea e6.e.args (wrap64 ((wrap64 ((wrap64 ((wrap64 ((wrap64 (t1 + 1)) + 1)) + 1)) + 1)) + 1))) fun r7 =>
(bif (decide (r7 < 0)) then
some (.inr (r7, (-1)))
else
bnd (geti t0 t5) fun e8 =>
bnd (Rbw e8.body r7) fun r9 =>
(bif (decide (r9 < 0)) then
some (.inr (r9, (-1)))
else
bnd (geti t0 t5) fun e10 =>
bnd (Rbw e10.els r9) fun r11 =>
(bif (decide (r11 < 0)) then
some (.inr (r11, (-1)))
else
Rt t0 r11 (wrap64 (t5 + 1))))))))))
else
some (.inl t1)) : Option (Int ⊕ (Int × Int)))
 (Rt t0 t1 t5) := by
 rewrite [← Qzb]
 exact fun r h => lE Rfb p10801 h
theorem Rmf (a0 : Exp) : Tv.Le
 (bnd (Raw a0.args (a0.args.length : Int) 0 0 0 false [] a0.op a0.n false []) fun r1 =>
some (⟨r1.2.2.2.1, r1.2.2.2.2.1, r1.2.2.2.2.2.2⟩) : Option (Exp))
 (Rae a0) := by
 exact fun r h => fE Rqm p9100 h
theorem Res (t3b : Bool) (t3 : List Stm) (t6 : List Stm) (t7 : Int) (t8 : Int) : Tv.Le
 ((bif (decide (t8 < t7)) then
bnd (geti t6 t8) fun e1 =>
bnd (Rh e1.body) fun r2 =>
bnd (Rh e1.els) fun r3 =>
bnd (Rae (⟨e1.e.op, e1.e.n, e1.e.args⟩ : Exp)) fun r4 =>
bnd (appL t3 ([⟨e1.kind, e1.var, e1.box, ⟨r4.op, r4.n, r4.args⟩, r2, r3⟩] : List Stm)) fun l5 =>
Ran true l5 t6 t7 (wrap64 (t8 + 1))
else
some (t3b, t3)) : Option ((Bool × List Stm)))
 (Ran t3b t3 t6 t7 t8) := by
 rewrite [← Qzb]
 exact fun r h => lE Rsf p9201 h
theorem Rpa (a0 : Exp) (a1 : Int) : Tv.Le
 (bnd (Rim a0.args a1) fun r1 =>
(bif (decide (r1 < 0)) then
some (-1)
else
some r1) : Option (Int))
 (Rdq a0 a1) := by
 exact fun r h => fE Rak p6900 h
theorem Rpg (a0 : Exp) : Tv.Le
 (bnd (Rin a0.args) fun r1 =>
some (⟨a0.op, a0.n, r1⟩) : Option (Exp))
 (Rdr a0) := by
 exact fun r h => fE Rqm p7500 h
theorem Rkn (a0 : Stm) (a1 : Int) : Tv.Le
 ((bif (!decide (a0.kind = 2)) then
(bif (!decide (a0.kind = 3)) then
bnd (Ree (⟨a0.kind, a0.var, a0.box, ⟨a0.e.op, a0.e.n, a0.e.args⟩, a0.body, a0.els⟩ : Stm)) fun r1 =>
some r1
else
(bif (decide (a1 < 1)) then
some false
else
(bif (decide (a0.kind = 3)) then
(bif (decide (0 < (a0.els.length : Int))) then
some false
else
bnd (Rz (⟨a0.kind, a0.var, a0.box, ⟨a0.e.op, a0.e.n, a0.e.args⟩, a0.body, a0.els⟩ : Stm) false) fun r2 =>
(bif r2 then
bnd (Ry (⟨a0.kind, a0.var, a0.box, ⟨a0.e.op, a0.e.n, a0.e.args⟩, a0.body, a0.els⟩ : Stm) false) fun r3 =>
(bif r3 then
bnd (Rn (⟨a0.e.op, a0.e.n, a0.e.args⟩ : Exp)) fun r4 =>
(bif r4 then
bnd (Rg a0.body (wrap64 (a1 - 1))) fun r5 =>
(bif r5 then
bnd (Rg a0.els (wrap64 (a1 - 1))) fun r6 =>
some r6
else
some false)
else
some false)
else
some false)
else
some false))
else
bnd (Rz (⟨a0.kind, a0.var, a0.box, ⟨a0.e.op, a0.e.n, a0.e.args⟩, a0.body, a0.els⟩ : Stm) false) fun r7 =>
(bif r7 then
bnd (Ry (⟨a0.kind, a0.var, a0.box, ⟨a0.e.op, a0.e.n, a0.e.args⟩, a0.body, a0.els⟩ : Stm) false) fun r8 =>
(bif r8 then
bnd (Rn (⟨a0.e.op, a0.e.n, a0.e.args⟩ : Exp)) fun r9 =>
(bif r9 then
bnd (Rg a0.body (wrap64 (a1 - 1))) fun r10 =>
(bif r10 then
bnd (Rg a0.els (wrap64 (a1 - 1))) fun r11 =>
some r11
else
some false)
else
some false)
else
some false)
else
some false))))
else
(bif (decide (a1 < 1)) then
some false
else
(bif (decide (a0.kind = 3)) then
(bif (decide (0 < (a0.els.length : Int))) then
some false
else
bnd (Rz (⟨a0.kind, a0.var, a0.box, ⟨a0.e.op, a0.e.n, a0.e.args⟩, a0.body, a0.els⟩ : Stm) false) fun r12 =>
(bif r12 then
bnd (Ry (⟨a0.kind, a0.var, a0.box, ⟨a0.e.op, a0.e.n, a0.e.args⟩, a0.body, a0.els⟩ : Stm) false) fun r13 =>
(bif r13 then
bnd (Rn (⟨a0.e.op, a0.e.n, a0.e.args⟩ : Exp)) fun r14 =>
(bif r14 then
bnd (Rg a0.body (wrap64 (a1 - 1))) fun r15 =>
(bif r15 then
bnd (Rg a0.els (wrap64 (a1 - 1))) fun r16 =>
some r16
else
some false)
else
some false)
else
some false)
else
some false))
else
bnd (Rz (⟨a0.kind, a0.var, a0.box, ⟨a0.e.op, a0.e.n, a0.e.args⟩, a0.body, a0.els⟩ : Stm) false) fun r17 =>
(bif r17 then
bnd (Ry (⟨a0.kind, a0.var, a0.box, ⟨a0.e.op, a0.e.n, a0.e.args⟩, a0.body, a0.els⟩ : Stm) false) fun r18 =>
(bif r18 then
bnd (Rn (⟨a0.e.op, a0.e.n, a0.e.args⟩ : Exp)) fun r19 =>
(bif r19 then
bnd (Rg a0.body (wrap64 (a1 - 1))) fun r20 =>
(bif r20 then
bnd (Rg a0.els (wrap64 (a1 - 1))) fun r21 =>
some r21
else
some false)
else
some false)
else
some false)
else
some false)))) : Option (Bool))
 (Rhj a0 a1) := by
 rewrite [← Qzb]
 exact fun r h => fE Re p6100 h
theorem Rey (t0 : List Stm) (t1 : Int) (t5 : Int) : Tv.Le
 ((bif (decide (t5 < (t0.length : Int))) then
bnd (geti t0 t5) fun e1 =>
bnd (Rhj (⟨e1.kind, e1.var, e1.box, ⟨e1.e.op, e1.e.n, e1.e.args⟩, e1.body, e1.els⟩ : Stm) t1) fun r2 =>
(bif (!r2) then
some (.inr false)
else
Rbt t0 t1 (wrap64 (t5 + 1)))
else
some (.inl ())) : Option (Unit ⊕ Bool))
 (Rbt t0 t1 t5) := by
 rewrite [← Qzb]
 exact fun r h => lE Rcm p6201 h
theorem Rgc (t0 : List Stm) (t3 : Int) (t4 : Int) : Tv.Le
 ((bif (decide (t4 < (t0.length : Int))) then
bnd (geti t0 t4) fun e1 =>
bnd (Rk e1.body) fun r2 =>
bnd (geti t0 t4) fun e3 =>
bnd (Rk e3.els) fun r4 =>
Rcf t0 (wrap64 ((wrap64 ((wrap64 (t3 + 1)) + r2)) + r4)) (wrap64 (t4 + 1))
else
some t3) : Option (Int))
 (Rcf t0 t3 t4) := by
 rewrite [← Qzb]
 exact fun r h => lE s4001 p4001 h
theorem Rpq (a0 : Int) (a1 : Int) : Tv.Le
 (some (a0, a1, ((.own false), ([] : List Exp))) : Option (Int × Int × (Md × List Exp)))
 (Rjr a0 a1) := by
 exact fun r h => fE s300 p300 h
theorem Rpn (a0 : Int) (a1 : Exp) (a2 : Exp) : Tv.Le
 (some (a0, 0, (.full, ([⟨a1.op, a1.n, a1.args⟩, ⟨a2.op, a2.n, a2.args⟩] : List Exp))) : Option (Int × Int × (Md × List Exp)))
 (Rjq a0 a1 a2) := by
 exact fun r h => fE s300 p500 h
theorem Rmq (a0 : Exp) (A : List Ent) : Tv.Le
 (bnd (Rgw a0.args A) fun r1 =>
some (⟨a0.op, a0.n, r1.1⟩, r1.2) : Option (ExpH × List Ent))
 (Rez a0 A) := by
 exact fun r h => fE Rqa p41500 h
theorem Rha (a0 : Stm) (a1 : Int) : Tv.Le
 ((bif (decide (a0.kind = 1)) then
bnd (Rd a0.var 4 true) fun r1 =>
(bif (!r1) then
some false
else
bnd (Rd a0.box a1 false) fun r2 =>
(bif (!r2) then
some false
else
bnd (Rah (⟨a0.e.op, a0.e.n, a0.e.args⟩ : Exp)) fun r3 =>
(bif (!r3) then
some false
else
(bif (decide ((a0.body.length : Int) = 0)) then
some (decide ((a0.els.length : Int) = 0))
else
some false))))
else
(bif (decide (a0.kind = 2)) then
bnd (Rd a0.var 4 false) fun r4 =>
(bif (!r4) then
some false
else
bnd (Rd a0.box a1 false) fun r5 =>
(bif (!r5) then
some false
else
bnd (Rah (⟨a0.e.op, a0.e.n, a0.e.args⟩ : Exp)) fun r6 =>
(bif (!r6) then
some false
else
some true)))
else
(bif (decide (a0.kind = 3)) then
bnd (Rd a0.var 4 false) fun r7 =>
(bif (!r7) then
some false
else
bnd (Rd a0.box a1 false) fun r8 =>
(bif (!r8) then
some false
else
bnd (Rah (⟨a0.e.op, a0.e.n, a0.e.args⟩ : Exp)) fun r9 =>
(bif (!r9) then
some false
else
some (decide ((a0.els.length : Int) = 0)))))
else
(bif (decide (a0.kind = 4)) then
bnd (Rd a0.var 4 false) fun r10 =>
(bif (!r10) then
some false
else
bnd (Rd a0.box a1 true) fun r11 =>
(bif (!r11) then
some false
else
(bif (decide (a1 ≤ a0.box)) then
some false
else
bnd (Rah (⟨a0.e.op, a0.e.n, a0.e.args⟩ : Exp)) fun r12 =>
(bif (!r12) then
some false
else
(bif (decide ((a0.body.length : Int) = 0)) then
some (decide ((a0.els.length : Int) = 0))
else
some false)))))
else
(bif (decide (a0.kind = 5)) then
bnd (Rd a0.var 4 true) fun r13 =>
(bif (!r13) then
some false
else
bnd (Rd a0.box a1 true) fun r14 =>
(bif (!r14) then
some false
else
(bif (decide (a1 ≤ a0.box)) then
some false
else
(bif (!decide (a0.e.op = 0)) then
some false
else
(bif (!decide (a0.e.n = 0)) then
some false
else
(bif (decide (0 < (a0.e.args.length : Int))) then
some false
else
(bif (decide ((a0.body.length : Int) = 0)) then
some (decide ((a0.els.length : Int) = 0))
else
some false)))))))
else
(bif (decide (a0.kind = 7)) then
bnd (Rd a0.var 4 false) fun r15 =>
(bif (!r15) then
some false
else
bnd (Rd a0.box a1 false) fun r16 =>
(bif (!r16) then
some false
else
bnd (Rah (⟨a0.e.op, a0.e.n, a0.e.args⟩ : Exp)) fun r17 =>
(bif (!r17) then
some false
else
(bif (decide ((a0.body.length : Int) = 0)) then
some (decide ((a0.els.length : Int) = 0))
else
some false))))
else
(bif (decide (a0.kind = 6)) then
bnd (Rd a0.var 4 false) fun r18 =>
(bif (!r18) then
some false
else
bnd (Rd a0.box a1 false) fun r19 =>
(bif (!r19) then
some false
else
(bif (!decide (a0.e.op = 0)) then
some false
else
(bif (!decide (a0.e.n = 0)) then
some false
else
(bif (decide (0 < (a0.e.args.length : Int))) then
some false
else
(bif (decide ((a0.body.length : Int) = 0)) then
some (decide ((a0.els.length : Int) = 0))
else
some false))))))
else
some false))))))) : Option (Bool))
 (Rdx a0 a1) := by
 exact fun r h => fE Re p5200 h
theorem Rc (t0 : List Stm) (t1 : Int) (t2 : Int) (t23 : Int) (t24 : Int) (b0_0 : Int) : Tv.Le
 ((bif (decide (t24 < t23)) then
bnd (geti t0 t24) fun e1 =>
bnd (Rdx (⟨e1.kind, e1.var, e1.box, ⟨e1.e.op, e1.e.n, e1.e.args⟩, e1.body, e1.els⟩ : Stm) t1) fun r2 =>
(bif (!r2) then
some (.inr (false, b0_0))
else
(bif (decide (3 < t2)) then
some (.inr (false, b0_0))
else
(bif (!decide (e1.kind = 2)) then
(bif (!decide (e1.kind = 3)) then
Rl t0 t1 t2 t23 (wrap64 (t24 + 1)) b0_0
else
(bif (decide (3 ≤ t2)) then
some (.inr (false, b0_0))
else
bnd (Rj e1.body t1 (wrap64 (t2 + 1)) b0_0) fun r3 =>
(bif (!r3.1) then
some (.inr (false, r3.2))
else
bnd (Rj e1.els t1 (wrap64 (t2 + 1)) r3.2) fun r4 =>
(bif (!r4.1) then
some (.inr (false, r4.2))
else
Rl t0 t1 t2 t23 (wrap64 (t24 + 1)) r4.2))))
else
(bif (decide (3 ≤ t2)) then
some (.inr (false, b0_0))
else
bnd (Rj e1.body t1 (wrap64 (t2 + 1)) b0_0) fun r5 =>
(bif (!r5.1) then
some (.inr (false, r5.2))
else
bnd (Rj e1.els t1 (wrap64 (t2 + 1)) r5.2) fun r6 =>
(bif (!r6.1) then
some (.inr (false, r6.2))
else
Rl t0 t1 t2 t23 (wrap64 (t24 + 1)) r6.2))))))
else
some (.inl b0_0)) : Option (Int ⊕ (Bool × Int)))
 (Rl t0 t1 t2 t23 t24 b0_0) := by
 rewrite [← Qzb]
 exact fun r h => lE s5301 p5301 h
theorem Reh (t12 : List Exp) (t13 : Int) (t14 : Int) (b101_0 : Int) (b101_1 : Int) (b101_2 : Hd) (b102_0 : Int) (b102_1 : Int) (b102_2 : Hd) (b99 : List Ent) : Tv.Le
 ((bif (decide (t14 < t13)) then
bnd (geti t12 t14) fun e1 =>
bnd (Rco (⟨e1.op, e1.n, e1.args⟩ : Exp) b99) fun r2 =>
bnd (Qnf r2.2 .expH b102_2.id b102_2.n ([r2.1] : List ExpH)) fun B3 =>
Rbf t12 t13 (wrap64 (t14 + 1)) b101_0 b101_1 b101_2 b102_0 b102_1 (⟨(some (List.length r2.2)), (b102_2.n + List.length ([r2.1] : List ExpH))⟩ : Hd) B3
else
some (b101_0, b101_1, b101_2, b102_0, b102_1, b102_2, b99)) : Option (Int × Int × Hd × Int × Int × Hd × List Ent))
 (Rbf t12 t13 t14 b101_0 b101_1 b101_2 b102_0 b102_1 b102_2 b99) := by
 rewrite [← Qzb]
 exact fun r h => lE Rtg p41401 h
theorem Rov (a0 : Exp) (a1 : Exp) : Tv.Le
 ((bif (!decide (a0.op = a1.op)) then
some false
else
(bif (!decide (a0.n = a1.n)) then
some false
else
bnd (Rii a0.args a1.args) fun r1 =>
(bif (!r1) then
some false
else
some true))) : Option (Bool))
 (Rdn a0 a1) := by
 exact fun r h => fE Re p8100 h
theorem Rdi (t0 : Hd) (t1 : Int) (t5 : Int) (b99 : List Ent) : Tv.Le
 ((bif (decide (t5 < ((t0.n : Nat) : Int))) then
bnd (idxN t0.n t5) fun i1 =>
bnd (Qju b99 .expH t0.id i1) fun e2 =>
bnd (idxN t0.n t5) fun i3 =>
bnd (Qju (Qdz b99 .expH t0.id i1 (⟨t1, e2.n, e2.args⟩ : ExpH)) .expH t0.id i3) fun e4 =>
bnd (idxN t0.n t5) fun i5 =>
bnd (Qju (Qdz (Qdz b99 .expH t0.id i1 (⟨t1, e2.n, e2.args⟩ : ExpH)) .expH t0.id i3 (⟨e4.op, (wrap64 (t1 + 1)), e4.args⟩ : ExpH)) .expH t0.id i5) fun e6 =>
bnd (Rcb e6.args (wrap64 ((wrap64 (t1 + 1)) + 1)) (Qdz (Qdz b99 .expH t0.id i1 (⟨t1, e2.n, e2.args⟩ : ExpH)) .expH t0.id i3 (⟨e4.op, (wrap64 (t1 + 1)), e4.args⟩ : ExpH))) fun r7 =>
Rar t0 r7.1 (wrap64 (t5 + 1)) r7.2
else
some (t1, b99)) : Option (Int × List Ent))
 (Rar t0 t1 t5 b99) := by
 rewrite [← Qzb]
 exact fun r h => lE Rdl p41301 h
theorem Ret (t0 : List Exp) (t1 : Int) (t5 : Int) : Tv.Le
 ((bif (decide (t5 < (t0.length : Int))) then
bnd (geti t0 t5) fun e1 =>
(bif (!decide (e1.op = t1)) then
some (.inr (t1, (-1)))
else
bnd (geti t0 t5) fun e2 =>
(bif (!decide (e2.n = (wrap64 (t1 + 1)))) then
some (.inr ((wrap64 (t1 + 1)), (-1)))
else
bnd (geti t0 t5) fun e3 =>
bnd (Rea e3.args (wrap64 ((wrap64 (t1 + 1)) + 1))) fun r4 =>
(bif (decide (r4 < 0)) then
some (.inr (r4, (-1)))
else
Rs t0 r4 (wrap64 (t5 + 1)))))
else
some (.inl t1)) : Option (Int ⊕ (Int × Int)))
 (Rs t0 t1 t5) := by
 rewrite [← Qzb]
 exact fun r h => lE Rfb p10701 h
theorem Rfj (t12 : List Exp) (t13 : Int) (t14 : Int) (b101_0 : Int) (b101_1 : Int) (b101_2b : Bool) (b101_2 : List Exp) (b102_0 : Int) (b102_1 : Int) (b102_2b : Bool) (b102_2 : List Exp) : Tv.Le
 ((bif (decide (t14 < t13)) then
bnd (geti t12 t14) fun e1 =>
bnd (Rae (⟨e1.op, e1.n, e1.args⟩ : Exp)) fun r2 =>
bnd (appL b102_2 ([⟨r2.op, r2.n, r2.args⟩] : List Exp)) fun l3 =>
Raw t12 t13 (wrap64 (t14 + 1)) b101_0 b101_1 b101_2b b101_2 b102_0 b102_1 true l3
else
some (b101_0, b101_1, (b101_2b, b101_2), b102_0, b102_1, (b102_2b, b102_2))) : Option (Int × Int × (Bool × List Exp) × Int × Int × (Bool × List Exp)))
 (Raw t12 t13 t14 b101_0 b101_1 b101_2b b101_2 b102_0 b102_1 b102_2b b102_2) := by
 rewrite [← Qzb]
 exact fun r h => lE s9101 p9101 h
theorem Rod (a0 : List Exp) (a1 : Int) : Tv.Le
 ((bif (decide ((wrap64 (a1 - (a0.length : Int))) < 0)) then
some (-1)
else
bnd (Rcw a0 (wrap64 (a1 - (a0.length : Int))) 0) fun r1 =>
selm r1 (fun y2 =>
some y2) (fun z3 =>
some z3.2)) : Option (Int))
 (Rim a0 a1) := by
 rewrite [← Qzb]
 exact fun r h => fE Rak p6800 h
theorem Rog (a0 : List Exp) : Tv.Le
 (bnd (made (a0.length : Int)) fun n1 =>
bnd (Rda a0 0 (List.replicate n1 (Qhw .exp))) fun r2 =>
some r2 : Option (List Exp))
 (Rin a0) := by
 exact fun r h => fE s7400 p7400 h
theorem Rlr (a0 : Stm) : Tv.Le
 ((bif (decide (0 < (a0.body.length : Int))) then
some false
else
(bif (decide (0 < (a0.els.length : Int))) then
some false
else
(bif (decide (a0.kind = 1)) then
bnd (Rz (⟨a0.kind, a0.var, a0.box, ⟨a0.e.op, a0.e.n, a0.e.args⟩, a0.body, a0.els⟩ : Stm) true) fun r1 =>
(bif r1 then
bnd (Ry (⟨a0.kind, a0.var, a0.box, ⟨a0.e.op, a0.e.n, a0.e.args⟩, a0.body, a0.els⟩ : Stm) false) fun r2 =>
(bif r2 then
bnd (Rn (⟨a0.e.op, a0.e.n, a0.e.args⟩ : Exp)) fun r3 =>
some r3
else
some false)
else
some false)
else
(bif (decide (a0.kind = 4)) then
bnd (Rz (⟨a0.kind, a0.var, a0.box, ⟨a0.e.op, a0.e.n, a0.e.args⟩, a0.body, a0.els⟩ : Stm) false) fun r4 =>
(bif r4 then
bnd (Ry (⟨a0.kind, a0.var, a0.box, ⟨a0.e.op, a0.e.n, a0.e.args⟩, a0.body, a0.els⟩ : Stm) true) fun r5 =>
(bif r5 then
bnd (Rn (⟨a0.e.op, a0.e.n, a0.e.args⟩ : Exp)) fun r6 =>
some r6
else
some false)
else
some false)
else
(bif (decide (a0.kind = 5)) then
bnd (Rz (⟨a0.kind, a0.var, a0.box, ⟨a0.e.op, a0.e.n, a0.e.args⟩, a0.body, a0.els⟩ : Stm) true) fun r7 =>
(bif r7 then
bnd (Ry (⟨a0.kind, a0.var, a0.box, ⟨a0.e.op, a0.e.n, a0.e.args⟩, a0.body, a0.els⟩ : Stm) true) fun r8 =>
(bif r8 then
bnd (Rfc (⟨a0.e.op, a0.e.n, a0.e.args⟩ : Exp)) fun r9 =>
some r9
else
some false)
else
some false)
else
(bif (decide (a0.kind = 6)) then
bnd (Rz (⟨a0.kind, a0.var, a0.box, ⟨a0.e.op, a0.e.n, a0.e.args⟩, a0.body, a0.els⟩ : Stm) false) fun r10 =>
(bif r10 then
bnd (Ry (⟨a0.kind, a0.var, a0.box, ⟨a0.e.op, a0.e.n, a0.e.args⟩, a0.body, a0.els⟩ : Stm) false) fun r11 =>
(bif r11 then
bnd (Rfc (⟨a0.e.op, a0.e.n, a0.e.args⟩ : Exp)) fun r12 =>
some r12
else
some false)
else
some false)
else
(bif (decide (a0.kind = 7)) then
bnd (Rz (⟨a0.kind, a0.var, a0.box, ⟨a0.e.op, a0.e.n, a0.e.args⟩, a0.body, a0.els⟩ : Stm) false) fun r13 =>
(bif r13 then
bnd (Ry (⟨a0.kind, a0.var, a0.box, ⟨a0.e.op, a0.e.n, a0.e.args⟩, a0.body, a0.els⟩ : Stm) false) fun r14 =>
(bif r14 then
bnd (Rn (⟨a0.e.op, a0.e.n, a0.e.args⟩ : Exp)) fun r15 =>
some r15
else
some false)
else
some false)
else
some false))))))) : Option (Bool))
 (Ree a0) := by
 exact fun r h => fE Re p6000 h
theorem Rpm (a0 : Stm) (a1 : Bool) : Tv.Le
 ((bif a1 then
bnd (Rdg a0.var 0 3) fun r1 =>
some r1
else
some (decide (a0.var = 0))) : Option (Bool))
 (Rz a0 a1) := by
 exact fun r h => fE Re p5700 h
theorem Rpl (a0 : Stm) (a1 : Bool) : Tv.Le
 ((bif a1 then
bnd (Rdg a0.box 0 2) fun r1 =>
some r1
else
some (decide (a0.box = 0))) : Option (Bool))
 (Ry a0 a1) := by
 exact fun r h => fE Re p5800 h
theorem Rlo (a0 : Exp) : Tv.Le
 (bnd (Riu (⟨a0.op, a0.n, a0.args⟩ : Exp) 5) fun r1 =>
some r1 : Option (Bool))
 (Rn a0) := by
 exact fun r h => fE Re p1900 h
theorem Rlj (a0 : List Exp) (A : List Ent) : Tv.Le
 (bnd (made (a0.length : Int)) fun n1 =>
bnd (Rbr a0 (⟨(some (List.length A)), n1⟩ : Hd) 0 (Qaj A .expH (List.replicate n1 (Qhw .expH)))) fun r2 =>
some (r2.1, r2.2) : Option (Hd × List Ent))
 (Rgw a0 A) := by
 exact fun r h => fE Rth p41600 h
theorem Rch (a0 : Int) (a1 : Int) (a2 : Bool) : Tv.Le
 ((bif (decide (a0 = 0)) then
some true
else
(bif a2 then
(bif (decide (0 < a0)) then
some (decide (a0 < a1))
else
some false)
else
some false)) : Option (Bool))
 (Rd a0 a1 a2) := by
 exact fun r h => fE Re p11100 h
theorem Rkq (a0 : Exp) : Tv.Le
 (bnd (Rbv (⟨a0.op, a0.n, a0.args⟩ : Exp) 5) fun r1 =>
some r1 : Option (Bool))
 (Rah a0) := by
 exact fun r h => fE Re p1200 h
theorem Rny (a0 : List Exp) (a1 : List Exp) : Tv.Le
 ((bif (!decide ((a0.length : Int) = (a1.length : Int))) then
some false
else
bnd (Rcp a0 a1 0) fun r1 =>
selm r1 (fun y2 =>
some true) (fun z3 =>
some z3)) : Option (Bool))
 (Rii a0 a1) := by
 exact fun r h => fE Re p8000 h
theorem Rcx (t0 : List Exp) (t1 : Int) (t5 : Int) : Tv.Le
 ((bif (decide (t5 < (t0.length : Int))) then
bnd (geti t0 t5) fun e1 =>
bnd (Rdq (⟨e1.op, e1.n, e1.args⟩ : Exp) t1) fun r2 =>
(bif (decide (r2 < 0)) then
some (.inr (r2, (-1)))
else
Rcw t0 r2 (wrap64 (t5 + 1)))
else
some (.inl t1)) : Option (Int ⊕ (Int × Int)))
 (Rcw t0 t1 t5) := by
 rewrite [← Qzb]
 exact fun r h => lE Rfb p6801 h
theorem Rgn (t0 : List Exp) (t4 : Int) (b100 : List Exp) : Tv.Le
 ((bif (decide (t4 < (t0.length : Int))) then
bnd (geti t0 t4) fun e1 =>
bnd (Rdr (⟨e1.op, e1.n, e1.args⟩ : Exp)) fun r2 =>
bnd (geti b100 t4) fun _ =>
bnd (b100[(Int.toNat t4)]?) fun e4 =>
Rda t0 (wrap64 (t4 + 1)) (b100.set (Int.toNat t4) (⟨r2.op, r2.n, r2.args⟩))
else
some b100) : Option (List Exp))
 (Rda t0 t4 b100) := by
 rewrite [← Qzb]
 exact fun r h => lE s7401 p7401 h
theorem Rne (a0 : Exp) : Tv.Le
 ((bif (decide (a0.op = 0)) then
(bif (decide (a0.n = 0)) then
some (decide ((a0.args.length : Int) = 0))
else
some false)
else
some false) : Option (Bool))
 (Rfc a0) := by
 exact fun r h => fE Re p5900 h
theorem Rlw (a0 : Exp) (a1 : Int) : Tv.Le
 ((bif (decide (a1 < 1)) then
some false
else
(bif (decide (a0.op = 0)) then
bnd (Rdg a0.n 0 99999) fun r1 =>
(bif r1 then
some (decide ((a0.args.length : Int) = 0))
else
some false)
else
(bif (decide (a0.op = 13)) then
bnd (Rdg a0.n 0 3) fun r2 =>
(bif r2 then
some (decide ((a0.args.length : Int) = 0))
else
some false)
else
bnd (Riq a0.op) fun r3 =>
(bif r3 then
(bif (decide (a0.n = 0)) then
(bif (decide ((a0.args.length : Int) = 2)) then
bnd (geti a0.args 0) fun e4 =>
bnd (Riu (⟨e4.op, e4.n, e4.args⟩ : Exp) (wrap64 (a1 - 1))) fun r5 =>
(bif r5 then
bnd (geti a0.args 1) fun e6 =>
bnd (Riu (⟨e6.op, e6.n, e6.args⟩ : Exp) (wrap64 (a1 - 1))) fun r7 =>
some r7
else
some false)
else
some false)
else
some false)
else
some false)))) : Option (Bool))
 (Riu a0 a1) := by
 rewrite [← Qzb]
 exact fun r h => fE Re p1800 h
theorem Rew (t0 : List Exp) (t3 : Hd) (t4 : Int) (b99 : List Ent) : Tv.Le
 ((bif (decide (t4 < (t0.length : Int))) then
bnd (geti t0 t4) fun e1 =>
bnd (Rez (⟨e1.op, e1.n, e1.args⟩ : Exp) b99) fun r2 =>
bnd (idxN t3.n t4) fun i3 =>
bnd (Qju r2.2 .expH t3.id i3) fun e4 =>
Rbr t0 t3 (wrap64 (t4 + 1)) (Qdz r2.2 .expH t3.id i3 r2.1)
else
some (t3, b99)) : Option (Hd × List Ent))
 (Rbr t0 t3 t4 b99) := by
 rewrite [← Qzb]
 exact fun r h => lE Rti p41601 h
theorem Rkt (a0 : Exp) (a1 : Int) : Tv.Le
 ((bif (decide (a0.op = 0)) then
(bif (decide (0 ≤ a0.n)) then
(bif (decide (a0.n ≤ 99999)) then
(bif (decide ((a0.args.length : Int) = 0)) then
some (decide (0 < a1))
else
some false)
else
some false)
else
some false)
else
(bif (decide (a0.op = 13)) then
(bif (decide (0 ≤ a0.n)) then
(bif (decide (a0.n < 4)) then
(bif (decide ((a0.args.length : Int) = 0)) then
some (decide (0 < a1))
else
some false)
else
some false)
else
some false)
else
bnd (Rid a0.op) fun r1 =>
(bif r1 then
(bif (decide (a0.n = 0)) then
(bif (decide ((a0.args.length : Int) = 2)) then
(bif (decide (1 < a1)) then
bnd (geti a0.args 0) fun e2 =>
bnd (Rbv (⟨e2.op, e2.n, e2.args⟩ : Exp) (wrap64 (a1 - 1))) fun r3 =>
(bif r3 then
bnd (geti a0.args 1) fun e4 =>
bnd (Rbv (⟨e4.op, e4.n, e4.args⟩ : Exp) (wrap64 (a1 - 1))) fun r5 =>
some r5
else
some false)
else
some false)
else
some false)
else
some false)
else
some false))) : Option (Bool))
 (Rbv a0 a1) := by
 rewrite [← Qzb]
 exact fun r h => fE Re p1100 h
theorem Rgk (t0 : List Exp) (t1 : List Exp) (t5 : Int) : Tv.Le
 ((bif (decide (t5 < (t0.length : Int))) then
bnd (geti t0 t5) fun e1 =>
bnd (geti t1 t5) fun e2 =>
bnd (Rdn (⟨e1.op, e1.n, e1.args⟩ : Exp) (⟨e2.op, e2.n, e2.args⟩ : Exp)) fun r3 =>
(bif (!r3) then
some (.inr false)
else
Rcp t0 t1 (wrap64 (t5 + 1)))
else
some (.inl ())) : Option (Unit ⊕ Bool))
 (Rcp t0 t1 t5) := by
 rewrite [← Qzb]
 exact fun r h => lE Rcm p8001 h
theorem Ron (a0 : Int) : Tv.Le
 (bnd (Rdg a0 1 12) fun r1 =>
some r1 : Option (Bool))
 (Riq a0) := by
 exact fun r h => fE Re p1700 h
theorem Rnu (a0 : Int) : Tv.Le
 ((bif (decide (1 ≤ a0)) then
some (decide (a0 ≤ 12))
else
some false) : Option (Bool))
 (Rid a0) := by
 exact fun r h => fE Re p1000 h
end Go.TFnExactWorldNew