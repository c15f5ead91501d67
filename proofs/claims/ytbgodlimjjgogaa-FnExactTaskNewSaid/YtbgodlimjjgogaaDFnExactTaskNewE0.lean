import Derived.Test.YtbgodlimjjgogaaDFnExactTaskNewP
import Derived.KernelRfl
set_option linter.unusedVariables false
namespace Go.TFnExactTaskNew
open Go Go.RowKit Go.Vs Go.Tv
theorem Ref (a0 : List Stm) : Tv.Le
 (bnd (Rcd a0 1048576) fun r1 =>
(bif (decide (r1 < 0)) then
some true
else
bnd (Raa a0) fun r2 =>
bnd (Reo r2) fun r3 =>
bnd (Rah a0 ([] : List Ent)) fun r4 =>
bnd (Qlx r4.2 .stmH r4.1.id) fun l5 =>
bnd (Rdp l5 (Go.Vs.Qdq r4.2)) fun r6 =>
bnd (Qlw r4.2 r6.2.2) fun B7 =>
bnd (Qlx B7 .int r6.1.vars.id) fun l8 =>
bnd (Qlx B7 .stmH r6.1.rest.id) fun l9 =>
bnd (Rbr (⟨l8, l9⟩ : Tk) r3.1) fun r10 =>
(bif (!r10) then
some false
else
(bif (!(r6.2.1 == r3.2)) then
some false
else
bnd (Raa a0) fun r11 =>
bnd (Qlx B7 .stmH r4.1.id) fun l12 =>
bnd (Ral l12 r11) fun r13 =>
(bif (!r13) then
some false
else
bnd (Rt r4.1 1 B7) fun r14 =>
(bif (decide (r14.1 < 0)) then
some false
else
bnd (Qlx r14.2 .int r6.1.vars.id) fun l15 =>
bnd (Qlx r14.2 .stmH r6.1.rest.id) fun l16 =>
bnd (Rbr (⟨l15, l16⟩ : Tk) r3.1) fun r17 =>
(bif (!r17) then
some false
else
(bif (!(r6.2.1 == r3.2)) then
some false
else
bnd (Rcx r6.1 1 r14.2) fun r18 =>
bnd (Qlx r18.2 .int r6.1.vars.id) fun l19 =>
bnd (Qlx r18.2 .stmH r6.1.rest.id) fun l20 =>
bnd (Rcl (⟨l19, l20⟩ : Tk) 1) fun r21 =>
(bif (decide (r21 < 0)) then
some false
else
(bif (!decide (r21 = r18.1)) then
some false
else
bnd (Raa a0) fun r22 =>
bnd (Rej r22) fun r23 =>
bnd (Rbr r23.1 r3.1) fun r24 =>
(bif (!r24) then
some false
else
(bif (!(r23.2 == r3.2)) then
some false
else
bnd (Qlx r18.2 .int r6.1.vars.id) fun l25 =>
bnd (Qlx r18.2 .stmH r6.1.rest.id) fun l26 =>
bnd (Rcl (⟨l25, l26⟩ : Tk) 1) fun r27 =>
(bif (decide (r27 < 0)) then
some false
else
(bif (!decide (r27 = r18.1)) then
some false
else
some true))))))))))))) : Option (Bool))
 (laws_FnExactTaskNew a0) := by
 exact fun r h => fE Rd p11000 h
theorem Rhv (a0 : List Stm) (a1 : Int) : Tv.Le
 ((bif (decide ((wrap64 (a1 - (a0.length : Int))) < 0)) then
some (-1)
else
bnd (Rbh a0 (wrap64 (a1 - (a0.length : Int))) 0) fun r1 =>
selm r1 (fun y2 =>
some y2) (fun z3 =>
some z3.2)) : Option (Int))
 (Rcd a0 a1) := by
 rewrite [← Qyx]
 exact fun r h => fE Rbv p7100 h
theorem Rhy (a0 : List Stm) : Tv.Le
 (bnd (made (a0.length : Int)) fun n1 =>
bnd (Rbk a0 0 (List.replicate n1 (Qiq .stm))) fun r2 =>
some r2 : Option (List Stm))
 (Raa a0) := by
 exact fun r h => fE s7700 p7700 h
theorem Rie (a0 : List Stm) : Tv.Le
 (bnd (Rdc a0) fun r1 =>
(bif (!r1) then
some (⟨[], []⟩, false)
else
bnd (Rj a0) fun r3 =>
some (⟨(List.replicate 4 (Qiq .int)), r3⟩, true)) : Option (Tk × Bool))
 (Reo a0) := by
 exact fun r h => fE Rkt p9600 h
theorem Rge (a0 : List Stm) (A : List Ent) : Tv.Le
 (bnd (made (a0.length : Int)) fun n1 =>
bnd (Rap a0 (⟨(some (List.length A)), n1⟩ : Hd) 0 (Qaj A .stmH (List.replicate n1 (Qiq .stmH)))) fun r2 =>
some (r2.1, r2.2) : Option (Hd × List Ent))
 (Rah a0 A) := by
 exact fun r h => fE Rjb p40800 h
theorem Rft (a0 : List Stm) (A : List Ent) : Tv.Le
 (bnd (Rak a0) fun r1 =>
(bif (!r1) then
some (⟨⟨none, 0⟩, ⟨none, 0⟩⟩, false, A)
else
bnd (Raf a0 A) fun r3 =>
some (⟨⟨(some (List.length r3.2)), 4⟩, r3.1⟩, true, (Qaj r3.2 .int (List.replicate 4 (Qiq .int))))) : Option (TkH × Bool × List Ent))
 (Rdp a0 A) := by
 exact fun r h => fE Rla p40700 h
theorem Ril (a0 : Tk) (a1 : Tk) : Tv.Le
 (bnd (Rex a0.vars a1.vars) fun r1 =>
(bif (!r1) then
some false
else
bnd (Ral a0.rest a1.rest) fun r2 =>
(bif (!r2) then
some false
else
some true)) : Option (Bool))
 (Rbr a0 a1) := by
 exact fun r h => fE Rd p8500 h
theorem Rhs (a0 : List Stm) (a1 : List Stm) : Tv.Le
 ((bif (!decide ((a0.length : Int) = (a1.length : Int))) then
some false
else
bnd (Rbc a0 a1 0) fun r1 =>
selm r1 (fun y2 =>
some true) (fun z3 =>
some z3)) : Option (Bool))
 (Ral a0 a1) := by
 exact fun r h => fE Rd p8300 h
theorem Rcv (a0 : Hd) (a1 : Int) (A : List Ent) : Tv.Le
 (bnd (Rad a0 a1 0 A) fun r1 =>
some (r1.1, r1.2) : Option (Int × List Ent))
 (Rt a0 a1 A) := by
 exact fun r h => fE Red p40900 h
theorem Rfi (a0 : TkH) (a1 : Int) (A : List Ent) : Tv.Le
 (bnd (Rbe a0.vars a1 A) fun r1 =>
bnd (Rt a0.rest r1.1 r1.2) fun r2 =>
some (r2.1, r2.2) : Option (Int × List Ent))
 (Rcx a0 a1 A) := by
 exact fun r h => fE Red p41000 h
theorem Rgx (a0 : Tk) (a1 : Int) : Tv.Le
 (bnd (Rea a0.vars a1) fun r1 =>
(bif (decide (r1 < 0)) then
some (-1)
else
bnd (Rat a0.rest r1) fun r2 =>
(bif (decide (r2 < 0)) then
some (-1)
else
some r2)) : Option (Int))
 (Rcl a0 a1) := by
 exact fun r h => fE Rbv p10900 h
theorem Rhq (a0 : List Stm) : Tv.Le
 (bnd (Rak a0) fun r1 =>
(bif (!r1) then
some (⟨[], []⟩, false)
else
bnd (Rg a0) fun r3 =>
some (⟨(List.replicate 4 (Qiq .int)), r3⟩, true)) : Option (Tk × Bool))
 (Rej a0) := by
 exact fun r h => fE Rkt p9300 h
theorem Rip (a0 : Stm) (a1 : Int) : Tv.Le
 (bnd (Rbs (⟨a0.e.op, a0.e.n, a0.e.args⟩ : Exp) a1) fun r1 =>
(bif (decide (r1 < 0)) then
some (-1)
else
bnd (Rcd a0.body r1) fun r2 =>
(bif (decide (r2 < 0)) then
some (-1)
else
bnd (Rcd a0.els r2) fun r3 =>
(bif (decide (r3 < 0)) then
some (-1)
else
some r3))) : Option (Int))
 (Rcy a0 a1) := by
 exact fun r h => fE Rbv p7000 h
theorem Rbi (t0 : List Stm) (t1 : Int) (t5 : Int) : Tv.Le
 ((bif (decide (t5 < (t0.length : Int))) then
bnd (geti t0 t5) fun e1 =>
bnd (Rcy (⟨e1.kind, e1.var, e1.box, ⟨e1.e.op, e1.e.n, e1.e.args⟩, e1.body, e1.els⟩ : Stm) t1) fun r2 =>
(bif (decide (r2 < 0)) then
some (.inr (r2, (-1)))
else
Rbh t0 r2 (wrap64 (t5 + 1)))
else
some (.inl t1)) : Option (Int ⊕ (Int × Int)))
 (Rbh t0 t1 t5) := by
 rewrite [← Qyx]
 exact fun r h => lE Rfa p7101 h
theorem Rit (a0 : Stm) : Tv.Le
 (bnd (Rbt (⟨a0.e.op, a0.e.n, a0.e.args⟩ : Exp)) fun r1 =>
bnd (Raa a0.body) fun r2 =>
bnd (Raa a0.els) fun r3 =>
some (⟨a0.kind, a0.var, a0.box, ⟨r1.op, r1.n, r1.args⟩, r2, r3⟩) : Option (Stm))
 (Rda a0) := by
 exact fun r h => fE s7600 p7600 h
theorem Rdm (t0 : List Stm) (t4 : Int) (b100 : List Stm) : Tv.Le
 ((bif (decide (t4 < (t0.length : Int))) then
bnd (geti t0 t4) fun e1 =>
bnd (Rda (⟨e1.kind, e1.var, e1.box, ⟨e1.e.op, e1.e.n, e1.e.args⟩, e1.body, e1.els⟩ : Stm)) fun r2 =>
bnd (geti b100 t4) fun _ =>
bnd (b100[(Int.toNat t4)]?) fun e4 =>
Rbk t0 (wrap64 (t4 + 1)) (b100.set (Int.toNat t4) (⟨r2.kind, r2.var, r2.box, ⟨r2.e.op, r2.e.n, r2.e.args⟩, r2.body, r2.els⟩))
else
some b100) : Option (List Stm))
 (Rbk t0 t4 b100) := by
 rewrite [← Qyx]
 exact fun r h => lE s7701 p7701 h
theorem Rfm (a0 : List Stm) : Tv.Le
 (bnd (Rb a0 3) fun r1 =>
(bif r1 then
bnd (Rh a0) fun r2 =>
some (decide (r2 ≤ 16))
else
some false) : Option (Bool))
 (Rdc a0) := by
 exact fun r h => fE Rd p6300 h
theorem Rig (a0 : List Stm) : Tv.Le
 (bnd (Ram a0 true ([] : List Stm) 0) fun r1 =>
some r1.2 : Option (List Stm))
 (Rj a0) := by
 exact fun r h => fE Rkr p9500 h
theorem Rha (a0 : Stm) (A : List Ent) : Tv.Le
 (bnd (Rcm (⟨a0.e.op, a0.e.n, a0.e.args⟩ : Exp) A) fun r1 =>
bnd (Rah a0.body r1.2) fun r2 =>
bnd (Rah a0.els r2.2) fun r3 =>
some (⟨a0.kind, a0.var, a0.box, r1.1.op, r1.1.n, r1.1.args, r2.1, r3.1⟩, r3.2) : Option (StmH × List Ent))
 (Reb a0 A) := by
 exact fun r h => fE Rlb p41200 h
theorem Rcj (t0 : List Stm) (t3 : Hd) (t4 : Int) (b99 : List Ent) : Tv.Le
 ((bif (decide (t4 < (t0.length : Int))) then
bnd (geti t0 t4) fun e1 =>
bnd (Reb (⟨e1.kind, e1.var, e1.box, ⟨e1.e.op, e1.e.n, e1.e.args⟩, e1.body, e1.els⟩ : Stm) b99) fun r2 =>
bnd (idxN t3.n t4) fun i3 =>
bnd (Qjs r2.2 .stmH t3.id i3) fun e4 =>
Rap t0 t3 (wrap64 (t4 + 1)) (Qdz r2.2 .stmH t3.id i3 r2.1)
else
some (t3, b99)) : Option (Hd × List Ent))
 (Rap t0 t3 t4 b99) := by
 rewrite [← Qyx]
 exact fun r h => lE Rjc p40801 h
theorem Rdg (a0 : List Stm) : Tv.Le
 (bnd (Rcr a0 3) fun r1 =>
some r1 : Option (Bool))
 (Rak a0) := by
 exact fun r h => fE Rd p9000 h
theorem Rev (a0 : List Stm) (A : List Ent) : Tv.Le
 (bnd (Rab (⟨none, 0⟩ : Hd) a0 (a0.length : Int) 0 A) fun r1 =>
some (r1.1, r1.2) : Option (Hd × List Ent))
 (Raf a0 A) := by
 exact fun r h => fE Rjb p41100 h
theorem Rij (a0 : List Int) (a1 : List Int) : Tv.Le
 ((bif (!decide ((a0.length : Int) = (a1.length : Int))) then
some false
else
bnd (Rbx a0 a1 0) fun r1 =>
selm r1 (fun y2 =>
some true) (fun z3 =>
some z3)) : Option (Bool))
 (Rex a0 a1) := by
 exact fun r h => fE Rd p8400 h
theorem Rik (a0 : Stm) (a1 : Stm) : Tv.Le
 ((bif (!decide (a0.kind = a1.kind)) then
some false
else
(bif (!decide (a0.var = a1.var)) then
some false
else
(bif (!decide (a0.box = a1.box)) then
some false
else
bnd (Rbq (⟨a0.e.op, a0.e.n, a0.e.args⟩ : Exp) (⟨a1.e.op, a1.e.n, a1.e.args⟩ : Exp)) fun r1 =>
(bif (!r1) then
some false
else
bnd (Ral a0.body a1.body) fun r2 =>
(bif (!r2) then
some false
else
bnd (Ral a0.els a1.els) fun r3 =>
(bif (!r3) then
some false
else
some true)))))) : Option (Bool))
 (Rcs a0 a1) := by
 exact fun r h => fE Rd p8200 h
theorem Rdk (t0 : List Stm) (t1 : List Stm) (t5 : Int) : Tv.Le
 ((bif (decide (t5 < (t0.length : Int))) then
bnd (geti t0 t5) fun e1 =>
bnd (geti t1 t5) fun e2 =>
bnd (Rcs (⟨e1.kind, e1.var, e1.box, ⟨e1.e.op, e1.e.n, e1.e.args⟩, e1.body, e1.els⟩ : Stm) (⟨e2.kind, e2.var, e2.box, ⟨e2.e.op, e2.e.n, e2.e.args⟩, e2.body, e2.els⟩ : Stm)) fun r3 =>
(bif (!r3) then
some (.inr false)
else
Rbc t0 t1 (wrap64 (t5 + 1)))
else
some (.inl ())) : Option (Unit ⊕ Bool))
 (Rbc t0 t1 t5) := by
 rewrite [← Qyx]
 exact fun r h => lE Rhc p8301 h
theorem Rcu (a0 : Hd) (a1 : Int) (A : List Ent) : Tv.Le
 (bnd (Rac a0 a1 0 A) fun r1 =>
some (r1.1, r1.2) : Option (Int × List Ent))
 (Rav a0 a1 A) := by
 exact fun r h => fE Red p41300 h
theorem Rbo (t0 : Hd) (t1 : Int) (t5 : Int) (b99 : List Ent) : Tv.Le
 ((bif (decide (t5 < ((t0.n : Nat) : Int))) then
bnd (idxN t0.n t5) fun i1 =>
bnd (Qjs b99 .stmH t0.id i1) fun e2 =>
bnd (idxN t0.n t5) fun i3 =>
bnd (Qjs (Qdz b99 .stmH t0.id i1 (⟨t1, e2.var, e2.box, e2.eop, e2.en, e2.args, e2.body, e2.els⟩ : StmH)) .stmH t0.id i3) fun e4 =>
bnd (idxN t0.n t5) fun i5 =>
bnd (Qjs (Qdz (Qdz b99 .stmH t0.id i1 (⟨t1, e2.var, e2.box, e2.eop, e2.en, e2.args, e2.body, e2.els⟩ : StmH)) .stmH t0.id i3 (⟨e4.kind, (wrap64 (t1 + 1)), e4.box, e4.eop, e4.en, e4.args, e4.body, e4.els⟩ : StmH)) .stmH t0.id i5) fun e6 =>
bnd (idxN t0.n t5) fun i7 =>
bnd (Qjs (Qdz (Qdz (Qdz b99 .stmH t0.id i1 (⟨t1, e2.var, e2.box, e2.eop, e2.en, e2.args, e2.body, e2.els⟩ : StmH)) .stmH t0.id i3 (⟨e4.kind, (wrap64 (t1 + 1)), e4.box, e4.eop, e4.en, e4.args, e4.body, e4.els⟩ : StmH)) .stmH t0.id i5 (⟨e6.kind, e6.var, (wrap64 ((wrap64 (t1 + 1)) + 1)), e6.eop, e6.en, e6.args, e6.body, e6.els⟩ : StmH)) .stmH t0.id i7) fun e8 =>
bnd (idxN t0.n t5) fun i9 =>
bnd (Qjs (Qdz (Qdz (Qdz (Qdz b99 .stmH t0.id i1 (⟨t1, e2.var, e2.box, e2.eop, e2.en, e2.args, e2.body, e2.els⟩ : StmH)) .stmH t0.id i3 (⟨e4.kind, (wrap64 (t1 + 1)), e4.box, e4.eop, e4.en, e4.args, e4.body, e4.els⟩ : StmH)) .stmH t0.id i5 (⟨e6.kind, e6.var, (wrap64 ((wrap64 (t1 + 1)) + 1)), e6.eop, e6.en, e6.args, e6.body, e6.els⟩ : StmH)) .stmH t0.id i7 (⟨e8.kind, e8.var, e8.box, (wrap64 ((wrap64 ((wrap64 (t1 + 1)) + 1)) + 1)), e8.en, e8.args, e8.body, e8.els⟩ : StmH)) .stmH t0.id i9) fun e10 =>
bnd (idxN t0.n t5) fun i11 =>
bnd (Qjs (Qdz (Qdz (Qdz (Qdz (Qdz b99 .stmH t0.id i1 (⟨t1, e2.var, e2.box, e2.eop, e2.en, e2.args, e2.body, e2.els⟩ : StmH)) .stmH t0.id i3 (⟨e4.kind, (wrap64 (t1 + 1)), e4.box, e4.eop, e4.en, e4.args, e4.body, e4.els⟩ : StmH)) .stmH t0.id i5 (⟨e6.kind, e6.var, (wrap64 ((wrap64 (t1 + 1)) + 1)), e6.eop, e6.en, e6.args, e6.body, e6.els⟩ : StmH)) .stmH t0.id i7 (⟨e8.kind, e8.var, e8.box, (wrap64 ((wrap64 ((wrap64 (t1 + 1)) + 1)) + 1)), e8.en, e8.args, e8.body, e8.els⟩ : StmH)) .stmH t0.id i9 (⟨e10.kind, e10.var, e10.box, e10.eop, (wrap64 ((wrap64 ((wrap64 ((wrap64 (t1 + 1)) + 1)) + 1)) + 1)), e10.args, e10.body, e10.els⟩ : StmH)) .stmH t0.id i11) fun e12 =>
bnd (Rav e12.args (wrap64 ((wrap64 ((wrap64 ((wrap64 ((wrap64 (t1 + 1)) + 1)) + 1)) + 1)) + 1)) (Qdz (Qdz (Qdz (Qdz (Qdz b99 .stmH t0.id i1 (⟨t1, e2.var, e2.box, e2.eop, e2.en, e2.args, e2.body, e2.els⟩ : StmH)) .stmH t0.id i3 (⟨e4.kind, (wrap64 (t1 + 1)), e4.box, e4.eop, e4.en, e4.args, e4.body, e4.els⟩ : StmH)) .stmH t0.id i5 (⟨e6.kind, e6.var, (wrap64 ((wrap64 (t1 + 1)) + 1)), e6.eop, e6.en, e6.args, e6.body, e6.els⟩ : StmH)) .stmH t0.id i7 (⟨e8.kind, e8.var, e8.box, (wrap64 ((wrap64 ((wrap64 (t1 + 1)) + 1)) + 1)), e8.en, e8.args, e8.body, e8.els⟩ : StmH)) .stmH t0.id i9 (⟨e10.kind, e10.var, e10.box, e10.eop, (wrap64 ((wrap64 ((wrap64 ((wrap64 (t1 + 1)) + 1)) + 1)) + 1)), e10.args, e10.body, e10.els⟩ : StmH))) fun r13 =>
bnd (idxN t0.n t5) fun i14 =>
bnd (Qjs r13.2 .stmH t0.id i14) fun e15 =>
bnd (Rt e15.body r13.1 r13.2) fun r16 =>
bnd (idxN t0.n t5) fun i17 =>
bnd (Qjs r16.2 .stmH t0.id i17) fun e18 =>
bnd (Rt e18.els r16.1 r16.2) fun r19 =>
Rad t0 r19.1 (wrap64 (t5 + 1)) r19.2
else
some (t1, b99)) : Option (Int × List Ent))
 (Rad t0 t1 t5 b99) := by
 rewrite [← Qyx]
 exact fun r h => lE Rfk p40901 h
theorem Rfg (a0 : Hd) (a1 : Int) (A : List Ent) : Tv.Le
 (bnd (Raj a0 a1 0 A) fun r1 =>
some (r1.1, r1.2) : Option (Int × List Ent))
 (Rbe a0 a1 A) := by
 exact fun r h => fE Red p38700 h
theorem Rgv (a0 : List Int) (a1 : Int) : Tv.Le
 (bnd (Rag a0 a1 0) fun r1 =>
selm r1 (fun y2 =>
some y2) (fun z3 =>
some z3.2) : Option (Int))
 (Rea a0 a1) := by
 exact fun r h => fE Rbv p10600 h
theorem Rdw (a0 : List Stm) (a1 : Int) : Tv.Le
 (bnd (Rp a0 a1 0) fun r1 =>
selm r1 (fun y2 =>
some y2) (fun z3 =>
some z3.2) : Option (Int))
 (Rat a0 a1) := by
 exact fun r h => fE Rbv p10800 h
theorem Rfy (a0 : List Stm) : Tv.Le
 (bnd (Ry false [] a0 (a0.length : Int) 0) fun r1 =>
some r1.2 : Option (List Stm))
 (Rg a0) := by
 exact fun r h => fE Rkr p9200 h
theorem Rin (a0 : Exp) (a1 : Int) : Tv.Le
 (bnd (Rel a0.args a1) fun r1 =>
(bif (decide (r1 < 0)) then
some (-1)
else
some r1) : Option (Int))
 (Rbs a0 a1) := by
 exact fun r h => fE Rbv p6900 h
theorem Rir (a0 : Exp) : Tv.Le
 (bnd (Rem a0.args) fun r1 =>
some (⟨a0.op, a0.n, r1⟩) : Option (Exp))
 (Rbt a0) := by
 exact fun r h => fE Rji p7500 h
theorem Rgi (a0 : List Stm) (a1 : Int) : Tv.Le
 (bnd (Raq a0 a1 0) fun r1 =>
selm r1 (fun y2 =>
some true) (fun z3 =>
some z3) : Option (Bool))
 (Rb a0 a1) := by
 exact fun r h => fE Rd p6200 h
theorem Rhe (a0 : List Stm) : Tv.Le
 (bnd (Raw a0 0 0) fun r1 =>
some r1 : Option (Int))
 (Rh a0) := by
 exact fun r h => fE Rbv p4000 h
theorem Riy (a0 : Exp) : Tv.Le
 ((bif (decide ((a0.args.length : Int) = 0)) then
bnd (Rfc a0.op a0.n) fun r1 =>
some (⟨r1.1, r1.2.1, r1.2.2.2⟩)
else
bnd (geti a0.args 0) fun e2 =>
bnd (Ran (⟨e2.op, e2.n, e2.args⟩ : Exp)) fun r3 =>
bnd (geti a0.args 1) fun e4 =>
bnd (Ran (⟨e4.op, e4.n, e4.args⟩ : Exp)) fun r5 =>
bnd (Rfb a0.op (⟨r3.op, r3.n, r3.args⟩ : Exp) (⟨r5.op, r5.n, r5.args⟩ : Exp)) fun r6 =>
some (⟨r6.1, r6.2.1, r6.2.2.2⟩)) : Option (Exp))
 (Ran a0) := by
 exact fun r h => fE Rji p9400 h
theorem Rdn (t0 : List Stm) (t3b : Bool) (t3 : List Stm) (t4 : Int) : Tv.Le
 ((bif (decide (t4 < (t0.length : Int))) then
bnd (geti t0 t4) fun e1 =>
bnd (Ran (⟨e1.e.op, e1.e.n, e1.e.args⟩ : Exp)) fun r2 =>
bnd (Rj e1.body) fun r3 =>
bnd (Rj e1.els) fun r4 =>
bnd (appL t3 ([⟨e1.kind, e1.var, e1.box, ⟨r2.op, r2.n, r2.args⟩, r3, r4⟩] : List Stm)) fun l5 =>
Ram t0 true l5 (wrap64 (t4 + 1))
else
some (t3b, t3)) : Option ((Bool × List Stm)))
 (Ram t0 t3b t3 t4) := by
 rewrite [← Qyx]
 exact fun r h => lE Rks p9501 h
theorem Rgy (a0 : Exp) (A : List Ent) : Tv.Le
 (bnd (Rdr a0.args A) fun r1 =>
some (⟨a0.op, a0.n, r1.1⟩, r1.2) : Option (ExpH × List Ent))
 (Rcm a0 A) := by
 exact fun r h => fE Rjd p41500 h
theorem Rff (a0 : List Stm) (a1 : Int) : Tv.Le
 (bnd (Rl a0 a1 0 0) fun r1 =>
some r1.1 : Option (Bool))
 (Rcr a0 a1) := by
 exact fun r h => fE Rd p5400 h
theorem Rfd (a0 : Exp) (A : List Ent) : Tv.Le
 (bnd (Rai a0.args (a0.args.length : Int) 0 0 0 (⟨none, 0⟩ : Hd) a0.op a0.n (⟨none, 0⟩ : Hd) A) fun r1 =>
some (⟨r1.2.2.2.1, r1.2.2.2.2.1, r1.2.2.2.2.2.1⟩, r1.2.2.2.2.2.2) : Option (ExpH × List Ent))
 (Rba a0 A) := by
 exact fun r h => fE Rjd p41400 h
theorem Rbm (t3 : Hd) (t6 : List Stm) (t7 : Int) (t8 : Int) (b99 : List Ent) : Tv.Le
 ((bif (decide (t8 < t7)) then
bnd (geti t6 t8) fun e1 =>
bnd (Raf e1.body b99) fun r2 =>
bnd (Raf e1.els r2.2) fun r3 =>
bnd (Rba (⟨e1.e.op, e1.e.n, e1.e.args⟩ : Exp) r3.2) fun r4 =>
bnd (Qnd r4.2 .stmH t3.id t3.n ([⟨e1.kind, e1.var, e1.box, r4.1.op, r4.1.n, r4.1.args, r2.1, r3.1⟩] : List StmH)) fun B5 =>
Rab (⟨(some (List.length r4.2)), (t3.n + List.length ([⟨e1.kind, e1.var, e1.box, r4.1.op, r4.1.n, r4.1.args, r2.1, r3.1⟩] : List StmH))⟩ : Hd) t6 t7 (wrap64 (t8 + 1)) B5
else
some (t3, b99)) : Option (Hd × List Ent))
 (Rab t3 t6 t7 t8 b99) := by
 rewrite [← Qyx]
 exact fun r h => lE Rjc p41101 h
end Go.TFnExactTaskNew