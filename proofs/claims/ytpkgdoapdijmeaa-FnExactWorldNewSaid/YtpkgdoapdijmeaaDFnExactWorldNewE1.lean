import Derived.Test.YtpkgdoapdijmeaaDFnExactWorldNewP
import Derived.KernelRfl
set_option linter.unusedVariables false
namespace Go.TFnExactWorldNew
open Go Go.RowKit Go.Vs Go.Tv
theorem Rqy (a0 : Int) (a1 : Int) (a2 : Int) : Tv.Le
 ((bif (decide (a1 ≤ a0)) then
some (decide (a0 ≤ a2))
else
some false) : Option (Bool))
 (Rdg a0 a1 a2) := by
 exact fun r h => fE Re p1600 h
theorem Rkl (a0 : List Stm) : Tv.Le
 (bnd (Rg a0 3) fun r1 =>
(bif r1 then
bnd (Rk a0) fun r2 =>
some (decide (r2 ≤ 16))
else
some false) : Option (Bool))
 (Rde a0) := by
 exact fun r h => fE Re p6300 h
theorem Rng (a0 : List Stm) (a1 : Int) : Tv.Le
 (bnd (Rad a0 a1 0) fun r1 =>
selm r1 (fun y2 =>
some true) (fun z3 =>
some z3) : Option (Bool))
 (Rf a0 a1) := by
 exact fun r h => fE Re p23100 h
theorem Rdd (t3 : Int) (b100_0 : List Int) (b100_1 : List (List Stm)) : Tv.Le
 ((bif (decide (t3 < (b100_1.length : Int))) then
bnd (geti b100_1 t3) fun e1 =>
bnd (Rde e1) fun r2 =>
(bif (!r2) then
some (.inr false)
else
bnd (geti b100_1 t3) fun e3 =>
bnd (Rf e3 (b100_0.length : Int)) fun r4 =>
(bif (!r4) then
some (.inr false)
else
Rq (wrap64 (t3 + 1)) b100_0 b100_1))
else
some (.inl ())) : Option (Unit ⊕ Bool))
 (Rq t3 b100_0 b100_1) := by
 rewrite [← Qzb]
 exact fun r h => lE Rcm p23301 h
theorem Rgf (t0 : List Int) (t3b : Bool) (t3 : List Bx) (t4 : Int) : Tv.Le
 ((bif (decide (t4 < (t0.length : Int))) then
bnd (geti t0 t4) fun e1 =>
bnd (appL t3 ([⟨e1, ([] : List Int)⟩] : List Bx)) fun l2 =>
Rbc t0 true l2 (wrap64 (t4 + 1))
else
some (t3b, t3)) : Option ((Bool × List Bx)))
 (Rbc t0 t3b t3 t4) := by
 rewrite [← Qzb]
 exact fun r h => lE Rpv p23401 h
theorem Ror (a0 : List Stm) : Tv.Le
 (bnd (Rbo a0 true ([] : List Stm) 0) fun r1 =>
some r1.2 : Option (List Stm))
 (Rm a0) := by
 exact fun r h => fE Rse p9500 h
theorem Rfw (t0 : List Int) (t3 : Hd) (t4 : Int) (b99 : List Ent) : Tv.Le
 ((bif (decide (t4 < (t0.length : Int))) then
bnd (geti t0 t4) fun e1 =>
bnd (idxN t3.n t4) fun i2 =>
bnd (Qju b99 .int t3.id i2) fun e3 =>
Rcd t0 t3 (wrap64 (t4 + 1)) (Qdz b99 .int t3.id i2 e1)
else
some (t3, b99)) : Option (Hd × List Ent))
 (Rcd t0 t3 t4 b99) := by
 rewrite [← Qzb]
 exact fun r h => lE Rtd p39601 h
theorem Rlm (a0 : List Stm) (A : List Ent) : Tv.Le
 (bnd (made (a0.length : Int)) fun n1 =>
bnd (Rbs a0 (⟨(some (List.length A)), n1⟩ : Hd) 0 (Qaj A .stmH (List.replicate n1 (Qhw .stmH)))) fun r2 =>
some (r2.1, r2.2) : Option (Hd × List Ent))
 (Rai a0 A) := by
 exact fun r h => fE Rpy p40800 h
theorem Rel (t0 : List (List Stm)) (t3 : Hd) (t4 : Int) (b99 : List Ent) : Tv.Le
 ((bif (decide (t4 < (t0.length : Int))) then
bnd (geti t0 t4) fun e1 =>
bnd (Rai e1 b99) fun r2 =>
bnd (idxN t3.n t4) fun i3 =>
bnd (Qju r2.2 .stmsHH t3.id i3) fun e4 =>
Rbi t0 t3 (wrap64 (t4 + 1)) (Qdz r2.2 .stmsHH t3.id i3 r2.1)
else
some (t3, b99)) : Option (Hd × List Ent))
 (Rbi t0 t3 t4 b99) := by
 rewrite [← Qzb]
 exact fun r h => lE Rtp p42801 h
theorem Rka (a0 : List Int) : Tv.Le
 (bnd (Raf a0 a0 (a0.length : Int) 0) fun r1 =>
selm r1 (fun y2 =>
some (decide ((y2.length : Int) ≤ 3))) (fun z3 =>
some z3.2) : Option (Bool))
 (Rfk a0) := by
 exact fun r h => fE Re p22700 h
theorem Rgj (a0 : List Stm) (a1 : Int) : Tv.Le
 (bnd (Rj a0 a1 0 0) fun r1 =>
some r1.1 : Option (Bool))
 (Rbm a0 a1) := by
 exact fun r h => fE Re p5400 h
theorem Rcn (t22 : List (List Stm)) (t23 : Int) (t24 : Int) (b100_0 : List Int) (b100_1 : List (List Stm)) : Tv.Le
 ((bif (decide (t24 < t23)) then
bnd (geti t22 t24) fun e1 =>
bnd (Rbm e1 (b100_0.length : Int)) fun r2 =>
(bif (!r2) then
some (.inr false)
else
Rp t22 t23 (wrap64 (t24 + 1)) b100_0 b100_1)
else
some (.inl ())) : Option (Unit ⊕ Bool))
 (Rp t22 t23 t24 b100_0 b100_1) := by
 rewrite [← Qzb]
 exact fun r h => lE Rcm p22801 h
theorem Reg (t3 : Hd) (t6 : List Int) (t7 : Int) (t8 : Int) (b99 : List Ent) : Tv.Le
 ((bif (decide (t8 < t7)) then
bnd (geti t6 t8) fun e1 =>
bnd (Qnf b99 .bxH t3.id t3.n ([⟨e1, ⟨none, 0⟩⟩] : List BxH)) fun B2 =>
Rbe (⟨(some (List.length b99)), (t3.n + List.length ([⟨e1, ⟨none, 0⟩⟩] : List BxH))⟩ : Hd) t6 t7 (wrap64 (t8 + 1)) B2
else
some (t3, b99)) : Option (Hd × List Ent))
 (Rbe t3 t6 t7 t8 b99) := by
 rewrite [← Qzb]
 exact fun r h => lE Rtn p42501 h
theorem Rgg (a0 : List Stm) : Tv.Le
 (bnd (Rbm a0 3) fun r1 =>
some r1 : Option (Bool))
 (Rbl a0) := by
 exact fun r h => fE Re p9000 h
theorem Rjd (a0 : List Stm) (A : List Ent) : Tv.Le
 (bnd (Raq (⟨none, 0⟩ : Hd) a0 (a0.length : Int) 0 A) fun r1 =>
some (r1.1, r1.2) : Option (Hd × List Ent))
 (Rax a0 A) := by
 exact fun r h => fE Rpy p41100 h
theorem Roy (a0 : Tk) (a1 : Tk) : Tv.Le
 (bnd (Rdo a0.vars a1.vars) fun r1 =>
(bif (!r1) then
some false
else
bnd (Rag a0.rest a1.rest) fun r2 =>
(bif (!r2) then
some false
else
some true)) : Option (Bool))
 (Rfn a0 a1) := by
 exact fun r h => fE Re p8500 h
theorem Rgm (t0 : List Tk) (t1 : List Tk) (t5 : Int) : Tv.Le
 ((bif (decide (t5 < (t0.length : Int))) then
bnd (geti t0 t5) fun e1 =>
bnd (geti t1 t5) fun e2 =>
bnd (Rfn e1 e2) fun r3 =>
(bif (!r3) then
some (.inr false)
else
Rcs t0 t1 (wrap64 (t5 + 1)))
else
some (.inl ())) : Option (Unit ⊕ Bool))
 (Rcs t0 t1 t5) := by
 rewrite [← Qzb]
 exact fun r h => lE Rcm p25201 h
theorem Rqh (a0 : Bx) (a1 : Bx) : Tv.Le
 ((bif (!decide (a0.room = a1.room)) then
some false
else
bnd (Rdo a0.items a1.items) fun r1 =>
(bif (!r1) then
some false
else
some true)) : Option (Bool))
 (Rhb a0 a1) := by
 exact fun r h => fE Re p19000 h
theorem Rhc (t0 : List Bx) (t1 : List Bx) (t5 : Int) : Tv.Le
 ((bif (decide (t5 < (t0.length : Int))) then
bnd (geti t0 t5) fun e1 =>
bnd (geti t1 t5) fun e2 =>
bnd (Rhb e1 e2) fun r3 =>
(bif (!r3) then
some (.inr false)
else
Rdy t0 t1 (wrap64 (t5 + 1)))
else
some (.inl ())) : Option (Unit ⊕ Bool))
 (Rdy t0 t1 t5) := by
 rewrite [← Qzb]
 exact fun r h => lE Rcm p25301 h
theorem Rhd (t0 : List Int) (t1 : List Int) (t5 : Int) : Tv.Le
 ((bif (decide (t5 < (t0.length : Int))) then
bnd (geti t0 t5) fun e1 =>
bnd (geti t1 t5) fun e2 =>
(bif (!decide (e1 = e2)) then
some (.inr false)
else
Rdz t0 t1 (wrap64 (t5 + 1)))
else
some (.inl ())) : Option (Unit ⊕ Bool))
 (Rdz t0 t1 t5) := by
 rewrite [← Qzb]
 exact fun r h => lE Rcm p8401 h
theorem Rnz (a0 : List Stm) (a1 : List Stm) : Tv.Le
 ((bif (!decide ((a0.length : Int) = (a1.length : Int))) then
some false
else
bnd (Rcq a0 a1 0) fun r1 =>
selm r1 (fun y2 =>
some true) (fun z3 =>
some z3)) : Option (Bool))
 (Rag a0 a1) := by
 exact fun r h => fE Re p8300 h
theorem Rfm (t0 : List (List Stm)) (t1 : List (List Stm)) (t5 : Int) : Tv.Le
 ((bif (decide (t5 < (t0.length : Int))) then
bnd (geti t0 t5) fun e1 =>
bnd (geti t1 t5) fun e2 =>
bnd (Rag e1 e2) fun r3 =>
(bif (!r3) then
some (.inr false)
else
Rca t0 t1 (wrap64 (t5 + 1)))
else
some (.inl ())) : Option (Unit ⊕ Bool))
 (Rca t0 t1 t5) := by
 rewrite [← Qzb]
 exact fun r h => lE Rcm p28801 h
theorem Rek (t0 : Hd) (t1 : Int) (t5 : Int) (b99 : List Ent) : Tv.Le
 ((bif (decide (t5 < ((t0.n : Nat) : Int))) then
bnd (idxN t0.n t5) fun i1 =>
bnd (Qju b99 .int t0.id i1) fun e2 =>
Rbh t0 (wrap64 (t1 + 1)) (wrap64 (t5 + 1)) (Qdz b99 .int t0.id i1 t1)
else
some (t1, b99)) : Option (Int × List Ent))
 (Rbh t0 t1 t5 b99) := by
 rewrite [← Qzb]
 exact fun r h => lE Rdl p38701 h
theorem Rfs (a0 : Hd) (a1 : Int) (A : List Ent) : Tv.Le
 (bnd (Ras a0 a1 0 A) fun r1 =>
some (r1.1, r1.2) : Option (Int × List Ent))
 (Rac a0 a1 A) := by
 exact fun r h => fE Rbj p40900 h
theorem Rcv (t0 : Hd) (t1 : Int) (t5 : Int) (b99 : List Ent) : Tv.Le
 ((bif (decide (t5 < ((t0.n : Nat) : Int))) then
bnd (idxN t0.n t5) fun i1 =>
bnd (Qju b99 .stmsHH t0.id i1) fun e2 =>
bnd (Rac e2 t1 b99) fun r3 =>
Ral t0 r3.1 (wrap64 (t5 + 1)) r3.2
else
some (t1, b99)) : Option (Int × List Ent))
 (Ral t0 t1 t5 b99) := by
 rewrite [← Qzb]
 exact fun r h => lE Rdl p42901 h
theorem Rdk (t0 : Hd) (t1 : Int) (t5 : Int) (b99 : List Ent) : Tv.Le
 ((bif (decide (t5 < ((t0.n : Nat) : Int))) then
bnd (idxN t0.n t5) fun i1 =>
bnd (Qju b99 .tkH t0.id i1) fun e2 =>
bnd (Rv e2.vars t1 b99) fun r3 =>
bnd (idxN t0.n t5) fun i4 =>
bnd (Qju r3.2 .tkH t0.id i4) fun e5 =>
bnd (Rac e5.rest r3.1 r3.2) fun r6 =>
Rat t0 r6.1 (wrap64 (t5 + 1)) r6.2
else
some (t1, b99)) : Option (Int × List Ent))
 (Rat t0 t1 t5 b99) := by
 rewrite [← Qzb]
 exact fun r h => lE Rdl p43001 h
theorem Rej (t0 : Hd) (t1 : Int) (t5 : Int) (b99 : List Ent) : Tv.Le
 ((bif (decide (t5 < ((t0.n : Nat) : Int))) then
bnd (idxN t0.n t5) fun i1 =>
bnd (Qju b99 .bxH t0.id i1) fun e2 =>
bnd (idxN t0.n t5) fun i3 =>
bnd (Qju (Qdz b99 .bxH t0.id i1 (⟨t1, e2.items⟩ : BxH)) .bxH t0.id i3) fun e4 =>
bnd (Rv e4.items (wrap64 (t1 + 1)) (Qdz b99 .bxH t0.id i1 (⟨t1, e2.items⟩ : BxH))) fun r5 =>
Rbg t0 r5.1 (wrap64 (t5 + 1)) r5.2
else
some (t1, b99)) : Option (Int × List Ent))
 (Rbg t0 t1 t5 b99) := by
 rewrite [← Qzb]
 exact fun r h => lE Rdl p43101 h
theorem Rhg (a0 : List Stm) (a1 : Int) : Tv.Le
 (bnd (Rt a0 a1 0) fun r1 =>
selm r1 (fun y2 =>
some y2) (fun z3 =>
some z3.2) : Option (Int))
 (Rbw a0 a1) := by
 exact fun r h => fE Rak p10800 h
theorem Rev (t0 : List Tk) (t1 : Int) (t5 : Int) : Tv.Le
 ((bif (decide (t5 < (t0.length : Int))) then
bnd (geti t0 t5) fun e1 =>
bnd (Rct e1.vars t1) fun r2 =>
(bif (decide (r2 < 0)) then
some (.inr (r2, (-1)))
else
bnd (geti t0 t5) fun e3 =>
bnd (Rbw e3.rest r2) fun r4 =>
(bif (decide (r4 < 0)) then
some (.inr (r4, (-1)))
else
Rao t0 r4 (wrap64 (t5 + 1))))
else
some (.inl t1)) : Option (Int ⊕ (Int × Int)))
 (Rao t0 t1 t5) := by
 rewrite [← Qzb]
 exact fun r h => lE Rfb p29501 h
theorem Rfo (t0 : List Bx) (t1 : Int) (t5 : Int) : Tv.Le
 ((bif (decide (t5 < (t0.length : Int))) then
bnd (geti t0 t5) fun e1 =>
(bif (!decide (e1.room = t1)) then
some (.inr (t1, (-1)))
else
bnd (geti t0 t5) fun e2 =>
bnd (Rct e2.items (wrap64 (t1 + 1))) fun r3 =>
(bif (decide (r3 < 0)) then
some (.inr (r3, (-1)))
else
Ray t0 r3 (wrap64 (t5 + 1))))
else
some (.inl t1)) : Option (Int ⊕ (Int × Int)))
 (Ray t0 t1 t5) := by
 rewrite [← Qzb]
 exact fun r h => lE Rfb p29601 h
theorem Rfp (t0 : List Int) (t1 : Int) (t5 : Int) : Tv.Le
 ((bif (decide (t5 < (t0.length : Int))) then
bnd (geti t0 t5) fun e1 =>
(bif (!decide (e1 = t1)) then
some (.inr (t1, (-1)))
else
Raz t0 (wrap64 (t1 + 1)) (wrap64 (t5 + 1)))
else
some (.inl t1)) : Option (Int ⊕ (Int × Int)))
 (Raz t0 t1 t5) := by
 rewrite [← Qzb]
 exact fun r h => lE Rfb p10601 h
theorem Rfh (t3b : Bool) (t3 : List Bx) (t6 : List Int) (t7 : Int) (t8 : Int) : Tv.Le
 ((bif (decide (t8 < t7)) then
bnd (geti t6 t8) fun e1 =>
bnd (appL t3 ([⟨e1, []⟩] : List Bx)) fun l2 =>
Rav true l2 t6 t7 (wrap64 (t8 + 1))
else
some (t3b, t3)) : Option ((Bool × List Bx)))
 (Rav t3b t3 t6 t7 t8) := by
 rewrite [← Qzb]
 exact fun r h => lE Rpv p22901 h
theorem Rkv (a0 : List Stm) : Tv.Le
 (bnd (Ran false [] a0 (a0.length : Int) 0) fun r1 =>
some r1.2 : Option (List Stm))
 (Rh a0) := by
 exact fun r h => fE Rse p9200 h
theorem Rpe (a0 : Stm) (a1 : Int) : Tv.Le
 (bnd (Rdq (⟨a0.e.op, a0.e.n, a0.e.args⟩ : Exp) a1) fun r1 =>
(bif (decide (r1 < 0)) then
some (-1)
else
bnd (Rbn a0.body r1) fun r2 =>
(bif (decide (r2 < 0)) then
some (-1)
else
bnd (Rbn a0.els r2) fun r3 =>
(bif (decide (r3 < 0)) then
some (-1)
else
some r3))) : Option (Int))
 (Rfu a0 a1) := by
 exact fun r h => fE Rak p7000 h
theorem Rcz (t0 : List Stm) (t1 : Int) (t5 : Int) : Tv.Le
 ((bif (decide (t5 < (t0.length : Int))) then
bnd (geti t0 t5) fun e1 =>
bnd (Rfu (⟨e1.kind, e1.var, e1.box, ⟨e1.e.op, e1.e.n, e1.e.args⟩, e1.body, e1.els⟩ : Stm) t1) fun r2 =>
(bif (decide (r2 < 0)) then
some (.inr (r2, (-1)))
else
Rcy t0 r2 (wrap64 (t5 + 1)))
else
some (.inl t1)) : Option (Int ⊕ (Int × Int)))
 (Rcy t0 t1 t5) := by
 rewrite [← Qzb]
 exact fun r h => lE Rfb p7101 h
theorem Rpk (a0 : Stm) : Tv.Le
 (bnd (Rdr (⟨a0.e.op, a0.e.n, a0.e.args⟩ : Exp)) fun r1 =>
bnd (Rap a0.body) fun r2 =>
bnd (Rap a0.els) fun r3 =>
some (⟨a0.kind, a0.var, a0.box, ⟨r1.op, r1.n, r1.args⟩, r2, r3⟩) : Option (Stm))
 (Rfx a0) := by
 exact fun r h => fE s7600 p7600 h
theorem Rgo (t0 : List Stm) (t4 : Int) (b100 : List Stm) : Tv.Le
 ((bif (decide (t4 < (t0.length : Int))) then
bnd (geti t0 t4) fun e1 =>
bnd (Rfx (⟨e1.kind, e1.var, e1.box, ⟨e1.e.op, e1.e.n, e1.e.args⟩, e1.body, e1.els⟩ : Stm)) fun r2 =>
bnd (geti b100 t4) fun _ =>
bnd (b100[(Int.toNat t4)]?) fun e4 =>
Rdb t0 (wrap64 (t4 + 1)) (b100.set (Int.toNat t4) (⟨r2.kind, r2.var, r2.box, ⟨r2.e.op, r2.e.n, r2.e.args⟩, r2.body, r2.els⟩))
else
some b100) : Option (List Stm))
 (Rdb t0 t4 b100) := by
 rewrite [← Qzb]
 exact fun r h => lE s7701 p7701 h
theorem Rge (t0 : List Int) (t3 : Int) : Tv.Le
 ((bif (decide (t3 < (t0.length : Int))) then
bnd (geti t0 t3) fun e1 =>
bnd (Rdg e1 1 4) fun r2 =>
(bif (!r2) then
some (.inr (t0, false))
else
Rbb t0 (wrap64 (t3 + 1)))
else
some (.inl t0)) : Option (List Int ⊕ (List Int × Bool)))
 (Rbb t0 t3) := by
 rewrite [← Qzb]
 exact fun r h => lE Rpt p23201 h
theorem Rlq (a0 : List Stm) (a1 : Int) : Tv.Le
 (bnd (Rbt a0 a1 0) fun r1 =>
selm r1 (fun y2 =>
some true) (fun z3 =>
some z3) : Option (Bool))
 (Rg a0 a1) := by
 exact fun r h => fE Re p6200 h
theorem Rnc (a0 : List Stm) : Tv.Le
 (bnd (Rcf a0 0 0) fun r1 =>
some r1 : Option (Int))
 (Rk a0) := by
 exact fun r h => fE Rak p4000 h
theorem Rgd (t0 : List Stm) (t1 : Int) (t5 : Int) : Tv.Le
 ((bif (decide (t5 < (t0.length : Int))) then
bnd (geti t0 t5) fun e1 =>
(bif (decide (e1.kind = 4)) then
(bif (decide (t1 ≤ e1.box)) then
some (.inr false)
else
bnd (Rf e1.body t1) fun r2 =>
(bif (!r2) then
some (.inr false)
else
bnd (Rf e1.els t1) fun r3 =>
(bif (!r3) then
some (.inr false)
else
Rad t0 t1 (wrap64 (t5 + 1)))))
else
(bif (decide (e1.kind = 5)) then
(bif (decide (t1 ≤ e1.box)) then
some (.inr false)
else
bnd (Rf e1.body t1) fun r4 =>
(bif (!r4) then
some (.inr false)
else
bnd (Rf e1.els t1) fun r5 =>
(bif (!r5) then
some (.inr false)
else
Rad t0 t1 (wrap64 (t5 + 1)))))
else
bnd (Rf e1.body t1) fun r6 =>
(bif (!r6) then
some (.inr false)
else
bnd (Rf e1.els t1) fun r7 =>
(bif (!r7) then
some (.inr false)
else
Rad t0 t1 (wrap64 (t5 + 1))))))
else
some (.inl ())) : Option (Unit ⊕ Bool))
 (Rad t0 t1 t5) := by
 rewrite [← Qzb]
 exact fun r h => lE Rcm p23101 h
theorem Rpp (a0 : Exp) : Tv.Le
 ((bif (decide ((a0.args.length : Int) = 0)) then
bnd (Rjr a0.op a0.n) fun r1 =>
some (⟨r1.1, r1.2.1, r1.2.2.2⟩)
else
bnd (geti a0.args 0) fun e2 =>
bnd (Rbp (⟨e2.op, e2.n, e2.args⟩ : Exp)) fun r3 =>
bnd (geti a0.args 1) fun e4 =>
bnd (Rbp (⟨e4.op, e4.n, e4.args⟩ : Exp)) fun r5 =>
bnd (Rjq a0.op (⟨r3.op, r3.n, r3.args⟩ : Exp) (⟨r5.op, r5.n, r5.args⟩ : Exp)) fun r6 =>
some (⟨r6.1, r6.2.1, r6.2.2.2⟩)) : Option (Exp))
 (Rbp a0) := by
 exact fun r h => fE Rqm p9400 h
theorem Rgq (t0 : List Stm) (t3b : Bool) (t3 : List Stm) (t4 : Int) : Tv.Le
 ((bif (decide (t4 < (t0.length : Int))) then
bnd (geti t0 t4) fun e1 =>
bnd (Rbp (⟨e1.e.op, e1.e.n, e1.e.args⟩ : Exp)) fun r2 =>
bnd (Rm e1.body) fun r3 =>
bnd (Rm e1.els) fun r4 =>
bnd (appL t3 ([⟨e1.kind, e1.var, e1.box, ⟨r2.op, r2.n, r2.args⟩, r3, r4⟩] : List Stm)) fun l5 =>
Rbo t0 true l5 (wrap64 (t4 + 1))
else
some (t3b, t3)) : Option ((Bool × List Stm)))
 (Rbo t0 t3b t3 t4) := by
 rewrite [← Qzb]
 exact fun r h => lE Rsf p9501 h
theorem Rmx (a0 : Stm) (A : List Ent) : Tv.Le
 (bnd (Rez (⟨a0.e.op, a0.e.n, a0.e.args⟩ : Exp) A) fun r1 =>
bnd (Rai a0.body r1.2) fun r2 =>
bnd (Rai a0.els r2.2) fun r3 =>
some (⟨a0.kind, a0.var, a0.box, r1.1.op, r1.1.n, r1.1.args, r2.1, r3.1⟩, r3.2) : Option (StmH × List Ent))
 (Rhs a0 A) := by
 exact fun r h => fE Rtf p41200 h
theorem Rex (t0 : List Stm) (t3 : Hd) (t4 : Int) (b99 : List Ent) : Tv.Le
 ((bif (decide (t4 < (t0.length : Int))) then
bnd (geti t0 t4) fun e1 =>
bnd (Rhs (⟨e1.kind, e1.var, e1.box, ⟨e1.e.op, e1.e.n, e1.e.args⟩, e1.body, e1.els⟩ : Stm) b99) fun r2 =>
bnd (idxN t3.n t4) fun i3 =>
bnd (Qju r2.2 .stmH t3.id i3) fun e4 =>
Rbs t0 t3 (wrap64 (t4 + 1)) (Qdz r2.2 .stmH t3.id i3 r2.1)
else
some (t3, b99)) : Option (Hd × List Ent))
 (Rbs t0 t3 t4 b99) := by
 rewrite [← Qzb]
 exact fun r h => lE Rpz p40801 h
theorem Rei (t0 : List Int) (t5 : List Int) (t6 : Int) (t7 : Int) : Tv.Le
 ((bif (decide (t7 < t6)) then
bnd (geti t5 t7) fun e1 =>
(bif (decide (e1 < 1)) then
some (.inr (t0, false))
else
(bif (decide (4 < e1)) then
some (.inr (t0, false))
else
Raf t0 t5 t6 (wrap64 (t7 + 1))))
else
some (.inl t0)) : Option (List Int ⊕ (List Int × Bool)))
 (Raf t0 t5 t6 t7) := by
 rewrite [← Qzb]
 exact fun r h => lE Rpt p22701 h
end Go.TFnExactWorldNew