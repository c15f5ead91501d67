import Derived.Test.YtpkgdoapdijmeaaDFnExactWorldOutcomeP
import Derived.KernelRfl
set_option linter.unusedVariables false
namespace Go.TFnExactWorldOutcome
open Go Go.RowKit Go.Vs Go.Tv
theorem impl_BoxValid_le (a0 : Bx) : Tv.Le
 ((bif (decide (1 ≤ a0.room)) then
(bif (decide (a0.room ≤ 4)) then
(bif (decide ((a0.items.length : Int) ≤ a0.room)) then
bnd (impl_areWords a0.items) fun r1 =>
some r1
else
some false)
else
some false)
else
some false) : Option (Bool))
 (impl_BoxValid a0) := by
 exact fun r h => fn_le' (F := Tb) (G := GT) (sg := sg) (sig := s17600) (p := p17600) (by kernel_rfl) (by kernel_rfl) rfl rfl rfl rfl rfl ((show runC (phi Tb GT sg) Tb GT p17600.code (startAT p17600 (mkST p17600.ins [.agg (rowT .bx a0)] p17600.bins [])) (finT p17600 s17600) = _ by kernel_rfl).trans h)

theorem impl_boxesValid_l1_le (t0 : List Bx) (t5 : List Bx) (t6 : Int) (t7 : Int) : Tv.Le
 ((bif (decide (t7 < t6)) then
bnd (geti t5 t7) fun e1 =>
bnd (impl_BoxValid e1) fun r2 =>
(bif (!r2) then
some (.inr (t0, false))
else
impl_boxesValid_l1 t0 t5 t6 (wrap64 (t7 + 1)))
else
some (.inl t0)) : Option (List Bx ⊕ (List Bx × Bool)))
 (impl_boxesValid_l1 t0 t5 t6 t7) := by
 rewrite [← wrapC_eq]
 exact fun r h => loop_le' (F := Tb) (G := GT) (sg := sg) (sig := s23901) (p := p23901) (by kernel_rfl) (by kernel_rfl) rfl rfl rfl ((show runC (phi Tb GT sg) Tb GT p23901.code ((mkST p23901.ins [.sl .share .bx t0, .sl .share .bx t5, .int .i64 t6, .int .i64 t7] p23901.bins [])) (finL Tb GT 23901 p23901 s23901) = _ by kernel_rfl).trans h)

theorem impl_stmtsValid_le (a0 : List Stm) (a1 : Int) : Tv.Le
 (bnd (impl_blockValid a0 a1 0 0) fun r1 =>
some r1.1 : Option (Bool))
 (impl_stmtsValid a0 a1) := by
 exact fun r h => fn_le' (F := Tb) (G := GT) (sg := sg) (sig := s5400) (p := p5400) (by kernel_rfl) (by kernel_rfl) rfl rfl rfl rfl rfl ((show runC (phi Tb GT sg) Tb GT p5400.code (startAT p5400 (mkST p5400.ins [.sl .share .stm a0, .int .i64 a1] p5400.bins [])) (finT p5400 s5400) = _ by kernel_rfl).trans h)

theorem impl_taskValid_l1_le (t1 : Int) (t18 : Int) (t19 : Int) (b100_0 : List Int) (b100_1 : List Stm) : Tv.Le
 ((bif (decide (t19 < t18)) then
bnd (cutL b100_1 t19 (wrap64 (t19 + 1))) fun l1 =>
bnd (impl_stmtsValid l1 t1) fun r2 =>
(bif (!r2) then
some (.inr false)
else
impl_taskValid_l1 t1 t18 (wrap64 (t19 + 1)) b100_0 b100_1)
else
some (.inl ())) : Option (Unit ⊕ Bool))
 (impl_taskValid_l1 t1 t18 t19 b100_0 b100_1) := by
 rewrite [← wrapC_eq]
 exact fun r h => loop_le' (F := Tb) (G := GT) (sg := sg) (sig := s5501) (p := p5501) (by kernel_rfl) (by kernel_rfl) rfl rfl rfl ((show runC (phi Tb GT sg) Tb GT p5501.code ((mkST p5501.ins [.int .i64 t1, .bp 100 0, .int .i64 t18, .int .i64 t19] p5501.bins [.var [.sl .share .int b100_0, .sl .share .stm b100_1]])) (finL Tb GT 5501 p5501 s5501) = _ by kernel_rfl).trans h)

theorem laws_eqStmtS_le (a0 : List Stm) (a1 : List Stm) : Tv.Le
 ((bif (!decide ((a0.length : Int) = (a1.length : Int))) then
some false
else
bnd (laws_eqStmtS_l1 a0 a1 0) fun r1 =>
selm r1 (fun y2 =>
some true) (fun z3 =>
some z3)) : Option (Bool))
 (laws_eqStmtS a0 a1) := by
 exact fun r h => fn_le' (F := Tb) (G := GT) (sg := sg) (sig := s8300) (p := p8300) (by kernel_rfl) (by kernel_rfl) rfl rfl rfl rfl rfl ((show runC (phi Tb GT sg) Tb GT p8300.code (startAT p8300 (mkST p8300.ins [.sl .share .stm a0, .sl .share .stm a1] p8300.bins [])) (finT p8300 s8300) = _ by kernel_rfl).trans h)

theorem laws_markExprS_p_le (a0 : Hd) (a1 : Int) (A : List Ent) : Tv.Le
 (bnd (laws_markExprS_p_l1 a0 a1 0 A) fun r1 =>
some (r1.1, r1.2) : Option (Int × List Ent))
 (laws_markExprS_p a0 a1 A) := by
 exact fun r h => fn_le' (F := Tb) (G := GT) (sg := sg) (sig := s41300) (p := p41300) (by kernel_rfl) (by kernel_rfl) rfl rfl rfl rfl rfl ((show runC (phi Tb GT sg) Tb GT p41300.code (startAT p41300 (mkST p41300.ins [.tr .expH a0.id a0.n, .int .i64 a1] p41300.bins [.ar A])) (finT p41300 s41300) = _ by kernel_rfl).trans h)

theorem laws_markStmtS_p_l1_le (t0 : Hd) (t1 : Int) (t5 : Int) (b99 : List Ent) : Tv.Le
 ((bif (decide (t5 < ((t0.n : Nat) : Int))) then
bnd (idxN t0.n t5) fun i1 =>
bnd (arRow b99 .stmH t0.id i1) fun e2 =>
bnd (idxN t0.n t5) fun i3 =>
bnd (arRow (arSet b99 .stmH t0.id i1 (⟨t1, e2.var, e2.box, e2.eop, e2.en, e2.args, e2.body, e2.els⟩ : StmH)) .stmH t0.id i3) fun e4 =>
bnd (idxN t0.n t5) fun i5 =>
bnd (arRow (arSet (arSet b99 .stmH t0.id i1 (⟨t1, e2.var, e2.box, e2.eop, e2.en, e2.args, e2.body, e2.els⟩ : StmH)) .stmH t0.id i3 (⟨e4.kind, (wrap64 (t1 + 1)), e4.box, e4.eop, e4.en, e4.args, e4.body, e4.els⟩ : StmH)) .stmH t0.id i5) fun e6 =>
bnd (idxN t0.n t5) fun i7 =>
bnd (arRow (arSet (arSet (arSet b99 .stmH t0.id i1 (⟨t1, e2.var, e2.box, e2.eop, e2.en, e2.args, e2.body, e2.els⟩ : StmH)) .stmH t0.id i3 (⟨e4.kind, (wrap64 (t1 + 1)), e4.box, e4.eop, e4.en, e4.args, e4.body, e4.els⟩ : StmH)) .stmH t0.id i5 (⟨e6.kind, e6.var, (wrap64 ((wrap64 (t1 + 1)) + 1)), e6.eop, e6.en, e6.args, e6.body, e6.els⟩ : StmH)) .stmH t0.id i7) fun e8 =>
bnd (idxN t0.n t5) fun i9 =>
bnd (arRow (arSet (arSet (arSet (arSet b99 .stmH t0.id i1 (⟨t1, e2.var, e2.box, e2.eop, e2.en, e2.args, e2.body, e2.els⟩ : StmH)) .stmH t0.id i3 (⟨e4.kind, (wrap64 (t1 + 1)), e4.box, e4.eop, e4.en, e4.args, e4.body, e4.els⟩ : StmH)) .stmH t0.id i5 (⟨e6.kind, e6.var, (wrap64 ((wrap64 (t1 + 1)) + 1)), e6.eop, e6.en, e6.args, e6.body, e6.els⟩ : StmH)) .stmH t0.id i7 (⟨e8.kind, e8.var, e8.box, (wrap64 ((wrap64 ((wrap64 (t1 + 1)) + 1)) + 1)), e8.en, e8.args, e8.body, e8.els⟩ : StmH)) .stmH t0.id i9) fun e10 =>
bnd (idxN t0.n t5) fun i11 =>
bnd (arRow (arSet (arSet (arSet (arSet (arSet b99 .stmH t0.id i1 (⟨t1, e2.var, e2.box, e2.eop, e2.en, e2.args, e2.body, e2.els⟩ : StmH)) .stmH t0.id i3 (⟨e4.kind, (wrap64 (t1 + 1)), e4.box, e4.eop, e4.en, e4.args, e4.body, e4.els⟩ : StmH)) .stmH t0.id i5 (⟨e6.kind, e6.var, (wrap64 ((wrap64 (t1 + 1)) + 1)), e6.eop, e6.en, e6.args, e6.body, e6.els⟩ : StmH)) .stmH t0.id i7 (⟨e8.kind, e8.var, e8.box, (wrap64 ((wrap64 ((wrap64 (t1 + 1)) + 1)) + 1)), e8.en, e8.args, e8.body, e8.els⟩ : StmH)) .stmH t0.id i9 (⟨e10.kind, e10.var, e10.box, e10.eop, (wrap64 ((wrap64 ((wrap64 ((wrap64 (t1 + 1)) + 1)) + 1)) + 1)), e10.args, e10.body, e10.els⟩ : StmH)) .stmH t0.id i11) fun e12 =>
bnd (laws_markExprS_p e12.args (wrap64 ((wrap64 ((wrap64 ((wrap64 ((wrap64 (t1 + 1)) + 1)) + 1)) + 1)) + 1)) (arSet (arSet (arSet (arSet (arSet b99 .stmH t0.id i1 (⟨t1, e2.var, e2.box, e2.eop, e2.en, e2.args, e2.body, e2.els⟩ : StmH)) .stmH t0.id i3 (⟨e4.kind, (wrap64 (t1 + 1)), e4.box, e4.eop, e4.en, e4.args, e4.body, e4.els⟩ : StmH)) .stmH t0.id i5 (⟨e6.kind, e6.var, (wrap64 ((wrap64 (t1 + 1)) + 1)), e6.eop, e6.en, e6.args, e6.body, e6.els⟩ : StmH)) .stmH t0.id i7 (⟨e8.kind, e8.var, e8.box, (wrap64 ((wrap64 ((wrap64 (t1 + 1)) + 1)) + 1)), e8.en, e8.args, e8.body, e8.els⟩ : StmH)) .stmH t0.id i9 (⟨e10.kind, e10.var, e10.box, e10.eop, (wrap64 ((wrap64 ((wrap64 ((wrap64 (t1 + 1)) + 1)) + 1)) + 1)), e10.args, e10.body, e10.els⟩ : StmH))) fun r13 =>
bnd (idxN t0.n t5) fun i14 =>
bnd (arRow r13.2 .stmH t0.id i14) fun e15 =>
bnd (laws_markStmtS_p e15.body r13.1 r13.2) fun r16 =>
bnd (idxN t0.n t5) fun i17 =>
bnd (arRow r16.2 .stmH t0.id i17) fun e18 =>
bnd (laws_markStmtS_p e18.els r16.1 r16.2) fun r19 =>
laws_markStmtS_p_l1 t0 r19.1 (wrap64 (t5 + 1)) r19.2
else
some (t1, b99)) : Option (Int × List Ent))
 (laws_markStmtS_p_l1 t0 t1 t5 b99) := by
 rewrite [← wrapC_eq]
 exact fun r h => loop_le' (F := Tb) (G := GT) (sg := sg) (sig := s40901) (p := p40901) (by kernel_rfl) (by kernel_rfl) rfl rfl rfl ((show runC (phi Tb GT sg) Tb GT p40901.code ((mkST p40901.ins [.tr .stmH t0.id t0.n, .int .i64 t1, .int .i64 t5] p40901.bins [.ar b99])) (finL Tb GT 40901 p40901 s40901) = _ by kernel_rfl).trans h)

theorem laws_szStmt_le (a0 : Stm) (a1 : Int) : Tv.Le
 (bnd (laws_szExpr (⟨a0.e.op, a0.e.n, a0.e.args⟩ : Exp) a1) fun r1 =>
(bif (decide (r1 < 0)) then
some (-1)
else
bnd (laws_szStmtS a0.body r1) fun r2 =>
(bif (decide (r2 < 0)) then
some (-1)
else
bnd (laws_szStmtS a0.els r2) fun r3 =>
(bif (decide (r3 < 0)) then
some (-1)
else
some r3))) : Option (Int))
 (laws_szStmt a0 a1) := by
 exact fun r h => fn_le' (F := Tb) (G := GT) (sg := sg) (sig := s7000) (p := p7000) (by kernel_rfl) (by kernel_rfl) rfl rfl rfl rfl rfl ((show runC (phi Tb GT sg) Tb GT p7000.code (startAT p7000 (mkST p7000.ins [.agg (rowT .stm a0), .int .i64 a1] p7000.bins [])) (finT p7000 s7000) = _ by kernel_rfl).trans h)

theorem laws_szStmtS_l1_le (t0 : List Stm) (t1 : Int) (t5 : Int) : Tv.Le
 ((bif (decide (t5 < (t0.length : Int))) then
bnd (geti t0 t5) fun e1 =>
bnd (laws_szStmt (⟨e1.kind, e1.var, e1.box, ⟨e1.e.op, e1.e.n, e1.e.args⟩, e1.body, e1.els⟩ : Stm) t1) fun r2 =>
(bif (decide (r2 < 0)) then
some (.inr (r2, (-1)))
else
laws_szStmtS_l1 t0 r2 (wrap64 (t5 + 1)))
else
some (.inl t1)) : Option (Int ⊕ (Int × Int)))
 (laws_szStmtS_l1 t0 t1 t5) := by
 rewrite [← wrapC_eq]
 exact fun r h => loop_le' (F := Tb) (G := GT) (sg := sg) (sig := s7101) (p := p7101) (by kernel_rfl) (by kernel_rfl) rfl rfl rfl ((show runC (phi Tb GT sg) Tb GT p7101.code ((mkST p7101.ins [.sl .share .stm t0, .int .i64 t1, .int .i64 t5] p7101.bins [])) (finL Tb GT 7101 p7101 s7101) = _ by kernel_rfl).trans h)

theorem laws_toStmt_le (a0 : Stm) : Tv.Le
 (bnd (laws_toExpr (⟨a0.e.op, a0.e.n, a0.e.args⟩ : Exp)) fun r1 =>
bnd (laws_toStmtS a0.body) fun r2 =>
bnd (laws_toStmtS a0.els) fun r3 =>
some (⟨a0.kind, a0.var, a0.box, ⟨r1.op, r1.n, r1.args⟩, r2, r3⟩) : Option (Stm))
 (laws_toStmt a0) := by
 exact fun r h => fn_le' (F := Tb) (G := GT) (sg := sg) (sig := s7600) (p := p7600) (by kernel_rfl) (by kernel_rfl) rfl rfl rfl rfl rfl ((show runC (phi Tb GT sg) Tb GT p7600.code (startAT p7600 (mkST p7600.ins [.agg (rowT .stm a0)] p7600.bins [])) (finT p7600 s7600) = _ by kernel_rfl).trans h)

theorem laws_toStmtS_l1_le (t0 : List Stm) (t4 : Int) (b100 : List Stm) : Tv.Le
 ((bif (decide (t4 < (t0.length : Int))) then
bnd (geti t0 t4) fun e1 =>
bnd (laws_toStmt (⟨e1.kind, e1.var, e1.box, ⟨e1.e.op, e1.e.n, e1.e.args⟩, e1.body, e1.els⟩ : Stm)) fun r2 =>
bnd (geti b100 t4) fun _ =>
bnd (b100[(Int.toNat t4)]?) fun e4 =>
laws_toStmtS_l1 t0 (wrap64 (t4 + 1)) (b100.set (Int.toNat t4) (⟨r2.kind, r2.var, r2.box, ⟨r2.e.op, r2.e.n, r2.e.args⟩, r2.body, r2.els⟩))
else
some b100) : Option (List Stm))
 (laws_toStmtS_l1 t0 t4 b100) := by
 rewrite [← wrapC_eq]
 exact fun r h => loop_le' (F := Tb) (G := GT) (sg := sg) (sig := s7701) (p := p7701) (by kernel_rfl) (by kernel_rfl) rfl rfl rfl ((show runC (phi Tb GT sg) Tb GT p7701.code ((mkST p7701.ins [.sl .share .stm t0, .bs 100, .int .i64 t4] p7701.bins [.rows .stm b100])) (finL Tb GT 7701 p7701 s7701) = _ by kernel_rfl).trans h)

theorem spec_l11Blocks_le (a0 : List Stm) (a1 : Int) : Tv.Le
 (bnd (spec_l11Blocks_l1 a0 a1 0) fun r1 =>
selm r1 (fun y2 =>
some true) (fun z3 =>
some z3) : Option (Bool))
 (spec_l11Blocks a0 a1) := by
 exact fun r h => fn_le' (F := Tb) (G := GT) (sg := sg) (sig := s6200) (p := p6200) (by kernel_rfl) (by kernel_rfl) rfl rfl rfl rfl rfl ((show runC (phi Tb GT sg) Tb GT p6200.code (startAT p6200 (mkST p6200.ins [.sl .share .stm a0, .int .i64 a1] p6200.bins [])) (finT p6200 s6200) = _ by kernel_rfl).trans h)

theorem spec_l11Count_le (a0 : List Stm) : Tv.Le
 (bnd (spec_l11Count_l1 a0 0 0) fun r1 =>
some r1 : Option (Int))
 (spec_l11Count a0) := by
 exact fun r h => fn_le' (F := Tb) (G := GT) (sg := sg) (sig := s4000) (p := p4000) (by kernel_rfl) (by kernel_rfl) rfl rfl rfl rfl rfl ((show runC (phi Tb GT sg) Tb GT p4000.code (startAT p4000 (mkST p4000.ins [.sl .share .stm a0] p4000.bins [])) (finT p4000 s4000) = _ by kernel_rfl).trans h)

theorem laws_toStmt_p_le (a0 : Stm) (A : List Ent) : Tv.Le
 (bnd (laws_toExpr_p (⟨a0.e.op, a0.e.n, a0.e.args⟩ : Exp) A) fun r1 =>
bnd (laws_toStmtS_p a0.body r1.2) fun r2 =>
bnd (laws_toStmtS_p a0.els r2.2) fun r3 =>
some (⟨a0.kind, a0.var, a0.box, r1.1.op, r1.1.n, r1.1.args, r2.1, r3.1⟩, r3.2) : Option (StmH × List Ent))
 (laws_toStmt_p a0 A) := by
 exact fun r h => fn_le' (F := Tb) (G := GT) (sg := sg) (sig := s41200) (p := p41200) (by kernel_rfl) (by kernel_rfl) rfl rfl rfl rfl rfl ((show runC (phi Tb GT sg) Tb GT p41200.code (startAT p41200 (mkST p41200.ins [.agg (rowT .stm a0)] p41200.bins [.ar A])) (finT p41200 s41200) = _ by kernel_rfl).trans h)

theorem laws_toStmtS_p_l1_le (t0 : List Stm) (t3 : Hd) (t4 : Int) (b99 : List Ent) : Tv.Le
 ((bif (decide (t4 < (t0.length : Int))) then
bnd (geti t0 t4) fun e1 =>
bnd (laws_toStmt_p (⟨e1.kind, e1.var, e1.box, ⟨e1.e.op, e1.e.n, e1.e.args⟩, e1.body, e1.els⟩ : Stm) b99) fun r2 =>
bnd (idxN t3.n t4) fun i3 =>
bnd (arRow r2.2 .stmH t3.id i3) fun e4 =>
laws_toStmtS_p_l1 t0 t3 (wrap64 (t4 + 1)) (arSet r2.2 .stmH t3.id i3 r2.1)
else
some (t3, b99)) : Option (Hd × List Ent))
 (laws_toStmtS_p_l1 t0 t3 t4 b99) := by
 rewrite [← wrapC_eq]
 exact fun r h => loop_le' (F := Tb) (G := GT) (sg := sg) (sig := s40801) (p := p40801) (by kernel_rfl) (by kernel_rfl) rfl rfl rfl ((show runC (phi Tb GT sg) Tb GT p40801.code ((mkST p40801.ins [.sl .share .stm t0, .tr .stmH t3.id t3.n, .int .i64 t4] p40801.bins [.ar b99])) (finL Tb GT 40801 p40801 s40801) = _ by kernel_rfl).trans h)

theorem impl_WordValid_le (a0 : Int) : Tv.Le
 ((bif (decide ((-2147483648) ≤ a0)) then
some (decide (a0 ≤ 2147483647))
else
some false) : Option (Bool))
 (impl_WordValid a0) := by
 exact fun r h => fn_le' (F := Tb) (G := GT) (sg := sg) (sig := s5000) (p := p5000) (by kernel_rfl) (by kernel_rfl) rfl rfl rfl rfl rfl ((show runC (phi Tb GT sg) Tb GT p5000.code (startAT p5000 (mkST p5000.ins [.int .i64 a0] p5000.bins [])) (finT p5000 s5000) = _ by kernel_rfl).trans h)

theorem impl_areWords_l1_le (t5 : List Int) (t6 : Int) (t7 : Int) : Tv.Le
 ((bif (decide (t7 < t6)) then
bnd (geti t5 t7) fun e1 =>
bnd (impl_WordValid e1) fun r2 =>
(bif (!r2) then
some (.inr false)
else
impl_areWords_l1 t5 t6 (wrap64 (t7 + 1)))
else
some (.inl ())) : Option (Unit ⊕ Bool))
 (impl_areWords_l1 t5 t6 t7) := by
 rewrite [← wrapC_eq]
 exact fun r h => loop_le' (F := Tb) (G := GT) (sg := sg) (sig := s5101) (p := p5101) (by kernel_rfl) (by kernel_rfl) rfl rfl rfl ((show runC (phi Tb GT sg) Tb GT p5101.code ((mkST p5101.ins [.sl .share .int t5, .int .i64 t6, .int .i64 t7] p5101.bins [])) (finL Tb GT 5101 p5101 s5101) = _ by kernel_rfl).trans h)

theorem impl_blockValid_le (a0 : List Stm) (a1 : Int) (a2 : Int) (a3 : Int) : Tv.Le
 ((bif (decide (16 < (wrap64 (a3 + (a0.length : Int))))) then
some (false, (wrap64 (a3 + (a0.length : Int))))
else
bnd (impl_blockValid_l1 a0 a1 a2 (a0.length : Int) 0 (wrap64 (a3 + (a0.length : Int)))) fun r1 =>
selm r1 (fun y2 =>
some (true, y2)) (fun z3 =>
some (z3.1, z3.2))) : Option (Bool × Int))
 (impl_blockValid a0 a1 a2 a3) := by
 rewrite [← wrapC_eq]
 exact fun r h => fn_le' (F := Tb) (G := GT) (sg := sg) (sig := s5300) (p := p5300) (by kernel_rfl) (by kernel_rfl) rfl rfl rfl rfl rfl ((show runC (phi Tb GT sg) Tb GT p5300.code (startAT p5300 (mkST p5300.ins [.sl .share .stm a0, .int .i64 a1, .int .i64 a2, .bp 0 0] p5300.bins [.var [.int .i64 a3]])) (finT p5300 s5300) = _ by kernel_rfl).trans h)

theorem laws_eqStmt_le (a0 : Stm) (a1 : Stm) : Tv.Le
 ((bif (!decide (a0.kind = a1.kind)) then
some false
else
(bif (!decide (a0.var = a1.var)) then
some false
else
(bif (!decide (a0.box = a1.box)) then
some false
else
bnd (laws_eqExpr (⟨a0.e.op, a0.e.n, a0.e.args⟩ : Exp) (⟨a1.e.op, a1.e.n, a1.e.args⟩ : Exp)) fun r1 =>
(bif (!r1) then
some false
else
bnd (laws_eqStmtS a0.body a1.body) fun r2 =>
(bif (!r2) then
some false
else
bnd (laws_eqStmtS a0.els a1.els) fun r3 =>
(bif (!r3) then
some false
else
some true)))))) : Option (Bool))
 (laws_eqStmt a0 a1) := by
 exact fun r h => fn_le' (F := Tb) (G := GT) (sg := sg) (sig := s8200) (p := p8200) (by kernel_rfl) (by kernel_rfl) rfl rfl rfl rfl rfl ((show runC (phi Tb GT sg) Tb GT p8200.code (startAT p8200 (mkST p8200.ins [.agg (rowT .stm a0), .agg (rowT .stm a1)] p8200.bins [])) (finT p8200 s8200) = _ by kernel_rfl).trans h)

theorem laws_eqStmtS_l1_le (t0 : List Stm) (t1 : List Stm) (t5 : Int) : Tv.Le
 ((bif (decide (t5 < (t0.length : Int))) then
bnd (geti t0 t5) fun e1 =>
bnd (geti t1 t5) fun e2 =>
bnd (laws_eqStmt (⟨e1.kind, e1.var, e1.box, ⟨e1.e.op, e1.e.n, e1.e.args⟩, e1.body, e1.els⟩ : Stm) (⟨e2.kind, e2.var, e2.box, ⟨e2.e.op, e2.e.n, e2.e.args⟩, e2.body, e2.els⟩ : Stm)) fun r3 =>
(bif (!r3) then
some (.inr false)
else
laws_eqStmtS_l1 t0 t1 (wrap64 (t5 + 1)))
else
some (.inl ())) : Option (Unit ⊕ Bool))
 (laws_eqStmtS_l1 t0 t1 t5) := by
 rewrite [← wrapC_eq]
 exact fun r h => loop_le' (F := Tb) (G := GT) (sg := sg) (sig := s8301) (p := p8301) (by kernel_rfl) (by kernel_rfl) rfl rfl rfl ((show runC (phi Tb GT sg) Tb GT p8301.code ((mkST p8301.ins [.sl .share .stm t0, .sl .share .stm t1, .int .i64 t5] p8301.bins [])) (finL Tb GT 8301 p8301 s8301) = _ by kernel_rfl).trans h)

theorem laws_markExprS_p_l1_le (t0 : Hd) (t1 : Int) (t5 : Int) (b99 : List Ent) : Tv.Le
 ((bif (decide (t5 < ((t0.n : Nat) : Int))) then
bnd (idxN t0.n t5) fun i1 =>
bnd (arRow b99 .expH t0.id i1) fun e2 =>
bnd (idxN t0.n t5) fun i3 =>
bnd (arRow (arSet b99 .expH t0.id i1 (⟨t1, e2.n, e2.args⟩ : ExpH)) .expH t0.id i3) fun e4 =>
bnd (idxN t0.n t5) fun i5 =>
bnd (arRow (arSet (arSet b99 .expH t0.id i1 (⟨t1, e2.n, e2.args⟩ : ExpH)) .expH t0.id i3 (⟨e4.op, (wrap64 (t1 + 1)), e4.args⟩ : ExpH)) .expH t0.id i5) fun e6 =>
bnd (laws_markExprS_p e6.args (wrap64 ((wrap64 (t1 + 1)) + 1)) (arSet (arSet b99 .expH t0.id i1 (⟨t1, e2.n, e2.args⟩ : ExpH)) .expH t0.id i3 (⟨e4.op, (wrap64 (t1 + 1)), e4.args⟩ : ExpH))) fun r7 =>
laws_markExprS_p_l1 t0 r7.1 (wrap64 (t5 + 1)) r7.2
else
some (t1, b99)) : Option (Int × List Ent))
 (laws_markExprS_p_l1 t0 t1 t5 b99) := by
 rewrite [← wrapC_eq]
 exact fun r h => loop_le' (F := Tb) (G := GT) (sg := sg) (sig := s41301) (p := p41301) (by kernel_rfl) (by kernel_rfl) rfl rfl rfl ((show runC (phi Tb GT sg) Tb GT p41301.code ((mkST p41301.ins [.tr .expH t0.id t0.n, .int .i64 t1, .int .i64 t5] p41301.bins [.ar b99])) (finL Tb GT 41301 p41301 s41301) = _ by kernel_rfl).trans h)

theorem laws_szExpr_le (a0 : Exp) (a1 : Int) : Tv.Le
 (bnd (laws_szExprS a0.args a1) fun r1 =>
(bif (decide (r1 < 0)) then
some (-1)
else
some r1) : Option (Int))
 (laws_szExpr a0 a1) := by
 exact fun r h => fn_le' (F := Tb) (G := GT) (sg := sg) (sig := s6900) (p := p6900) (by kernel_rfl) (by kernel_rfl) rfl rfl rfl rfl rfl ((show runC (phi Tb GT sg) Tb GT p6900.code (startAT p6900 (mkST p6900.ins [.agg (rowT .exp a0), .int .i64 a1] p6900.bins [])) (finT p6900 s6900) = _ by kernel_rfl).trans h)

theorem laws_toExpr_le (a0 : Exp) : Tv.Le
 (bnd (laws_toExprS a0.args) fun r1 =>
some (⟨a0.op, a0.n, r1⟩) : Option (Exp))
 (laws_toExpr a0) := by
 exact fun r h => fn_le' (F := Tb) (G := GT) (sg := sg) (sig := s7500) (p := p7500) (by kernel_rfl) (by kernel_rfl) rfl rfl rfl rfl rfl ((show runC (phi Tb GT sg) Tb GT p7500.code (startAT p7500 (mkST p7500.ins [.agg (rowT .exp a0)] p7500.bins [])) (finT p7500 s7500) = _ by kernel_rfl).trans h)

theorem spec_l11Ok_le (a0 : Stm) (a1 : Int) : Tv.Le
 ((bif (!decide (a0.kind = 2)) then
(bif (!decide (a0.kind = 3)) then
bnd (spec_l11Simple (⟨a0.kind, a0.var, a0.box, ⟨a0.e.op, a0.e.n, a0.e.args⟩, a0.body, a0.els⟩ : Stm)) fun r1 =>
some r1
else
(bif (decide (a1 < 1)) then
some false
else
(bif (decide (a0.kind = 3)) then
(bif (decide (0 < (a0.els.length : Int))) then
some false
else
bnd (spec_l11Var (⟨a0.kind, a0.var, a0.box, ⟨a0.e.op, a0.e.n, a0.e.args⟩, a0.body, a0.els⟩ : Stm) false) fun r2 =>
(bif r2 then
bnd (spec_l11Box (⟨a0.kind, a0.var, a0.box, ⟨a0.e.op, a0.e.n, a0.e.args⟩, a0.body, a0.els⟩ : Stm) false) fun r3 =>
(bif r3 then
bnd (spec_ExprValid (⟨a0.e.op, a0.e.n, a0.e.args⟩ : Exp)) fun r4 =>
(bif r4 then
bnd (spec_l11Blocks a0.body (wrap64 (a1 - 1))) fun r5 =>
(bif r5 then
bnd (spec_l11Blocks a0.els (wrap64 (a1 - 1))) fun r6 =>
some r6
else
some false)
else
some false)
else
some false)
else
some false))
else
bnd (spec_l11Var (⟨a0.kind, a0.var, a0.box, ⟨a0.e.op, a0.e.n, a0.e.args⟩, a0.body, a0.els⟩ : Stm) false) fun r7 =>
(bif r7 then
bnd (spec_l11Box (⟨a0.kind, a0.var, a0.box, ⟨a0.e.op, a0.e.n, a0.e.args⟩, a0.body, a0.els⟩ : Stm) false) fun r8 =>
(bif r8 then
bnd (spec_ExprValid (⟨a0.e.op, a0.e.n, a0.e.args⟩ : Exp)) fun r9 =>
(bif r9 then
bnd (spec_l11Blocks a0.body (wrap64 (a1 - 1))) fun r10 =>
(bif r10 then
bnd (spec_l11Blocks a0.els (wrap64 (a1 - 1))) fun r11 =>
some r11
else
some false)
else
some false)
else
some false)
else
some false))))
else
(bif (decide (a1 < 1)) then
some false
else
(bif (decide (a0.kind = 3)) then
(bif (decide (0 < (a0.els.length : Int))) then
some false
else
bnd (spec_l11Var (⟨a0.kind, a0.var, a0.box, ⟨a0.e.op, a0.e.n, a0.e.args⟩, a0.body, a0.els⟩ : Stm) false) fun r12 =>
(bif r12 then
bnd (spec_l11Box (⟨a0.kind, a0.var, a0.box, ⟨a0.e.op, a0.e.n, a0.e.args⟩, a0.body, a0.els⟩ : Stm) false) fun r13 =>
(bif r13 then
bnd (spec_ExprValid (⟨a0.e.op, a0.e.n, a0.e.args⟩ : Exp)) fun r14 =>
(bif r14 then
bnd (spec_l11Blocks a0.body (wrap64 (a1 - 1))) fun r15 =>
(bif r15 then
bnd (spec_l11Blocks a0.els (wrap64 (a1 - 1))) fun r16 =>
some r16
else
some false)
else
some false)
else
some false)
else
some false))
else
bnd (spec_l11Var (⟨a0.kind, a0.var, a0.box, ⟨a0.e.op, a0.e.n, a0.e.args⟩, a0.body, a0.els⟩ : Stm) false) fun r17 =>
(bif r17 then
bnd (spec_l11Box (⟨a0.kind, a0.var, a0.box, ⟨a0.e.op, a0.e.n, a0.e.args⟩, a0.body, a0.els⟩ : Stm) false) fun r18 =>
(bif r18 then
bnd (spec_ExprValid (⟨a0.e.op, a0.e.n, a0.e.args⟩ : Exp)) fun r19 =>
(bif r19 then
bnd (spec_l11Blocks a0.body (wrap64 (a1 - 1))) fun r20 =>
(bif r20 then
bnd (spec_l11Blocks a0.els (wrap64 (a1 - 1))) fun r21 =>
some r21
else
some false)
else
some false)
else
some false)
else
some false)))) : Option (Bool))
 (spec_l11Ok a0 a1) := by
 rewrite [← wrapC_eq]
 exact fun r h => fn_le' (F := Tb) (G := GT) (sg := sg) (sig := s6100) (p := p6100) (by kernel_rfl) (by kernel_rfl) rfl rfl rfl rfl rfl ((show runC (phi Tb GT sg) Tb GT p6100.code (startAT p6100 (mkST p6100.ins [.agg (rowT .stm a0), .int .i64 a1] p6100.bins [])) (finT p6100 s6100) = _ by kernel_rfl).trans h)

theorem spec_l11Blocks_l1_le (t0 : List Stm) (t1 : Int) (t5 : Int) : Tv.Le
 ((bif (decide (t5 < (t0.length : Int))) then
bnd (geti t0 t5) fun e1 =>
bnd (spec_l11Ok (⟨e1.kind, e1.var, e1.box, ⟨e1.e.op, e1.e.n, e1.e.args⟩, e1.body, e1.els⟩ : Stm) t1) fun r2 =>
(bif (!r2) then
some (.inr false)
else
spec_l11Blocks_l1 t0 t1 (wrap64 (t5 + 1)))
else
some (.inl ())) : Option (Unit ⊕ Bool))
 (spec_l11Blocks_l1 t0 t1 t5) := by
 rewrite [← wrapC_eq]
 exact fun r h => loop_le' (F := Tb) (G := GT) (sg := sg) (sig := s6201) (p := p6201) (by kernel_rfl) (by kernel_rfl) rfl rfl rfl ((show runC (phi Tb GT sg) Tb GT p6201.code ((mkST p6201.ins [.sl .share .stm t0, .int .i64 t1, .int .i64 t5] p6201.bins [])) (finL Tb GT 6201 p6201 s6201) = _ by kernel_rfl).trans h)

theorem spec_l11Count_l1_le (t0 : List Stm) (t3 : Int) (t4 : Int) : Tv.Le
 ((bif (decide (t4 < (t0.length : Int))) then
bnd (geti t0 t4) fun e1 =>
bnd (spec_l11Count e1.body) fun r2 =>
bnd (geti t0 t4) fun e3 =>
bnd (spec_l11Count e3.els) fun r4 =>
spec_l11Count_l1 t0 (wrap64 ((wrap64 ((wrap64 (t3 + 1)) + r2)) + r4)) (wrap64 (t4 + 1))
else
some t3) : Option (Int))
 (spec_l11Count_l1 t0 t3 t4) := by
 rewrite [← wrapC_eq]
 exact fun r h => loop_le' (F := Tb) (G := GT) (sg := sg) (sig := s4001) (p := p4001) (by kernel_rfl) (by kernel_rfl) rfl rfl rfl ((show runC (phi Tb GT sg) Tb GT p4001.code ((mkST p4001.ins [.sl .share .stm t0, .int .i64 t3, .int .i64 t4] p4001.bins [])) (finL Tb GT 4001 p4001 s4001) = _ by kernel_rfl).trans h)

theorem laws_toExpr_p_le (a0 : Exp) (A : List Ent) : Tv.Le
 (bnd (laws_toExprS_p a0.args A) fun r1 =>
some (⟨a0.op, a0.n, r1.1⟩, r1.2) : Option (ExpH × List Ent))
 (laws_toExpr_p a0 A) := by
 exact fun r h => fn_le' (F := Tb) (G := GT) (sg := sg) (sig := s41500) (p := p41500) (by kernel_rfl) (by kernel_rfl) rfl rfl rfl rfl rfl ((show runC (phi Tb GT sg) Tb GT p41500.code (startAT p41500 (mkST p41500.ins [.agg (rowT .exp a0)] p41500.bins [.ar A])) (finT p41500 s41500) = _ by kernel_rfl).trans h)

theorem impl_stmtValid_le (a0 : Stm) (a1 : Int) : Tv.Le
 ((bif (decide (a0.kind = 1)) then
bnd (impl_stmtValid_1 a0.var 4 true) fun r1 =>
(bif (!r1) then
some false
else
bnd (impl_stmtValid_1 a0.box a1 false) fun r2 =>
(bif (!r2) then
some false
else
bnd (impl_ExprValid (⟨a0.e.op, a0.e.n, a0.e.args⟩ : Exp)) fun r3 =>
(bif (!r3) then
some false
else
(bif (decide ((a0.body.length : Int) = 0)) then
some (decide ((a0.els.length : Int) = 0))
else
some false))))
else
(bif (decide (a0.kind = 2)) then
bnd (impl_stmtValid_1 a0.var 4 false) fun r4 =>
(bif (!r4) then
some false
else
bnd (impl_stmtValid_1 a0.box a1 false) fun r5 =>
(bif (!r5) then
some false
else
bnd (impl_ExprValid (⟨a0.e.op, a0.e.n, a0.e.args⟩ : Exp)) fun r6 =>
(bif (!r6) then
some false
else
some true)))
else
(bif (decide (a0.kind = 3)) then
bnd (impl_stmtValid_1 a0.var 4 false) fun r7 =>
(bif (!r7) then
some false
else
bnd (impl_stmtValid_1 a0.box a1 false) fun r8 =>
(bif (!r8) then
some false
else
bnd (impl_ExprValid (⟨a0.e.op, a0.e.n, a0.e.args⟩ : Exp)) fun r9 =>
(bif (!r9) then
some false
else
some (decide ((a0.els.length : Int) = 0)))))
else
(bif (decide (a0.kind = 4)) then
bnd (impl_stmtValid_1 a0.var 4 false) fun r10 =>
(bif (!r10) then
some false
else
bnd (impl_stmtValid_1 a0.box a1 true) fun r11 =>
(bif (!r11) then
some false
else
(bif (decide (a1 ≤ a0.box)) then
some false
else
bnd (impl_ExprValid (⟨a0.e.op, a0.e.n, a0.e.args⟩ : Exp)) fun r12 =>
(bif (!r12) then
some false
else
(bif (decide ((a0.body.length : Int) = 0)) then
some (decide ((a0.els.length : Int) = 0))
else
some false)))))
else
(bif (decide (a0.kind = 5)) then
bnd (impl_stmtValid_1 a0.var 4 true) fun r13 =>
(bif (!r13) then
some false
else
bnd (impl_stmtValid_1 a0.box a1 true) fun r14 =>
(bif (!r14) then
some false
else
(bif (decide (a1 ≤ a0.box)) then
some false
else
(bif (!decide (a0.e.op = 0)) then
some false
else
(bif (!decide (a0.e.n = 0)) then
some false
else
(bif (decide (0 < (a0.e.args.length : Int))) then
some false
else
(bif (decide ((a0.body.length : Int) = 0)) then
some (decide ((a0.els.length : Int) = 0))
else
some false)))))))
else
(bif (decide (a0.kind = 7)) then
bnd (impl_stmtValid_1 a0.var 4 false) fun r15 =>
(bif (!r15) then
some false
else
bnd (impl_stmtValid_1 a0.box a1 false) fun r16 =>
(bif (!r16) then
some false
else
bnd (impl_ExprValid (⟨a0.e.op, a0.e.n, a0.e.args⟩ : Exp)) fun r17 =>
(bif (!r17) then
some false
else
(bif (decide ((a0.body.length : Int) = 0)) then
some (decide ((a0.els.length : Int) = 0))
else
some false))))
else
(bif (decide (a0.kind = 6)) then
bnd (impl_stmtValid_1 a0.var 4 false) fun r18 =>
(bif (!r18) then
some false
else
bnd (impl_stmtValid_1 a0.box a1 false) fun r19 =>
(bif (!r19) then
some false
else
(bif (!decide (a0.e.op = 0)) then
some false
else
(bif (!decide (a0.e.n = 0)) then
some false
else
(bif (decide (0 < (a0.e.args.length : Int))) then
some false
else
(bif (decide ((a0.body.length : Int) = 0)) then
some (decide ((a0.els.length : Int) = 0))
else
some false))))))
else
some false))))))) : Option (Bool))
 (impl_stmtValid a0 a1) := by
 exact fun r h => fn_le' (F := Tb) (G := GT) (sg := sg) (sig := s5200) (p := p5200) (by kernel_rfl) (by kernel_rfl) rfl rfl rfl rfl rfl ((show runC (phi Tb GT sg) Tb GT p5200.code (startAT p5200 (mkST p5200.ins [.rp (rowT .stm a0) 0, .int .i64 a1] p5200.bins [])) (finT p5200 s5200) = _ by kernel_rfl).trans h)

theorem impl_blockValid_l1_le (t0 : List Stm) (t1 : Int) (t2 : Int) (t23 : Int) (t24 : Int) (b0_0 : Int) : Tv.Le
 ((bif (decide (t24 < t23)) then
bnd (geti t0 t24) fun e1 =>
bnd (impl_stmtValid (⟨e1.kind, e1.var, e1.box, ⟨e1.e.op, e1.e.n, e1.e.args⟩, e1.body, e1.els⟩ : Stm) t1) fun r2 =>
(bif (!r2) then
some (.inr (false, b0_0))
else
(bif (decide (3 < t2)) then
some (.inr (false, b0_0))
else
(bif (!decide (e1.kind = 2)) then
(bif (!decide (e1.kind = 3)) then
impl_blockValid_l1 t0 t1 t2 t23 (wrap64 (t24 + 1)) b0_0
else
(bif (decide (3 ≤ t2)) then
some (.inr (false, b0_0))
else
bnd (impl_blockValid e1.body t1 (wrap64 (t2 + 1)) b0_0) fun r3 =>
(bif (!r3.1) then
some (.inr (false, r3.2))
else
bnd (impl_blockValid e1.els t1 (wrap64 (t2 + 1)) r3.2) fun r4 =>
(bif (!r4.1) then
some (.inr (false, r4.2))
else
impl_blockValid_l1 t0 t1 t2 t23 (wrap64 (t24 + 1)) r4.2))))
else
(bif (decide (3 ≤ t2)) then
some (.inr (false, b0_0))
else
bnd (impl_blockValid e1.body t1 (wrap64 (t2 + 1)) b0_0) fun r5 =>
(bif (!r5.1) then
some (.inr (false, r5.2))
else
bnd (impl_blockValid e1.els t1 (wrap64 (t2 + 1)) r5.2) fun r6 =>
(bif (!r6.1) then
some (.inr (false, r6.2))
else
impl_blockValid_l1 t0 t1 t2 t23 (wrap64 (t24 + 1)) r6.2))))))
else
some (.inl b0_0)) : Option (Int ⊕ (Bool × Int)))
 (impl_blockValid_l1 t0 t1 t2 t23 t24 b0_0) := by
 rewrite [← wrapC_eq]
 exact fun r h => loop_le' (F := Tb) (G := GT) (sg := sg) (sig := s5301) (p := p5301) (by kernel_rfl) (by kernel_rfl) rfl rfl rfl ((show runC (phi Tb GT sg) Tb GT p5301.code ((mkST p5301.ins [.sl .share .stm t0, .int .i64 t1, .int .i64 t2, .bp 0 0, .int .i64 t23, .int .i64 t24] p5301.bins [.var [.int .i64 b0_0]])) (finL Tb GT 5301 p5301 s5301) = _ by kernel_rfl).trans h)

theorem laws_eqExpr_le (a0 : Exp) (a1 : Exp) : Tv.Le
 ((bif (!decide (a0.op = a1.op)) then
some false
else
(bif (!decide (a0.n = a1.n)) then
some false
else
bnd (laws_eqExprS a0.args a1.args) fun r1 =>
(bif (!r1) then
some false
else
some true))) : Option (Bool))
 (laws_eqExpr a0 a1) := by
 exact fun r h => fn_le' (F := Tb) (G := GT) (sg := sg) (sig := s8100) (p := p8100) (by kernel_rfl) (by kernel_rfl) rfl rfl rfl rfl rfl ((show runC (phi Tb GT sg) Tb GT p8100.code (startAT p8100 (mkST p8100.ins [.agg (rowT .exp a0), .agg (rowT .exp a1)] p8100.bins [])) (finT p8100 s8100) = _ by kernel_rfl).trans h)

theorem laws_szExprS_le (a0 : List Exp) (a1 : Int) : Tv.Le
 ((bif (decide ((wrap64 (a1 - (a0.length : Int))) < 0)) then
some (-1)
else
bnd (laws_szExprS_l1 a0 (wrap64 (a1 - (a0.length : Int))) 0) fun r1 =>
selm r1 (fun y2 =>
some y2) (fun z3 =>
some z3.2)) : Option (Int))
 (laws_szExprS a0 a1) := by
 rewrite [← wrapC_eq]
 exact fun r h => fn_le' (F := Tb) (G := GT) (sg := sg) (sig := s6800) (p := p6800) (by kernel_rfl) (by kernel_rfl) rfl rfl rfl rfl rfl ((show runC (phi Tb GT sg) Tb GT p6800.code (startAT p6800 (mkST p6800.ins [.sl .share .exp a0, .int .i64 a1] p6800.bins [])) (finT p6800 s6800) = _ by kernel_rfl).trans h)

theorem laws_toExprS_le (a0 : List Exp) : Tv.Le
 (bnd (made (a0.length : Int)) fun n1 =>
bnd (laws_toExprS_l1 a0 0 (List.replicate n1 (zeroD .exp))) fun r2 =>
some r2 : Option (List Exp))
 (laws_toExprS a0) := by
 exact fun r h => fn_le' (F := Tb) (G := GT) (sg := sg) (sig := s7400) (p := p7400) (by kernel_rfl) (by kernel_rfl) rfl rfl rfl rfl rfl ((show runC (phi Tb GT sg) Tb GT p7400.code (startAT p7400 (mkST p7400.ins [.sl .share .exp a0] p7400.bins [])) (finT p7400 s7400) = _ by kernel_rfl).trans h)

theorem spec_l11Simple_le (a0 : Stm) : Tv.Le
 ((bif (decide (0 < (a0.body.length : Int))) then
some false
else
(bif (decide (0 < (a0.els.length : Int))) then
some false
else
(bif (decide (a0.kind = 1)) then
bnd (spec_l11Var (⟨a0.kind, a0.var, a0.box, ⟨a0.e.op, a0.e.n, a0.e.args⟩, a0.body, a0.els⟩ : Stm) true) fun r1 =>
(bif r1 then
bnd (spec_l11Box (⟨a0.kind, a0.var, a0.box, ⟨a0.e.op, a0.e.n, a0.e.args⟩, a0.body, a0.els⟩ : Stm) false) fun r2 =>
(bif r2 then
bnd (spec_ExprValid (⟨a0.e.op, a0.e.n, a0.e.args⟩ : Exp)) fun r3 =>
some r3
else
some false)
else
some false)
else
(bif (decide (a0.kind = 4)) then
bnd (spec_l11Var (⟨a0.kind, a0.var, a0.box, ⟨a0.e.op, a0.e.n, a0.e.args⟩, a0.body, a0.els⟩ : Stm) false) fun r4 =>
(bif r4 then
bnd (spec_l11Box (⟨a0.kind, a0.var, a0.box, ⟨a0.e.op, a0.e.n, a0.e.args⟩, a0.body, a0.els⟩ : Stm) true) fun r5 =>
(bif r5 then
bnd (spec_ExprValid (⟨a0.e.op, a0.e.n, a0.e.args⟩ : Exp)) fun r6 =>
some r6
else
some false)
else
some false)
else
(bif (decide (a0.kind = 5)) then
bnd (spec_l11Var (⟨a0.kind, a0.var, a0.box, ⟨a0.e.op, a0.e.n, a0.e.args⟩, a0.body, a0.els⟩ : Stm) true) fun r7 =>
(bif r7 then
bnd (spec_l11Box (⟨a0.kind, a0.var, a0.box, ⟨a0.e.op, a0.e.n, a0.e.args⟩, a0.body, a0.els⟩ : Stm) true) fun r8 =>
(bif r8 then
bnd (spec_l11Plain (⟨a0.e.op, a0.e.n, a0.e.args⟩ : Exp)) fun r9 =>
some r9
else
some false)
else
some false)
else
(bif (decide (a0.kind = 6)) then
bnd (spec_l11Var (⟨a0.kind, a0.var, a0.box, ⟨a0.e.op, a0.e.n, a0.e.args⟩, a0.body, a0.els⟩ : Stm) false) fun r10 =>
(bif r10 then
bnd (spec_l11Box (⟨a0.kind, a0.var, a0.box, ⟨a0.e.op, a0.e.n, a0.e.args⟩, a0.body, a0.els⟩ : Stm) false) fun r11 =>
(bif r11 then
bnd (spec_l11Plain (⟨a0.e.op, a0.e.n, a0.e.args⟩ : Exp)) fun r12 =>
some r12
else
some false)
else
some false)
else
(bif (decide (a0.kind = 7)) then
bnd (spec_l11Var (⟨a0.kind, a0.var, a0.box, ⟨a0.e.op, a0.e.n, a0.e.args⟩, a0.body, a0.els⟩ : Stm) false) fun r13 =>
(bif r13 then
bnd (spec_l11Box (⟨a0.kind, a0.var, a0.box, ⟨a0.e.op, a0.e.n, a0.e.args⟩, a0.body, a0.els⟩ : Stm) false) fun r14 =>
(bif r14 then
bnd (spec_ExprValid (⟨a0.e.op, a0.e.n, a0.e.args⟩ : Exp)) fun r15 =>
some r15
else
some false)
else
some false)
else
some false))))))) : Option (Bool))
 (spec_l11Simple a0) := by
 exact fun r h => fn_le' (F := Tb) (G := GT) (sg := sg) (sig := s6000) (p := p6000) (by kernel_rfl) (by kernel_rfl) rfl rfl rfl rfl rfl ((show runC (phi Tb GT sg) Tb GT p6000.code (startAT p6000 (mkST p6000.ins [.agg (rowT .stm a0)] p6000.bins [])) (finT p6000 s6000) = _ by kernel_rfl).trans h)

theorem spec_l11Var_le (a0 : Stm) (a1 : Bool) : Tv.Le
 ((bif a1 then
bnd (spec_l6In a0.var 0 3) fun r1 =>
some r1
else
some (decide (a0.var = 0))) : Option (Bool))
 (spec_l11Var a0 a1) := by
 exact fun r h => fn_le' (F := Tb) (G := GT) (sg := sg) (sig := s5700) (p := p5700) (by kernel_rfl) (by kernel_rfl) rfl rfl rfl rfl rfl ((show runC (phi Tb GT sg) Tb GT p5700.code (startAT p5700 (mkST p5700.ins [.agg (rowT .stm a0), .bool a1] p5700.bins [])) (finT p5700 s5700) = _ by kernel_rfl).trans h)

theorem spec_l11Box_le (a0 : Stm) (a1 : Bool) : Tv.Le
 ((bif a1 then
bnd (spec_l6In a0.box 0 2) fun r1 =>
some r1
else
some (decide (a0.box = 0))) : Option (Bool))
 (spec_l11Box a0 a1) := by
 exact fun r h => fn_le' (F := Tb) (G := GT) (sg := sg) (sig := s5800) (p := p5800) (by kernel_rfl) (by kernel_rfl) rfl rfl rfl rfl rfl ((show runC (phi Tb GT sg) Tb GT p5800.code (startAT p5800 (mkST p5800.ins [.agg (rowT .stm a0), .bool a1] p5800.bins [])) (finT p5800 s5800) = _ by kernel_rfl).trans h)

theorem spec_ExprValid_le (a0 : Exp) : Tv.Le
 (bnd (spec_l4Ok (⟨a0.op, a0.n, a0.args⟩ : Exp) 5) fun r1 =>
some r1 : Option (Bool))
 (spec_ExprValid a0) := by
 exact fun r h => fn_le' (F := Tb) (G := GT) (sg := sg) (sig := s1900) (p := p1900) (by kernel_rfl) (by kernel_rfl) rfl rfl rfl rfl rfl ((show runC (phi Tb GT sg) Tb GT p1900.code (startAT p1900 (mkST p1900.ins [.agg (rowT .exp a0)] p1900.bins [])) (finT p1900 s1900) = _ by kernel_rfl).trans h)

theorem laws_toExprS_p_le (a0 : List Exp) (A : List Ent) : Tv.Le
 (bnd (made (a0.length : Int)) fun n1 =>
bnd (laws_toExprS_p_l1 a0 (⟨(some (List.length A)), n1⟩ : Hd) 0 (arPush A .expH (List.replicate n1 (zeroD .expH)))) fun r2 =>
some (r2.1, r2.2) : Option (Hd × List Ent))
 (laws_toExprS_p a0 A) := by
 exact fun r h => fn_le' (F := Tb) (G := GT) (sg := sg) (sig := s41600) (p := p41600) (by kernel_rfl) (by kernel_rfl) rfl rfl rfl rfl rfl ((show runC (phi Tb GT sg) Tb GT p41600.code (startAT p41600 (mkST p41600.ins [.sl .share .exp a0] p41600.bins [.ar A])) (finT p41600 s41600) = _ by kernel_rfl).trans h)

theorem impl_stmtValid_1_le (a0 : Int) (a1 : Int) (a2 : Bool) : Tv.Le
 ((bif (decide (a0 = 0)) then
some true
else
(bif a2 then
(bif (decide (0 < a0)) then
some (decide (a0 < a1))
else
some false)
else
some false)) : Option (Bool))
 (impl_stmtValid_1 a0 a1 a2) := by
 exact fun r h => fn_le' (F := Tb) (G := GT) (sg := sg) (sig := s11100) (p := p11100) (by kernel_rfl) (by kernel_rfl) rfl rfl rfl rfl rfl ((show runC (phi Tb GT sg) Tb GT p11100.code (startAT p11100 (mkST p11100.ins [.int .i64 a0, .int .i64 a1, .bool a2] p11100.bins [])) (finT p11100 s11100) = _ by kernel_rfl).trans h)

theorem impl_ExprValid_le (a0 : Exp) : Tv.Le
 (bnd (impl_exprValid (⟨a0.op, a0.n, a0.args⟩ : Exp) 5) fun r1 =>
some r1 : Option (Bool))
 (impl_ExprValid a0) := by
 exact fun r h => fn_le' (F := Tb) (G := GT) (sg := sg) (sig := s1200) (p := p1200) (by kernel_rfl) (by kernel_rfl) rfl rfl rfl rfl rfl ((show runC (phi Tb GT sg) Tb GT p1200.code (startAT p1200 (mkST p1200.ins [.agg (rowT .exp a0)] p1200.bins [])) (finT p1200 s1200) = _ by kernel_rfl).trans h)

theorem laws_eqExprS_le (a0 : List Exp) (a1 : List Exp) : Tv.Le
 ((bif (!decide ((a0.length : Int) = (a1.length : Int))) then
some false
else
bnd (laws_eqExprS_l1 a0 a1 0) fun r1 =>
selm r1 (fun y2 =>
some true) (fun z3 =>
some z3)) : Option (Bool))
 (laws_eqExprS a0 a1) := by
 exact fun r h => fn_le' (F := Tb) (G := GT) (sg := sg) (sig := s8000) (p := p8000) (by kernel_rfl) (by kernel_rfl) rfl rfl rfl rfl rfl ((show runC (phi Tb GT sg) Tb GT p8000.code (startAT p8000 (mkST p8000.ins [.sl .share .exp a0, .sl .share .exp a1] p8000.bins [])) (finT p8000 s8000) = _ by kernel_rfl).trans h)

theorem laws_szExprS_l1_le (t0 : List Exp) (t1 : Int) (t5 : Int) : Tv.Le
 ((bif (decide (t5 < (t0.length : Int))) then
bnd (geti t0 t5) fun e1 =>
bnd (laws_szExpr (⟨e1.op, e1.n, e1.args⟩ : Exp) t1) fun r2 =>
(bif (decide (r2 < 0)) then
some (.inr (r2, (-1)))
else
laws_szExprS_l1 t0 r2 (wrap64 (t5 + 1)))
else
some (.inl t1)) : Option (Int ⊕ (Int × Int)))
 (laws_szExprS_l1 t0 t1 t5) := by
 rewrite [← wrapC_eq]
 exact fun r h => loop_le' (F := Tb) (G := GT) (sg := sg) (sig := s6801) (p := p6801) (by kernel_rfl) (by kernel_rfl) rfl rfl rfl ((show runC (phi Tb GT sg) Tb GT p6801.code ((mkST p6801.ins [.sl .share .exp t0, .int .i64 t1, .int .i64 t5] p6801.bins [])) (finL Tb GT 6801 p6801 s6801) = _ by kernel_rfl).trans h)

theorem laws_toExprS_l1_le (t0 : List Exp) (t4 : Int) (b100 : List Exp) : Tv.Le
 ((bif (decide (t4 < (t0.length : Int))) then
bnd (geti t0 t4) fun e1 =>
bnd (laws_toExpr (⟨e1.op, e1.n, e1.args⟩ : Exp)) fun r2 =>
bnd (geti b100 t4) fun _ =>
bnd (b100[(Int.toNat t4)]?) fun e4 =>
laws_toExprS_l1 t0 (wrap64 (t4 + 1)) (b100.set (Int.toNat t4) (⟨r2.op, r2.n, r2.args⟩))
else
some b100) : Option (List Exp))
 (laws_toExprS_l1 t0 t4 b100) := by
 rewrite [← wrapC_eq]
 exact fun r h => loop_le' (F := Tb) (G := GT) (sg := sg) (sig := s7401) (p := p7401) (by kernel_rfl) (by kernel_rfl) rfl rfl rfl ((show runC (phi Tb GT sg) Tb GT p7401.code ((mkST p7401.ins [.sl .share .exp t0, .bs 100, .int .i64 t4] p7401.bins [.rows .exp b100])) (finL Tb GT 7401 p7401 s7401) = _ by kernel_rfl).trans h)

theorem spec_l11Plain_le (a0 : Exp) : Tv.Le
 ((bif (decide (a0.op = 0)) then
(bif (decide (a0.n = 0)) then
some (decide ((a0.args.length : Int) = 0))
else
some false)
else
some false) : Option (Bool))
 (spec_l11Plain a0) := by
 exact fun r h => fn_le' (F := Tb) (G := GT) (sg := sg) (sig := s5900) (p := p5900) (by kernel_rfl) (by kernel_rfl) rfl rfl rfl rfl rfl ((show runC (phi Tb GT sg) Tb GT p5900.code (startAT p5900 (mkST p5900.ins [.agg (rowT .exp a0)] p5900.bins [])) (finT p5900 s5900) = _ by kernel_rfl).trans h)

theorem spec_l4Ok_le (a0 : Exp) (a1 : Int) : Tv.Le
 ((bif (decide (a1 < 1)) then
some false
else
(bif (decide (a0.op = 0)) then
bnd (spec_l6In a0.n 0 99999) fun r1 =>
(bif r1 then
some (decide ((a0.args.length : Int) = 0))
else
some false)
else
(bif (decide (a0.op = 13)) then
bnd (spec_l6In a0.n 0 3) fun r2 =>
(bif r2 then
some (decide ((a0.args.length : Int) = 0))
else
some false)
else
bnd (spec_OpValid a0.op) fun r3 =>
(bif r3 then
(bif (decide (a0.n = 0)) then
(bif (decide ((a0.args.length : Int) = 2)) then
bnd (geti a0.args 0) fun e4 =>
bnd (spec_l4Ok (⟨e4.op, e4.n, e4.args⟩ : Exp) (wrap64 (a1 - 1))) fun r5 =>
(bif r5 then
bnd (geti a0.args 1) fun e6 =>
bnd (spec_l4Ok (⟨e6.op, e6.n, e6.args⟩ : Exp) (wrap64 (a1 - 1))) fun r7 =>
some r7
else
some false)
else
some false)
else
some false)
else
some false)))) : Option (Bool))
 (spec_l4Ok a0 a1) := by
 rewrite [← wrapC_eq]
 exact fun r h => fn_le' (F := Tb) (G := GT) (sg := sg) (sig := s1800) (p := p1800) (by kernel_rfl) (by kernel_rfl) rfl rfl rfl rfl rfl ((show runC (phi Tb GT sg) Tb GT p1800.code (startAT p1800 (mkST p1800.ins [.agg (rowT .exp a0), .int .i64 a1] p1800.bins [])) (finT p1800 s1800) = _ by kernel_rfl).trans h)

theorem laws_toExprS_p_l1_le (t0 : List Exp) (t3 : Hd) (t4 : Int) (b99 : List Ent) : Tv.Le
 ((bif (decide (t4 < (t0.length : Int))) then
bnd (geti t0 t4) fun e1 =>
bnd (laws_toExpr_p (⟨e1.op, e1.n, e1.args⟩ : Exp) b99) fun r2 =>
bnd (idxN t3.n t4) fun i3 =>
bnd (arRow r2.2 .expH t3.id i3) fun e4 =>
laws_toExprS_p_l1 t0 t3 (wrap64 (t4 + 1)) (arSet r2.2 .expH t3.id i3 r2.1)
else
some (t3, b99)) : Option (Hd × List Ent))
 (laws_toExprS_p_l1 t0 t3 t4 b99) := by
 rewrite [← wrapC_eq]
 exact fun r h => loop_le' (F := Tb) (G := GT) (sg := sg) (sig := s41601) (p := p41601) (by kernel_rfl) (by kernel_rfl) rfl rfl rfl ((show runC (phi Tb GT sg) Tb GT p41601.code ((mkST p41601.ins [.sl .share .exp t0, .tr .expH t3.id t3.n, .int .i64 t4] p41601.bins [.ar b99])) (finL Tb GT 41601 p41601 s41601) = _ by kernel_rfl).trans h)

theorem impl_exprValid_le (a0 : Exp) (a1 : Int) : Tv.Le
 ((bif (decide (a0.op = 0)) then
(bif (decide (0 ≤ a0.n)) then
(bif (decide (a0.n ≤ 99999)) then
(bif (decide ((a0.args.length : Int) = 0)) then
some (decide (0 < a1))
else
some false)
else
some false)
else
some false)
else
(bif (decide (a0.op = 13)) then
(bif (decide (0 ≤ a0.n)) then
(bif (decide (a0.n < 4)) then
(bif (decide ((a0.args.length : Int) = 0)) then
some (decide (0 < a1))
else
some false)
else
some false)
else
some false)
else
bnd (impl_OpValid a0.op) fun r1 =>
(bif r1 then
(bif (decide (a0.n = 0)) then
(bif (decide ((a0.args.length : Int) = 2)) then
(bif (decide (1 < a1)) then
bnd (geti a0.args 0) fun e2 =>
bnd (impl_exprValid (⟨e2.op, e2.n, e2.args⟩ : Exp) (wrap64 (a1 - 1))) fun r3 =>
(bif r3 then
bnd (geti a0.args 1) fun e4 =>
bnd (impl_exprValid (⟨e4.op, e4.n, e4.args⟩ : Exp) (wrap64 (a1 - 1))) fun r5 =>
some r5
else
some false)
else
some false)
else
some false)
else
some false)
else
some false))) : Option (Bool))
 (impl_exprValid a0 a1) := by
 rewrite [← wrapC_eq]
 exact fun r h => fn_le' (F := Tb) (G := GT) (sg := sg) (sig := s1100) (p := p1100) (by kernel_rfl) (by kernel_rfl) rfl rfl rfl rfl rfl ((show runC (phi Tb GT sg) Tb GT p1100.code (startAT p1100 (mkST p1100.ins [.agg (rowT .exp a0), .int .i64 a1] p1100.bins [])) (finT p1100 s1100) = _ by kernel_rfl).trans h)

theorem laws_eqExprS_l1_le (t0 : List Exp) (t1 : List Exp) (t5 : Int) : Tv.Le
 ((bif (decide (t5 < (t0.length : Int))) then
bnd (geti t0 t5) fun e1 =>
bnd (geti t1 t5) fun e2 =>
bnd (laws_eqExpr (⟨e1.op, e1.n, e1.args⟩ : Exp) (⟨e2.op, e2.n, e2.args⟩ : Exp)) fun r3 =>
(bif (!r3) then
some (.inr false)
else
laws_eqExprS_l1 t0 t1 (wrap64 (t5 + 1)))
else
some (.inl ())) : Option (Unit ⊕ Bool))
 (laws_eqExprS_l1 t0 t1 t5) := by
 rewrite [← wrapC_eq]
 exact fun r h => loop_le' (F := Tb) (G := GT) (sg := sg) (sig := s8001) (p := p8001) (by kernel_rfl) (by kernel_rfl) rfl rfl rfl ((show runC (phi Tb GT sg) Tb GT p8001.code ((mkST p8001.ins [.sl .share .exp t0, .sl .share .exp t1, .int .i64 t5] p8001.bins [])) (finL Tb GT 8001 p8001 s8001) = _ by kernel_rfl).trans h)

theorem spec_OpValid_le (a0 : Int) : Tv.Le
 (bnd (spec_l6In a0 1 12) fun r1 =>
some r1 : Option (Bool))
 (spec_OpValid a0) := by
 exact fun r h => fn_le' (F := Tb) (G := GT) (sg := sg) (sig := s1700) (p := p1700) (by kernel_rfl) (by kernel_rfl) rfl rfl rfl rfl rfl ((show runC (phi Tb GT sg) Tb GT p1700.code (startAT p1700 (mkST p1700.ins [.int .i64 a0] p1700.bins [])) (finT p1700 s1700) = _ by kernel_rfl).trans h)

theorem impl_OpValid_le (a0 : Int) : Tv.Le
 ((bif (decide (1 ≤ a0)) then
some (decide (a0 ≤ 12))
else
some false) : Option (Bool))
 (impl_OpValid a0) := by
 exact fun r h => fn_le' (F := Tb) (G := GT) (sg := sg) (sig := s1000) (p := p1000) (by kernel_rfl) (by kernel_rfl) rfl rfl rfl rfl rfl ((show runC (phi Tb GT sg) Tb GT p1000.code (startAT p1000 (mkST p1000.ins [.int .i64 a0] p1000.bins [])) (finT p1000 s1000) = _ by kernel_rfl).trans h)

end Go.TFnExactWorldOutcome
