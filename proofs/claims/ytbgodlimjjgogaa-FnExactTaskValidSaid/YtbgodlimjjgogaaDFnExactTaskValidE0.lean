import Derived.Test.YtbgodlimjjgogaaDFnExactTaskValidP
import Derived.KernelRfl
set_option linter.unusedVariables false
namespace Go.TFnExactTaskValid
open Go Go.RowKit Go.Vs Go.Tv
theorem laws_FnExactTaskValid_le (a0 : Tk) : Tv.Le
  (bnd (laws_szTask a0 1048576) fun r1 =>
  (bif (decide (r1 < 0)) then
  some true
  else
  bnd (laws_toTask a0) fun r2 =>
  bnd (spec_TaskValid r2) fun r3 =>
  bnd (laws_toTask a0) fun r4 =>
  bnd (impl_TaskValid r4) fun r5 =>
  (bif (!(r5 == r3)) then
  some false
  else
  bnd (laws_toTask a0) fun r6 =>
  bnd (laws_eqTask r4 r6) fun r7 =>
  (bif (!r7) then
  some false
  else
  some true))) : Option (Bool))
  (laws_FnExactTaskValid a0) := fun r h => by
  have e : runC (phi Tb GT sg) Tb GT p8600.code (mkST p8600.ins [.agg (rowT .tk a0)] p8600.bins []) (finT p8600 s8600) = (
  bnd (laws_szTask a0 1048576) fun r1 =>
  (bif (decide (r1 < 0)) then
  some true
  else
  bnd (laws_toTask a0) fun r2 =>
  bnd (spec_TaskValid r2) fun r3 =>
  bnd (laws_toTask a0) fun r4 =>
  bnd (impl_TaskValid r4) fun r5 =>
  (bif (!(r5 == r3)) then
  some false
  else
  bnd (laws_toTask a0) fun r6 =>
  bnd (laws_eqTask r4 r6) fun r7 =>
  (bif (!r7) then
  some false
  else
  some true))) : Option (Bool)) := by kernel_rfl
  exact fn_le' (sig := s8600) (p := p8600) (by kernel_rfl) (by kernel_rfl) rfl rfl rfl (e.trans h)

theorem laws_szTask_le (a0 : Tk) (a1 : Int) : Tv.Le
  (bnd (laws_szIntS a0.vars a1) fun r1 =>
  (bif (decide (r1 < 0)) then
  some (-1)
  else
  bnd (laws_szStmtS a0.rest r1) fun r2 =>
  (bif (decide (r2 < 0)) then
  some (-1)
  else
  some r2)) : Option (Int))
  (laws_szTask a0 a1) := fun r h => by
  have e : runC (phi Tb GT sg) Tb GT p7300.code (mkST p7300.ins [.agg (rowT .tk a0), .int .i64 a1] p7300.bins []) (finT p7300 s7300) = (
  bnd (laws_szIntS a0.vars a1) fun r1 =>
  (bif (decide (r1 < 0)) then
  some (-1)
  else
  bnd (laws_szStmtS a0.rest r1) fun r2 =>
  (bif (decide (r2 < 0)) then
  some (-1)
  else
  some r2)) : Option (Int)) := by kernel_rfl
  exact fn_le' (sig := s7300) (p := p7300) (by kernel_rfl) (by kernel_rfl) rfl rfl rfl (e.trans h)

theorem laws_toTask_le (a0 : Tk) : Tv.Le
  (bnd (laws_toIntS a0.vars) fun r1 =>
  bnd (laws_toStmtS a0.rest) fun r2 =>
  some (⟨r1, r2⟩) : Option (Tk))
  (laws_toTask a0) := fun r h => by
  have e : runC (phi Tb GT sg) Tb GT p7900.code (mkST p7900.ins [.agg (rowT .tk a0)] p7900.bins []) (finT p7900 s7900) = (
  bnd (laws_toIntS a0.vars) fun r1 =>
  bnd (laws_toStmtS a0.rest) fun r2 =>
  some (⟨r1, r2⟩) : Option (Tk)) := by kernel_rfl
  exact fn_le' (sig := s7900) (p := p7900) (by kernel_rfl) (by kernel_rfl) rfl rfl rfl (e.trans h)

theorem spec_TaskValid_le (a0 : Tk) : Tv.Le
  (bnd (spec_TaskValid_l1 0 a0.vars a0.rest) fun r1 =>
  selm r1 (fun y2 =>
  bnd (spec_l4Words y2.1 4) fun r4 =>
  some r4) (fun z3 =>
  some z3.1) : Option (Bool))
  (spec_TaskValid a0) := fun r h => by
  have e : runC (phi Tb GT sg) Tb GT p6600.code (mkST p6600.ins [.agg (rowT .tk a0)] p6600.bins []) (finT p6600 s6600) = (
  bnd (spec_TaskValid_l1 0 a0.vars a0.rest) fun r1 =>
  selm r1 (fun y2 =>
  bnd (spec_l4Words y2.1 4) fun r4 =>
  some r4) (fun z3 =>
  some z3.1) : Option (Bool)) := by kernel_rfl
  exact fn_le' (sig := s6600) (p := p6600) (by kernel_rfl) (by kernel_rfl) rfl rfl rfl (e.trans h)

theorem impl_TaskValid_le (a0 : Tk) : Tv.Le
  (bnd (impl_taskValid a0 3) fun r1 =>
  some r1 : Option (Bool))
  (impl_TaskValid a0) := fun r h => by
  have e : runC (phi Tb GT sg) Tb GT p5600.code (mkST p5600.ins [.agg (rowT .tk a0)] p5600.bins []) (finT p5600 s5600) = (
  bnd (impl_taskValid a0 3) fun r1 =>
  some r1 : Option (Bool)) := by kernel_rfl
  exact fn_le' (sig := s5600) (p := p5600) (by kernel_rfl) (by kernel_rfl) rfl rfl rfl (e.trans h)

theorem laws_eqTask_le (a0 : Tk) (a1 : Tk) : Tv.Le
  (bnd (laws_eqIntS a0.vars a1.vars) fun r1 =>
  (bif (!r1) then
  some false
  else
  bnd (laws_eqStmtS a0.rest a1.rest) fun r2 =>
  (bif (!r2) then
  some false
  else
  some true)) : Option (Bool))
  (laws_eqTask a0 a1) := fun r h => by
  have e : runC (phi Tb GT sg) Tb GT p8500.code (mkST p8500.ins [.agg (rowT .tk a0), .agg (rowT .tk a1)] p8500.bins []) (finT p8500 s8500) = (
  bnd (laws_eqIntS a0.vars a1.vars) fun r1 =>
  (bif (!r1) then
  some false
  else
  bnd (laws_eqStmtS a0.rest a1.rest) fun r2 =>
  (bif (!r2) then
  some false
  else
  some true)) : Option (Bool)) := by kernel_rfl
  exact fn_le' (sig := s8500) (p := p8500) (by kernel_rfl) (by kernel_rfl) rfl rfl rfl (e.trans h)

theorem laws_szIntS_le (a0 : List Int) (a1 : Int) : Tv.Le
  ((bif (decide ((wrap64 (a1 - (a0.length : Int))) < 0)) then
  some (-1)
  else
  some (wrap64 (a1 - (a0.length : Int)))) : Option (Int))
  (laws_szIntS a0 a1) := fun r h => by
  have e : runC (phi Tb GT sg) Tb GT p7200.code (mkST p7200.ins [.sl .share .int a0, .int .i64 a1] p7200.bins []) (finT p7200 s7200) = (
  (bif (decide ((wrap64 (a1 - (a0.length : Int))) < 0)) then
  some (-1)
  else
  some (wrap64 (a1 - (a0.length : Int)))) : Option (Int)) := by kernel_rfl
  exact fn_le' (sig := s7200) (p := p7200) (by kernel_rfl) (by kernel_rfl) rfl rfl rfl (e.trans h)

theorem laws_szStmtS_le (a0 : List Stm) (a1 : Int) : Tv.Le
  ((bif (decide ((wrap64 (a1 - (a0.length : Int))) < 0)) then
  some (-1)
  else
  bnd (laws_szStmtS_l1 a0 (wrap64 (a1 - (a0.length : Int))) 0) fun r1 =>
  selm r1 (fun y2 =>
  some y2) (fun z3 =>
  some z3.2)) : Option (Int))
  (laws_szStmtS a0 a1) := fun r h => by
  have e : runC (phi Tb GT sg) Tb GT p7100.code (mkST p7100.ins [.sl .share .stm a0, .int .i64 a1] p7100.bins []) (finT p7100 s7100) = (
  (bif (decide ((wrap64 (a1 - (a0.length : Int))) < 0)) then
  some (-1)
  else
  bnd (laws_szStmtS_l1 a0 (wrap64 (a1 - (a0.length : Int))) 0) fun r1 =>
  selm r1 (fun y2 =>
  some y2) (fun z3 =>
  some z3.2)) : Option (Int)) := by kernel_rfl
  exact fn_le' (sig := s7100) (p := p7100) (by kernel_rfl) (by kernel_rfl) rfl rfl rfl (e.trans h)

theorem laws_toIntS_le (a0 : List Int) : Tv.Le
  (bnd (made (a0.length : Int)) fun n1 =>
  bnd (laws_toIntS_l1 a0 0 (List.replicate n1 (zeroD .int))) fun r2 =>
  some r2 : Option (List Int))
  (laws_toIntS a0) := fun r h => by
  have e : runC (phi Tb GT sg) Tb GT p7800.code (mkST p7800.ins [.sl .share .int a0] p7800.bins []) (finT p7800 s7800) = (
  bnd (made (a0.length : Int)) fun n1 =>
  bnd (laws_toIntS_l1 a0 0 (List.replicate n1 (zeroD .int))) fun r2 =>
  some r2 : Option (List Int)) := by kernel_rfl
  exact fn_le' (sig := s7800) (p := p7800) (by kernel_rfl) (by kernel_rfl) rfl rfl rfl (e.trans h)

theorem laws_toStmtS_le (a0 : List Stm) : Tv.Le
  (bnd (made (a0.length : Int)) fun n1 =>
  bnd (laws_toStmtS_l1 a0 0 (List.replicate n1 (zeroD .stm))) fun r2 =>
  some r2 : Option (List Stm))
  (laws_toStmtS a0) := fun r h => by
  have e : runC (phi Tb GT sg) Tb GT p7700.code (mkST p7700.ins [.sl .share .stm a0] p7700.bins []) (finT p7700 s7700) = (
  bnd (made (a0.length : Int)) fun n1 =>
  bnd (laws_toStmtS_l1 a0 0 (List.replicate n1 (zeroD .stm))) fun r2 =>
  some r2 : Option (List Stm)) := by kernel_rfl
  exact fn_le' (sig := s7700) (p := p7700) (by kernel_rfl) (by kernel_rfl) rfl rfl rfl (e.trans h)

theorem spec_StmtsValid_le (a0 : List Stm) : Tv.Le
  (bnd (spec_l11Blocks a0 3) fun r1 =>
  (bif r1 then
  bnd (spec_l11Count a0) fun r2 =>
  some (decide (r2 ≤ 16))
  else
  some false) : Option (Bool))
  (spec_StmtsValid a0) := fun r h => by
  have e : runC (phi Tb GT sg) Tb GT p6300.code (mkST p6300.ins [.sl .share .stm a0] p6300.bins []) (finT p6300 s6300) = (
  bnd (spec_l11Blocks a0 3) fun r1 =>
  (bif r1 then
  bnd (spec_l11Count a0) fun r2 =>
  some (decide (r2 ≤ 16))
  else
  some false) : Option (Bool)) := by kernel_rfl
  exact fn_le' (sig := s6300) (p := p6300) (by kernel_rfl) (by kernel_rfl) rfl rfl rfl (e.trans h)

theorem spec_TaskValid_l1_le (t3 : Int) (b100_0 : List Int) (b100_1 : List Stm) : Tv.Le
  ((bif (decide (t3 < (b100_1.length : Int))) then
  bnd (cutL b100_1 t3 (wrap64 (t3 + 1))) fun l1 =>
  bnd (spec_StmtsValid l1) fun r2 =>
  (bif (!r2) then
  some (.inr (false, b100_0, b100_1))
  else
  spec_TaskValid_l1 (wrap64 (t3 + 1)) b100_0 b100_1)
  else
  some (.inl (b100_0, b100_1))) : Option ((List Int × List Stm) ⊕ (Bool × List Int × List Stm)))
  (spec_TaskValid_l1 t3 b100_0 b100_1) := fun r h => by
  have e : runC (phi Tb GT sg) Tb GT p6601.code (mkST p6601.ins [.bp 100 0, .int .i64 t3] p6601.bins [.var [.sl .share .int b100_0, .sl .share .stm b100_1]]) (finL Tb GT 6601 p6601 s6601) = (
  (bif (decide (t3 < (b100_1.length : Int))) then
  bnd (cutL b100_1 t3 (wrap64 (t3 + 1))) fun l1 =>
  bnd (spec_StmtsValid l1) fun r2 =>
  (bif (!r2) then
  some (.inr (false, b100_0, b100_1))
  else
  spec_TaskValid_l1 (wrap64 (t3 + 1)) b100_0 b100_1)
  else
  some (.inl (b100_0, b100_1))) : Option ((List Int × List Stm) ⊕ (Bool × List Int × List Stm))) := by kernel_rfl
  exact loop_le' (sig := s6601) (p := p6601) (by kernel_rfl) (by kernel_rfl) rfl rfl rfl (e.trans h)

theorem spec_l4Words_le (a0 : List Int) (a1 : Int) : Tv.Le
  ((bif (!decide ((a0.length : Int) = a1)) then
  some false
  else
  bnd (spec_l4Words_l1 a0 0) fun r1 =>
  selm r1 (fun y2 =>
  some true) (fun z3 =>
  some z3)) : Option (Bool))
  (spec_l4Words a0 a1) := fun r h => by
  have e : runC (phi Tb GT sg) Tb GT p6500.code (mkST p6500.ins [.sl .share .int a0, .int .i64 a1] p6500.bins []) (finT p6500 s6500) = (
  (bif (!decide ((a0.length : Int) = a1)) then
  some false
  else
  bnd (spec_l4Words_l1 a0 0) fun r1 =>
  selm r1 (fun y2 =>
  some true) (fun z3 =>
  some z3)) : Option (Bool)) := by kernel_rfl
  exact fn_le' (sig := s6500) (p := p6500) (by kernel_rfl) (by kernel_rfl) rfl rfl rfl (e.trans h)

theorem impl_taskValid_le (a0 : Tk) (a1 : Int) : Tv.Le
  ((bif (!decide ((a0.vars.length : Int) = 4)) then
  some false
  else
  bnd (impl_areWords a0.vars) fun r1 =>
  (bif (!r1) then
  some false
  else
  bnd (impl_taskValid_l1 a1 (a0.rest.length : Int) 0 a0.vars a0.rest) fun r2 =>
  selm r2 (fun y3 =>
  some true) (fun z4 =>
  some z4))) : Option (Bool))
  (impl_taskValid a0 a1) := fun r h => by
  have e : runC (phi Tb GT sg) Tb GT p5500.code (mkST p5500.ins [.agg (rowT .tk a0), .int .i64 a1] p5500.bins []) (finT p5500 s5500) = (
  (bif (!decide ((a0.vars.length : Int) = 4)) then
  some false
  else
  bnd (impl_areWords a0.vars) fun r1 =>
  (bif (!r1) then
  some false
  else
  bnd (impl_taskValid_l1 a1 (a0.rest.length : Int) 0 a0.vars a0.rest) fun r2 =>
  selm r2 (fun y3 =>
  some true) (fun z4 =>
  some z4))) : Option (Bool)) := by kernel_rfl
  exact fn_le' (sig := s5500) (p := p5500) (by kernel_rfl) (by kernel_rfl) rfl rfl rfl (e.trans h)

theorem laws_eqIntS_le (a0 : List Int) (a1 : List Int) : Tv.Le
  ((bif (!decide ((a0.length : Int) = (a1.length : Int))) then
  some false
  else
  bnd (laws_eqIntS_l1 a0 a1 0) fun r1 =>
  selm r1 (fun y2 =>
  some true) (fun z3 =>
  some z3)) : Option (Bool))
  (laws_eqIntS a0 a1) := fun r h => by
  have e : runC (phi Tb GT sg) Tb GT p8400.code (mkST p8400.ins [.sl .share .int a0, .sl .share .int a1] p8400.bins []) (finT p8400 s8400) = (
  (bif (!decide ((a0.length : Int) = (a1.length : Int))) then
  some false
  else
  bnd (laws_eqIntS_l1 a0 a1 0) fun r1 =>
  selm r1 (fun y2 =>
  some true) (fun z3 =>
  some z3)) : Option (Bool)) := by kernel_rfl
  exact fn_le' (sig := s8400) (p := p8400) (by kernel_rfl) (by kernel_rfl) rfl rfl rfl (e.trans h)

theorem laws_eqStmtS_le (a0 : List Stm) (a1 : List Stm) : Tv.Le
  ((bif (!decide ((a0.length : Int) = (a1.length : Int))) then
  some false
  else
  bnd (laws_eqStmtS_l1 a0 a1 0) fun r1 =>
  selm r1 (fun y2 =>
  some true) (fun z3 =>
  some z3)) : Option (Bool))
  (laws_eqStmtS a0 a1) := fun r h => by
  have e : runC (phi Tb GT sg) Tb GT p8300.code (mkST p8300.ins [.sl .share .stm a0, .sl .share .stm a1] p8300.bins []) (finT p8300 s8300) = (
  (bif (!decide ((a0.length : Int) = (a1.length : Int))) then
  some false
  else
  bnd (laws_eqStmtS_l1 a0 a1 0) fun r1 =>
  selm r1 (fun y2 =>
  some true) (fun z3 =>
  some z3)) : Option (Bool)) := by kernel_rfl
  exact fn_le' (sig := s8300) (p := p8300) (by kernel_rfl) (by kernel_rfl) rfl rfl rfl (e.trans h)

theorem laws_szStmt_le (a0 : Stm) (a1 : Int) : Tv.Le
  (bnd (laws_szExpr (⟨a0.e.op, a0.e.n, a0.e.args⟩ : Exp) a1) fun r1 =>
  (bif (decide (r1 < 0)) then
  some (-1)
  else
  bnd (laws_szStmtS a0.body r1) fun r2 =>
  (bif (decide (r2 < 0)) then
  some (-1)
  else
  bnd (laws_szStmtS a0.els r2) fun r3 =>
  (bif (decide (r3 < 0)) then
  some (-1)
  else
  some r3))) : Option (Int))
  (laws_szStmt a0 a1) := fun r h => by
  have e : runC (phi Tb GT sg) Tb GT p7000.code (mkST p7000.ins [.agg (rowT .stm a0), .int .i64 a1] p7000.bins []) (finT p7000 s7000) = (
  bnd (laws_szExpr (⟨a0.e.op, a0.e.n, a0.e.args⟩ : Exp) a1) fun r1 =>
  (bif (decide (r1 < 0)) then
  some (-1)
  else
  bnd (laws_szStmtS a0.body r1) fun r2 =>
  (bif (decide (r2 < 0)) then
  some (-1)
  else
  bnd (laws_szStmtS a0.els r2) fun r3 =>
  (bif (decide (r3 < 0)) then
  some (-1)
  else
  some r3))) : Option (Int)) := by kernel_rfl
  exact fn_le' (sig := s7000) (p := p7000) (by kernel_rfl) (by kernel_rfl) rfl rfl rfl (e.trans h)

theorem laws_szStmtS_l1_le (t0 : List Stm) (t1 : Int) (t5 : Int) : Tv.Le
  ((bif (decide (t5 < (t0.length : Int))) then
  bnd (geti t0 t5) fun e1 =>
  bnd (laws_szStmt (⟨e1.kind, e1.var, e1.box, ⟨e1.e.op, e1.e.n, e1.e.args⟩, e1.body, e1.els⟩ : Stm) t1) fun r2 =>
  (bif (decide (r2 < 0)) then
  some (.inr (r2, (-1)))
  else
  laws_szStmtS_l1 t0 r2 (wrap64 (t5 + 1)))
  else
  some (.inl t1)) : Option (Int ⊕ (Int × Int)))
  (laws_szStmtS_l1 t0 t1 t5) := fun r h => by
  have e : runC (phi Tb GT sg) Tb GT p7101.code (mkST p7101.ins [.sl .share .stm t0, .int .i64 t1, .int .i64 t5] p7101.bins []) (finL Tb GT 7101 p7101 s7101) = (
  (bif (decide (t5 < (t0.length : Int))) then
  bnd (geti t0 t5) fun e1 =>
  bnd (laws_szStmt (⟨e1.kind, e1.var, e1.box, ⟨e1.e.op, e1.e.n, e1.e.args⟩, e1.body, e1.els⟩ : Stm) t1) fun r2 =>
  (bif (decide (r2 < 0)) then
  some (.inr (r2, (-1)))
  else
  laws_szStmtS_l1 t0 r2 (wrap64 (t5 + 1)))
  else
  some (.inl t1)) : Option (Int ⊕ (Int × Int))) := by kernel_rfl
  exact loop_le' (sig := s7101) (p := p7101) (by kernel_rfl) (by kernel_rfl) rfl rfl rfl (e.trans h)

theorem laws_toIntS_l1_le (t0 : List Int) (t4 : Int) (b100 : List Int) : Tv.Le
  ((bif (decide (t4 < (t0.length : Int))) then
  bnd (geti t0 t4) fun e1 =>
  bnd (geti b100 t4) fun _ =>
  bnd (b100[(Int.toNat t4)]?) fun e3 =>
  laws_toIntS_l1 t0 (wrap64 (t4 + 1)) (b100.set (Int.toNat t4) e1)
  else
  some b100) : Option (List Int))
  (laws_toIntS_l1 t0 t4 b100) := fun r h => by
  have e : runC (phi Tb GT sg) Tb GT p7801.code (mkST p7801.ins [.sl .share .int t0, .bs 100, .int .i64 t4] p7801.bins [.rows .int b100]) (finL Tb GT 7801 p7801 s7801) = (
  (bif (decide (t4 < (t0.length : Int))) then
  bnd (geti t0 t4) fun e1 =>
  bnd (geti b100 t4) fun _ =>
  bnd (b100[(Int.toNat t4)]?) fun e3 =>
  laws_toIntS_l1 t0 (wrap64 (t4 + 1)) (b100.set (Int.toNat t4) e1)
  else
  some b100) : Option (List Int)) := by kernel_rfl
  exact loop_le' (sig := s7801) (p := p7801) (by kernel_rfl) (by kernel_rfl) rfl rfl rfl (e.trans h)

theorem laws_toStmt_le (a0 : Stm) : Tv.Le
  (bnd (laws_toExpr (⟨a0.e.op, a0.e.n, a0.e.args⟩ : Exp)) fun r1 =>
  bnd (laws_toStmtS a0.body) fun r2 =>
  bnd (laws_toStmtS a0.els) fun r3 =>
  some (⟨a0.kind, a0.var, a0.box, ⟨r1.op, r1.n, r1.args⟩, r2, r3⟩) : Option (Stm))
  (laws_toStmt a0) := fun r h => by
  have e : runC (phi Tb GT sg) Tb GT p7600.code (mkST p7600.ins [.agg (rowT .stm a0)] p7600.bins []) (finT p7600 s7600) = (
  bnd (laws_toExpr (⟨a0.e.op, a0.e.n, a0.e.args⟩ : Exp)) fun r1 =>
  bnd (laws_toStmtS a0.body) fun r2 =>
  bnd (laws_toStmtS a0.els) fun r3 =>
  some (⟨a0.kind, a0.var, a0.box, ⟨r1.op, r1.n, r1.args⟩, r2, r3⟩) : Option (Stm)) := by kernel_rfl
  exact fn_le' (sig := s7600) (p := p7600) (by kernel_rfl) (by kernel_rfl) rfl rfl rfl (e.trans h)

theorem laws_toStmtS_l1_le (t0 : List Stm) (t4 : Int) (b100 : List Stm) : Tv.Le
  ((bif (decide (t4 < (t0.length : Int))) then
  bnd (geti t0 t4) fun e1 =>
  bnd (laws_toStmt (⟨e1.kind, e1.var, e1.box, ⟨e1.e.op, e1.e.n, e1.e.args⟩, e1.body, e1.els⟩ : Stm)) fun r2 =>
  bnd (geti b100 t4) fun _ =>
  bnd (b100[(Int.toNat t4)]?) fun e4 =>
  laws_toStmtS_l1 t0 (wrap64 (t4 + 1)) (b100.set (Int.toNat t4) (⟨r2.kind, r2.var, r2.box, ⟨r2.e.op, r2.e.n, r2.e.args⟩, r2.body, r2.els⟩))
  else
  some b100) : Option (List Stm))
  (laws_toStmtS_l1 t0 t4 b100) := fun r h => by
  have e : runC (phi Tb GT sg) Tb GT p7701.code (mkST p7701.ins [.sl .share .stm t0, .bs 100, .int .i64 t4] p7701.bins [.rows .stm b100]) (finL Tb GT 7701 p7701 s7701) = (
  (bif (decide (t4 < (t0.length : Int))) then
  bnd (geti t0 t4) fun e1 =>
  bnd (laws_toStmt (⟨e1.kind, e1.var, e1.box, ⟨e1.e.op, e1.e.n, e1.e.args⟩, e1.body, e1.els⟩ : Stm)) fun r2 =>
  bnd (geti b100 t4) fun _ =>
  bnd (b100[(Int.toNat t4)]?) fun e4 =>
  laws_toStmtS_l1 t0 (wrap64 (t4 + 1)) (b100.set (Int.toNat t4) (⟨r2.kind, r2.var, r2.box, ⟨r2.e.op, r2.e.n, r2.e.args⟩, r2.body, r2.els⟩))
  else
  some b100) : Option (List Stm)) := by kernel_rfl
  exact loop_le' (sig := s7701) (p := p7701) (by kernel_rfl) (by kernel_rfl) rfl rfl rfl (e.trans h)

theorem spec_l11Blocks_le (a0 : List Stm) (a1 : Int) : Tv.Le
  (bnd (spec_l11Blocks_l1 a0 a1 0) fun r1 =>
  selm r1 (fun y2 =>
  some true) (fun z3 =>
  some z3) : Option (Bool))
  (spec_l11Blocks a0 a1) := fun r h => by
  have e : runC (phi Tb GT sg) Tb GT p6200.code (mkST p6200.ins [.sl .share .stm a0, .int .i64 a1] p6200.bins []) (finT p6200 s6200) = (
  bnd (spec_l11Blocks_l1 a0 a1 0) fun r1 =>
  selm r1 (fun y2 =>
  some true) (fun z3 =>
  some z3) : Option (Bool)) := by kernel_rfl
  exact fn_le' (sig := s6200) (p := p6200) (by kernel_rfl) (by kernel_rfl) rfl rfl rfl (e.trans h)

theorem spec_l11Count_le (a0 : List Stm) : Tv.Le
  (bnd (spec_l11Count_l1 a0 0 0) fun r1 =>
  some r1 : Option (Int))
  (spec_l11Count a0) := fun r h => by
  have e : runC (phi Tb GT sg) Tb GT p4000.code (mkST p4000.ins [.sl .share .stm a0] p4000.bins []) (finT p4000 s4000) = (
  bnd (spec_l11Count_l1 a0 0 0) fun r1 =>
  some r1 : Option (Int)) := by kernel_rfl
  exact fn_le' (sig := s4000) (p := p4000) (by kernel_rfl) (by kernel_rfl) rfl rfl rfl (e.trans h)

theorem spec_WordValid_le (a0 : Int) : Tv.Le
  (bnd (spec_l6In a0 (-2147483648) 2147483647) fun r1 =>
  some r1 : Option (Bool))
  (spec_WordValid a0) := fun r h => by
  have e : runC (phi Tb GT sg) Tb GT p6400.code (mkST p6400.ins [.int .i64 a0] p6400.bins []) (finT p6400 s6400) = (
  bnd (spec_l6In a0 (-2147483648) 2147483647) fun r1 =>
  some r1 : Option (Bool)) := by kernel_rfl
  exact fn_le' (sig := s6400) (p := p6400) (by kernel_rfl) (by kernel_rfl) rfl rfl rfl (e.trans h)

theorem spec_l4Words_l1_le (t0 : List Int) (t5 : Int) : Tv.Le
  ((bif (decide (t5 < (t0.length : Int))) then
  bnd (geti t0 t5) fun e1 =>
  bnd (spec_WordValid e1) fun r2 =>
  (bif (!r2) then
  some (.inr false)
  else
  spec_l4Words_l1 t0 (wrap64 (t5 + 1)))
  else
  some (.inl ())) : Option (Unit ⊕ Bool))
  (spec_l4Words_l1 t0 t5) := fun r h => by
  have e : runC (phi Tb GT sg) Tb GT p6501.code (mkST p6501.ins [.sl .share .int t0, .int .i64 t5] p6501.bins []) (finL Tb GT 6501 p6501 s6501) = (
  (bif (decide (t5 < (t0.length : Int))) then
  bnd (geti t0 t5) fun e1 =>
  bnd (spec_WordValid e1) fun r2 =>
  (bif (!r2) then
  some (.inr false)
  else
  spec_l4Words_l1 t0 (wrap64 (t5 + 1)))
  else
  some (.inl ())) : Option (Unit ⊕ Bool)) := by kernel_rfl
  exact loop_le' (sig := s6501) (p := p6501) (by kernel_rfl) (by kernel_rfl) rfl rfl rfl (e.trans h)

theorem impl_areWords_le (a0 : List Int) : Tv.Le
  (bnd (impl_areWords_l1 a0 (a0.length : Int) 0) fun r1 =>
  selm r1 (fun y2 =>
  some true) (fun z3 =>
  some z3) : Option (Bool))
  (impl_areWords a0) := fun r h => by
  have e : runC (phi Tb GT sg) Tb GT p5100.code (mkST p5100.ins [.sl .share .int a0] p5100.bins []) (finT p5100 s5100) = (
  bnd (impl_areWords_l1 a0 (a0.length : Int) 0) fun r1 =>
  selm r1 (fun y2 =>
  some true) (fun z3 =>
  some z3) : Option (Bool)) := by kernel_rfl
  exact fn_le' (sig := s5100) (p := p5100) (by kernel_rfl) (by kernel_rfl) rfl rfl rfl (e.trans h)

theorem impl_stmtsValid_le (a0 : List Stm) (a1 : Int) : Tv.Le
  (bnd (impl_blockValid a0 a1 0 0) fun r1 =>
  some r1.1 : Option (Bool))
  (impl_stmtsValid a0 a1) := fun r h => by
  have e : runC (phi Tb GT sg) Tb GT p5400.code (mkST p5400.ins [.sl .share .stm a0, .int .i64 a1] p5400.bins []) (finT p5400 s5400) = (
  bnd (impl_blockValid a0 a1 0 0) fun r1 =>
  some r1.1 : Option (Bool)) := by kernel_rfl
  exact fn_le' (sig := s5400) (p := p5400) (by kernel_rfl) (by kernel_rfl) rfl rfl rfl (e.trans h)

theorem impl_taskValid_l1_le (t1 : Int) (t18 : Int) (t19 : Int) (b100_0 : List Int) (b100_1 : List Stm) : Tv.Le
  ((bif (decide (t19 < t18)) then
  bnd (cutL b100_1 t19 (wrap64 (t19 + 1))) fun l1 =>
  bnd (impl_stmtsValid l1 t1) fun r2 =>
  (bif (!r2) then
  some (.inr false)
  else
  impl_taskValid_l1 t1 t18 (wrap64 (t19 + 1)) b100_0 b100_1)
  else
  some (.inl ())) : Option (Unit ⊕ Bool))
  (impl_taskValid_l1 t1 t18 t19 b100_0 b100_1) := fun r h => by
  have e : runC (phi Tb GT sg) Tb GT p5501.code (mkST p5501.ins [.int .i64 t1, .bp 100 0, .int .i64 t18, .int .i64 t19] p5501.bins [.var [.sl .share .int b100_0, .sl .share .stm b100_1]]) (finL Tb GT 5501 p5501 s5501) = (
  (bif (decide (t19 < t18)) then
  bnd (cutL b100_1 t19 (wrap64 (t19 + 1))) fun l1 =>
  bnd (impl_stmtsValid l1 t1) fun r2 =>
  (bif (!r2) then
  some (.inr false)
  else
  impl_taskValid_l1 t1 t18 (wrap64 (t19 + 1)) b100_0 b100_1)
  else
  some (.inl ())) : Option (Unit ⊕ Bool)) := by kernel_rfl
  exact loop_le' (sig := s5501) (p := p5501) (by kernel_rfl) (by kernel_rfl) rfl rfl rfl (e.trans h)

theorem laws_eqIntS_l1_le (t0 : List Int) (t1 : List Int) (t5 : Int) : Tv.Le
  ((bif (decide (t5 < (t0.length : Int))) then
  bnd (geti t0 t5) fun e1 =>
  bnd (geti t1 t5) fun e2 =>
  (bif (!decide (e1 = e2)) then
  some (.inr false)
  else
  laws_eqIntS_l1 t0 t1 (wrap64 (t5 + 1)))
  else
  some (.inl ())) : Option (Unit ⊕ Bool))
  (laws_eqIntS_l1 t0 t1 t5) := fun r h => by
  have e : runC (phi Tb GT sg) Tb GT p8401.code (mkST p8401.ins [.sl .share .int t0, .sl .share .int t1, .int .i64 t5] p8401.bins []) (finL Tb GT 8401 p8401 s8401) = (
  (bif (decide (t5 < (t0.length : Int))) then
  bnd (geti t0 t5) fun e1 =>
  bnd (geti t1 t5) fun e2 =>
  (bif (!decide (e1 = e2)) then
  some (.inr false)
  else
  laws_eqIntS_l1 t0 t1 (wrap64 (t5 + 1)))
  else
  some (.inl ())) : Option (Unit ⊕ Bool)) := by kernel_rfl
  exact loop_le' (sig := s8401) (p := p8401) (by kernel_rfl) (by kernel_rfl) rfl rfl rfl (e.trans h)

theorem laws_eqStmt_le (a0 : Stm) (a1 : Stm) : Tv.Le
  ((bif (!decide (a0.kind = a1.kind)) then
  some false
  else
  (bif (!decide (a0.var = a1.var)) then
  some false
  else
  (bif (!decide (a0.box = a1.box)) then
  some false
  else
  bnd (laws_eqExpr (⟨a0.e.op, a0.e.n, a0.e.args⟩ : Exp) (⟨a1.e.op, a1.e.n, a1.e.args⟩ : Exp)) fun r1 =>
  (bif (!r1) then
  some false
  else
  bnd (laws_eqStmtS a0.body a1.body) fun r2 =>
  (bif (!r2) then
  some false
  else
  bnd (laws_eqStmtS a0.els a1.els) fun r3 =>
  (bif (!r3) then
  some false
  else
  some true)))))) : Option (Bool))
  (laws_eqStmt a0 a1) := fun r h => by
  have e : runC (phi Tb GT sg) Tb GT p8200.code (mkST p8200.ins [.agg (rowT .stm a0), .agg (rowT .stm a1)] p8200.bins []) (finT p8200 s8200) = (
  (bif (!decide (a0.kind = a1.kind)) then
  some false
  else
  (bif (!decide (a0.var = a1.var)) then
  some false
  else
  (bif (!decide (a0.box = a1.box)) then
  some false
  else
  bnd (laws_eqExpr (⟨a0.e.op, a0.e.n, a0.e.args⟩ : Exp) (⟨a1.e.op, a1.e.n, a1.e.args⟩ : Exp)) fun r1 =>
  (bif (!r1) then
  some false
  else
  bnd (laws_eqStmtS a0.body a1.body) fun r2 =>
  (bif (!r2) then
  some false
  else
  bnd (laws_eqStmtS a0.els a1.els) fun r3 =>
  (bif (!r3) then
  some false
  else
  some true)))))) : Option (Bool)) := by kernel_rfl
  exact fn_le' (sig := s8200) (p := p8200) (by kernel_rfl) (by kernel_rfl) rfl rfl rfl (e.trans h)

end Go.TFnExactTaskValid
