import Derived.Test.YtbgodlimjjgogaaDFnCompileExprFoldP
import Derived.KernelRfl
set_option linter.unusedVariables false
namespace Go.TFnCompileExprFold
open Go Go.RowKit Go.Vs Go.Tv
theorem laws_FnCompileExprFold_le (a0 : List Int) : Tv.Le
  ((bif (decide (1048576 < (a0.length : Int))) then
  some true
  else
  bnd (spec_DrawCompileExpr a0) fun r1 =>
  bnd (impl_CompileExpr (⟨r1.1.op, r1.1.n, r1.1.args⟩ : Exp) r1.2) fun r2 =>
  bnd (spec_CompileExpr (⟨r1.1.op, r1.1.n, r1.1.args⟩ : Exp) r1.2) fun r3 =>
  (bif (!(r2.2 == r3.2)) then
  (bif (r2.2 == r3.2) then
  bnd (laws_sameCode r2.1 r3.1) fun r4 =>
  some r4
  else
  some false)
  else
  bnd (laws_sameCode r2.1 r3.1) fun r5 =>
  (bif (!r5) then
  (bif (r2.2 == r3.2) then
  bnd (laws_sameCode r2.1 r3.1) fun r6 =>
  some r6
  else
  some false)
  else
  (bif (!r2.2) then
  (bif (r2.2 == r3.2) then
  bnd (laws_sameCode r2.1 r3.1) fun r7 =>
  some r7
  else
  some false)
  else
  bnd (impl_ExprFold (⟨r1.1.op, r1.1.n, r1.1.args⟩ : Exp)) fun r8 =>
  bnd (impl_CompileExpr (⟨r8.1.op, r8.1.n, r8.1.args⟩ : Exp) r1.2) fun r9 =>
  (bif r8.2 then
  (bif r9.2 then
  some (decide ((r9.1.length : Int) ≤ (r2.1.length : Int)))
  else
  some false)
  else
  some false))))) : Option (Bool))
  (laws_FnCompileExprFold a0) := fun r h => by
  have e : runC (phi Tb GT sg) Tb GT p3600.code (mkST p3600.ins [.sl .share .u8 a0] p3600.bins []) (finT p3600 s3600) = (
  (bif (decide (1048576 < (a0.length : Int))) then
  some true
  else
  bnd (spec_DrawCompileExpr a0) fun r1 =>
  bnd (impl_CompileExpr (⟨r1.1.op, r1.1.n, r1.1.args⟩ : Exp) r1.2) fun r2 =>
  bnd (spec_CompileExpr (⟨r1.1.op, r1.1.n, r1.1.args⟩ : Exp) r1.2) fun r3 =>
  (bif (!(r2.2 == r3.2)) then
  (bif (r2.2 == r3.2) then
  bnd (laws_sameCode r2.1 r3.1) fun r4 =>
  some r4
  else
  some false)
  else
  bnd (laws_sameCode r2.1 r3.1) fun r5 =>
  (bif (!r5) then
  (bif (r2.2 == r3.2) then
  bnd (laws_sameCode r2.1 r3.1) fun r6 =>
  some r6
  else
  some false)
  else
  (bif (!r2.2) then
  (bif (r2.2 == r3.2) then
  bnd (laws_sameCode r2.1 r3.1) fun r7 =>
  some r7
  else
  some false)
  else
  bnd (impl_ExprFold (⟨r1.1.op, r1.1.n, r1.1.args⟩ : Exp)) fun r8 =>
  bnd (impl_CompileExpr (⟨r8.1.op, r8.1.n, r8.1.args⟩ : Exp) r1.2) fun r9 =>
  (bif r8.2 then
  (bif r9.2 then
  some (decide ((r9.1.length : Int) ≤ (r2.1.length : Int)))
  else
  some false)
  else
  some false))))) : Option (Bool)) := by kernel_rfl
  exact fn_le' (sig := s3600) (p := p3600) (by kernel_rfl) (by kernel_rfl) rfl rfl rfl (e.trans h)

theorem spec_DrawCompileExpr_le (a0 : List Int) : Tv.Le
  (bnd (spec_l6Open a0) fun r1 =>
  bnd (spec_l91Spoilt r1.1 r1.2) fun r2 =>
  bnd (spec_l6Rd_pick 8 r2.2.1 r2.2.2) fun r3 =>
  bnd (geti ([4, 4, 5, 6, 7, 8, 3, 11] : List Int) r3.1) fun e4 =>
  some (⟨r2.1.op, r2.1.n, r2.1.args⟩, e4) : Option (Exp × Int))
  (spec_DrawCompileExpr a0) := fun r h => by
  have e : runC (phi Tb GT sg) Tb GT p900.code (mkST p900.ins [.sl .share .u8 a0] p900.bins []) (finT p900 s900) = (
  bnd (spec_l6Open a0) fun r1 =>
  bnd (spec_l91Spoilt r1.1 r1.2) fun r2 =>
  bnd (spec_l6Rd_pick 8 r2.2.1 r2.2.2) fun r3 =>
  bnd (geti ([4, 4, 5, 6, 7, 8, 3, 11] : List Int) r3.1) fun e4 =>
  some (⟨r2.1.op, r2.1.n, r2.1.args⟩, e4) : Option (Exp × Int)) := by kernel_rfl
  exact fn_le' (sig := s900) (p := p900) (by kernel_rfl) (by kernel_rfl) rfl rfl rfl (e.trans h)

theorem impl_CompileExpr_le (a0 : Exp) (a1 : Int) : Tv.Le
  (bnd (impl_ExprValid (⟨a0.op, a0.n, a0.args⟩ : Exp)) fun r1 =>
  (bif (!r1) then
  some ([], false)
  else
  (bif (decide (a1 < 4)) then
  some ([], false)
  else
  (bif (decide (12 < a1)) then
  some ([], false)
  else
  bnd (impl_exprDepth (⟨a0.op, a0.n, a0.args⟩ : Exp)) fun r2 =>
  (bif (decide (12 < (wrap64 (a1 + r2)))) then
  some ([], false)
  else
  bnd (impl_compileExpr (⟨a0.op, a0.n, a0.args⟩ : Exp) a1 []) fun r3 =>
  some (r3, true))))) : Option (List Quad × Bool))
  (impl_CompileExpr a0 a1) := fun r h => by
  have e : runC (phi Tb GT sg) Tb GT p1500.code (mkST p1500.ins [.agg (rowT .exp a0), .int .i64 a1] p1500.bins []) (finT p1500 s1500) = (
  bnd (impl_ExprValid (⟨a0.op, a0.n, a0.args⟩ : Exp)) fun r1 =>
  (bif (!r1) then
  some ([], false)
  else
  (bif (decide (a1 < 4)) then
  some ([], false)
  else
  (bif (decide (12 < a1)) then
  some ([], false)
  else
  bnd (impl_exprDepth (⟨a0.op, a0.n, a0.args⟩ : Exp)) fun r2 =>
  (bif (decide (12 < (wrap64 (a1 + r2)))) then
  some ([], false)
  else
  bnd (impl_compileExpr (⟨a0.op, a0.n, a0.args⟩ : Exp) a1 []) fun r3 =>
  some (r3, true))))) : Option (List Quad × Bool)) := by kernel_rfl
  exact fn_le' (sig := s1500) (p := p1500) (by kernel_rfl) (by kernel_rfl) rfl rfl rfl (e.trans h)

theorem spec_CompileExpr_le (a0 : Exp) (a1 : Int) : Tv.Le
  (bnd (spec_ExprValid (⟨a0.op, a0.n, a0.args⟩ : Exp)) fun r1 =>
  (bif (!r1) then
  some (([] : List Quad), false)
  else
  bnd (spec_l4Depth (⟨a0.op, a0.n, a0.args⟩ : Exp)) fun r2 =>
  bnd (spec_l6In a1 4 (wrap64 (12 - r2))) fun r3 =>
  (bif (!r3) then
  some (([] : List Quad), false)
  else
  bnd (spec_l22Expr (⟨a0.op, a0.n, a0.args⟩ : Exp) a1) fun r4 =>
  some (r4, true))) : Option (List Quad × Bool))
  (spec_CompileExpr a0 a1) := fun r h => by
  have e : runC (phi Tb GT sg) Tb GT p2200.code (mkST p2200.ins [.agg (rowT .exp a0), .int .i64 a1] p2200.bins []) (finT p2200 s2200) = (
  bnd (spec_ExprValid (⟨a0.op, a0.n, a0.args⟩ : Exp)) fun r1 =>
  (bif (!r1) then
  some (([] : List Quad), false)
  else
  bnd (spec_l4Depth (⟨a0.op, a0.n, a0.args⟩ : Exp)) fun r2 =>
  bnd (spec_l6In a1 4 (wrap64 (12 - r2))) fun r3 =>
  (bif (!r3) then
  some (([] : List Quad), false)
  else
  bnd (spec_l22Expr (⟨a0.op, a0.n, a0.args⟩ : Exp) a1) fun r4 =>
  some (r4, true))) : Option (List Quad × Bool)) := by kernel_rfl
  exact fn_le' (sig := s2200) (p := p2200) (by kernel_rfl) (by kernel_rfl) rfl rfl rfl (e.trans h)

theorem laws_sameCode_le (a0 : List Quad) (a1 : List Quad) : Tv.Le
  ((bif (!decide ((a0.length : Int) = (a1.length : Int))) then
  some false
  else
  bnd (laws_sameCode_l1 a0 a1 0) fun r1 =>
  selm r1 (fun y2 =>
  some true) (fun z3 =>
  some z3)) : Option (Bool))
  (laws_sameCode a0 a1) := fun r h => by
  have e : runC (phi Tb GT sg) Tb GT p2300.code (mkST p2300.ins [.sl .share .quad a0, .sl .share .quad a1] p2300.bins []) (finT p2300 s2300) = (
  (bif (!decide ((a0.length : Int) = (a1.length : Int))) then
  some false
  else
  bnd (laws_sameCode_l1 a0 a1 0) fun r1 =>
  selm r1 (fun y2 =>
  some true) (fun z3 =>
  some z3)) : Option (Bool)) := by kernel_rfl
  exact fn_le' (sig := s2300) (p := p2300) (by kernel_rfl) (by kernel_rfl) rfl rfl rfl (e.trans h)

theorem impl_ExprFold_le (a0 : Exp) : Tv.Le
  (bnd (impl_ExprValid (⟨a0.op, a0.n, a0.args⟩ : Exp)) fun r1 =>
  (bif (!r1) then
  some (⟨0, 0, []⟩, false)
  else
  bnd (impl_exprFold (⟨a0.op, a0.n, a0.args⟩ : Exp)) fun r2 =>
  some (⟨r2.op, r2.n, r2.args⟩, true)) : Option (Exp × Bool))
  (impl_ExprFold a0) := fun r h => by
  have e : runC (phi Tb GT sg) Tb GT p3500.code (mkST p3500.ins [.agg (rowT .exp a0)] p3500.bins []) (finT p3500 s3500) = (
  bnd (impl_ExprValid (⟨a0.op, a0.n, a0.args⟩ : Exp)) fun r1 =>
  (bif (!r1) then
  some (⟨0, 0, []⟩, false)
  else
  bnd (impl_exprFold (⟨a0.op, a0.n, a0.args⟩ : Exp)) fun r2 =>
  some (⟨r2.op, r2.n, r2.args⟩, true)) : Option (Exp × Bool)) := by kernel_rfl
  exact fn_le' (sig := s3500) (p := p3500) (by kernel_rfl) (by kernel_rfl) rfl rfl rfl (e.trans h)

theorem spec_l6Open_le (a0 : List Int) : Tv.Le
  ((bif (decide (2000 < (a0.length : Int))) then
  bnd (cutL a0 0 2000) fun l1 =>
  some (l1, 0)
  else
  some (a0, 0)) : Option (List Int × Int))
  (spec_l6Open a0) := fun r h => by
  have e : runC (phi Tb GT sg) Tb GT p100.code (mkST p100.ins [.sl .share .u8 a0] p100.bins []) (finT p100 s100) = (
  (bif (decide (2000 < (a0.length : Int))) then
  bnd (cutL a0 0 2000) fun l1 =>
  some (l1, 0)
  else
  some (a0, 0)) : Option (List Int × Int)) := by kernel_rfl
  exact fn_le' (sig := s100) (p := p100) (by kernel_rfl) (by kernel_rfl) rfl rfl rfl (e.trans h)

theorem spec_l91Spoilt_le (a0b : List Int) (a0p : Int) : Tv.Le
  (bnd (spec_l6Rd_pick 4 a0b a0p) fun r1 =>
  bnd (spec_l91Expr (wrap64 (2 + r1.1)) r1.2.1 r1.2.2) fun r2 =>
  bnd (spec_l6Rd_pick 40 r2.2.2.2.1 r2.2.2.2.2) fun r3 =>
  (bif (decide (r3.1 = 0)) then
  bnd (spec_l6Rd_pick 2 r3.2.1 r3.2.2) fun r4 =>
  bnd (geti ([(-1), 100000] : List Int) r4.1) fun e5 =>
  some (⟨r2.1, e5, r2.2.2.1.2⟩, r4.2.1, r4.2.2)
  else
  (bif (decide (r3.1 = 1)) then
  bnd (spec_l6Rd_pick 2 r3.2.1 r3.2.2) fun r6 =>
  bnd (geti ([(-1), 14] : List Int) r6.1) fun e7 =>
  some (⟨e7, r2.2.1, r2.2.2.1.2⟩, r6.2.1, r6.2.2)
  else
  (bif (decide (r3.1 = 2)) then
  bnd (spec_l91Leaf r3.2.1 r3.2.2) fun r8 =>
  bnd (appM (Md.dem r2.2.2.1.1) r2.2.2.1.2 ([⟨r8.1, r8.2.1, r8.2.2.1.2⟩] : List Exp)) fun l9 =>
  some (⟨r2.1, r2.2.1, l9⟩, r8.2.2.2.1, r8.2.2.2.2)
  else
  (bif (decide (r3.1 = 3)) then
  bnd (spec_l91Leaf r3.2.1 r3.2.2) fun r10 =>
  bnd (spec_l4Both 8 (⟨r2.1, r2.2.1, r2.2.2.1.2⟩ : Exp) (⟨r10.1, r10.2.1, r10.2.2.1.2⟩ : Exp)) fun r11 =>
  bnd (spec_l91Expr 5 r10.2.2.2.1 r10.2.2.2.2) fun r12 =>
  bnd (spec_l4Both 8 (⟨r11.1, r11.2.1, r11.2.2.2⟩ : Exp) (⟨r12.1, r12.2.1, r12.2.2.1.2⟩ : Exp)) fun r13 =>
  some (⟨r13.1, r13.2.1, r13.2.2.2⟩, r12.2.2.2.1, r12.2.2.2.2)
  else
  (bif (decide (r3.1 = 4)) then
  bnd (spec_l91Op r3.2.1 r3.2.2) fun r14 =>
  bnd (spec_l91Expr 4 r14.2.1 r14.2.2) fun r15 =>
  bnd (spec_l4Leaf 13 4) fun r16 =>
  bnd (spec_l4Both r14.1 (⟨r15.1, r15.2.1, r15.2.2.1.2⟩ : Exp) (⟨r16.1, r16.2.1, r16.2.2.2⟩ : Exp)) fun r17 =>
  some (⟨r17.1, r17.2.1, r17.2.2.2⟩, r15.2.2.2.1, r15.2.2.2.2)
  else
  some (⟨r2.1, r2.2.1, r2.2.2.1.2⟩, r3.2.1, r3.2.2)))))) : Option (Exp × List Int × Int))
  (spec_l91Spoilt a0b a0p) := fun r h => by
  have e : runC (phi Tb GT sg) Tb GT p800.code (mkST p800.ins [.bp 0 0] p800.bins [.var [.sl .share .u8 a0b, .int .i64 a0p]]) (finT p800 s800) = (
  bnd (spec_l6Rd_pick 4 a0b a0p) fun r1 =>
  bnd (spec_l91Expr (wrap64 (2 + r1.1)) r1.2.1 r1.2.2) fun r2 =>
  bnd (spec_l6Rd_pick 40 r2.2.2.2.1 r2.2.2.2.2) fun r3 =>
  (bif (decide (r3.1 = 0)) then
  bnd (spec_l6Rd_pick 2 r3.2.1 r3.2.2) fun r4 =>
  bnd (geti ([(-1), 100000] : List Int) r4.1) fun e5 =>
  some (⟨r2.1, e5, r2.2.2.1.2⟩, r4.2.1, r4.2.2)
  else
  (bif (decide (r3.1 = 1)) then
  bnd (spec_l6Rd_pick 2 r3.2.1 r3.2.2) fun r6 =>
  bnd (geti ([(-1), 14] : List Int) r6.1) fun e7 =>
  some (⟨e7, r2.2.1, r2.2.2.1.2⟩, r6.2.1, r6.2.2)
  else
  (bif (decide (r3.1 = 2)) then
  bnd (spec_l91Leaf r3.2.1 r3.2.2) fun r8 =>
  bnd (appM (Md.dem r2.2.2.1.1) r2.2.2.1.2 ([⟨r8.1, r8.2.1, r8.2.2.1.2⟩] : List Exp)) fun l9 =>
  some (⟨r2.1, r2.2.1, l9⟩, r8.2.2.2.1, r8.2.2.2.2)
  else
  (bif (decide (r3.1 = 3)) then
  bnd (spec_l91Leaf r3.2.1 r3.2.2) fun r10 =>
  bnd (spec_l4Both 8 (⟨r2.1, r2.2.1, r2.2.2.1.2⟩ : Exp) (⟨r10.1, r10.2.1, r10.2.2.1.2⟩ : Exp)) fun r11 =>
  bnd (spec_l91Expr 5 r10.2.2.2.1 r10.2.2.2.2) fun r12 =>
  bnd (spec_l4Both 8 (⟨r11.1, r11.2.1, r11.2.2.2⟩ : Exp) (⟨r12.1, r12.2.1, r12.2.2.1.2⟩ : Exp)) fun r13 =>
  some (⟨r13.1, r13.2.1, r13.2.2.2⟩, r12.2.2.2.1, r12.2.2.2.2)
  else
  (bif (decide (r3.1 = 4)) then
  bnd (spec_l91Op r3.2.1 r3.2.2) fun r14 =>
  bnd (spec_l91Expr 4 r14.2.1 r14.2.2) fun r15 =>
  bnd (spec_l4Leaf 13 4) fun r16 =>
  bnd (spec_l4Both r14.1 (⟨r15.1, r15.2.1, r15.2.2.1.2⟩ : Exp) (⟨r16.1, r16.2.1, r16.2.2.2⟩ : Exp)) fun r17 =>
  some (⟨r17.1, r17.2.1, r17.2.2.2⟩, r15.2.2.2.1, r15.2.2.2.2)
  else
  some (⟨r2.1, r2.2.1, r2.2.2.1.2⟩, r3.2.1, r3.2.2)))))) : Option (Exp × List Int × Int)) := by kernel_rfl
  exact fn_le' (sig := s800) (p := p800) (by kernel_rfl) (by kernel_rfl) rfl rfl rfl (e.trans h)

theorem spec_l6Rd_pick_le (a1 : Int) (a0b : List Int) (a0p : Int) : Tv.Le
  ((bif (decide (a1 < 1)) then
  some (0, a0b, (wrap64 (a0p + 1)))
  else
  (bif (decide ((a0b.length : Int) = 0)) then
  some (0, a0b, (wrap64 (a0p + 1)))
  else
  (bif (decide ((wrap64 ((wrap64 (a0p + 1)) - 1)) < (a0b.length : Int))) then
  bnd (geti a0b (wrap64 ((wrap64 (a0p + 1)) - 1))) fun e1 =>
  bnd (remI (wrap64 (e1)) a1) fun n2 =>
  some (n2, a0b, (wrap64 (a0p + 1)))
  else
  bnd (remI (wrap64 ((wrap64 (a0p + 1)) - 1)) (a0b.length : Int)) fun n3 =>
  bnd (geti a0b n3) fun e4 =>
  bnd (remI (wrap64 ((wrap64 ((wrap64 ((wrap64 (a0p + 1)) - 1)) * 7)) + 3)) (a0b.length : Int)) fun n5 =>
  bnd (geti a0b n5) fun e6 =>
  bnd (quoI .i64 (wrap64 ((wrap64 (a0p + 1)) - 1)) (a0b.length : Int)) fun n7 =>
  bnd (remI (bits .xor .i64 (wrap64 ((wrap64 ((wrap64 ((wrap64 ((wrap64 (e4)) * 131)) + (wrap64 ((wrap64 (e6)) * 1117)))) + (wrap64 ((wrap64 ((wrap64 (a0p + 1)) - 1)) * 29)))) + (wrap64 (n7 * 53)))) (wrap64 (Int.tdiv (wrap64 ((wrap64 ((wrap64 ((wrap64 ((wrap64 (e4)) * 131)) + (wrap64 ((wrap64 (e6)) * 1117)))) + (wrap64 ((wrap64 ((wrap64 (a0p + 1)) - 1)) * 29)))) + (wrap64 (n7 * 53)))) 64))) a1) fun n8 =>
  some (n8, a0b, (wrap64 (a0p + 1)))))) : Option (Int × List Int × Int))
  (spec_l6Rd_pick a1 a0b a0p) := fun r h => by
  have e : runC (phi Tb GT sg) Tb GT p200.code (mkST p200.ins [.bp 0 0, .int .i64 a1] p200.bins [.var [.sl .share .u8 a0b, .int .i64 a0p]]) (finT p200 s200) = (
  (bif (decide (a1 < 1)) then
  some (0, a0b, (wrap64 (a0p + 1)))
  else
  (bif (decide ((a0b.length : Int) = 0)) then
  some (0, a0b, (wrap64 (a0p + 1)))
  else
  (bif (decide ((wrap64 ((wrap64 (a0p + 1)) - 1)) < (a0b.length : Int))) then
  bnd (geti a0b (wrap64 ((wrap64 (a0p + 1)) - 1))) fun e1 =>
  bnd (remI (wrap64 (e1)) a1) fun n2 =>
  some (n2, a0b, (wrap64 (a0p + 1)))
  else
  bnd (remI (wrap64 ((wrap64 (a0p + 1)) - 1)) (a0b.length : Int)) fun n3 =>
  bnd (geti a0b n3) fun e4 =>
  bnd (remI (wrap64 ((wrap64 ((wrap64 ((wrap64 (a0p + 1)) - 1)) * 7)) + 3)) (a0b.length : Int)) fun n5 =>
  bnd (geti a0b n5) fun e6 =>
  bnd (quoI .i64 (wrap64 ((wrap64 (a0p + 1)) - 1)) (a0b.length : Int)) fun n7 =>
  bnd (remI (bits .xor .i64 (wrap64 ((wrap64 ((wrap64 ((wrap64 ((wrap64 (e4)) * 131)) + (wrap64 ((wrap64 (e6)) * 1117)))) + (wrap64 ((wrap64 ((wrap64 (a0p + 1)) - 1)) * 29)))) + (wrap64 (n7 * 53)))) (wrap64 (Int.tdiv (wrap64 ((wrap64 ((wrap64 ((wrap64 ((wrap64 (e4)) * 131)) + (wrap64 ((wrap64 (e6)) * 1117)))) + (wrap64 ((wrap64 ((wrap64 (a0p + 1)) - 1)) * 29)))) + (wrap64 (n7 * 53)))) 64))) a1) fun n8 =>
  some (n8, a0b, (wrap64 (a0p + 1)))))) : Option (Int × List Int × Int)) := by kernel_rfl
  exact fn_le' (sig := s200) (p := p200) (by kernel_rfl) (by kernel_rfl) rfl rfl rfl (e.trans h)

theorem impl_ExprValid_le (a0 : Exp) : Tv.Le
  (bnd (impl_exprValid (⟨a0.op, a0.n, a0.args⟩ : Exp) 5) fun r1 =>
  some r1 : Option (Bool))
  (impl_ExprValid a0) := fun r h => by
  have e : runC (phi Tb GT sg) Tb GT p1200.code (mkST p1200.ins [.agg (rowT .exp a0)] p1200.bins []) (finT p1200 s1200) = (
  bnd (impl_exprValid (⟨a0.op, a0.n, a0.args⟩ : Exp) 5) fun r1 =>
  some r1 : Option (Bool)) := by kernel_rfl
  exact fn_le' (sig := s1200) (p := p1200) (by kernel_rfl) (by kernel_rfl) rfl rfl rfl (e.trans h)

theorem impl_exprDepth_le (a0 : Exp) : Tv.Le
  (bnd (impl_exprDepth_l1 0 a0.args (a0.args.length : Int) 0) fun r1 =>
  some (wrap64 (r1 + 1)) : Option (Int))
  (impl_exprDepth a0) := fun r h => by
  have e : runC (phi Tb GT sg) Tb GT p1300.code (mkST p1300.ins [.agg (rowT .exp a0)] p1300.bins []) (finT p1300 s1300) = (
  bnd (impl_exprDepth_l1 0 a0.args (a0.args.length : Int) 0) fun r1 =>
  some (wrap64 (r1 + 1)) : Option (Int)) := by kernel_rfl
  exact fn_le' (sig := s1300) (p := p1300) (by kernel_rfl) (by kernel_rfl) rfl rfl rfl (e.trans h)

theorem impl_compileExpr_le (a0 : Exp) (a1 : Int) (a2 : List Quad) : Tv.Le
  ((bif (decide (a0.op = 0)) then
  bnd (appL a2 ([⟨1, a1, 0, 0, a0.n⟩] : List Quad)) fun l1 =>
  some l1
  else
  (bif (decide (a0.op = 13)) then
  bnd (appL a2 ([⟨2, a1, a0.n, 0, 0⟩] : List Quad)) fun l2 =>
  some l2
  else
  bnd (geti a0.args 0) fun e3 =>
  bnd (impl_compileExpr (⟨e3.op, e3.n, e3.args⟩ : Exp) a1 a2) fun r4 =>
  bnd (geti a0.args 1) fun e5 =>
  bnd (impl_compileExpr (⟨e5.op, e5.n, e5.args⟩ : Exp) (wrap64 (a1 + 1)) r4) fun r6 =>
  bnd (appL r6 ([⟨3, a1, a1, (wrap64 (a1 + 1)), a0.op⟩] : List Quad)) fun l7 =>
  some l7)) : Option (List Quad))
  (impl_compileExpr a0 a1 a2) := fun r h => by
  have e : runC (phi Tb GT sg) Tb GT p1400.code (mkST p1400.ins [.agg (rowT .exp a0), .int .i64 a1, .sl (.own true) .quad a2] p1400.bins []) (finT p1400 s1400) = (
  (bif (decide (a0.op = 0)) then
  bnd (appL a2 ([⟨1, a1, 0, 0, a0.n⟩] : List Quad)) fun l1 =>
  some l1
  else
  (bif (decide (a0.op = 13)) then
  bnd (appL a2 ([⟨2, a1, a0.n, 0, 0⟩] : List Quad)) fun l2 =>
  some l2
  else
  bnd (geti a0.args 0) fun e3 =>
  bnd (impl_compileExpr (⟨e3.op, e3.n, e3.args⟩ : Exp) a1 a2) fun r4 =>
  bnd (geti a0.args 1) fun e5 =>
  bnd (impl_compileExpr (⟨e5.op, e5.n, e5.args⟩ : Exp) (wrap64 (a1 + 1)) r4) fun r6 =>
  bnd (appL r6 ([⟨3, a1, a1, (wrap64 (a1 + 1)), a0.op⟩] : List Quad)) fun l7 =>
  some l7)) : Option (List Quad)) := by kernel_rfl
  exact fn_le' (sig := s1400) (p := p1400) (by kernel_rfl) (by kernel_rfl) rfl rfl rfl (e.trans h)

theorem spec_ExprValid_le (a0 : Exp) : Tv.Le
  (bnd (spec_l4Ok (⟨a0.op, a0.n, a0.args⟩ : Exp) 5) fun r1 =>
  some r1 : Option (Bool))
  (spec_ExprValid a0) := fun r h => by
  have e : runC (phi Tb GT sg) Tb GT p1900.code (mkST p1900.ins [.agg (rowT .exp a0)] p1900.bins []) (finT p1900 s1900) = (
  bnd (spec_l4Ok (⟨a0.op, a0.n, a0.args⟩ : Exp) 5) fun r1 =>
  some r1 : Option (Bool)) := by kernel_rfl
  exact fn_le' (sig := s1900) (p := p1900) (by kernel_rfl) (by kernel_rfl) rfl rfl rfl (e.trans h)

theorem spec_l4Depth_le (a0 : Exp) : Tv.Le
  ((bif (decide ((a0.args.length : Int) = 0)) then
  some 1
  else
  bnd (geti a0.args 0) fun e1 =>
  bnd (spec_l4Depth (⟨e1.op, e1.n, e1.args⟩ : Exp)) fun r2 =>
  bnd (geti a0.args 1) fun e3 =>
  bnd (spec_l4Depth (⟨e3.op, e3.n, e3.args⟩ : Exp)) fun r4 =>
  some (wrap64 (1 + (if r2 < r4 then r4 else r2)))) : Option (Int))
  (spec_l4Depth a0) := fun r h => by
  have e : runC (phi Tb GT sg) Tb GT p2000.code (mkST p2000.ins [.agg (rowT .exp a0)] p2000.bins []) (finT p2000 s2000) = (
  (bif (decide ((a0.args.length : Int) = 0)) then
  some 1
  else
  bnd (geti a0.args 0) fun e1 =>
  bnd (spec_l4Depth (⟨e1.op, e1.n, e1.args⟩ : Exp)) fun r2 =>
  bnd (geti a0.args 1) fun e3 =>
  bnd (spec_l4Depth (⟨e3.op, e3.n, e3.args⟩ : Exp)) fun r4 =>
  some (wrap64 (1 + (if r2 < r4 then r4 else r2)))) : Option (Int)) := by kernel_rfl
  exact fn_le' (sig := s2000) (p := p2000) (by kernel_rfl) (by kernel_rfl) rfl rfl rfl (e.trans h)

theorem spec_l6In_le (a0 : Int) (a1 : Int) (a2 : Int) : Tv.Le
  ((bif (decide (a1 ≤ a0)) then
  some (decide (a0 ≤ a2))
  else
  some false) : Option (Bool))
  (spec_l6In a0 a1 a2) := fun r h => by
  have e : runC (phi Tb GT sg) Tb GT p1600.code (mkST p1600.ins [.int .i64 a0, .int .i64 a1, .int .i64 a2] p1600.bins []) (finT p1600 s1600) = (
  (bif (decide (a1 ≤ a0)) then
  some (decide (a0 ≤ a2))
  else
  some false) : Option (Bool)) := by kernel_rfl
  exact fn_le' (sig := s1600) (p := p1600) (by kernel_rfl) (by kernel_rfl) rfl rfl rfl (e.trans h)

theorem spec_l22Expr_le (a0 : Exp) (a1 : Int) : Tv.Le
  ((bif (decide (a0.op = 0)) then
  some ([⟨1, a1, 0, 0, a0.n⟩] : List Quad)
  else
  (bif (decide (a0.op = 13)) then
  some ([⟨2, a1, a0.n, 0, 0⟩] : List Quad)
  else
  bnd (geti a0.args 0) fun e1 =>
  bnd (spec_l22Expr (⟨e1.op, e1.n, e1.args⟩ : Exp) a1) fun r2 =>
  bnd (geti a0.args 1) fun e3 =>
  bnd (spec_l22Expr (⟨e3.op, e3.n, e3.args⟩ : Exp) (wrap64 (a1 + 1))) fun r4 =>
  bnd (appL r2 r4) fun l5 =>
  bnd (appL l5 ([⟨3, a1, a1, (wrap64 (a1 + 1)), a0.op⟩] : List Quad)) fun l6 =>
  some l6)) : Option (List Quad))
  (spec_l22Expr a0 a1) := fun r h => by
  have e : runC (phi Tb GT sg) Tb GT p2100.code (mkST p2100.ins [.agg (rowT .exp a0), .int .i64 a1] p2100.bins []) (finT p2100 s2100) = (
  (bif (decide (a0.op = 0)) then
  some ([⟨1, a1, 0, 0, a0.n⟩] : List Quad)
  else
  (bif (decide (a0.op = 13)) then
  some ([⟨2, a1, a0.n, 0, 0⟩] : List Quad)
  else
  bnd (geti a0.args 0) fun e1 =>
  bnd (spec_l22Expr (⟨e1.op, e1.n, e1.args⟩ : Exp) a1) fun r2 =>
  bnd (geti a0.args 1) fun e3 =>
  bnd (spec_l22Expr (⟨e3.op, e3.n, e3.args⟩ : Exp) (wrap64 (a1 + 1))) fun r4 =>
  bnd (appL r2 r4) fun l5 =>
  bnd (appL l5 ([⟨3, a1, a1, (wrap64 (a1 + 1)), a0.op⟩] : List Quad)) fun l6 =>
  some l6)) : Option (List Quad)) := by kernel_rfl
  exact fn_le' (sig := s2100) (p := p2100) (by kernel_rfl) (by kernel_rfl) rfl rfl rfl (e.trans h)

theorem laws_sameCode_l1_le (t0 : List Quad) (t1 : List Quad) (t5 : Int) : Tv.Le
  ((bif (decide (t5 < (t0.length : Int))) then
  bnd (geti t0 t5) fun e1 =>
  bnd (geti t1 t5) fun e2 =>
  (bif (!(decide (e1.op = e2.op) && (decide (e1.dst = e2.dst) && (decide (e1.a = e2.a) && (decide (e1.b = e2.b) && (decide (e1.n = e2.n) && true)))))) then
  some (.inr false)
  else
  laws_sameCode_l1 t0 t1 (wrap64 (t5 + 1)))
  else
  some (.inl ())) : Option (Unit ⊕ Bool))
  (laws_sameCode_l1 t0 t1 t5) := fun r h => by
  have e : runC (phi Tb GT sg) Tb GT p2301.code (mkST p2301.ins [.sl .share .quad t0, .sl .share .quad t1, .int .i64 t5] p2301.bins []) (finL Tb GT 2301 p2301 s2301) = (
  (bif (decide (t5 < (t0.length : Int))) then
  bnd (geti t0 t5) fun e1 =>
  bnd (geti t1 t5) fun e2 =>
  (bif (!(decide (e1.op = e2.op) && (decide (e1.dst = e2.dst) && (decide (e1.a = e2.a) && (decide (e1.b = e2.b) && (decide (e1.n = e2.n) && true)))))) then
  some (.inr false)
  else
  laws_sameCode_l1 t0 t1 (wrap64 (t5 + 1)))
  else
  some (.inl ())) : Option (Unit ⊕ Bool)) := by kernel_rfl
  exact loop_le' (sig := s2301) (p := p2301) (by kernel_rfl) (by kernel_rfl) rfl rfl rfl (e.trans h)

theorem impl_exprFold_le (a0 : Exp) : Tv.Le
  ((bif (decide ((a0.args.length : Int) = 0)) then
  some (⟨a0.op, a0.n, []⟩)
  else
  bnd (geti a0.args 0) fun e1 =>
  bnd (impl_exprFold (⟨e1.op, e1.n, e1.args⟩ : Exp)) fun r2 =>
  bnd (geti a0.args 1) fun e3 =>
  bnd (impl_exprFold (⟨e3.op, e3.n, e3.args⟩ : Exp)) fun r4 =>
  (bif (decide (r2.op = 0)) then
  (bif (decide (r4.op = 0)) then
  bnd (impl_apply a0.op r2.n r4.n) fun r5 =>
  (bif (decide (0 ≤ r5)) then
  (bif (decide (r5 ≤ 99999)) then
  some (⟨0, r5, []⟩)
  else
  some (⟨a0.op, 0, ([⟨r2.op, r2.n, r2.args⟩, ⟨r4.op, r4.n, r4.args⟩] : List Exp)⟩))
  else
  some (⟨a0.op, 0, ([⟨r2.op, r2.n, r2.args⟩, ⟨r4.op, r4.n, r4.args⟩] : List Exp)⟩))
  else
  some (⟨a0.op, 0, ([⟨r2.op, r2.n, r2.args⟩, ⟨r4.op, r4.n, r4.args⟩] : List Exp)⟩))
  else
  some (⟨a0.op, 0, ([⟨r2.op, r2.n, r2.args⟩, ⟨r4.op, r4.n, r4.args⟩] : List Exp)⟩))) : Option (Exp))
  (impl_exprFold a0) := fun r h => by
  have e : runC (phi Tb GT sg) Tb GT p3400.code (mkST p3400.ins [.agg (rowT .exp a0)] p3400.bins []) (finT p3400 s3400) = (
  (bif (decide ((a0.args.length : Int) = 0)) then
  some (⟨a0.op, a0.n, []⟩)
  else
  bnd (geti a0.args 0) fun e1 =>
  bnd (impl_exprFold (⟨e1.op, e1.n, e1.args⟩ : Exp)) fun r2 =>
  bnd (geti a0.args 1) fun e3 =>
  bnd (impl_exprFold (⟨e3.op, e3.n, e3.args⟩ : Exp)) fun r4 =>
  (bif (decide (r2.op = 0)) then
  (bif (decide (r4.op = 0)) then
  bnd (impl_apply a0.op r2.n r4.n) fun r5 =>
  (bif (decide (0 ≤ r5)) then
  (bif (decide (r5 ≤ 99999)) then
  some (⟨0, r5, []⟩)
  else
  some (⟨a0.op, 0, ([⟨r2.op, r2.n, r2.args⟩, ⟨r4.op, r4.n, r4.args⟩] : List Exp)⟩))
  else
  some (⟨a0.op, 0, ([⟨r2.op, r2.n, r2.args⟩, ⟨r4.op, r4.n, r4.args⟩] : List Exp)⟩))
  else
  some (⟨a0.op, 0, ([⟨r2.op, r2.n, r2.args⟩, ⟨r4.op, r4.n, r4.args⟩] : List Exp)⟩))
  else
  some (⟨a0.op, 0, ([⟨r2.op, r2.n, r2.args⟩, ⟨r4.op, r4.n, r4.args⟩] : List Exp)⟩))) : Option (Exp)) := by kernel_rfl
  exact fn_le' (sig := s3400) (p := p3400) (by kernel_rfl) (by kernel_rfl) rfl rfl rfl (e.trans h)

theorem spec_l91Expr_le (a1 : Int) (a0b : List Int) (a0p : Int) : Tv.Le
  ((bif (decide (a1 < 2)) then
  bnd (spec_l91Leaf a0b a0p) fun r1 =>
  some (r1.1, r1.2.1, ((Md.dem (Md.dem (Md.dem r1.2.2.1.1))), r1.2.2.1.2), r1.2.2.2.1, r1.2.2.2.2)
  else
  bnd (spec_l6Rd_pick 3 a0b a0p) fun r2 =>
  (bif (decide (r2.1 = 0)) then
  bnd (spec_l91Leaf r2.2.1 r2.2.2) fun r3 =>
  some (r3.1, r3.2.1, ((Md.dem (Md.dem (Md.dem r3.2.2.1.1))), r3.2.2.1.2), r3.2.2.2.1, r3.2.2.2.2)
  else
  bnd (spec_l91Op r2.2.1 r2.2.2) fun r4 =>
  bnd (spec_l91Expr (wrap64 (a1 - 1)) r4.2.1 r4.2.2) fun r5 =>
  bnd (spec_l91Expr (wrap64 (a1 - 1)) r5.2.2.2.1 r5.2.2.2.2) fun r6 =>
  bnd (spec_l4Both r4.1 (⟨r5.1, r5.2.1, r5.2.2.1.2⟩ : Exp) (⟨r6.1, r6.2.1, r6.2.2.1.2⟩ : Exp)) fun r7 =>
  some (r7.1, r7.2.1, ((Md.dem (Md.dem (Md.dem r7.2.2.1))), r7.2.2.2), r6.2.2.2.1, r6.2.2.2.2))) : Option (Int × Int × (Md × List Exp) × List Int × Int))
  (spec_l91Expr a1 a0b a0p) := fun r h => by
  have e : runC (phi Tb GT sg) Tb GT p700.code (mkST p700.ins [.bp 0 0, .int .i64 a1] p700.bins [.var [.sl .share .u8 a0b, .int .i64 a0p]]) (finT p700 s700) = (
  (bif (decide (a1 < 2)) then
  bnd (spec_l91Leaf a0b a0p) fun r1 =>
  some (r1.1, r1.2.1, ((Md.dem (Md.dem (Md.dem r1.2.2.1.1))), r1.2.2.1.2), r1.2.2.2.1, r1.2.2.2.2)
  else
  bnd (spec_l6Rd_pick 3 a0b a0p) fun r2 =>
  (bif (decide (r2.1 = 0)) then
  bnd (spec_l91Leaf r2.2.1 r2.2.2) fun r3 =>
  some (r3.1, r3.2.1, ((Md.dem (Md.dem (Md.dem r3.2.2.1.1))), r3.2.2.1.2), r3.2.2.2.1, r3.2.2.2.2)
  else
  bnd (spec_l91Op r2.2.1 r2.2.2) fun r4 =>
  bnd (spec_l91Expr (wrap64 (a1 - 1)) r4.2.1 r4.2.2) fun r5 =>
  bnd (spec_l91Expr (wrap64 (a1 - 1)) r5.2.2.2.1 r5.2.2.2.2) fun r6 =>
  bnd (spec_l4Both r4.1 (⟨r5.1, r5.2.1, r5.2.2.1.2⟩ : Exp) (⟨r6.1, r6.2.1, r6.2.2.1.2⟩ : Exp)) fun r7 =>
  some (r7.1, r7.2.1, ((Md.dem (Md.dem (Md.dem r7.2.2.1))), r7.2.2.2), r6.2.2.2.1, r6.2.2.2.2))) : Option (Int × Int × (Md × List Exp) × List Int × Int)) := by kernel_rfl
  exact fn_le' (sig := s700) (p := p700) (by kernel_rfl) (by kernel_rfl) rfl rfl rfl (e.trans h)

theorem spec_l91Leaf_le (a0b : List Int) (a0p : Int) : Tv.Le
  (bnd (spec_l6Rd_pick 4 a0b a0p) fun r1 =>
  (bif (decide (r1.1 = 0)) then
  bnd (spec_l6Rd_pick 4 r1.2.1 r1.2.2) fun r2 =>
  bnd (spec_l4Leaf 0 r2.1) fun r3 =>
  some (r3.1, r3.2.1, ((Md.dem (Md.dem (Md.dem r3.2.2.1))), r3.2.2.2), r2.2.1, r2.2.2)
  else
  (bif (decide (r1.1 = 1)) then
  bnd (spec_l6Rd_pick 8 r1.2.1 r1.2.2) fun r4 =>
  bnd (geti ([5, 31, 32, 100, 2047, 2048, 65536, 99999] : List Int) r4.1) fun e5 =>
  bnd (spec_l4Leaf 0 e5) fun r6 =>
  some (r6.1, r6.2.1, ((Md.dem (Md.dem (Md.dem r6.2.2.1))), r6.2.2.2), r4.2.1, r4.2.2)
  else
  bnd (spec_l6Rd_pick 4 r1.2.1 r1.2.2) fun r7 =>
  bnd (spec_l4Leaf 13 r7.1) fun r8 =>
  some (r8.1, r8.2.1, ((Md.dem (Md.dem (Md.dem r8.2.2.1))), r8.2.2.2), r7.2.1, r7.2.2))) : Option (Int × Int × (Md × List Exp) × List Int × Int))
  (spec_l91Leaf a0b a0p) := fun r h => by
  have e : runC (phi Tb GT sg) Tb GT p400.code (mkST p400.ins [.bp 0 0] p400.bins [.var [.sl .share .u8 a0b, .int .i64 a0p]]) (finT p400 s400) = (
  bnd (spec_l6Rd_pick 4 a0b a0p) fun r1 =>
  (bif (decide (r1.1 = 0)) then
  bnd (spec_l6Rd_pick 4 r1.2.1 r1.2.2) fun r2 =>
  bnd (spec_l4Leaf 0 r2.1) fun r3 =>
  some (r3.1, r3.2.1, ((Md.dem (Md.dem (Md.dem r3.2.2.1))), r3.2.2.2), r2.2.1, r2.2.2)
  else
  (bif (decide (r1.1 = 1)) then
  bnd (spec_l6Rd_pick 8 r1.2.1 r1.2.2) fun r4 =>
  bnd (geti ([5, 31, 32, 100, 2047, 2048, 65536, 99999] : List Int) r4.1) fun e5 =>
  bnd (spec_l4Leaf 0 e5) fun r6 =>
  some (r6.1, r6.2.1, ((Md.dem (Md.dem (Md.dem r6.2.2.1))), r6.2.2.2), r4.2.1, r4.2.2)
  else
  bnd (spec_l6Rd_pick 4 r1.2.1 r1.2.2) fun r7 =>
  bnd (spec_l4Leaf 13 r7.1) fun r8 =>
  some (r8.1, r8.2.1, ((Md.dem (Md.dem (Md.dem r8.2.2.1))), r8.2.2.2), r7.2.1, r7.2.2))) : Option (Int × Int × (Md × List Exp) × List Int × Int)) := by kernel_rfl
  exact fn_le' (sig := s400) (p := p400) (by kernel_rfl) (by kernel_rfl) rfl rfl rfl (e.trans h)

theorem spec_l4Both_le (a0 : Int) (a1 : Exp) (a2 : Exp) : Tv.Le
  (some (a0, 0, (.full, ([⟨a1.op, a1.n, a1.args⟩, ⟨a2.op, a2.n, a2.args⟩] : List Exp))) : Option (Int × Int × (Md × List Exp)))
  (spec_l4Both a0 a1 a2) := fun r h => by
  have e : runC (phi Tb GT sg) Tb GT p500.code (mkST p500.ins [.int .i64 a0, .agg (rowT .exp a1), .agg (rowT .exp a2)] p500.bins []) (finT p500 s500) = (
  some (a0, 0, (.full, ([⟨a1.op, a1.n, a1.args⟩, ⟨a2.op, a2.n, a2.args⟩] : List Exp))) : Option (Int × Int × (Md × List Exp))) := by kernel_rfl
  exact fn_le' (sig := s500) (p := p500) (by kernel_rfl) (by kernel_rfl) rfl rfl rfl (e.trans h)

theorem spec_l91Op_le (a0b : List Int) (a0p : Int) : Tv.Le
  (bnd (spec_l6Rd_pick 12 a0b a0p) fun r1 =>
  some ((wrap64 (1 + r1.1)), r1.2.1, r1.2.2) : Option (Int × List Int × Int))
  (spec_l91Op a0b a0p) := fun r h => by
  have e : runC (phi Tb GT sg) Tb GT p600.code (mkST p600.ins [.bp 0 0] p600.bins [.var [.sl .share .u8 a0b, .int .i64 a0p]]) (finT p600 s600) = (
  bnd (spec_l6Rd_pick 12 a0b a0p) fun r1 =>
  some ((wrap64 (1 + r1.1)), r1.2.1, r1.2.2) : Option (Int × List Int × Int)) := by kernel_rfl
  exact fn_le' (sig := s600) (p := p600) (by kernel_rfl) (by kernel_rfl) rfl rfl rfl (e.trans h)

theorem spec_l4Leaf_le (a0 : Int) (a1 : Int) : Tv.Le
  (some (a0, a1, ((.own false), ([] : List Exp))) : Option (Int × Int × (Md × List Exp)))
  (spec_l4Leaf a0 a1) := fun r h => by
  have e : runC (phi Tb GT sg) Tb GT p300.code (mkST p300.ins [.int .i64 a0, .int .i64 a1] p300.bins []) (finT p300 s300) = (
  some (a0, a1, ((.own false), ([] : List Exp))) : Option (Int × Int × (Md × List Exp))) := by kernel_rfl
  exact fn_le' (sig := s300) (p := p300) (by kernel_rfl) (by kernel_rfl) rfl rfl rfl (e.trans h)

theorem impl_exprValid_le (a0 : Exp) (a1 : Int) : Tv.Le
  ((bif (decide (a0.op = 0)) then
  (bif (decide (0 ≤ a0.n)) then
  (bif (decide (a0.n ≤ 99999)) then
  (bif (decide ((a0.args.length : Int) = 0)) then
  some (decide (0 < a1))
  else
  some false)
  else
  some false)
  else
  some false)
  else
  (bif (decide (a0.op = 13)) then
  (bif (decide (0 ≤ a0.n)) then
  (bif (decide (a0.n < 4)) then
  (bif (decide ((a0.args.length : Int) = 0)) then
  some (decide (0 < a1))
  else
  some false)
  else
  some false)
  else
  some false)
  else
  bnd (impl_OpValid a0.op) fun r1 =>
  (bif r1 then
  (bif (decide (a0.n = 0)) then
  (bif (decide ((a0.args.length : Int) = 2)) then
  (bif (decide (1 < a1)) then
  bnd (geti a0.args 0) fun e2 =>
  bnd (impl_exprValid (⟨e2.op, e2.n, e2.args⟩ : Exp) (wrap64 (a1 - 1))) fun r3 =>
  (bif r3 then
  bnd (geti a0.args 1) fun e4 =>
  bnd (impl_exprValid (⟨e4.op, e4.n, e4.args⟩ : Exp) (wrap64 (a1 - 1))) fun r5 =>
  some r5
  else
  some false)
  else
  some false)
  else
  some false)
  else
  some false)
  else
  some false))) : Option (Bool))
  (impl_exprValid a0 a1) := fun r h => by
  have e : runC (phi Tb GT sg) Tb GT p1100.code (mkST p1100.ins [.agg (rowT .exp a0), .int .i64 a1] p1100.bins []) (finT p1100 s1100) = (
  (bif (decide (a0.op = 0)) then
  (bif (decide (0 ≤ a0.n)) then
  (bif (decide (a0.n ≤ 99999)) then
  (bif (decide ((a0.args.length : Int) = 0)) then
  some (decide (0 < a1))
  else
  some false)
  else
  some false)
  else
  some false)
  else
  (bif (decide (a0.op = 13)) then
  (bif (decide (0 ≤ a0.n)) then
  (bif (decide (a0.n < 4)) then
  (bif (decide ((a0.args.length : Int) = 0)) then
  some (decide (0 < a1))
  else
  some false)
  else
  some false)
  else
  some false)
  else
  bnd (impl_OpValid a0.op) fun r1 =>
  (bif r1 then
  (bif (decide (a0.n = 0)) then
  (bif (decide ((a0.args.length : Int) = 2)) then
  (bif (decide (1 < a1)) then
  bnd (geti a0.args 0) fun e2 =>
  bnd (impl_exprValid (⟨e2.op, e2.n, e2.args⟩ : Exp) (wrap64 (a1 - 1))) fun r3 =>
  (bif r3 then
  bnd (geti a0.args 1) fun e4 =>
  bnd (impl_exprValid (⟨e4.op, e4.n, e4.args⟩ : Exp) (wrap64 (a1 - 1))) fun r5 =>
  some r5
  else
  some false)
  else
  some false)
  else
  some false)
  else
  some false)
  else
  some false))) : Option (Bool)) := by kernel_rfl
  exact fn_le' (sig := s1100) (p := p1100) (by kernel_rfl) (by kernel_rfl) rfl rfl rfl (e.trans h)

theorem impl_exprDepth_l1_le (t3 : Int) (t7 : List Exp) (t8 : Int) (t9 : Int) : Tv.Le
  ((bif (decide (t9 < t8)) then
  bnd (geti t7 t9) fun e1 =>
  bnd (impl_exprDepth (⟨e1.op, e1.n, e1.args⟩ : Exp)) fun r2 =>
  impl_exprDepth_l1 (if t3 < r2 then r2 else t3) t7 t8 (wrap64 (t9 + 1))
  else
  some t3) : Option (Int))
  (impl_exprDepth_l1 t3 t7 t8 t9) := fun r h => by
  have e : runC (phi Tb GT sg) Tb GT p1301.code (mkST p1301.ins [.int .i64 t3, .sl .share .exp t7, .int .i64 t8, .int .i64 t9] p1301.bins []) (finL Tb GT 1301 p1301 s1301) = (
  (bif (decide (t9 < t8)) then
  bnd (geti t7 t9) fun e1 =>
  bnd (impl_exprDepth (⟨e1.op, e1.n, e1.args⟩ : Exp)) fun r2 =>
  impl_exprDepth_l1 (if t3 < r2 then r2 else t3) t7 t8 (wrap64 (t9 + 1))
  else
  some t3) : Option (Int)) := by kernel_rfl
  exact loop_le' (sig := s1301) (p := p1301) (by kernel_rfl) (by kernel_rfl) rfl rfl rfl (e.trans h)

theorem spec_l4Ok_le (a0 : Exp) (a1 : Int) : Tv.Le
  ((bif (decide (a1 < 1)) then
  some false
  else
  (bif (decide (a0.op = 0)) then
  bnd (spec_l6In a0.n 0 99999) fun r1 =>
  (bif r1 then
  some (decide ((a0.args.length : Int) = 0))
  else
  some false)
  else
  (bif (decide (a0.op = 13)) then
  bnd (spec_l6In a0.n 0 3) fun r2 =>
  (bif r2 then
  some (decide ((a0.args.length : Int) = 0))
  else
  some false)
  else
  bnd (spec_OpValid a0.op) fun r3 =>
  (bif r3 then
  (bif (decide (a0.n = 0)) then
  (bif (decide ((a0.args.length : Int) = 2)) then
  bnd (geti a0.args 0) fun e4 =>
  bnd (spec_l4Ok (⟨e4.op, e4.n, e4.args⟩ : Exp) (wrap64 (a1 - 1))) fun r5 =>
  (bif r5 then
  bnd (geti a0.args 1) fun e6 =>
  bnd (spec_l4Ok (⟨e6.op, e6.n, e6.args⟩ : Exp) (wrap64 (a1 - 1))) fun r7 =>
  some r7
  else
  some false)
  else
  some false)
  else
  some false)
  else
  some false)))) : Option (Bool))
  (spec_l4Ok a0 a1) := fun r h => by
  have e : runC (phi Tb GT sg) Tb GT p1800.code (mkST p1800.ins [.agg (rowT .exp a0), .int .i64 a1] p1800.bins []) (finT p1800 s1800) = (
  (bif (decide (a1 < 1)) then
  some false
  else
  (bif (decide (a0.op = 0)) then
  bnd (spec_l6In a0.n 0 99999) fun r1 =>
  (bif r1 then
  some (decide ((a0.args.length : Int) = 0))
  else
  some false)
  else
  (bif (decide (a0.op = 13)) then
  bnd (spec_l6In a0.n 0 3) fun r2 =>
  (bif r2 then
  some (decide ((a0.args.length : Int) = 0))
  else
  some false)
  else
  bnd (spec_OpValid a0.op) fun r3 =>
  (bif r3 then
  (bif (decide (a0.n = 0)) then
  (bif (decide ((a0.args.length : Int) = 2)) then
  bnd (geti a0.args 0) fun e4 =>
  bnd (spec_l4Ok (⟨e4.op, e4.n, e4.args⟩ : Exp) (wrap64 (a1 - 1))) fun r5 =>
  (bif r5 then
  bnd (geti a0.args 1) fun e6 =>
  bnd (spec_l4Ok (⟨e6.op, e6.n, e6.args⟩ : Exp) (wrap64 (a1 - 1))) fun r7 =>
  some r7
  else
  some false)
  else
  some false)
  else
  some false)
  else
  some false)))) : Option (Bool)) := by kernel_rfl
  exact fn_le' (sig := s1800) (p := p1800) (by kernel_rfl) (by kernel_rfl) rfl rfl rfl (e.trans h)

theorem impl_apply_le (a0 : Int) (a1 : Int) (a2 : Int) : Tv.Le
  ((bif (decide (a0 = 1)) then
  some (bits .or .i64 a1 a2)
  else
  (bif (decide (a0 = 2)) then
  some (bits .xor .i64 a1 a2)
  else
  (bif (decide (a0 = 3)) then
  some (bits .and .i64 a1 a2)
  else
  (bif (decide (a0 = 4)) then
  bnd (impl_truth (decide (a1 = a2))) fun r1 =>
  some r1
  else
  (bif (decide (a0 = 5)) then
  bnd (impl_truth (decide (a1 < a2))) fun r2 =>
  some r2
  else
  (bif (decide (a0 = 6)) then
  bnd (shlI .i64 a1 (bits .and .i64 a2 31)) fun n3 =>
  bnd (impl_Wrap n3) fun r4 =>
  some r4
  else
  (bif (decide (a0 = 7)) then
  bnd (shrI .i64 a1 (bits .and .i64 a2 31)) fun n5 =>
  some n5
  else
  (bif (decide (a0 = 8)) then
  bnd (impl_Wrap (wrap64 (a1 + a2))) fun r6 =>
  some r6
  else
  (bif (decide (a0 = 9)) then
  bnd (impl_Wrap (wrap64 (a1 - a2))) fun r7 =>
  some r7
  else
  (bif (decide (a0 = 10)) then
  bnd (impl_Wrap (wrap64 (a1 * a2))) fun r8 =>
  some r8
  else
  (bif (decide (a0 = 11)) then
  (bif (decide (a2 = 0)) then
  some (-1)
  else
  bnd (quoI .i64 a1 a2) fun n9 =>
  bnd (impl_Wrap n9) fun r10 =>
  some r10)
  else
  (bif (decide (a2 = 0)) then
  some a1
  else
  bnd (remI a1 a2) fun n11 =>
  some n11)))))))))))) : Option (Int))
  (impl_apply a0 a1 a2) := fun r h => by
  have e : runC (phi Tb GT sg) Tb GT p3300.code (mkST p3300.ins [.int .i64 a0, .int .i64 a1, .int .i64 a2] p3300.bins []) (finT p3300 s3300) = (
  (bif (decide (a0 = 1)) then
  some (bits .or .i64 a1 a2)
  else
  (bif (decide (a0 = 2)) then
  some (bits .xor .i64 a1 a2)
  else
  (bif (decide (a0 = 3)) then
  some (bits .and .i64 a1 a2)
  else
  (bif (decide (a0 = 4)) then
  bnd (impl_truth (decide (a1 = a2))) fun r1 =>
  some r1
  else
  (bif (decide (a0 = 5)) then
  bnd (impl_truth (decide (a1 < a2))) fun r2 =>
  some r2
  else
  (bif (decide (a0 = 6)) then
  bnd (shlI .i64 a1 (bits .and .i64 a2 31)) fun n3 =>
  bnd (impl_Wrap n3) fun r4 =>
  some r4
  else
  (bif (decide (a0 = 7)) then
  bnd (shrI .i64 a1 (bits .and .i64 a2 31)) fun n5 =>
  some n5
  else
  (bif (decide (a0 = 8)) then
  bnd (impl_Wrap (wrap64 (a1 + a2))) fun r6 =>
  some r6
  else
  (bif (decide (a0 = 9)) then
  bnd (impl_Wrap (wrap64 (a1 - a2))) fun r7 =>
  some r7
  else
  (bif (decide (a0 = 10)) then
  bnd (impl_Wrap (wrap64 (a1 * a2))) fun r8 =>
  some r8
  else
  (bif (decide (a0 = 11)) then
  (bif (decide (a2 = 0)) then
  some (-1)
  else
  bnd (quoI .i64 a1 a2) fun n9 =>
  bnd (impl_Wrap n9) fun r10 =>
  some r10)
  else
  (bif (decide (a2 = 0)) then
  some a1
  else
  bnd (remI a1 a2) fun n11 =>
  some n11)))))))))))) : Option (Int)) := by kernel_rfl
  exact fn_le' (sig := s3300) (p := p3300) (by kernel_rfl) (by kernel_rfl) rfl rfl rfl (e.trans h)

theorem impl_OpValid_le (a0 : Int) : Tv.Le
  ((bif (decide (1 ≤ a0)) then
  some (decide (a0 ≤ 12))
  else
  some false) : Option (Bool))
  (impl_OpValid a0) := fun r h => by
  have e : runC (phi Tb GT sg) Tb GT p1000.code (mkST p1000.ins [.int .i64 a0] p1000.bins []) (finT p1000 s1000) = (
  (bif (decide (1 ≤ a0)) then
  some (decide (a0 ≤ 12))
  else
  some false) : Option (Bool)) := by kernel_rfl
  exact fn_le' (sig := s1000) (p := p1000) (by kernel_rfl) (by kernel_rfl) rfl rfl rfl (e.trans h)

theorem spec_OpValid_le (a0 : Int) : Tv.Le
  (bnd (spec_l6In a0 1 12) fun r1 =>
  some r1 : Option (Bool))
  (spec_OpValid a0) := fun r h => by
  have e : runC (phi Tb GT sg) Tb GT p1700.code (mkST p1700.ins [.int .i64 a0] p1700.bins []) (finT p1700 s1700) = (
  bnd (spec_l6In a0 1 12) fun r1 =>
  some r1 : Option (Bool)) := by kernel_rfl
  exact fn_le' (sig := s1700) (p := p1700) (by kernel_rfl) (by kernel_rfl) rfl rfl rfl (e.trans h)

theorem impl_truth_le (a0 : Bool) : Tv.Le
  ((bif a0 then
  some 1
  else
  some 0) : Option (Int))
  (impl_truth a0) := fun r h => by
  have e : runC (phi Tb GT sg) Tb GT p3100.code (mkST p3100.ins [.bool a0] p3100.bins []) (finT p3100 s3100) = (
  (bif a0 then
  some 1
  else
  some 0) : Option (Int)) := by kernel_rfl
  exact fn_le' (sig := s3100) (p := p3100) (by kernel_rfl) (by kernel_rfl) rfl rfl rfl (e.trans h)

theorem impl_Wrap_le (a0 : Int) : Tv.Le
  (some (wrap64 ((wrap32 (a0)))) : Option (Int))
  (impl_Wrap a0) := fun r h => by
  have e : runC (phi Tb GT sg) Tb GT p3200.code (mkST p3200.ins [.int .i64 a0] p3200.bins []) (finT p3200 s3200) = (
  some (wrap64 ((wrap32 (a0)))) : Option (Int)) := by kernel_rfl
  exact fn_le' (sig := s3200) (p := p3200) (by kernel_rfl) (by kernel_rfl) rfl rfl rfl (e.trans h)

end Go.TFnCompileExprFold
