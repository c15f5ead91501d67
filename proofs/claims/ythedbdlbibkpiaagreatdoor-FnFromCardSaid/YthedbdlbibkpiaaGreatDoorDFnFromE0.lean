import Derived.Test.YthedbdlbibkpiaaGreatDoorDFnFromP
import Derived.KernelRfl
set_option linter.unusedVariables false
namespace Go.TFnFrom
open Go Go.RowKit Go.Vs Go.Tv
theorem laws_FnFrom_le (a0 : List Int) : Tv.Le
  ((bif (decide (1048576 < (a0.length : Int))) then
  some true
  else
  bnd (spec_DrawExprFrom a0) fun r1 =>
  bnd (impl_ExprFrom r1) fun r2 =>
  bnd (spec_ExprFrom r1) fun r3 =>
  (bif (!(r2.2 == r3.2)) then
  (bif (r2.2 == r3.2) then
  bnd (laws_sameExpr (⟨r2.1.op, r2.1.n, r2.1.args⟩ : Exp) (⟨r3.1.op, r3.1.n, r3.1.args⟩ : Exp)) fun r4 =>
  some r4
  else
  some false)
  else
  bnd (laws_sameExpr (⟨r2.1.op, r2.1.n, r2.1.args⟩ : Exp) (⟨r3.1.op, r3.1.n, r3.1.args⟩ : Exp)) fun r5 =>
  (bif (!r5) then
  (bif (r2.2 == r3.2) then
  bnd (laws_sameExpr (⟨r2.1.op, r2.1.n, r2.1.args⟩ : Exp) (⟨r3.1.op, r3.1.n, r3.1.args⟩ : Exp)) fun r6 =>
  some r6
  else
  some false)
  else
  (bif (!r2.2) then
  (bif (r2.2 == r3.2) then
  bnd (laws_sameExpr (⟨r2.1.op, r2.1.n, r2.1.args⟩ : Exp) (⟨r3.1.op, r3.1.n, r3.1.args⟩ : Exp)) fun r7 =>
  some r7
  else
  some false)
  else
  bnd (impl_ExprText (⟨r2.1.op, r2.1.n, r2.1.args⟩ : Exp)) fun r8 =>
  bnd (impl_ExprFrom r8) fun r9 =>
  bnd (impl_ExprValid (⟨r2.1.op, r2.1.n, r2.1.args⟩ : Exp)) fun r10 =>
  (bif r10 then
  (bif r9.2 then
  bnd (laws_sameExpr (⟨r9.1.op, r9.1.n, r9.1.args⟩ : Exp) (⟨r2.1.op, r2.1.n, r2.1.args⟩ : Exp)) fun r11 =>
  some r11
  else
  some false)
  else
  some false))))) : Option (Bool))
  (laws_FnFrom a0) := by
  exact fun r h => by
    have e : runC (phi Tb GT sg) Tb GT p37900.code (mkST p37900.ins [.sl .share .u8 a0] p37900.bins []) (finT p37900 s37900) = (
      (bif (decide (1048576 < (a0.length : Int))) then
      some true
      else
      bnd (spec_DrawExprFrom a0) fun r1 =>
      bnd (impl_ExprFrom r1) fun r2 =>
      bnd (spec_ExprFrom r1) fun r3 =>
      (bif (!(r2.2 == r3.2)) then
      (bif (r2.2 == r3.2) then
      bnd (laws_sameExpr (⟨r2.1.op, r2.1.n, r2.1.args⟩ : Exp) (⟨r3.1.op, r3.1.n, r3.1.args⟩ : Exp)) fun r4 =>
      some r4
      else
      some false)
      else
      bnd (laws_sameExpr (⟨r2.1.op, r2.1.n, r2.1.args⟩ : Exp) (⟨r3.1.op, r3.1.n, r3.1.args⟩ : Exp)) fun r5 =>
      (bif (!r5) then
      (bif (r2.2 == r3.2) then
      bnd (laws_sameExpr (⟨r2.1.op, r2.1.n, r2.1.args⟩ : Exp) (⟨r3.1.op, r3.1.n, r3.1.args⟩ : Exp)) fun r6 =>
      some r6
      else
      some false)
      else
      (bif (!r2.2) then
      (bif (r2.2 == r3.2) then
      bnd (laws_sameExpr (⟨r2.1.op, r2.1.n, r2.1.args⟩ : Exp) (⟨r3.1.op, r3.1.n, r3.1.args⟩ : Exp)) fun r7 =>
      some r7
      else
      some false)
      else
      bnd (impl_ExprText (⟨r2.1.op, r2.1.n, r2.1.args⟩ : Exp)) fun r8 =>
      bnd (impl_ExprFrom r8) fun r9 =>
      bnd (impl_ExprValid (⟨r2.1.op, r2.1.n, r2.1.args⟩ : Exp)) fun r10 =>
      (bif r10 then
      (bif r9.2 then
      bnd (laws_sameExpr (⟨r9.1.op, r9.1.n, r9.1.args⟩ : Exp) (⟨r2.1.op, r2.1.n, r2.1.args⟩ : Exp)) fun r11 =>
      some r11
      else
      some false)
      else
      some false))))) : Option (Bool)) := by kernel_rfl
    exact fn_le' (sig := s37900) (p := p37900) (by kernel_rfl) (by kernel_rfl) rfl rfl rfl (e.trans h)

theorem spec_DrawExprFrom_le (a0 : List Int) : Tv.Le
  (bnd (spec_l6Open a0) fun r1 =>
  bnd (spec_l6Rd_pick 4 r1.1 r1.2) fun r2 =>
  bnd (spec_l91Expr (wrap64 (2 + r2.1)) r2.2.1 r2.2.2) fun r3 =>
  bnd (spec_ExprText (⟨r3.1, r3.2.1, r3.2.2.1.2⟩ : Exp)) fun r4 =>
  bnd (spec_l6Rd_pick 16 r3.2.2.2.1 r3.2.2.2.2) fun r5 =>
  (bif (decide (r5.1 = 0)) then
  bnd (catS ([40, 32]) r4) fun s6 =>
  bnd (catS s6 ([32, 41])) fun s7 =>
  some s7
  else
  (bif (decide (r5.1 = 1)) then
  bnd (spec_l6Rd_of ([[32, 43], [32, 41], [120], [10], [32, 49], [32, 43, 32, 97], [32, 42, 32, 48, 48, 55]] : List (List UInt8)) r5.2.1 r5.2.2) fun r8 =>
  bnd (catS r4 r8.1) fun s9 =>
  some s9
  else
  (bif (decide (r5.1 = 2)) then
  bnd (spec_l91Tokens r5.2.1 r5.2.2) fun r10 =>
  bnd (spec_TokensText r10.1) fun r11 =>
  some r11
  else
  (bif (decide (r5.1 = 3)) then
  bnd (catS ([40, 40]) r4) fun s12 =>
  bnd (catS s12 ([41, 41, 43, 32])) fun s13 =>
  bnd (spec_l6Rd_pick 100 r5.2.1 r5.2.2) fun r14 =>
  bnd (spec_l6Dec r14.1) fun r15 =>
  bnd (catS s13 r15) fun s16 =>
  bnd (catS s16 ([45, 49])) fun s17 =>
  some s17
  else
  some r4)))) : Option (List UInt8))
  (spec_DrawExprFrom a0) := by
  rewrite [← wrapC_eq]
  exact fun r h => by
    have e : runC (phi Tb GT sg) Tb GT p35800.code (mkST p35800.ins [.sl .share .u8 a0] p35800.bins []) (finT p35800 s35800) = (
      bnd (spec_l6Open a0) fun r1 =>
      bnd (spec_l6Rd_pick 4 r1.1 r1.2) fun r2 =>
      bnd (spec_l91Expr (wrapC (2 + r2.1)) r2.2.1 r2.2.2) fun r3 =>
      bnd (spec_ExprText (⟨r3.1, r3.2.1, r3.2.2.1.2⟩ : Exp)) fun r4 =>
      bnd (spec_l6Rd_pick 16 r3.2.2.2.1 r3.2.2.2.2) fun r5 =>
      (bif (decide (r5.1 = 0)) then
      bnd (catS ([40, 32]) r4) fun s6 =>
      bnd (catS s6 ([32, 41])) fun s7 =>
      some s7
      else
      (bif (decide (r5.1 = 1)) then
      bnd (spec_l6Rd_of ([[32, 43], [32, 41], [120], [10], [32, 49], [32, 43, 32, 97], [32, 42, 32, 48, 48, 55]] : List (List UInt8)) r5.2.1 r5.2.2) fun r8 =>
      bnd (catS r4 r8.1) fun s9 =>
      some s9
      else
      (bif (decide (r5.1 = 2)) then
      bnd (spec_l91Tokens r5.2.1 r5.2.2) fun r10 =>
      bnd (spec_TokensText r10.1) fun r11 =>
      some r11
      else
      (bif (decide (r5.1 = 3)) then
      bnd (catS ([40, 40]) r4) fun s12 =>
      bnd (catS s12 ([41, 41, 43, 32])) fun s13 =>
      bnd (spec_l6Rd_pick 100 r5.2.1 r5.2.2) fun r14 =>
      bnd (spec_l6Dec r14.1) fun r15 =>
      bnd (catS s13 r15) fun s16 =>
      bnd (catS s16 ([45, 49])) fun s17 =>
      some s17
      else
      some r4)))) : Option (List UInt8)) := by kernel_rfl
    exact fn_le' (sig := s35800) (p := p35800) (by kernel_rfl) (by kernel_rfl) rfl rfl rfl (e.trans h)

theorem impl_ExprFrom_le (a0 : List UInt8) : Tv.Le
  (bnd (impl_Tokens a0) fun r1 =>
  (bif (!r1.2) then
  some (⟨0, 0, []⟩, false)
  else
  bnd (impl_parser_expr 1 r1.1 0 false) fun r2 =>
  (bif r2.2.2.2 then
  some (⟨0, 0, []⟩, false)
  else
  (bif (!decide (r2.2.2.1 = (r1.1.length : Int))) then
  some (⟨0, 0, []⟩, false)
  else
  bnd (impl_ExprValid (⟨r2.1.op, r2.1.n, r2.1.args⟩ : Exp)) fun r3 =>
  (bif (!r3) then
  some (⟨0, 0, []⟩, false)
  else
  some (⟨r2.1.op, r2.1.n, r2.1.args⟩, true))))) : Option (Exp × Bool))
  (impl_ExprFrom a0) := by
  exact fun r h => by
    have e : runC (phi Tb GT sg) Tb GT p34500.code (mkST p34500.ins [.str a0] p34500.bins []) (finT p34500 s34500) = (
      bnd (impl_Tokens a0) fun r1 =>
      (bif (!r1.2) then
      some (⟨0, 0, []⟩, false)
      else
      bnd (impl_parser_expr 1 r1.1 0 false) fun r2 =>
      (bif r2.2.2.2 then
      some (⟨0, 0, []⟩, false)
      else
      (bif (!decide (r2.2.2.1 = (r1.1.length : Int))) then
      some (⟨0, 0, []⟩, false)
      else
      bnd (impl_ExprValid (⟨r2.1.op, r2.1.n, r2.1.args⟩ : Exp)) fun r3 =>
      (bif (!r3) then
      some (⟨0, 0, []⟩, false)
      else
      some (⟨r2.1.op, r2.1.n, r2.1.args⟩, true))))) : Option (Exp × Bool)) := by kernel_rfl
    exact fn_le' (sig := s34500) (p := p34500) (by kernel_rfl) (by kernel_rfl) rfl rfl rfl (e.trans h)

theorem spec_ExprFrom_le (a0 : List UInt8) : Tv.Le
  (bnd (spec_Tokens a0) fun r1 =>
  (bif (!r1.2) then
  some (⟨0, 0, []⟩, false)
  else
  bnd (spec_l5Parse r1.1 0 1) fun r2 =>
  (bif (!decide (r2.2 = (r1.1.length : Int))) then
  some (⟨0, 0, []⟩, false)
  else
  (bif (decide (r2.2 < 0)) then
  some (⟨0, 0, []⟩, false)
  else
  bnd (spec_ExprValid (⟨r2.1.op, r2.1.n, r2.1.args⟩ : Exp)) fun r3 =>
  (bif (!r3) then
  some (⟨0, 0, []⟩, false)
  else
  some (⟨r2.1.op, r2.1.n, r2.1.args⟩, true))))) : Option (Exp × Bool))
  (spec_ExprFrom a0) := by
  exact fun r h => by
    have e : runC (phi Tb GT sg) Tb GT p33000.code (mkST p33000.ins [.str a0] p33000.bins []) (finT p33000 s33000) = (
      bnd (spec_Tokens a0) fun r1 =>
      (bif (!r1.2) then
      some (⟨0, 0, []⟩, false)
      else
      bnd (spec_l5Parse r1.1 0 1) fun r2 =>
      (bif (!decide (r2.2 = (r1.1.length : Int))) then
      some (⟨0, 0, []⟩, false)
      else
      (bif (decide (r2.2 < 0)) then
      some (⟨0, 0, []⟩, false)
      else
      bnd (spec_ExprValid (⟨r2.1.op, r2.1.n, r2.1.args⟩ : Exp)) fun r3 =>
      (bif (!r3) then
      some (⟨0, 0, []⟩, false)
      else
      some (⟨r2.1.op, r2.1.n, r2.1.args⟩, true))))) : Option (Exp × Bool)) := by kernel_rfl
    exact fn_le' (sig := s33000) (p := p33000) (by kernel_rfl) (by kernel_rfl) rfl rfl rfl (e.trans h)

theorem laws_sameExpr_le (a0 : Exp) (a1 : Exp) : Tv.Le
  ((bif (!decide (a0.op = a1.op)) then
  some false
  else
  (bif (!decide (a0.n = a1.n)) then
  some false
  else
  (bif (!decide ((a0.args.length : Int) = (a1.args.length : Int))) then
  some false
  else
  bnd (laws_sameExpr_l1 0 a0.op a0.n a0.args a1.op a1.n a1.args) fun r1 =>
  selm r1 (fun y2 =>
  some true) (fun z3 =>
  some z3)))) : Option (Bool))
  (laws_sameExpr a0 a1) := by
  exact fun r h => by
    have e : runC (phi Tb GT sg) Tb GT p9800.code (mkST p9800.ins [.agg (rowT .exp a0), .agg (rowT .exp a1)] p9800.bins []) (finT p9800 s9800) = (
      (bif (!decide (a0.op = a1.op)) then
      some false
      else
      (bif (!decide (a0.n = a1.n)) then
      some false
      else
      (bif (!decide ((a0.args.length : Int) = (a1.args.length : Int))) then
      some false
      else
      bnd (laws_sameExpr_l1 0 a0.op a0.n a0.args a1.op a1.n a1.args) fun r1 =>
      selm r1 (fun y2 =>
      some true) (fun z3 =>
      some z3)))) : Option (Bool)) := by kernel_rfl
    exact fn_le' (sig := s9800) (p := p9800) (by kernel_rfl) (by kernel_rfl) rfl rfl rfl (e.trans h)

theorem impl_ExprText_le (a0 : Exp) : Tv.Le
  (bnd (impl_ExprValid (⟨a0.op, a0.n, a0.args⟩ : Exp)) fun r1 =>
  (bif (!r1) then
  some []
  else
  bnd (impl_exprTokens (⟨a0.op, a0.n, a0.args⟩ : Exp) []) fun r2 =>
  bnd (impl_TokensText r2) fun r3 =>
  some r3) : Option (List UInt8))
  (impl_ExprText a0) := by
  exact fun r h => by
    have e : runC (phi Tb GT sg) Tb GT p36700.code (mkST p36700.ins [.agg (rowT .exp a0)] p36700.bins []) (finT p36700 s36700) = (
      bnd (impl_ExprValid (⟨a0.op, a0.n, a0.args⟩ : Exp)) fun r1 =>
      (bif (!r1) then
      some []
      else
      bnd (impl_exprTokens (⟨a0.op, a0.n, a0.args⟩ : Exp) []) fun r2 =>
      bnd (impl_TokensText r2) fun r3 =>
      some r3) : Option (List UInt8)) := by kernel_rfl
    exact fn_le' (sig := s36700) (p := p36700) (by kernel_rfl) (by kernel_rfl) rfl rfl rfl (e.trans h)

theorem impl_ExprValid_le (a0 : Exp) : Tv.Le
  (bnd (impl_exprValid (⟨a0.op, a0.n, a0.args⟩ : Exp) 5) fun r1 =>
  some r1 : Option (Bool))
  (impl_ExprValid a0) := by
  exact fun r h => by
    have e : runC (phi Tb GT sg) Tb GT p1200.code (mkST p1200.ins [.agg (rowT .exp a0)] p1200.bins []) (finT p1200 s1200) = (
      bnd (impl_exprValid (⟨a0.op, a0.n, a0.args⟩ : Exp) 5) fun r1 =>
      some r1 : Option (Bool)) := by kernel_rfl
    exact fn_le' (sig := s1200) (p := p1200) (by kernel_rfl) (by kernel_rfl) rfl rfl rfl (e.trans h)

theorem spec_l6Open_le (a0 : List Int) : Tv.Le
  ((bif (decide (2000 < (a0.length : Int))) then
  bnd (cutL a0 0 2000) fun l1 =>
  some (l1, 0)
  else
  some (a0, 0)) : Option (List Int × Int))
  (spec_l6Open a0) := by
  exact fun r h => by
    have e : runC (phi Tb GT sg) Tb GT p100.code (mkST p100.ins [.sl .share .u8 a0] p100.bins []) (finT p100 s100) = (
      (bif (decide (2000 < (a0.length : Int))) then
      bnd (cutL a0 0 2000) fun l1 =>
      some (l1, 0)
      else
      some (a0, 0)) : Option (List Int × Int)) := by kernel_rfl
    exact fn_le' (sig := s100) (p := p100) (by kernel_rfl) (by kernel_rfl) rfl rfl rfl (e.trans h)

theorem spec_l6Rd_pick_le (a1 : Int) (a0b : List Int) (a0p : Int) : Tv.Le
  ((bif (decide (a1 < 1)) then
  some (0, a0b, (wrap64 (a0p + 1)))
  else
  (bif (decide ((a0b.length : Int) = 0)) then
  some (0, a0b, (wrap64 (a0p + 1)))
  else
  (bif (decide ((wrap64 ((wrap64 (a0p + 1)) - 1)) < (a0b.length : Int))) then
  bnd (geti a0b (wrap64 ((wrap64 (a0p + 1)) - 1))) fun e1 =>
  bnd (remI (wrap64 (e1)) a1) fun n2 =>
  some (n2, a0b, (wrap64 (a0p + 1)))
  else
  bnd (remI (wrap64 ((wrap64 (a0p + 1)) - 1)) (a0b.length : Int)) fun n3 =>
  bnd (geti a0b n3) fun e4 =>
  bnd (remI (wrap64 ((wrap64 ((wrap64 ((wrap64 (a0p + 1)) - 1)) * 7)) + 3)) (a0b.length : Int)) fun n5 =>
  bnd (geti a0b n5) fun e6 =>
  bnd (quoI .i64 (wrap64 ((wrap64 (a0p + 1)) - 1)) (a0b.length : Int)) fun n7 =>
  bnd (remI (bits .xor .i64 (wrap64 ((wrap64 ((wrap64 ((wrap64 ((wrap64 (e4)) * 131)) + (wrap64 ((wrap64 (e6)) * 1117)))) + (wrap64 ((wrap64 ((wrap64 (a0p + 1)) - 1)) * 29)))) + (wrap64 (n7 * 53)))) (wrap64 (Int.tdiv (wrap64 ((wrap64 ((wrap64 ((wrap64 ((wrap64 (e4)) * 131)) + (wrap64 ((wrap64 (e6)) * 1117)))) + (wrap64 ((wrap64 ((wrap64 (a0p + 1)) - 1)) * 29)))) + (wrap64 (n7 * 53)))) 64))) a1) fun n8 =>
  some (n8, a0b, (wrap64 (a0p + 1)))))) : Option (Int × List Int × Int))
  (spec_l6Rd_pick a1 a0b a0p) := by
  rewrite [← wrapC_eq]
  exact fun r h => by
    have e : runC (phi Tb GT sg) Tb GT p200.code (mkST p200.ins [.bp 0 0, .int .i64 a1] p200.bins [.var [.sl .share .u8 a0b, .int .i64 a0p]]) (finT p200 s200) = (
      (bif (decide (a1 < 1)) then
      some (0, a0b, (wrapC (a0p + 1)))
      else
      (bif (decide ((a0b.length : Int) = 0)) then
      some (0, a0b, (wrapC (a0p + 1)))
      else
      (bif (decide ((wrapC ((wrapC (a0p + 1)) - 1)) < (a0b.length : Int))) then
      bnd (geti a0b (wrapC ((wrapC (a0p + 1)) - 1))) fun e1 =>
      bnd (remI (wrapC (e1)) a1) fun n2 =>
      some (n2, a0b, (wrapC (a0p + 1)))
      else
      bnd (remI (wrapC ((wrapC (a0p + 1)) - 1)) (a0b.length : Int)) fun n3 =>
      bnd (geti a0b n3) fun e4 =>
      bnd (remI (wrapC ((wrapC ((wrapC ((wrapC (a0p + 1)) - 1)) * 7)) + 3)) (a0b.length : Int)) fun n5 =>
      bnd (geti a0b n5) fun e6 =>
      bnd (quoI .i64 (wrapC ((wrapC (a0p + 1)) - 1)) (a0b.length : Int)) fun n7 =>
      bnd (remI (bits .xor .i64 (wrapC ((wrapC ((wrapC ((wrapC ((wrapC (e4)) * 131)) + (wrapC ((wrapC (e6)) * 1117)))) + (wrapC ((wrapC ((wrapC (a0p + 1)) - 1)) * 29)))) + (wrapC (n7 * 53)))) (wrapC (Int.tdiv (wrapC ((wrapC ((wrapC ((wrapC ((wrapC (e4)) * 131)) + (wrapC ((wrapC (e6)) * 1117)))) + (wrapC ((wrapC ((wrapC (a0p + 1)) - 1)) * 29)))) + (wrapC (n7 * 53)))) 64))) a1) fun n8 =>
      some (n8, a0b, (wrapC (a0p + 1)))))) : Option (Int × List Int × Int)) := by kernel_rfl
    exact fn_le' (sig := s200) (p := p200) (by kernel_rfl) (by kernel_rfl) rfl rfl rfl (e.trans h)

theorem spec_l91Expr_le (a1 : Int) (a0b : List Int) (a0p : Int) : Tv.Le
  ((bif (decide (a1 < 2)) then
  bnd (spec_l91Leaf a0b a0p) fun r1 =>
  some (r1.1, r1.2.1, ((Md.dem (Md.dem (Md.dem r1.2.2.1.1))), r1.2.2.1.2), r1.2.2.2.1, r1.2.2.2.2)
  else
  bnd (spec_l6Rd_pick 3 a0b a0p) fun r2 =>
  (bif (decide (r2.1 = 0)) then
  bnd (spec_l91Leaf r2.2.1 r2.2.2) fun r3 =>
  some (r3.1, r3.2.1, ((Md.dem (Md.dem (Md.dem r3.2.2.1.1))), r3.2.2.1.2), r3.2.2.2.1, r3.2.2.2.2)
  else
  bnd (spec_l91Op r2.2.1 r2.2.2) fun r4 =>
  bnd (spec_l91Expr (wrap64 (a1 - 1)) r4.2.1 r4.2.2) fun r5 =>
  bnd (spec_l91Expr (wrap64 (a1 - 1)) r5.2.2.2.1 r5.2.2.2.2) fun r6 =>
  bnd (spec_l4Both r4.1 (⟨r5.1, r5.2.1, r5.2.2.1.2⟩ : Exp) (⟨r6.1, r6.2.1, r6.2.2.1.2⟩ : Exp)) fun r7 =>
  some (r7.1, r7.2.1, ((Md.dem (Md.dem (Md.dem r7.2.2.1))), r7.2.2.2), r6.2.2.2.1, r6.2.2.2.2))) : Option (Int × Int × (Md × List Exp) × List Int × Int))
  (spec_l91Expr a1 a0b a0p) := by
  rewrite [← wrapC_eq]
  exact fun r h => by
    have e : runC (phi Tb GT sg) Tb GT p700.code (mkST p700.ins [.bp 0 0, .int .i64 a1] p700.bins [.var [.sl .share .u8 a0b, .int .i64 a0p]]) (finT p700 s700) = (
      (bif (decide (a1 < 2)) then
      bnd (spec_l91Leaf a0b a0p) fun r1 =>
      some (r1.1, r1.2.1, ((Md.dem (Md.dem (Md.dem r1.2.2.1.1))), r1.2.2.1.2), r1.2.2.2.1, r1.2.2.2.2)
      else
      bnd (spec_l6Rd_pick 3 a0b a0p) fun r2 =>
      (bif (decide (r2.1 = 0)) then
      bnd (spec_l91Leaf r2.2.1 r2.2.2) fun r3 =>
      some (r3.1, r3.2.1, ((Md.dem (Md.dem (Md.dem r3.2.2.1.1))), r3.2.2.1.2), r3.2.2.2.1, r3.2.2.2.2)
      else
      bnd (spec_l91Op r2.2.1 r2.2.2) fun r4 =>
      bnd (spec_l91Expr (wrapC (a1 - 1)) r4.2.1 r4.2.2) fun r5 =>
      bnd (spec_l91Expr (wrapC (a1 - 1)) r5.2.2.2.1 r5.2.2.2.2) fun r6 =>
      bnd (spec_l4Both r4.1 (⟨r5.1, r5.2.1, r5.2.2.1.2⟩ : Exp) (⟨r6.1, r6.2.1, r6.2.2.1.2⟩ : Exp)) fun r7 =>
      some (r7.1, r7.2.1, ((Md.dem (Md.dem (Md.dem r7.2.2.1))), r7.2.2.2), r6.2.2.2.1, r6.2.2.2.2))) : Option (Int × Int × (Md × List Exp) × List Int × Int)) := by kernel_rfl
    exact fn_le' (sig := s700) (p := p700) (by kernel_rfl) (by kernel_rfl) rfl rfl rfl (e.trans h)

theorem spec_ExprText_le (a0 : Exp) : Tv.Le
  (bnd (spec_ExprValid (⟨a0.op, a0.n, a0.args⟩ : Exp)) fun r1 =>
  (bif (!r1) then
  some []
  else
  bnd (spec_l5Tokens (⟨a0.op, a0.n, a0.args⟩ : Exp)) fun r2 =>
  bnd (spec_TokensText r2) fun r3 =>
  some r3) : Option (List UInt8))
  (spec_ExprText a0) := by
  exact fun r h => by
    have e : runC (phi Tb GT sg) Tb GT p35400.code (mkST p35400.ins [.agg (rowT .exp a0)] p35400.bins []) (finT p35400 s35400) = (
      bnd (spec_ExprValid (⟨a0.op, a0.n, a0.args⟩ : Exp)) fun r1 =>
      (bif (!r1) then
      some []
      else
      bnd (spec_l5Tokens (⟨a0.op, a0.n, a0.args⟩ : Exp)) fun r2 =>
      bnd (spec_TokensText r2) fun r3 =>
      some r3) : Option (List UInt8)) := by kernel_rfl
    exact fn_le' (sig := s35400) (p := p35400) (by kernel_rfl) (by kernel_rfl) rfl rfl rfl (e.trans h)

theorem spec_l6Rd_of_le (a1 : List (List UInt8)) (a0b : List Int) (a0p : Int) : Tv.Le
  (bnd (spec_l6Rd_pick (a1.length : Int) a0b a0p) fun r1 =>
  bnd (geti a1 r1.1) fun e2 =>
  some (e2, r1.2.1, r1.2.2) : Option (List UInt8 × List Int × Int))
  (spec_l6Rd_of a1 a0b a0p) := by
  exact fun r h => by
    have e : runC (phi Tb GT sg) Tb GT p35500.code (mkST p35500.ins [.bp 0 0, .sl .share .str a1] p35500.bins [.var [.sl .share .u8 a0b, .int .i64 a0p]]) (finT p35500 s35500) = (
      bnd (spec_l6Rd_pick (a1.length : Int) a0b a0p) fun r1 =>
      bnd (geti a1 r1.1) fun e2 =>
      some (e2, r1.2.1, r1.2.2) : Option (List UInt8 × List Int × Int)) := by kernel_rfl
    exact fn_le' (sig := s35500) (p := p35500) (by kernel_rfl) (by kernel_rfl) rfl rfl rfl (e.trans h)

theorem spec_l91Tokens_le (a0b : List Int) (a0p : Int) : Tv.Le
  (bnd (spec_l6Rd_pick 10 a0b a0p) fun r1 =>
  bnd (spec_l91Tokens_l1 true ([] : List (List UInt8)) r1.1 0 r1.2.1 r1.2.2) fun r2 =>
  some (r2.1.2, r2.2.1, r2.2.2) : Option (List (List UInt8) × List Int × Int))
  (spec_l91Tokens a0b a0p) := by
  exact fun r h => by
    have e : runC (phi Tb GT sg) Tb GT p35700.code (mkST p35700.ins [.bp 0 0] p35700.bins [.var [.sl .share .u8 a0b, .int .i64 a0p]]) (finT p35700 s35700) = (
      bnd (spec_l6Rd_pick 10 a0b a0p) fun r1 =>
      bnd (spec_l91Tokens_l1 true ([] : List (List UInt8)) r1.1 0 r1.2.1 r1.2.2) fun r2 =>
      some (r2.1.2, r2.2.1, r2.2.2) : Option (List (List UInt8) × List Int × Int)) := by kernel_rfl
    exact fn_le' (sig := s35700) (p := p35700) (by kernel_rfl) (by kernel_rfl) rfl rfl rfl (e.trans h)

theorem spec_TokensText_le (a0 : List (List UInt8)) : Tv.Le
  (bnd (spec_TokensText_l1 a0 [] 0) fun r1 =>
  selm r1 (fun y2 =>
  some y2) (fun z3 =>
  some z3.1) : Option (List UInt8))
  (spec_TokensText a0) := by
  exact fun r h => by
    have e : runC (phi Tb GT sg) Tb GT p35000.code (mkST p35000.ins [.sl .share .str a0] p35000.bins []) (finT p35000 s35000) = (
      bnd (spec_TokensText_l1 a0 [] 0) fun r1 =>
      selm r1 (fun y2 =>
      some y2) (fun z3 =>
      some z3.1) : Option (List UInt8)) := by kernel_rfl
    exact fn_le' (sig := s35000) (p := p35000) (by kernel_rfl) (by kernel_rfl) rfl rfl rfl (e.trans h)

theorem spec_l6Dec_le (a0 : Int) : Tv.Le
  ((bif (decide (a0 < (-9223372036854775807))) then
  some ([45, 57, 50, 50, 51, 51, 55, 50, 48, 51, 54, 56, 53, 52, 55, 55, 53, 56, 48, 56])
  else
  (bif (decide (a0 < 0)) then
  bnd (spec_l6Dec (wrap64 (0 - a0))) fun r1 =>
  bnd (catS [45] r1) fun s2 =>
  some s2
  else
  (bif (decide (a0 < 10)) then
  some (Tv.bytes ([(((wrap64 (48 + a0))) % 256)] : List Int))
  else
  bnd (spec_l6Dec (wrap64 (Int.tdiv a0 10))) fun r3 =>
  bnd (catS r3 (Tv.bytes ([(((wrap64 (48 + (Int.tmod a0 10)))) % 256)] : List Int))) fun s4 =>
  some s4))) : Option (List UInt8))
  (spec_l6Dec a0) := by
  rewrite [← wrapC_eq]
  exact fun r h => by
    have e : runC (phi Tb GT sg) Tb GT p20500.code (mkST p20500.ins [.int .i64 a0] p20500.bins []) (finT p20500 s20500) = (
      (bif (decide (a0 < (-9223372036854775807))) then
      some ([45, 57, 50, 50, 51, 51, 55, 50, 48, 51, 54, 56, 53, 52, 55, 55, 53, 56, 48, 56])
      else
      (bif (decide (a0 < 0)) then
      bnd (spec_l6Dec (wrapC (0 - a0))) fun r1 =>
      bnd (catS [45] r1) fun s2 =>
      some s2
      else
      (bif (decide (a0 < 10)) then
      some (Tv.bytes ([(((wrapC (48 + a0))) % 256)] : List Int))
      else
      bnd (spec_l6Dec (wrapC (Int.tdiv a0 10))) fun r3 =>
      bnd (catS r3 (Tv.bytes ([(((wrapC (48 + (Int.tmod a0 10)))) % 256)] : List Int))) fun s4 =>
      some s4))) : Option (List UInt8)) := by kernel_rfl
    exact fn_le' (sig := s20500) (p := p20500) (by kernel_rfl) (by kernel_rfl) rfl rfl rfl (e.trans h)

theorem impl_Tokens_le (a0 : List UInt8) : Tv.Le
  ((bif (decide (20000 < (a0.length : Int))) then
  some ([], false)
  else
  bnd (impl_Tokens_l1 a0 false [] 0) fun r1 =>
  selm r1 (fun y2 =>
  some (y2.2, true)) (fun z3 =>
  some (z3.1.2, z3.2.1))) : Option (List (List UInt8) × Bool))
  (impl_Tokens a0) := by
  exact fun r h => by
    have e : runC (phi Tb GT sg) Tb GT p33400.code (mkST p33400.ins [.str a0] p33400.bins []) (finT p33400 s33400) = (
      (bif (decide (20000 < (a0.length : Int))) then
      some ([], false)
      else
      bnd (impl_Tokens_l1 a0 false [] 0) fun r1 =>
      selm r1 (fun y2 =>
      some (y2.2, true)) (fun z3 =>
      some (z3.1.2, z3.2.1))) : Option (List (List UInt8) × Bool)) := by kernel_rfl
    exact fn_le' (sig := s33400) (p := p33400) (by kernel_rfl) (by kernel_rfl) rfl rfl rfl (e.trans h)

theorem impl_parser_expr_le (a1 : Int) (a0tokens : List (List UInt8)) (a0at : Int) (a0failed : Bool) : Tv.Le
  (bnd (impl_parser_operand a0tokens a0at a0failed) fun r1 =>
  bnd (impl_parser_expr_l1 a1 r1.2.1 r1.2.2.1 r1.2.2.2 0 0 false [] r1.1.op r1.1.n .share r1.1.args) fun r2 =>
  some (⟨r2.2.2.2.2.2.2.1, r2.2.2.2.2.2.2.2.1, r2.2.2.2.2.2.2.2.2.2⟩, r2.1, r2.2.1, r2.2.2.1) : Option (Exp × List (List UInt8) × Int × Bool))
  (impl_parser_expr a1 a0tokens a0at a0failed) := by
  exact fun r h => by
    have e : runC (phi Tb GT sg) Tb GT p34400.code (mkST p34400.ins [.bp 0 0, .int .i64 a1] p34400.bins [.var [.sl .share .str a0tokens, .int .i64 a0at, .bool a0failed]]) (finT p34400 s34400) = (
      bnd (impl_parser_operand a0tokens a0at a0failed) fun r1 =>
      bnd (impl_parser_expr_l1 a1 r1.2.1 r1.2.2.1 r1.2.2.2 0 0 false [] r1.1.op r1.1.n .share r1.1.args) fun r2 =>
      some (⟨r2.2.2.2.2.2.2.1, r2.2.2.2.2.2.2.2.1, r2.2.2.2.2.2.2.2.2.2⟩, r2.1, r2.2.1, r2.2.2.1) : Option (Exp × List (List UInt8) × Int × Bool)) := by kernel_rfl
    exact fn_le' (sig := s34400) (p := p34400) (by kernel_rfl) (by kernel_rfl) rfl rfl rfl (e.trans h)

theorem spec_Tokens_le (a0 : List UInt8) : Tv.Le
  ((bif (decide (20000 < (a0.length : Int))) then
  some (([] : List (List UInt8)), false)
  else
  bnd (spec_Tokens_l1 a0 true ([] : List (List UInt8)) 0) fun r1 =>
  selm r1 (fun y2 =>
  some (y2.2, true)) (fun z3 =>
  some (z3.1.2, z3.2.1))) : Option (List (List UInt8) × Bool))
  (spec_Tokens a0) := by
  exact fun r h => by
    have e : runC (phi Tb GT sg) Tb GT p32200.code (mkST p32200.ins [.str a0] p32200.bins []) (finT p32200 s32200) = (
      (bif (decide (20000 < (a0.length : Int))) then
      some (([] : List (List UInt8)), false)
      else
      bnd (spec_Tokens_l1 a0 true ([] : List (List UInt8)) 0) fun r1 =>
      selm r1 (fun y2 =>
      some (y2.2, true)) (fun z3 =>
      some (z3.1.2, z3.2.1))) : Option (List (List UInt8) × Bool)) := by kernel_rfl
    exact fn_le' (sig := s32200) (p := p32200) (by kernel_rfl) (by kernel_rfl) rfl rfl rfl (e.trans h)

theorem spec_l5Parse_le (a0 : List (List UInt8)) (a1 : Int) (a2 : Int) : Tv.Le
  ((bif (decide (8 < a2)) then
  bnd (spec_l5First a0 a1) fun r1 =>
  some (⟨r1.1.op, r1.1.n, r1.1.args⟩, r1.2)
  else
  bnd (spec_l5Parse a0 a1 (wrap64 (a2 + 1))) fun r2 =>
  bnd (spec_l5Parse_l1 a0 a2 r2.2 0 0 false [] r2.1.op r2.1.n .share r2.1.args) fun r3 =>
  some (⟨r3.2.2.2.2.1, r3.2.2.2.2.2.1, r3.2.2.2.2.2.2.2⟩, r3.1)) : Option (Exp × Int))
  (spec_l5Parse a0 a1 a2) := by
  rewrite [← wrapC_eq]
  exact fun r h => by
    have e : runC (phi Tb GT sg) Tb GT p32900.code (mkST p32900.ins [.sl .share .str a0, .int .i64 a1, .int .i64 a2] p32900.bins []) (finT p32900 s32900) = (
      (bif (decide (8 < a2)) then
      bnd (spec_l5First a0 a1) fun r1 =>
      some (⟨r1.1.op, r1.1.n, r1.1.args⟩, r1.2)
      else
      bnd (spec_l5Parse a0 a1 (wrapC (a2 + 1))) fun r2 =>
      bnd (spec_l5Parse_l1 a0 a2 r2.2 0 0 false [] r2.1.op r2.1.n .share r2.1.args) fun r3 =>
      some (⟨r3.2.2.2.2.1, r3.2.2.2.2.2.1, r3.2.2.2.2.2.2.2⟩, r3.1)) : Option (Exp × Int)) := by kernel_rfl
    exact fn_le' (sig := s32900) (p := p32900) (by kernel_rfl) (by kernel_rfl) rfl rfl rfl (e.trans h)

theorem spec_ExprValid_le (a0 : Exp) : Tv.Le
  (bnd (spec_l4Ok (⟨a0.op, a0.n, a0.args⟩ : Exp) 5) fun r1 =>
  some r1 : Option (Bool))
  (spec_ExprValid a0) := by
  exact fun r h => by
    have e : runC (phi Tb GT sg) Tb GT p1900.code (mkST p1900.ins [.agg (rowT .exp a0)] p1900.bins []) (finT p1900 s1900) = (
      bnd (spec_l4Ok (⟨a0.op, a0.n, a0.args⟩ : Exp) 5) fun r1 =>
      some r1 : Option (Bool)) := by kernel_rfl
    exact fn_le' (sig := s1900) (p := p1900) (by kernel_rfl) (by kernel_rfl) rfl rfl rfl (e.trans h)

theorem laws_sameExpr_l1_le (t5 : Int) (b100_0 : Int) (b100_1 : Int) (b100_2 : List Exp) (b101_0 : Int) (b101_1 : Int) (b101_2 : List Exp) : Tv.Le
  ((bif (decide (t5 < (b100_2.length : Int))) then
  bnd (geti b100_2 t5) fun e1 =>
  bnd (geti b101_2 t5) fun e2 =>
  bnd (laws_sameExpr (⟨e1.op, e1.n, e1.args⟩ : Exp) (⟨e2.op, e2.n, e2.args⟩ : Exp)) fun r3 =>
  (bif (!r3) then
  some (.inr false)
  else
  laws_sameExpr_l1 (wrap64 (t5 + 1)) b100_0 b100_1 b100_2 b101_0 b101_1 b101_2)
  else
  some (.inl ())) : Option (Unit ⊕ Bool))
  (laws_sameExpr_l1 t5 b100_0 b100_1 b100_2 b101_0 b101_1 b101_2) := by
  rewrite [← wrapC_eq]
  exact fun r h => by
    have e : runC (phi Tb GT sg) Tb GT p9801.code (mkST p9801.ins [.bp 100 0, .bp 101 0, .int .i64 t5] p9801.bins [.var [.int .i64 b100_0, .int .i64 b100_1, .sl .share .exp b100_2], .var [.int .i64 b101_0, .int .i64 b101_1, .sl .share .exp b101_2]]) (finL Tb GT 9801 p9801 s9801) = (
      (bif (decide (t5 < (b100_2.length : Int))) then
      bnd (geti b100_2 t5) fun e1 =>
      bnd (geti b101_2 t5) fun e2 =>
      bnd (laws_sameExpr (⟨e1.op, e1.n, e1.args⟩ : Exp) (⟨e2.op, e2.n, e2.args⟩ : Exp)) fun r3 =>
      (bif (!r3) then
      some (.inr false)
      else
      laws_sameExpr_l1 (wrapC (t5 + 1)) b100_0 b100_1 b100_2 b101_0 b101_1 b101_2)
      else
      some (.inl ())) : Option (Unit ⊕ Bool)) := by kernel_rfl
    exact loop_le' (sig := s9801) (p := p9801) (by kernel_rfl) (by kernel_rfl) rfl rfl rfl (e.trans h)

theorem impl_exprTokens_le (a0 : Exp) (a1 : List (List UInt8)) : Tv.Le
  ((bif (decide (a0.op = 0)) then
  bnd (strconv_Itoa a0.n) fun r1 =>
  bnd (appL a1 ([r1] : List (List UInt8))) fun l2 =>
  some l2
  else
  (bif (decide (a0.op = 13)) then
  bnd (impl_varText a0.n) fun r3 =>
  bnd (appL a1 ([r3] : List (List UInt8))) fun l4 =>
  some l4
  else
  bnd (impl_OpLevel a0.op) fun r5 =>
  bnd (geti a0.args 0) fun e6 =>
  bnd (impl_operandTokens (⟨e6.op, e6.n, e6.args⟩ : Exp) r5 a1) fun r7 =>
  bnd (impl_OpText a0.op) fun r8 =>
  bnd (appL r7 ([r8] : List (List UInt8))) fun l9 =>
  bnd (geti a0.args 1) fun e10 =>
  bnd (impl_operandTokens (⟨e10.op, e10.n, e10.args⟩ : Exp) (wrap64 (r5 + 1)) l9) fun r11 =>
  some r11)) : Option (List (List UInt8)))
  (impl_exprTokens a0 a1) := by
  rewrite [← wrapC_eq]
  exact fun r h => by
    have e : runC (phi Tb GT sg) Tb GT p36600.code (mkST p36600.ins [.agg (rowT .exp a0), .sl (.own true) .str a1] p36600.bins []) (finT p36600 s36600) = (
      (bif (decide (a0.op = 0)) then
      bnd (strconv_Itoa a0.n) fun r1 =>
      bnd (appL a1 ([r1] : List (List UInt8))) fun l2 =>
      some l2
      else
      (bif (decide (a0.op = 13)) then
      bnd (impl_varText a0.n) fun r3 =>
      bnd (appL a1 ([r3] : List (List UInt8))) fun l4 =>
      some l4
      else
      bnd (impl_OpLevel a0.op) fun r5 =>
      bnd (geti a0.args 0) fun e6 =>
      bnd (impl_operandTokens (⟨e6.op, e6.n, e6.args⟩ : Exp) r5 a1) fun r7 =>
      bnd (impl_OpText a0.op) fun r8 =>
      bnd (appL r7 ([r8] : List (List UInt8))) fun l9 =>
      bnd (geti a0.args 1) fun e10 =>
      bnd (impl_operandTokens (⟨e10.op, e10.n, e10.args⟩ : Exp) (wrapC (r5 + 1)) l9) fun r11 =>
      some r11)) : Option (List (List UInt8))) := by kernel_rfl
    exact fn_le' (sig := s36600) (p := p36600) (by kernel_rfl) (by kernel_rfl) rfl rfl rfl (e.trans h)

theorem impl_TokensText_le (a0 : List (List UInt8)) : Tv.Le
  (bnd (impl_TokensText_l1 a0 a0 (a0.length : Int) 0) fun r1 =>
  selm r1 (fun y2 =>
  bnd (strings_Join y2 [32]) fun r4 =>
  some r4) (fun z3 =>
  some z3.2) : Option (List UInt8))
  (impl_TokensText a0) := by
  exact fun r h => by
    have e : runC (phi Tb GT sg) Tb GT p36300.code (mkST p36300.ins [.sl .share .str a0] p36300.bins []) (finT p36300 s36300) = (
      bnd (impl_TokensText_l1 a0 a0 (a0.length : Int) 0) fun r1 =>
      selm r1 (fun y2 =>
      bnd (strings_Join y2 [32]) fun r4 =>
      some r4) (fun z3 =>
      some z3.2) : Option (List UInt8)) := by kernel_rfl
    exact fn_le' (sig := s36300) (p := p36300) (by kernel_rfl) (by kernel_rfl) rfl rfl rfl (e.trans h)

theorem impl_exprValid_le (a0 : Exp) (a1 : Int) : Tv.Le
  ((bif (decide (a0.op = 0)) then
  (bif (decide (0 ≤ a0.n)) then
  (bif (decide (a0.n ≤ 99999)) then
  (bif (decide ((a0.args.length : Int) = 0)) then
  some (decide (0 < a1))
  else
  some false)
  else
  some false)
  else
  some false)
  else
  (bif (decide (a0.op = 13)) then
  (bif (decide (0 ≤ a0.n)) then
  (bif (decide (a0.n < 4)) then
  (bif (decide ((a0.args.length : Int) = 0)) then
  some (decide (0 < a1))
  else
  some false)
  else
  some false)
  else
  some false)
  else
  bnd (impl_OpValid a0.op) fun r1 =>
  (bif r1 then
  (bif (decide (a0.n = 0)) then
  (bif (decide ((a0.args.length : Int) = 2)) then
  (bif (decide (1 < a1)) then
  bnd (geti a0.args 0) fun e2 =>
  bnd (impl_exprValid (⟨e2.op, e2.n, e2.args⟩ : Exp) (wrap64 (a1 - 1))) fun r3 =>
  (bif r3 then
  bnd (geti a0.args 1) fun e4 =>
  bnd (impl_exprValid (⟨e4.op, e4.n, e4.args⟩ : Exp) (wrap64 (a1 - 1))) fun r5 =>
  some r5
  else
  some false)
  else
  some false)
  else
  some false)
  else
  some false)
  else
  some false))) : Option (Bool))
  (impl_exprValid a0 a1) := by
  rewrite [← wrapC_eq]
  exact fun r h => by
    have e : runC (phi Tb GT sg) Tb GT p1100.code (mkST p1100.ins [.agg (rowT .exp a0), .int .i64 a1] p1100.bins []) (finT p1100 s1100) = (
      (bif (decide (a0.op = 0)) then
      (bif (decide (0 ≤ a0.n)) then
      (bif (decide (a0.n ≤ 99999)) then
      (bif (decide ((a0.args.length : Int) = 0)) then
      some (decide (0 < a1))
      else
      some false)
      else
      some false)
      else
      some false)
      else
      (bif (decide (a0.op = 13)) then
      (bif (decide (0 ≤ a0.n)) then
      (bif (decide (a0.n < 4)) then
      (bif (decide ((a0.args.length : Int) = 0)) then
      some (decide (0 < a1))
      else
      some false)
      else
      some false)
      else
      some false)
      else
      bnd (impl_OpValid a0.op) fun r1 =>
      (bif r1 then
      (bif (decide (a0.n = 0)) then
      (bif (decide ((a0.args.length : Int) = 2)) then
      (bif (decide (1 < a1)) then
      bnd (geti a0.args 0) fun e2 =>
      bnd (impl_exprValid (⟨e2.op, e2.n, e2.args⟩ : Exp) (wrapC (a1 - 1))) fun r3 =>
      (bif r3 then
      bnd (geti a0.args 1) fun e4 =>
      bnd (impl_exprValid (⟨e4.op, e4.n, e4.args⟩ : Exp) (wrapC (a1 - 1))) fun r5 =>
      some r5
      else
      some false)
      else
      some false)
      else
      some false)
      else
      some false)
      else
      some false))) : Option (Bool)) := by kernel_rfl
    exact fn_le' (sig := s1100) (p := p1100) (by kernel_rfl) (by kernel_rfl) rfl rfl rfl (e.trans h)

theorem spec_l91Leaf_le (a0b : List Int) (a0p : Int) : Tv.Le
  (bnd (spec_l6Rd_pick 4 a0b a0p) fun r1 =>
  (bif (decide (r1.1 = 0)) then
  bnd (spec_l6Rd_pick 4 r1.2.1 r1.2.2) fun r2 =>
  bnd (spec_l4Leaf 0 r2.1) fun r3 =>
  some (r3.1, r3.2.1, ((Md.dem (Md.dem (Md.dem r3.2.2.1))), r3.2.2.2), r2.2.1, r2.2.2)
  else
  (bif (decide (r1.1 = 1)) then
  bnd (spec_l6Rd_pick 8 r1.2.1 r1.2.2) fun r4 =>
  bnd (geti ([5, 31, 32, 100, 2047, 2048, 65536, 99999] : List Int) r4.1) fun e5 =>
  bnd (spec_l4Leaf 0 e5) fun r6 =>
  some (r6.1, r6.2.1, ((Md.dem (Md.dem (Md.dem r6.2.2.1))), r6.2.2.2), r4.2.1, r4.2.2)
  else
  bnd (spec_l6Rd_pick 4 r1.2.1 r1.2.2) fun r7 =>
  bnd (spec_l4Leaf 13 r7.1) fun r8 =>
  some (r8.1, r8.2.1, ((Md.dem (Md.dem (Md.dem r8.2.2.1))), r8.2.2.2), r7.2.1, r7.2.2))) : Option (Int × Int × (Md × List Exp) × List Int × Int))
  (spec_l91Leaf a0b a0p) := by
  exact fun r h => by
    have e : runC (phi Tb GT sg) Tb GT p400.code (mkST p400.ins [.bp 0 0] p400.bins [.var [.sl .share .u8 a0b, .int .i64 a0p]]) (finT p400 s400) = (
      bnd (spec_l6Rd_pick 4 a0b a0p) fun r1 =>
      (bif (decide (r1.1 = 0)) then
      bnd (spec_l6Rd_pick 4 r1.2.1 r1.2.2) fun r2 =>
      bnd (spec_l4Leaf 0 r2.1) fun r3 =>
      some (r3.1, r3.2.1, ((Md.dem (Md.dem (Md.dem r3.2.2.1))), r3.2.2.2), r2.2.1, r2.2.2)
      else
      (bif (decide (r1.1 = 1)) then
      bnd (spec_l6Rd_pick 8 r1.2.1 r1.2.2) fun r4 =>
      bnd (geti ([5, 31, 32, 100, 2047, 2048, 65536, 99999] : List Int) r4.1) fun e5 =>
      bnd (spec_l4Leaf 0 e5) fun r6 =>
      some (r6.1, r6.2.1, ((Md.dem (Md.dem (Md.dem r6.2.2.1))), r6.2.2.2), r4.2.1, r4.2.2)
      else
      bnd (spec_l6Rd_pick 4 r1.2.1 r1.2.2) fun r7 =>
      bnd (spec_l4Leaf 13 r7.1) fun r8 =>
      some (r8.1, r8.2.1, ((Md.dem (Md.dem (Md.dem r8.2.2.1))), r8.2.2.2), r7.2.1, r7.2.2))) : Option (Int × Int × (Md × List Exp) × List Int × Int)) := by kernel_rfl
    exact fn_le' (sig := s400) (p := p400) (by kernel_rfl) (by kernel_rfl) rfl rfl rfl (e.trans h)

theorem spec_l91Op_le (a0b : List Int) (a0p : Int) : Tv.Le
  (bnd (spec_l6Rd_pick 12 a0b a0p) fun r1 =>
  some ((wrap64 (1 + r1.1)), r1.2.1, r1.2.2) : Option (Int × List Int × Int))
  (spec_l91Op a0b a0p) := by
  rewrite [← wrapC_eq]
  exact fun r h => by
    have e : runC (phi Tb GT sg) Tb GT p600.code (mkST p600.ins [.bp 0 0] p600.bins [.var [.sl .share .u8 a0b, .int .i64 a0p]]) (finT p600 s600) = (
      bnd (spec_l6Rd_pick 12 a0b a0p) fun r1 =>
      some ((wrapC (1 + r1.1)), r1.2.1, r1.2.2) : Option (Int × List Int × Int)) := by kernel_rfl
    exact fn_le' (sig := s600) (p := p600) (by kernel_rfl) (by kernel_rfl) rfl rfl rfl (e.trans h)

theorem spec_l4Both_le (a0 : Int) (a1 : Exp) (a2 : Exp) : Tv.Le
  (some (a0, 0, (.full, ([⟨a1.op, a1.n, a1.args⟩, ⟨a2.op, a2.n, a2.args⟩] : List Exp))) : Option (Int × Int × (Md × List Exp)))
  (spec_l4Both a0 a1 a2) := by
  exact fun r h => by
    have e : runC (phi Tb GT sg) Tb GT p500.code (mkST p500.ins [.int .i64 a0, .agg (rowT .exp a1), .agg (rowT .exp a2)] p500.bins []) (finT p500 s500) = (
      some (a0, 0, (.full, ([⟨a1.op, a1.n, a1.args⟩, ⟨a2.op, a2.n, a2.args⟩] : List Exp))) : Option (Int × Int × (Md × List Exp))) := by kernel_rfl
    exact fn_le' (sig := s500) (p := p500) (by kernel_rfl) (by kernel_rfl) rfl rfl rfl (e.trans h)

theorem spec_l5Tokens_le (a0 : Exp) : Tv.Le
  ((bif (decide (a0.op = 0)) then
  bnd (spec_l6Dec a0.n) fun r1 =>
  some ([r1] : List (List UInt8))
  else
  (bif (decide (a0.op = 13)) then
  bnd (spec_l5Name a0.n) fun r2 =>
  some ([r2] : List (List UInt8))
  else
  bnd (spec_OpLevel a0.op) fun r3 =>
  bnd (geti a0.args 0) fun e4 =>
  bnd (spec_l5Tokens (⟨e4.op, e4.n, e4.args⟩ : Exp)) fun r5 =>
  bnd (geti a0.args 0) fun e6 =>
  bnd (spec_l5Level (⟨e6.op, e6.n, e6.args⟩ : Exp)) fun r7 =>
  bnd (spec_l5Wrap r5 (decide (r7 < r3))) fun r8 =>
  bnd (spec_OpText a0.op) fun r9 =>
  bnd (appL r8 ([r9] : List (List UInt8))) fun l10 =>
  bnd (geti a0.args 1) fun e11 =>
  bnd (spec_l5Tokens (⟨e11.op, e11.n, e11.args⟩ : Exp)) fun r12 =>
  bnd (geti a0.args 1) fun e13 =>
  bnd (spec_l5Level (⟨e13.op, e13.n, e13.args⟩ : Exp)) fun r14 =>
  bnd (spec_l5Wrap r12 (decide (r14 ≤ r3))) fun r15 =>
  bnd (appL l10 r15) fun l16 =>
  some l16)) : Option (List (List UInt8)))
  (spec_l5Tokens a0) := by
  exact fun r h => by
    have e : runC (phi Tb GT sg) Tb GT p35300.code (mkST p35300.ins [.agg (rowT .exp a0)] p35300.bins []) (finT p35300 s35300) = (
      (bif (decide (a0.op = 0)) then
      bnd (spec_l6Dec a0.n) fun r1 =>
      some ([r1] : List (List UInt8))
      else
      (bif (decide (a0.op = 13)) then
      bnd (spec_l5Name a0.n) fun r2 =>
      some ([r2] : List (List UInt8))
      else
      bnd (spec_OpLevel a0.op) fun r3 =>
      bnd (geti a0.args 0) fun e4 =>
      bnd (spec_l5Tokens (⟨e4.op, e4.n, e4.args⟩ : Exp)) fun r5 =>
      bnd (geti a0.args 0) fun e6 =>
      bnd (spec_l5Level (⟨e6.op, e6.n, e6.args⟩ : Exp)) fun r7 =>
      bnd (spec_l5Wrap r5 (decide (r7 < r3))) fun r8 =>
      bnd (spec_OpText a0.op) fun r9 =>
      bnd (appL r8 ([r9] : List (List UInt8))) fun l10 =>
      bnd (geti a0.args 1) fun e11 =>
      bnd (spec_l5Tokens (⟨e11.op, e11.n, e11.args⟩ : Exp)) fun r12 =>
      bnd (geti a0.args 1) fun e13 =>
      bnd (spec_l5Level (⟨e13.op, e13.n, e13.args⟩ : Exp)) fun r14 =>
      bnd (spec_l5Wrap r12 (decide (r14 ≤ r3))) fun r15 =>
      bnd (appL l10 r15) fun l16 =>
      some l16)) : Option (List (List UInt8))) := by kernel_rfl
    exact fn_le' (sig := s35300) (p := p35300) (by kernel_rfl) (by kernel_rfl) rfl rfl rfl (e.trans h)

theorem spec_l91Token_le (a0b : List Int) (a0p : Int) : Tv.Le
  (bnd (spec_l6Rd_pick 8 a0b a0p) fun r1 =>
  (bif (decide (r1.1 = 0)) then
  bnd (spec_l6Rd_of ([[97], [98], [99], [100], [105, 102], [101, 108, 115, 101], [119, 104, 105, 108, 101], [115, 101, 110, 100], [114, 101, 99, 118], [116, 97, 115, 107], [98, 111, 120], [112, 114, 105, 110, 116], [121, 105, 101, 108, 100], [120]] : List (List UInt8)) r1.2.1 r1.2.2) fun r2 =>
  some (r2.1, r2.2.1, r2.2.2)
  else
  (bif (decide (r1.1 = 1)) then
  bnd (spec_l6Rd_of ([[97], [98], [99], [100], [105, 102], [101, 108, 115, 101], [119, 104, 105, 108, 101], [115, 101, 110, 100], [114, 101, 99, 118], [116, 97, 115, 107], [98, 111, 120], [112, 114, 105, 110, 116], [121, 105, 101, 108, 100], [120]] : List (List UInt8)) r1.2.1 r1.2.2) fun r3 =>
  some (r3.1, r3.2.1, r3.2.2)
  else
  (bif (decide (r1.1 = 2)) then
  bnd (spec_l6Rd_pick 200 r1.2.1 r1.2.2) fun r4 =>
  bnd (spec_l6Dec r4.1) fun r5 =>
  some (r5, r4.2.1, r4.2.2)
  else
  (bif (decide (r1.1 = 3)) then
  bnd (spec_l6Rd_pick 200 r1.2.1 r1.2.2) fun r6 =>
  bnd (spec_l6Dec r6.1) fun r7 =>
  some (r7, r6.2.1, r6.2.2)
  else
  (bif (decide (r1.1 = 4)) then
  bnd (spec_l6Rd_of ([[48, 48, 55], [57, 57, 57, 57, 57], [49, 48, 48, 48, 48, 48], [40], [41], [123], [125], [61], [59]] : List (List UInt8)) r1.2.1 r1.2.2) fun r8 =>
  some (r8.1, r8.2.1, r8.2.2)
  else
  bnd (spec_l6Rd_pick 40 r1.2.1 r1.2.2) fun r9 =>
  (bif (decide (r9.1 = 0)) then
  bnd (spec_l6Rd_of ([[], [33], [62], [97, 49], [61, 32, 61], [32], [65], [60, 60, 60]] : List (List UInt8)) r9.2.1 r9.2.2) fun r10 =>
  some (r10.1, r10.2.1, r10.2.2)
  else
  bnd (spec_l91Op r9.2.1 r9.2.2) fun r11 =>
  bnd (spec_OpText r11.1) fun r12 =>
  some (r12, r11.2.1, r11.2.2))))))) : Option (List UInt8 × List Int × Int))
  (spec_l91Token a0b a0p) := by
  exact fun r h => by
    have e : runC (phi Tb GT sg) Tb GT p35600.code (mkST p35600.ins [.bp 0 0] p35600.bins [.var [.sl .share .u8 a0b, .int .i64 a0p]]) (finT p35600 s35600) = (
      bnd (spec_l6Rd_pick 8 a0b a0p) fun r1 =>
      (bif (decide (r1.1 = 0)) then
      bnd (spec_l6Rd_of ([[97], [98], [99], [100], [105, 102], [101, 108, 115, 101], [119, 104, 105, 108, 101], [115, 101, 110, 100], [114, 101, 99, 118], [116, 97, 115, 107], [98, 111, 120], [112, 114, 105, 110, 116], [121, 105, 101, 108, 100], [120]] : List (List UInt8)) r1.2.1 r1.2.2) fun r2 =>
      some (r2.1, r2.2.1, r2.2.2)
      else
      (bif (decide (r1.1 = 1)) then
      bnd (spec_l6Rd_of ([[97], [98], [99], [100], [105, 102], [101, 108, 115, 101], [119, 104, 105, 108, 101], [115, 101, 110, 100], [114, 101, 99, 118], [116, 97, 115, 107], [98, 111, 120], [112, 114, 105, 110, 116], [121, 105, 101, 108, 100], [120]] : List (List UInt8)) r1.2.1 r1.2.2) fun r3 =>
      some (r3.1, r3.2.1, r3.2.2)
      else
      (bif (decide (r1.1 = 2)) then
      bnd (spec_l6Rd_pick 200 r1.2.1 r1.2.2) fun r4 =>
      bnd (spec_l6Dec r4.1) fun r5 =>
      some (r5, r4.2.1, r4.2.2)
      else
      (bif (decide (r1.1 = 3)) then
      bnd (spec_l6Rd_pick 200 r1.2.1 r1.2.2) fun r6 =>
      bnd (spec_l6Dec r6.1) fun r7 =>
      some (r7, r6.2.1, r6.2.2)
      else
      (bif (decide (r1.1 = 4)) then
      bnd (spec_l6Rd_of ([[48, 48, 55], [57, 57, 57, 57, 57], [49, 48, 48, 48, 48, 48], [40], [41], [123], [125], [61], [59]] : List (List UInt8)) r1.2.1 r1.2.2) fun r8 =>
      some (r8.1, r8.2.1, r8.2.2)
      else
      bnd (spec_l6Rd_pick 40 r1.2.1 r1.2.2) fun r9 =>
      (bif (decide (r9.1 = 0)) then
      bnd (spec_l6Rd_of ([[], [33], [62], [97, 49], [61, 32, 61], [32], [65], [60, 60, 60]] : List (List UInt8)) r9.2.1 r9.2.2) fun r10 =>
      some (r10.1, r10.2.1, r10.2.2)
      else
      bnd (spec_l91Op r9.2.1 r9.2.2) fun r11 =>
      bnd (spec_OpText r11.1) fun r12 =>
      some (r12, r11.2.1, r11.2.2))))))) : Option (List UInt8 × List Int × Int)) := by kernel_rfl
    exact fn_le' (sig := s35600) (p := p35600) (by kernel_rfl) (by kernel_rfl) rfl rfl rfl (e.trans h)

theorem spec_l91Tokens_l1_le (t3b : Bool) (t3 : List (List UInt8)) (t4 : Int) (t5 : Int) (b0_0 : List Int) (b0_1 : Int) : Tv.Le
  ((bif (decide (t5 < t4)) then
  bnd (spec_l91Token b0_0 b0_1) fun r1 =>
  bnd (appL t3 ([r1.1] : List (List UInt8))) fun l2 =>
  spec_l91Tokens_l1 true l2 t4 (wrap64 (t5 + 1)) r1.2.1 r1.2.2
  else
  some ((t3b, t3), b0_0, b0_1)) : Option ((Bool × List (List UInt8)) × List Int × Int))
  (spec_l91Tokens_l1 t3b t3 t4 t5 b0_0 b0_1) := by
  rewrite [← wrapC_eq]
  exact fun r h => by
    have e : runC (phi Tb GT sg) Tb GT p35701.code (mkST p35701.ins [.bp 0 0, .sl (.own t3b) .str t3, .int .i64 t4, .int .i64 t5] p35701.bins [.var [.sl .share .u8 b0_0, .int .i64 b0_1]]) (finL Tb GT 35701 p35701 s35701) = (
      (bif (decide (t5 < t4)) then
      bnd (spec_l91Token b0_0 b0_1) fun r1 =>
      bnd (appL t3 ([r1.1] : List (List UInt8))) fun l2 =>
      spec_l91Tokens_l1 true l2 t4 (wrapC (t5 + 1)) r1.2.1 r1.2.2
      else
      some ((t3b, t3), b0_0, b0_1)) : Option ((Bool × List (List UInt8)) × List Int × Int)) := by kernel_rfl
    exact loop_le' (sig := s35701) (p := p35701) (by kernel_rfl) (by kernel_rfl) rfl rfl rfl (e.trans h)

theorem spec_TokenValid_le (a0 : List UInt8) : Tv.Le
  ((bif (!(a0 == [])) then
  bnd (spec_l3End a0 0) fun r1 =>
  some (decide (r1 = (a0.length : Int)))
  else
  some false) : Option (Bool))
  (spec_TokenValid a0) := by
  exact fun r h => by
    have e : runC (phi Tb GT sg) Tb GT p34900.code (mkST p34900.ins [.str a0] p34900.bins []) (finT p34900 s34900) = (
      (bif (!(a0 == [])) then
      bnd (spec_l3End a0 0) fun r1 =>
      some (decide (r1 = (a0.length : Int)))
      else
      some false) : Option (Bool)) := by kernel_rfl
    exact fn_le' (sig := s34900) (p := p34900) (by kernel_rfl) (by kernel_rfl) rfl rfl rfl (e.trans h)

theorem spec_TokensText_l1_le (t0 : List (List UInt8)) (t3 : List UInt8) (t4 : Int) : Tv.Le
  ((bif (decide (t4 < (t0.length : Int))) then
  bnd (geti t0 t4) fun e1 =>
  bnd (spec_TokenValid e1) fun r2 =>
  (bif (!r2) then
  some (.inr ([], t3))
  else
  (bif (decide (0 < t4)) then
  bnd (catS t3 [32]) fun s3 =>
  bnd (geti t0 t4) fun e4 =>
  bnd (catS s3 e4) fun s5 =>
  spec_TokensText_l1 t0 s5 (wrap64 (t4 + 1))
  else
  bnd (geti t0 t4) fun e6 =>
  bnd (catS t3 e6) fun s7 =>
  spec_TokensText_l1 t0 s7 (wrap64 (t4 + 1))))
  else
  some (.inl t3)) : Option (List UInt8 ⊕ (List UInt8 × List UInt8)))
  (spec_TokensText_l1 t0 t3 t4) := by
  rewrite [← wrapC_eq]
  exact fun r h => by
    have e : runC (phi Tb GT sg) Tb GT p35001.code (mkST p35001.ins [.sl .share .str t0, .str t3, .int .i64 t4] p35001.bins []) (finL Tb GT 35001 p35001 s35001) = (
      (bif (decide (t4 < (t0.length : Int))) then
      bnd (geti t0 t4) fun e1 =>
      bnd (spec_TokenValid e1) fun r2 =>
      (bif (!r2) then
      some (.inr ([], t3))
      else
      (bif (decide (0 < t4)) then
      bnd (catS t3 [32]) fun s3 =>
      bnd (geti t0 t4) fun e4 =>
      bnd (catS s3 e4) fun s5 =>
      spec_TokensText_l1 t0 s5 (wrapC (t4 + 1))
      else
      bnd (geti t0 t4) fun e6 =>
      bnd (catS t3 e6) fun s7 =>
      spec_TokensText_l1 t0 s7 (wrapC (t4 + 1))))
      else
      some (.inl t3)) : Option (List UInt8 ⊕ (List UInt8 × List UInt8))) := by kernel_rfl
    exact loop_le' (sig := s35001) (p := p35001) (by kernel_rfl) (by kernel_rfl) rfl rfl rfl (e.trans h)

theorem impl_tokenLength_le (a0 : List UInt8) : Tv.Le
  (bnd (impl_tokenLength_l1 a0 (([33100, 33200] : List Nat).length : Int) 0) fun r1 =>
  selm r1 (fun y2 =>
  bnd (impl_tokenLength_l3 y2 .full ([[61, 61], [60, 60], [62, 62]] : List (List UInt8)) (([[61, 61], [60, 60], [62, 62]] : List (List UInt8)).length : Int) 0) fun r4 =>
  selm r4 (fun y5 =>
  (bif (!(y5 == [])) then
  bnd (geti y5 0) fun c7 =>
  bnd (strings_IndexByte ([124, 94, 38, 60, 43, 45, 42, 47, 37, 40, 41, 123, 125, 61, 59]) (c7.toNat : Int)) fun r8 =>
  (bif (decide (0 ≤ r8)) then
  some 1
  else
  some 0)
  else
  some 0)) (fun z6 =>
  some z6.2)) (fun z3 =>
  some z3.2) : Option (Int))
  (impl_tokenLength a0) := by
  exact fun r h => by
    have e : runC (phi Tb GT sg) Tb GT p33300.code (mkST p33300.ins [.str a0] p33300.bins []) (finT p33300 s33300) = (
      bnd (impl_tokenLength_l1 a0 (([33100, 33200] : List Nat).length : Int) 0) fun r1 =>
      selm r1 (fun y2 =>
      bnd (impl_tokenLength_l3 y2 .full ([[61, 61], [60, 60], [62, 62]] : List (List UInt8)) (([[61, 61], [60, 60], [62, 62]] : List (List UInt8)).length : Int) 0) fun r4 =>
      selm r4 (fun y5 =>
      (bif (!(y5 == [])) then
      bnd (geti y5 0) fun c7 =>
      bnd (strings_IndexByte ([124, 94, 38, 60, 43, 45, 42, 47, 37, 40, 41, 123, 125, 61, 59]) (c7.toNat : Int)) fun r8 =>
      (bif (decide (0 ≤ r8)) then
      some 1
      else
      some 0)
      else
      some 0)) (fun z6 =>
      some z6.2)) (fun z3 =>
      some z3.2) : Option (Int)) := by kernel_rfl
    exact fn_le' (sig := s33300) (p := p33300) (by kernel_rfl) (by kernel_rfl) rfl rfl rfl (e.trans h)

theorem impl_Tokens_l1_le (t0 : List UInt8) (t4b : Bool) (t4 : List (List UInt8)) (t5 : Int) : Tv.Le
  ((bif (decide (t5 < (t0.length : Int))) then
  bnd (geti t0 t5) fun c1 =>
  (bif (decide ((c1.toNat : Int) = 32)) then
  impl_Tokens_l1 t0 t4b t4 (wrap64 (t5 + 1))
  else
  bnd (geti t0 t5) fun c2 =>
  (bif (decide ((c2.toNat : Int) = 10)) then
  impl_Tokens_l1 t0 t4b t4 (wrap64 (t5 + 1))
  else
  bnd (cutL t0 t5 (t0.length : Int)) fun s3 =>
  bnd (impl_tokenLength s3) fun r4 =>
  (bif (decide (r4 = 0)) then
  some (.inr ((false, []), false, (t4b, t4)))
  else
  bnd (cutL t0 t5 (wrap64 (t5 + r4))) fun s5 =>
  bnd (appL t4 ([s5] : List (List UInt8))) fun l6 =>
  impl_Tokens_l1 t0 true l6 (wrap64 (t5 + r4)))))
  else
  some (.inl (t4b, t4))) : Option (((Bool × List (List UInt8))) ⊕ ((Bool × List (List UInt8)) × Bool × (Bool × List (List UInt8)))))
  (impl_Tokens_l1 t0 t4b t4 t5) := by
  rewrite [← wrapC_eq]
  exact fun r h => by
    have e : runC (phi Tb GT sg) Tb GT p33401.code (mkST p33401.ins [.str t0, .sl (.own t4b) .str t4, .int .i64 t5] p33401.bins []) (finL Tb GT 33401 p33401 s33401) = (
      (bif (decide (t5 < (t0.length : Int))) then
      bnd (geti t0 t5) fun c1 =>
      (bif (decide ((c1.toNat : Int) = 32)) then
      impl_Tokens_l1 t0 t4b t4 (wrapC (t5 + 1))
      else
      bnd (geti t0 t5) fun c2 =>
      (bif (decide ((c2.toNat : Int) = 10)) then
      impl_Tokens_l1 t0 t4b t4 (wrapC (t5 + 1))
      else
      bnd (cutL t0 t5 (t0.length : Int)) fun s3 =>
      bnd (impl_tokenLength s3) fun r4 =>
      (bif (decide (r4 = 0)) then
      some (.inr ((false, []), false, (t4b, t4)))
      else
      bnd (cutL t0 t5 (wrapC (t5 + r4))) fun s5 =>
      bnd (appL t4 ([s5] : List (List UInt8))) fun l6 =>
      impl_Tokens_l1 t0 true l6 (wrapC (t5 + r4)))))
      else
      some (.inl (t4b, t4))) : Option (((Bool × List (List UInt8))) ⊕ ((Bool × List (List UInt8)) × Bool × (Bool × List (List UInt8))))) := by kernel_rfl
    exact loop_le' (sig := s33401) (p := p33401) (by kernel_rfl) (by kernel_rfl) rfl rfl rfl (e.trans h)

theorem impl_parser_operand_le (a0tokens : List (List UInt8)) (a0at : Int) (a0failed : Bool) : Tv.Le
  (bnd (impl_parser_peek a0tokens a0at a0failed) fun r1 =>
  (bif (r1.1 == [40]) then
  bnd (impl_parser_expr 1 r1.2.1 (wrap64 (r1.2.2.1 + 1)) r1.2.2.2) fun r2 =>
  bnd (impl_parser_need [41] r2.2.1 r2.2.2.1 r2.2.2.2) fun r3 =>
  some (⟨r2.1.op, r2.1.n, r2.1.args⟩, r3.1, r3.2.1, r3.2.2)
  else
  (bif (!(r1.1 == [])) then
  bnd (geti r1.1 0) fun c4 =>
  bnd (impl_isDigit (c4.toNat : Int)) fun r5 =>
  (bif r5 then
  bnd (impl_parser_number r1.2.1 r1.2.2.1 r1.2.2.2) fun r6 =>
  some (⟨0, r6.1, []⟩, r6.2.1, r6.2.2.1, r6.2.2.2)
  else
  bnd (impl_parser_variable r1.2.1 r1.2.2.1 r1.2.2.2) fun r7 =>
  some (⟨13, r7.1, []⟩, r7.2.1, r7.2.2.1, r7.2.2.2))
  else
  bnd (impl_parser_variable r1.2.1 r1.2.2.1 r1.2.2.2) fun r8 =>
  some (⟨13, r8.1, []⟩, r8.2.1, r8.2.2.1, r8.2.2.2))) : Option (Exp × List (List UInt8) × Int × Bool))
  (impl_parser_operand a0tokens a0at a0failed) := by
  rewrite [← wrapC_eq]
  exact fun r h => by
    have e : runC (phi Tb GT sg) Tb GT p34100.code (mkST p34100.ins [.bp 0 0] p34100.bins [.var [.sl .share .str a0tokens, .int .i64 a0at, .bool a0failed]]) (finT p34100 s34100) = (
      bnd (impl_parser_peek a0tokens a0at a0failed) fun r1 =>
      (bif (r1.1 == [40]) then
      bnd (impl_parser_expr 1 r1.2.1 (wrapC (r1.2.2.1 + 1)) r1.2.2.2) fun r2 =>
      bnd (impl_parser_need [41] r2.2.1 r2.2.2.1 r2.2.2.2) fun r3 =>
      some (⟨r2.1.op, r2.1.n, r2.1.args⟩, r3.1, r3.2.1, r3.2.2)
      else
      (bif (!(r1.1 == [])) then
      bnd (geti r1.1 0) fun c4 =>
      bnd (impl_isDigit (c4.toNat : Int)) fun r5 =>
      (bif r5 then
      bnd (impl_parser_number r1.2.1 r1.2.2.1 r1.2.2.2) fun r6 =>
      some (⟨0, r6.1, []⟩, r6.2.1, r6.2.2.1, r6.2.2.2)
      else
      bnd (impl_parser_variable r1.2.1 r1.2.2.1 r1.2.2.2) fun r7 =>
      some (⟨13, r7.1, []⟩, r7.2.1, r7.2.2.1, r7.2.2.2))
      else
      bnd (impl_parser_variable r1.2.1 r1.2.2.1 r1.2.2.2) fun r8 =>
      some (⟨13, r8.1, []⟩, r8.2.1, r8.2.2.1, r8.2.2.2))) : Option (Exp × List (List UInt8) × Int × Bool)) := by kernel_rfl
    exact fn_le' (sig := s34100) (p := p34100) (by kernel_rfl) (by kernel_rfl) rfl rfl rfl (e.trans h)

theorem impl_parser_peek_le (a0tokens : List (List UInt8)) (a0at : Int) (a0failed : Bool) : Tv.Le
  ((bif (decide (a0at < (a0tokens.length : Int))) then
  (bif (!a0failed) then
  bnd (geti a0tokens a0at) fun e1 =>
  some (e1, a0tokens, a0at, a0failed)
  else
  some ([], a0tokens, a0at, a0failed))
  else
  some ([], a0tokens, a0at, a0failed)) : Option (List UInt8 × List (List UInt8) × Int × Bool))
  (impl_parser_peek a0tokens a0at a0failed) := by
  exact fun r h => by
    have e : runC (phi Tb GT sg) Tb GT p33500.code (mkST p33500.ins [.bp 0 0] p33500.bins [.var [.sl .share .str a0tokens, .int .i64 a0at, .bool a0failed]]) (finT p33500 s33500) = (
      (bif (decide (a0at < (a0tokens.length : Int))) then
      (bif (!a0failed) then
      bnd (geti a0tokens a0at) fun e1 =>
      some (e1, a0tokens, a0at, a0failed)
      else
      some ([], a0tokens, a0at, a0failed))
      else
      some ([], a0tokens, a0at, a0failed)) : Option (List UInt8 × List (List UInt8) × Int × Bool)) := by kernel_rfl
    exact fn_le' (sig := s33500) (p := p33500) (by kernel_rfl) (by kernel_rfl) rfl rfl rfl (e.trans h)

theorem impl_opFrom_le (a0 : List UInt8) : Tv.Le
  (bnd (impl_opFrom_l1 a0 0) fun r1 =>
  selm r1 (fun y2 =>
  some 0) (fun z3 =>
  some z3) : Option (Int))
  (impl_opFrom a0) := by
  exact fun r h => by
    have e : runC (phi Tb GT sg) Tb GT p34200.code (mkST p34200.ins [.str a0] p34200.bins []) (finT p34200 s34200) = (
      bnd (impl_opFrom_l1 a0 0) fun r1 =>
      selm r1 (fun y2 =>
      some 0) (fun z3 =>
      some z3) : Option (Int)) := by kernel_rfl
    exact fn_le' (sig := s34200) (p := p34200) (by kernel_rfl) (by kernel_rfl) rfl rfl rfl (e.trans h)

theorem impl_OpLevel_le (a0 : Int) : Tv.Le
  ((bif (decide (a0 = 1)) then
  some 1
  else
  (bif (decide (a0 = 2)) then
  some 2
  else
  (bif (decide (a0 = 3)) then
  some 3
  else
  (bif (decide (a0 = 4)) then
  some 4
  else
  (bif (decide (a0 = 5)) then
  some 5
  else
  (bif (decide (a0 = 6)) then
  some 6
  else
  (bif (decide (a0 = 7)) then
  some 6
  else
  (bif (decide (a0 = 8)) then
  some 7
  else
  (bif (decide (a0 = 9)) then
  some 7
  else
  (bif (decide (a0 = 10)) then
  some 8
  else
  (bif (decide (a0 = 11)) then
  some 8
  else
  (bif (decide (a0 = 12)) then
  some 8
  else
  some 0)))))))))))) : Option (Int))
  (impl_OpLevel a0) := by
  exact fun r h => by
    have e : runC (phi Tb GT sg) Tb GT p34300.code (mkST p34300.ins [.int .i64 a0] p34300.bins []) (finT p34300 s34300) = (
      (bif (decide (a0 = 1)) then
      some 1
      else
      (bif (decide (a0 = 2)) then
      some 2
      else
      (bif (decide (a0 = 3)) then
      some 3
      else
      (bif (decide (a0 = 4)) then
      some 4
      else
      (bif (decide (a0 = 5)) then
      some 5
      else
      (bif (decide (a0 = 6)) then
      some 6
      else
      (bif (decide (a0 = 7)) then
      some 6
      else
      (bif (decide (a0 = 8)) then
      some 7
      else
      (bif (decide (a0 = 9)) then
      some 7
      else
      (bif (decide (a0 = 10)) then
      some 8
      else
      (bif (decide (a0 = 11)) then
      some 8
      else
      (bif (decide (a0 = 12)) then
      some 8
      else
      some 0)))))))))))) : Option (Int)) := by kernel_rfl
    exact fn_le' (sig := s34300) (p := p34300) (by kernel_rfl) (by kernel_rfl) rfl rfl rfl (e.trans h)

theorem impl_parser_expr_l1_le (t1 : Int) (b0_0 : List (List UInt8)) (b0_1 : Int) (b0_2 : Bool) (b100_0 : Int) (b100_1 : Int) (b100_2b : Bool) (b100_2 : List Exp) (b101_0 : Int) (b101_1 : Int) (b101_2m : Md) (b101_2 : List Exp) : Tv.Le
  ((bif (!b0_2) then
  bnd (impl_parser_peek b0_0 b0_1 b0_2) fun r1 =>
  bnd (impl_opFrom r1.1) fun r2 =>
  (bif (decide (r2 = 0)) then
  some (r1.2.1, r1.2.2.1, r1.2.2.2, b100_0, b100_1, (b100_2b, b100_2), b101_0, b101_1, (b101_2m, b101_2))
  else
  bnd (impl_OpLevel r2) fun r3 =>
  (bif (decide (r3 < t1)) then
  some (r1.2.1, r1.2.2.1, r1.2.2.2, b100_0, b100_1, (b100_2b, b100_2), b101_0, b101_1, (b101_2m, b101_2))
  else
  bnd (impl_OpLevel r2) fun r4 =>
  bnd (impl_parser_expr (wrap64 (r4 + 1)) r1.2.1 (wrap64 (r1.2.2.1 + 1)) r1.2.2.2) fun r5 =>
  impl_parser_expr_l1 t1 r5.2.1 r5.2.2.1 r5.2.2.2 b100_0 b100_1 b100_2b b100_2 r2 0 .full ([⟨b101_0, b101_1, b101_2⟩, ⟨r5.1.op, r5.1.n, r5.1.args⟩] : List Exp)))
  else
  some (b0_0, b0_1, b0_2, b100_0, b100_1, (b100_2b, b100_2), b101_0, b101_1, (b101_2m, b101_2))) : Option (List (List UInt8) × Int × Bool × Int × Int × (Bool × List Exp) × Int × Int × (Md × List Exp)))
  (impl_parser_expr_l1 t1 b0_0 b0_1 b0_2 b100_0 b100_1 b100_2b b100_2 b101_0 b101_1 b101_2m b101_2) := by
  rewrite [← wrapC_eq]
  exact fun r h => by
    have e : runC (phi Tb GT sg) Tb GT p34401.code (mkST p34401.ins [.bp 0 0, .int .i64 t1, .bp 100 0, .bp 101 0] p34401.bins [.var [.sl .share .str b0_0, .int .i64 b0_1, .bool b0_2], .var [.int .i64 b100_0, .int .i64 b100_1, .sl (.own b100_2b) .exp b100_2], .var [.int .i64 b101_0, .int .i64 b101_1, .sl b101_2m .exp b101_2]]) (finL Tb GT 34401 p34401 s34401) = (
      (bif (!b0_2) then
      bnd (impl_parser_peek b0_0 b0_1 b0_2) fun r1 =>
      bnd (impl_opFrom r1.1) fun r2 =>
      (bif (decide (r2 = 0)) then
      some (r1.2.1, r1.2.2.1, r1.2.2.2, b100_0, b100_1, (b100_2b, b100_2), b101_0, b101_1, (b101_2m, b101_2))
      else
      bnd (impl_OpLevel r2) fun r3 =>
      (bif (decide (r3 < t1)) then
      some (r1.2.1, r1.2.2.1, r1.2.2.2, b100_0, b100_1, (b100_2b, b100_2), b101_0, b101_1, (b101_2m, b101_2))
      else
      bnd (impl_OpLevel r2) fun r4 =>
      bnd (impl_parser_expr (wrapC (r4 + 1)) r1.2.1 (wrapC (r1.2.2.1 + 1)) r1.2.2.2) fun r5 =>
      impl_parser_expr_l1 t1 r5.2.1 r5.2.2.1 r5.2.2.2 b100_0 b100_1 b100_2b b100_2 r2 0 .full ([⟨b101_0, b101_1, b101_2⟩, ⟨r5.1.op, r5.1.n, r5.1.args⟩] : List Exp)))
      else
      some (b0_0, b0_1, b0_2, b100_0, b100_1, (b100_2b, b100_2), b101_0, b101_1, (b101_2m, b101_2))) : Option (List (List UInt8) × Int × Bool × Int × Int × (Bool × List Exp) × Int × Int × (Md × List Exp))) := by kernel_rfl
    exact loop_le' (sig := s34401) (p := p34401) (by kernel_rfl) (by kernel_rfl) rfl rfl rfl (e.trans h)

theorem spec_l3Kind_le (a0 : Int) : Tv.Le
  ((bif (decide (48 ≤ a0)) then
  (bif (decide (a0 ≤ 57)) then
  some 1
  else
  (bif (decide (97 ≤ a0)) then
  (bif (decide (a0 ≤ 122)) then
  some 2
  else
  (bif (decide (a0 = 32)) then
  some 3
  else
  (bif (decide (a0 = 10)) then
  some 3
  else
  bnd (spec_l3Kind_l1 a0 ([43, 45, 42, 47, 37, 38, 124, 94, 60, 62, 40, 41, 123, 125, 61, 59]) 0) fun r1 =>
  selm r1 (fun y2 =>
  some 0) (fun z3 =>
  some z3))))
  else
  (bif (decide (a0 = 32)) then
  some 3
  else
  (bif (decide (a0 = 10)) then
  some 3
  else
  bnd (spec_l3Kind_l1 a0 ([43, 45, 42, 47, 37, 38, 124, 94, 60, 62, 40, 41, 123, 125, 61, 59]) 0) fun r4 =>
  selm r4 (fun y5 =>
  some 0) (fun z6 =>
  some z6)))))
  else
  (bif (decide (97 ≤ a0)) then
  (bif (decide (a0 ≤ 122)) then
  some 2
  else
  (bif (decide (a0 = 32)) then
  some 3
  else
  (bif (decide (a0 = 10)) then
  some 3
  else
  bnd (spec_l3Kind_l1 a0 ([43, 45, 42, 47, 37, 38, 124, 94, 60, 62, 40, 41, 123, 125, 61, 59]) 0) fun r7 =>
  selm r7 (fun y8 =>
  some 0) (fun z9 =>
  some z9))))
  else
  (bif (decide (a0 = 32)) then
  some 3
  else
  (bif (decide (a0 = 10)) then
  some 3
  else
  bnd (spec_l3Kind_l1 a0 ([43, 45, 42, 47, 37, 38, 124, 94, 60, 62, 40, 41, 123, 125, 61, 59]) 0) fun r10 =>
  selm r10 (fun y11 =>
  some 0) (fun z12 =>
  some z12))))) : Option (Int))
  (spec_l3Kind a0) := by
  exact fun r h => by
    have e : runC (phi Tb GT sg) Tb GT p31800.code (mkST p31800.ins [.int .u8 a0] p31800.bins []) (finT p31800 s31800) = (
      (bif (decide (48 ≤ a0)) then
      (bif (decide (a0 ≤ 57)) then
      some 1
      else
      (bif (decide (97 ≤ a0)) then
      (bif (decide (a0 ≤ 122)) then
      some 2
      else
      (bif (decide (a0 = 32)) then
      some 3
      else
      (bif (decide (a0 = 10)) then
      some 3
      else
      bnd (spec_l3Kind_l1 a0 ([43, 45, 42, 47, 37, 38, 124, 94, 60, 62, 40, 41, 123, 125, 61, 59]) 0) fun r1 =>
      selm r1 (fun y2 =>
      some 0) (fun z3 =>
      some z3))))
      else
      (bif (decide (a0 = 32)) then
      some 3
      else
      (bif (decide (a0 = 10)) then
      some 3
      else
      bnd (spec_l3Kind_l1 a0 ([43, 45, 42, 47, 37, 38, 124, 94, 60, 62, 40, 41, 123, 125, 61, 59]) 0) fun r4 =>
      selm r4 (fun y5 =>
      some 0) (fun z6 =>
      some z6)))))
      else
      (bif (decide (97 ≤ a0)) then
      (bif (decide (a0 ≤ 122)) then
      some 2
      else
      (bif (decide (a0 = 32)) then
      some 3
      else
      (bif (decide (a0 = 10)) then
      some 3
      else
      bnd (spec_l3Kind_l1 a0 ([43, 45, 42, 47, 37, 38, 124, 94, 60, 62, 40, 41, 123, 125, 61, 59]) 0) fun r7 =>
      selm r7 (fun y8 =>
      some 0) (fun z9 =>
      some z9))))
      else
      (bif (decide (a0 = 32)) then
      some 3
      else
      (bif (decide (a0 = 10)) then
      some 3
      else
      bnd (spec_l3Kind_l1 a0 ([43, 45, 42, 47, 37, 38, 124, 94, 60, 62, 40, 41, 123, 125, 61, 59]) 0) fun r10 =>
      selm r10 (fun y11 =>
      some 0) (fun z12 =>
      some z12))))) : Option (Int)) := by kernel_rfl
    exact fn_le' (sig := s31800) (p := p31800) (by kernel_rfl) (by kernel_rfl) rfl rfl rfl (e.trans h)

theorem spec_l3End_le (a0 : List UInt8) (a1 : Int) : Tv.Le
  (bnd (geti a0 a1) fun c1 =>
  bnd (spec_l3Kind (c1.toNat : Int)) fun r2 =>
  (bif (decide (r2 = 1)) then
  bnd (spec_l3Run a0 a1) fun r3 =>
  some r3
  else
  (bif (decide (r2 = 2)) then
  bnd (spec_l3Run a0 a1) fun r4 =>
  some r4
  else
  (bif (!decide (r2 = 4)) then
  some (-1)
  else
  (bif (decide ((wrap64 (a1 + 2)) ≤ (a0.length : Int))) then
  bnd (cutL a0 a1 (wrap64 (a1 + 2))) fun s5 =>
  bnd (spec_l3Two s5) fun r6 =>
  (bif r6 then
  some (wrap64 (a1 + 2))
  else
  bnd (geti a0 a1) fun c7 =>
  (bif (decide ((c7.toNat : Int) = 62)) then
  some (-1)
  else
  some (wrap64 (a1 + 1))))
  else
  bnd (geti a0 a1) fun c8 =>
  (bif (decide ((c8.toNat : Int) = 62)) then
  some (-1)
  else
  some (wrap64 (a1 + 1))))))) : Option (Int))
  (spec_l3End a0 a1) := by
  rewrite [← wrapC_eq]
  exact fun r h => by
    have e : runC (phi Tb GT sg) Tb GT p32100.code (mkST p32100.ins [.str a0, .int .i64 a1] p32100.bins []) (finT p32100 s32100) = (
      bnd (geti a0 a1) fun c1 =>
      bnd (spec_l3Kind (c1.toNat : Int)) fun r2 =>
      (bif (decide (r2 = 1)) then
      bnd (spec_l3Run a0 a1) fun r3 =>
      some r3
      else
      (bif (decide (r2 = 2)) then
      bnd (spec_l3Run a0 a1) fun r4 =>
      some r4
      else
      (bif (!decide (r2 = 4)) then
      some (-1)
      else
      (bif (decide ((wrapC (a1 + 2)) ≤ (a0.length : Int))) then
      bnd (cutL a0 a1 (wrapC (a1 + 2))) fun s5 =>
      bnd (spec_l3Two s5) fun r6 =>
      (bif r6 then
      some (wrapC (a1 + 2))
      else
      bnd (geti a0 a1) fun c7 =>
      (bif (decide ((c7.toNat : Int) = 62)) then
      some (-1)
      else
      some (wrapC (a1 + 1))))
      else
      bnd (geti a0 a1) fun c8 =>
      (bif (decide ((c8.toNat : Int) = 62)) then
      some (-1)
      else
      some (wrapC (a1 + 1))))))) : Option (Int)) := by kernel_rfl
    exact fn_le' (sig := s32100) (p := p32100) (by kernel_rfl) (by kernel_rfl) rfl rfl rfl (e.trans h)

theorem spec_Tokens_l1_le (t0 : List UInt8) (t4b : Bool) (t4 : List (List UInt8)) (t5 : Int) : Tv.Le
  ((bif (decide (t5 < (t0.length : Int))) then
  bnd (geti t0 t5) fun c1 =>
  bnd (spec_l3Kind (c1.toNat : Int)) fun r2 =>
  (bif (decide (r2 = 3)) then
  spec_Tokens_l1 t0 t4b t4 (wrap64 (t5 + 1))
  else
  bnd (spec_l3End t0 t5) fun r3 =>
  (bif (decide (r3 < 0)) then
  some (.inr ((false, ([] : List (List UInt8))), false, (t4b, t4)))
  else
  bnd (cutL t0 t5 r3) fun s4 =>
  bnd (appL t4 ([s4] : List (List UInt8))) fun l5 =>
  spec_Tokens_l1 t0 true l5 r3))
  else
  some (.inl (t4b, t4))) : Option (((Bool × List (List UInt8))) ⊕ ((Bool × List (List UInt8)) × Bool × (Bool × List (List UInt8)))))
  (spec_Tokens_l1 t0 t4b t4 t5) := by
  rewrite [← wrapC_eq]
  exact fun r h => by
    have e : runC (phi Tb GT sg) Tb GT p32201.code (mkST p32201.ins [.str t0, .sl (.own t4b) .str t4, .int .i64 t5] p32201.bins []) (finL Tb GT 32201 p32201 s32201) = (
      (bif (decide (t5 < (t0.length : Int))) then
      bnd (geti t0 t5) fun c1 =>
      bnd (spec_l3Kind (c1.toNat : Int)) fun r2 =>
      (bif (decide (r2 = 3)) then
      spec_Tokens_l1 t0 t4b t4 (wrapC (t5 + 1))
      else
      bnd (spec_l3End t0 t5) fun r3 =>
      (bif (decide (r3 < 0)) then
      some (.inr ((false, ([] : List (List UInt8))), false, (t4b, t4)))
      else
      bnd (cutL t0 t5 r3) fun s4 =>
      bnd (appL t4 ([s4] : List (List UInt8))) fun l5 =>
      spec_Tokens_l1 t0 true l5 r3))
      else
      some (.inl (t4b, t4))) : Option (((Bool × List (List UInt8))) ⊕ ((Bool × List (List UInt8)) × Bool × (Bool × List (List UInt8))))) := by kernel_rfl
    exact loop_le' (sig := s32201) (p := p32201) (by kernel_rfl) (by kernel_rfl) rfl rfl rfl (e.trans h)

theorem spec_l5First_le (a0 : List (List UInt8)) (a1 : Int) : Tv.Le
  ((bif (decide ((a0.length : Int) ≤ a1)) then
  some (⟨0, 0, []⟩, (-1))
  else
  bnd (geti a0 a1) fun e1 =>
  (bif (e1 == [40]) then
  bnd (spec_l5Parse a0 (wrap64 (a1 + 1)) 1) fun r2 =>
  (bif (decide (r2.2 < 0)) then
  some (⟨0, 0, []⟩, (-1))
  else
  (bif (decide ((a0.length : Int) ≤ r2.2)) then
  some (⟨0, 0, []⟩, (-1))
  else
  bnd (geti a0 r2.2) fun e3 =>
  (bif (!(e3 == [41])) then
  some (⟨0, 0, []⟩, (-1))
  else
  some (⟨r2.1.op, r2.1.n, r2.1.args⟩, (wrap64 (r2.2 + 1))))))
  else
  bnd (geti a0 a1) fun e4 =>
  bnd (spec_l5Number e4) fun r5 =>
  (bif (decide (0 ≤ r5)) then
  bnd (geti a0 a1) fun e6 =>
  bnd (spec_l5Number e6) fun r7 =>
  bnd (spec_l4Leaf 0 r7) fun r8 =>
  some (⟨r8.1, r8.2.1, r8.2.2.2⟩, (wrap64 (a1 + 1)))
  else
  bnd (geti a0 a1) fun e9 =>
  bnd (spec_l5Var e9) fun r10 =>
  (bif (decide (0 ≤ r10)) then
  bnd (geti a0 a1) fun e11 =>
  bnd (spec_l5Var e11) fun r12 =>
  bnd (spec_l4Leaf 13 r12) fun r13 =>
  some (⟨r13.1, r13.2.1, r13.2.2.2⟩, (wrap64 (a1 + 1)))
  else
  some (⟨0, 0, []⟩, (-1)))))) : Option (Exp × Int))
  (spec_l5First a0 a1) := by
  rewrite [← wrapC_eq]
  exact fun r h => by
    have e : runC (phi Tb GT sg) Tb GT p32600.code (mkST p32600.ins [.sl .share .str a0, .int .i64 a1] p32600.bins []) (finT p32600 s32600) = (
      (bif (decide ((a0.length : Int) ≤ a1)) then
      some (⟨0, 0, []⟩, (-1))
      else
      bnd (geti a0 a1) fun e1 =>
      (bif (e1 == [40]) then
      bnd (spec_l5Parse a0 (wrapC (a1 + 1)) 1) fun r2 =>
      (bif (decide (r2.2 < 0)) then
      some (⟨0, 0, []⟩, (-1))
      else
      (bif (decide ((a0.length : Int) ≤ r2.2)) then
      some (⟨0, 0, []⟩, (-1))
      else
      bnd (geti a0 r2.2) fun e3 =>
      (bif (!(e3 == [41])) then
      some (⟨0, 0, []⟩, (-1))
      else
      some (⟨r2.1.op, r2.1.n, r2.1.args⟩, (wrapC (r2.2 + 1))))))
      else
      bnd (geti a0 a1) fun e4 =>
      bnd (spec_l5Number e4) fun r5 =>
      (bif (decide (0 ≤ r5)) then
      bnd (geti a0 a1) fun e6 =>
      bnd (spec_l5Number e6) fun r7 =>
      bnd (spec_l4Leaf 0 r7) fun r8 =>
      some (⟨r8.1, r8.2.1, r8.2.2.2⟩, (wrapC (a1 + 1)))
      else
      bnd (geti a0 a1) fun e9 =>
      bnd (spec_l5Var e9) fun r10 =>
      (bif (decide (0 ≤ r10)) then
      bnd (geti a0 a1) fun e11 =>
      bnd (spec_l5Var e11) fun r12 =>
      bnd (spec_l4Leaf 13 r12) fun r13 =>
      some (⟨r13.1, r13.2.1, r13.2.2.2⟩, (wrapC (a1 + 1)))
      else
      some (⟨0, 0, []⟩, (-1)))))) : Option (Exp × Int)) := by kernel_rfl
    exact fn_le' (sig := s32600) (p := p32600) (by kernel_rfl) (by kernel_rfl) rfl rfl rfl (e.trans h)

end Go.TFnFrom
