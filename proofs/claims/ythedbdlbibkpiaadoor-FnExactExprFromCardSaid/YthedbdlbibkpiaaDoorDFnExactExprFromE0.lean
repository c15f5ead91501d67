import Derived.Test.YthedbdlbibkpiaaDoorDFnExactExprFromP
import Derived.KernelRfl
set_option linter.unusedVariables false
namespace Go.TFnExactExprFrom
open Go Go.RowKit Go.Vs Go.Tv
theorem laws_FnExactExprFrom_le (a0 : List UInt8) : Tv.Le
 ((bif (decide (1048576 < (a0.length : Int))) then
some true
else
bnd (spec_ExprFrom a0) fun r1 =>
bnd (impl_ExprFrom_p a0 (Go.Vs.blank ([] : List Ent))) fun r2 =>
bnd (arJoin ([] : List Ent) r2.2.2) fun B3 =>
bnd (arView B3 .expH r2.1.args.id) fun l4 =>
bnd (laws_eqExpr (⟨r2.1.op, r2.1.n, l4⟩ : Exp) (⟨r1.1.op, r1.1.n, r1.1.args⟩ : Exp)) fun r5 =>
(bif (!r5) then
some false
else
(bif (!(r2.2.1 == r1.2)) then
some false
else
bnd (laws_markExpr_p r2.1 1 B3) fun r6 =>
bnd (arView r6.2 .expH r2.1.args.id) fun l7 =>
bnd (laws_heldExpr (⟨r2.1.op, r2.1.n, l7⟩ : Exp) 1) fun r8 =>
(bif (decide (r8 < 0)) then
some false
else
(bif (!decide (r8 = r6.1)) then
some false
else
bnd (impl_ExprFrom a0) fun r9 =>
bnd (laws_eqExpr (⟨r9.1.op, r9.1.n, r9.1.args⟩ : Exp) (⟨r1.1.op, r1.1.n, r1.1.args⟩ : Exp)) fun r10 =>
(bif (!r10) then
some false
else
(bif (!(r9.2 == r1.2)) then
some false
else
bnd (arView r6.2 .expH r2.1.args.id) fun l11 =>
bnd (laws_heldExpr (⟨r2.1.op, r2.1.n, l11⟩ : Exp) 1) fun r12 =>
(bif (decide (r12 < 0)) then
some false
else
(bif (!decide (r12 = r6.1)) then
some false
else
some true))))))))) : Option (Bool))
 (laws_FnExactExprFrom a0) := by
 exact fun r h => fn_le' (F := Tb) (G := GT) (sg := sg) (sig := s34800) (p := p34800) (by kernel_rfl) (by kernel_rfl) rfl rfl rfl rfl rfl ((show runC (phi Tb GT sg) Tb GT p34800.code (startAT p34800 (mkST p34800.ins [.str a0] p34800.bins [])) (finT p34800 s34800) = _ by kernel_rfl).trans h)

theorem spec_ExprFrom_le (a0 : List UInt8) : Tv.Le
 (bnd (spec_Tokens a0) fun r1 =>
(bif (!r1.2) then
some (⟨0, 0, []⟩, false)
else
bnd (spec_l5Parse r1.1 0 1) fun r2 =>
(bif (!decide (r2.2 = (r1.1.length : Int))) then
some (⟨0, 0, []⟩, false)
else
(bif (decide (r2.2 < 0)) then
some (⟨0, 0, []⟩, false)
else
bnd (spec_ExprValid (⟨r2.1.op, r2.1.n, r2.1.args⟩ : Exp)) fun r3 =>
(bif (!r3) then
some (⟨0, 0, []⟩, false)
else
some (⟨r2.1.op, r2.1.n, r2.1.args⟩, true))))) : Option (Exp × Bool))
 (spec_ExprFrom a0) := by
 exact fun r h => fn_le' (F := Tb) (G := GT) (sg := sg) (sig := s33000) (p := p33000) (by kernel_rfl) (by kernel_rfl) rfl rfl rfl rfl rfl ((show runC (phi Tb GT sg) Tb GT p33000.code (startAT p33000 (mkST p33000.ins [.str a0] p33000.bins [])) (finT p33000 s33000) = _ by kernel_rfl).trans h)

theorem impl_ExprFrom_p_le (a0 : List UInt8) (A : List Ent) : Tv.Le
 (bnd (impl_Tokens a0) fun r1 =>
(bif (!r1.2) then
some (⟨0, 0, ⟨none, 0⟩⟩, false, A)
else
bnd (impl_parser_expr_p 1 r1.1 0 false A) fun r2 =>
(bif r2.2.2.2.1 then
some (⟨0, 0, ⟨none, 0⟩⟩, false, r2.2.2.2.2)
else
(bif (!decide (r2.2.2.1 = (r1.1.length : Int))) then
some (⟨0, 0, ⟨none, 0⟩⟩, false, r2.2.2.2.2)
else
bnd (arView r2.2.2.2.2 .expH r2.1.args.id) fun l3 =>
bnd (impl_ExprValid (⟨r2.1.op, r2.1.n, l3⟩ : Exp)) fun r4 =>
(bif (!r4) then
some (⟨0, 0, ⟨none, 0⟩⟩, false, r2.2.2.2.2)
else
some (r2.1, true, r2.2.2.2.2))))) : Option (ExpH × Bool × List Ent))
 (impl_ExprFrom_p a0 A) := by
 exact fun r h => fn_le' (F := Tb) (G := GT) (sg := sg) (sig := s43700) (p := p43700) (by kernel_rfl) (by kernel_rfl) rfl rfl rfl rfl rfl ((show runC (phi Tb GT sg) Tb GT p43700.code (startAT p43700 (mkST p43700.ins [.str a0] p43700.bins [.ar A])) (finT p43700 s43700) = _ by kernel_rfl).trans h)

theorem laws_eqExpr_le (a0 : Exp) (a1 : Exp) : Tv.Le
 ((bif (!decide (a0.op = a1.op)) then
some false
else
(bif (!decide (a0.n = a1.n)) then
some false
else
bnd (laws_eqExprS a0.args a1.args) fun r1 =>
(bif (!r1) then
some false
else
some true))) : Option (Bool))
 (laws_eqExpr a0 a1) := by
 exact fun r h => fn_le' (F := Tb) (G := GT) (sg := sg) (sig := s8100) (p := p8100) (by kernel_rfl) (by kernel_rfl) rfl rfl rfl rfl rfl ((show runC (phi Tb GT sg) Tb GT p8100.code (startAT p8100 (mkST p8100.ins [.agg (rowT .exp a0), .agg (rowT .exp a1)] p8100.bins [])) (finT p8100 s8100) = _ by kernel_rfl).trans h)

theorem laws_markExpr_p_le (a0 : ExpH) (a1 : Int) (A : List Ent) : Tv.Le
 (bnd (laws_markExprS_p a0.args a1 A) fun r1 =>
some (r1.1, r1.2) : Option (Int × List Ent))
 (laws_markExpr_p a0 a1 A) := by
 exact fun r h => fn_le' (F := Tb) (G := GT) (sg := sg) (sig := s43600) (p := p43600) (by kernel_rfl) (by kernel_rfl) rfl rfl rfl rfl rfl ((show runC (phi Tb GT sg) Tb GT p43600.code (startAT p43600 (mkST p43600.ins [.agg (rowT .expH a0), .int .i64 a1] p43600.bins [.ar A])) (finT p43600 s43600) = _ by kernel_rfl).trans h)

theorem laws_heldExpr_le (a0 : Exp) (a1 : Int) : Tv.Le
 (bnd (laws_heldExprS a0.args a1) fun r1 =>
(bif (decide (r1 < 0)) then
some (-1)
else
some r1) : Option (Int))
 (laws_heldExpr a0 a1) := by
 exact fun r h => fn_le' (F := Tb) (G := GT) (sg := sg) (sig := s34700) (p := p34700) (by kernel_rfl) (by kernel_rfl) rfl rfl rfl rfl rfl ((show runC (phi Tb GT sg) Tb GT p34700.code (startAT p34700 (mkST p34700.ins [.agg (rowT .exp a0), .int .i64 a1] p34700.bins [])) (finT p34700 s34700) = _ by kernel_rfl).trans h)

theorem impl_ExprFrom_le (a0 : List UInt8) : Tv.Le
 (bnd (impl_Tokens a0) fun r1 =>
(bif (!r1.2) then
some (⟨0, 0, []⟩, false)
else
bnd (impl_parser_expr 1 r1.1 0 false) fun r2 =>
(bif r2.2.2.2 then
some (⟨0, 0, []⟩, false)
else
(bif (!decide (r2.2.2.1 = (r1.1.length : Int))) then
some (⟨0, 0, []⟩, false)
else
bnd (impl_ExprValid (⟨r2.1.op, r2.1.n, r2.1.args⟩ : Exp)) fun r3 =>
(bif (!r3) then
some (⟨0, 0, []⟩, false)
else
some (⟨r2.1.op, r2.1.n, r2.1.args⟩, true))))) : Option (Exp × Bool))
 (impl_ExprFrom a0) := by
 exact fun r h => fn_le' (F := Tb) (G := GT) (sg := sg) (sig := s34500) (p := p34500) (by kernel_rfl) (by kernel_rfl) rfl rfl rfl rfl rfl ((show runC (phi Tb GT sg) Tb GT p34500.code (startAT p34500 (mkST p34500.ins [.str a0] p34500.bins [])) (finT p34500 s34500) = _ by kernel_rfl).trans h)

theorem spec_Tokens_le (a0 : List UInt8) : Tv.Le
 ((bif (decide (20000 < (a0.length : Int))) then
some (([] : List (List UInt8)), false)
else
bnd (spec_Tokens_l1 a0 true ([] : List (List UInt8)) 0) fun r1 =>
selm r1 (fun y2 =>
some (y2.2, true)) (fun z3 =>
some (z3.1.2, z3.2.1))) : Option (List (List UInt8) × Bool))
 (spec_Tokens a0) := by
 exact fun r h => fn_le' (F := Tb) (G := GT) (sg := sg) (sig := s32200) (p := p32200) (by kernel_rfl) (by kernel_rfl) rfl rfl rfl rfl rfl ((show runC (phi Tb GT sg) Tb GT p32200.code (startAT p32200 (mkST p32200.ins [.str a0] p32200.bins [])) (finT p32200 s32200) = _ by kernel_rfl).trans h)

theorem spec_l5Parse_le (a0 : List (List UInt8)) (a1 : Int) (a2 : Int) : Tv.Le
 ((bif (decide (8 < a2)) then
bnd (spec_l5First a0 a1) fun r1 =>
some (⟨r1.1.op, r1.1.n, r1.1.args⟩, r1.2)
else
bnd (spec_l5Parse a0 a1 (wrap64 (a2 + 1))) fun r2 =>
bnd (spec_l5Parse_l1 a0 a2 r2.2 0 0 false [] r2.1.op r2.1.n .share r2.1.args) fun r3 =>
some (⟨r3.2.2.2.2.1, r3.2.2.2.2.2.1, r3.2.2.2.2.2.2.2⟩, r3.1)) : Option (Exp × Int))
 (spec_l5Parse a0 a1 a2) := by
 rewrite [← wrapC_eq]
 exact fun r h => fn_le' (F := Tb) (G := GT) (sg := sg) (sig := s32900) (p := p32900) (by kernel_rfl) (by kernel_rfl) rfl rfl rfl rfl rfl ((show runC (phi Tb GT sg) Tb GT p32900.code (startAT p32900 (mkST p32900.ins [.sl .share .str a0, .int .i64 a1, .int .i64 a2] p32900.bins [])) (finT p32900 s32900) = _ by kernel_rfl).trans h)

theorem spec_ExprValid_le (a0 : Exp) : Tv.Le
 (bnd (spec_l4Ok (⟨a0.op, a0.n, a0.args⟩ : Exp) 5) fun r1 =>
some r1 : Option (Bool))
 (spec_ExprValid a0) := by
 exact fun r h => fn_le' (F := Tb) (G := GT) (sg := sg) (sig := s1900) (p := p1900) (by kernel_rfl) (by kernel_rfl) rfl rfl rfl rfl rfl ((show runC (phi Tb GT sg) Tb GT p1900.code (startAT p1900 (mkST p1900.ins [.agg (rowT .exp a0)] p1900.bins [])) (finT p1900 s1900) = _ by kernel_rfl).trans h)

theorem impl_Tokens_le (a0 : List UInt8) : Tv.Le
 ((bif (decide (20000 < (a0.length : Int))) then
some ([], false)
else
bnd (impl_Tokens_l1 a0 false [] 0) fun r1 =>
selm r1 (fun y2 =>
some (y2.2, true)) (fun z3 =>
some (z3.1.2, z3.2.1))) : Option (List (List UInt8) × Bool))
 (impl_Tokens a0) := by
 exact fun r h => fn_le' (F := Tb) (G := GT) (sg := sg) (sig := s33400) (p := p33400) (by kernel_rfl) (by kernel_rfl) rfl rfl rfl rfl rfl ((show runC (phi Tb GT sg) Tb GT p33400.code (startAT p33400 (mkST p33400.ins [.str a0] p33400.bins [])) (finT p33400 s33400) = _ by kernel_rfl).trans h)

theorem impl_parser_expr_p_le (a1 : Int) (a0tokens : List (List UInt8)) (a0at : Int) (a0failed : Bool) (A : List Ent) : Tv.Le
 (bnd (impl_parser_operand_p a0tokens a0at a0failed A) fun r1 =>
bnd (impl_parser_expr_p_l1 a1 r1.2.1 r1.2.2.1 r1.2.2.2.1 0 0 (⟨none, 0⟩ : Hd) r1.1.op r1.1.n r1.1.args r1.2.2.2.2) fun r2 =>
some (⟨r2.2.2.2.2.2.2.1, r2.2.2.2.2.2.2.2.1, r2.2.2.2.2.2.2.2.2.1⟩, r2.1, r2.2.1, r2.2.2.1, r2.2.2.2.2.2.2.2.2.2) : Option (ExpH × List (List UInt8) × Int × Bool × List Ent))
 (impl_parser_expr_p a1 a0tokens a0at a0failed A) := by
 exact fun r h => fn_le' (F := Tb) (G := GT) (sg := sg) (sig := s43800) (p := p43800) (by kernel_rfl) (by kernel_rfl) rfl rfl rfl rfl rfl ((show runC (phi Tb GT sg) Tb GT p43800.code (startAT p43800 (mkST p43800.ins [.bp 0 0, .int .i64 a1] p43800.bins [.var [.sl .share .str a0tokens, .int .i64 a0at, .bool a0failed], .ar A])) (finT p43800 s43800) = _ by kernel_rfl).trans h)

theorem impl_ExprValid_le (a0 : Exp) : Tv.Le
 (bnd (impl_exprValid (⟨a0.op, a0.n, a0.args⟩ : Exp) 5) fun r1 =>
some r1 : Option (Bool))
 (impl_ExprValid a0) := by
 exact fun r h => fn_le' (F := Tb) (G := GT) (sg := sg) (sig := s1200) (p := p1200) (by kernel_rfl) (by kernel_rfl) rfl rfl rfl rfl rfl ((show runC (phi Tb GT sg) Tb GT p1200.code (startAT p1200 (mkST p1200.ins [.agg (rowT .exp a0)] p1200.bins [])) (finT p1200 s1200) = _ by kernel_rfl).trans h)

theorem laws_eqExprS_le (a0 : List Exp) (a1 : List Exp) : Tv.Le
 ((bif (!decide ((a0.length : Int) = (a1.length : Int))) then
some false
else
bnd (laws_eqExprS_l1 a0 a1 0) fun r1 =>
selm r1 (fun y2 =>
some true) (fun z3 =>
some z3)) : Option (Bool))
 (laws_eqExprS a0 a1) := by
 exact fun r h => fn_le' (F := Tb) (G := GT) (sg := sg) (sig := s8000) (p := p8000) (by kernel_rfl) (by kernel_rfl) rfl rfl rfl rfl rfl ((show runC (phi Tb GT sg) Tb GT p8000.code (startAT p8000 (mkST p8000.ins [.sl .share .exp a0, .sl .share .exp a1] p8000.bins [])) (finT p8000 s8000) = _ by kernel_rfl).trans h)

theorem laws_markExprS_p_le (a0 : Hd) (a1 : Int) (A : List Ent) : Tv.Le
 (bnd (laws_markExprS_p_l1 a0 a1 0 A) fun r1 =>
some (r1.1, r1.2) : Option (Int × List Ent))
 (laws_markExprS_p a0 a1 A) := by
 exact fun r h => fn_le' (F := Tb) (G := GT) (sg := sg) (sig := s41300) (p := p41300) (by kernel_rfl) (by kernel_rfl) rfl rfl rfl rfl rfl ((show runC (phi Tb GT sg) Tb GT p41300.code (startAT p41300 (mkST p41300.ins [.tr .expH a0.id a0.n, .int .i64 a1] p41300.bins [.ar A])) (finT p41300 s41300) = _ by kernel_rfl).trans h)

theorem laws_heldExprS_le (a0 : List Exp) (a1 : Int) : Tv.Le
 (bnd (laws_heldExprS_l1 a0 a1 0) fun r1 =>
selm r1 (fun y2 =>
some y2) (fun z3 =>
some z3.2) : Option (Int))
 (laws_heldExprS a0 a1) := by
 exact fun r h => fn_le' (F := Tb) (G := GT) (sg := sg) (sig := s10700) (p := p10700) (by kernel_rfl) (by kernel_rfl) rfl rfl rfl rfl rfl ((show runC (phi Tb GT sg) Tb GT p10700.code (startAT p10700 (mkST p10700.ins [.sl .share .exp a0, .int .i64 a1] p10700.bins [])) (finT p10700 s10700) = _ by kernel_rfl).trans h)

theorem impl_parser_expr_le (a1 : Int) (a0tokens : List (List UInt8)) (a0at : Int) (a0failed : Bool) : Tv.Le
 (bnd (impl_parser_operand a0tokens a0at a0failed) fun r1 =>
bnd (impl_parser_expr_l1 a1 r1.2.1 r1.2.2.1 r1.2.2.2 0 0 false [] r1.1.op r1.1.n .share r1.1.args) fun r2 =>
some (⟨r2.2.2.2.2.2.2.1, r2.2.2.2.2.2.2.2.1, r2.2.2.2.2.2.2.2.2.2⟩, r2.1, r2.2.1, r2.2.2.1) : Option (Exp × List (List UInt8) × Int × Bool))
 (impl_parser_expr a1 a0tokens a0at a0failed) := by
 exact fun r h => fn_le' (F := Tb) (G := GT) (sg := sg) (sig := s34400) (p := p34400) (by kernel_rfl) (by kernel_rfl) rfl rfl rfl rfl rfl ((show runC (phi Tb GT sg) Tb GT p34400.code (startAT p34400 (mkST p34400.ins [.bp 0 0, .int .i64 a1] p34400.bins [.var [.sl .share .str a0tokens, .int .i64 a0at, .bool a0failed]])) (finT p34400 s34400) = _ by kernel_rfl).trans h)

theorem spec_l3Kind_le (a0 : Int) : Tv.Le
 ((bif (decide (48 ≤ a0)) then
(bif (decide (a0 ≤ 57)) then
some 1
else
(bif (decide (97 ≤ a0)) then
(bif (decide (a0 ≤ 122)) then
some 2
else
(bif (decide (a0 = 32)) then
some 3
else
(bif (decide (a0 = 10)) then
some 3
else
bnd (spec_l3Kind_l1 a0 ([43, 45, 42, 47, 37, 38, 124, 94, 60, 62, 40, 41, 123, 125, 61, 59]) 0) fun r1 =>
selm r1 (fun y2 =>
some 0) (fun z3 =>
some z3))))
else
(bif (decide (a0 = 32)) then
some 3
else
(bif (decide (a0 = 10)) then
some 3
else
bnd (spec_l3Kind_l1 a0 ([43, 45, 42, 47, 37, 38, 124, 94, 60, 62, 40, 41, 123, 125, 61, 59]) 0) fun r4 =>
selm r4 (fun y5 =>
some 0) (fun z6 =>
some z6)))))
else
(bif (decide (97 ≤ a0)) then
(bif (decide (a0 ≤ 122)) then
some 2
else
(bif (decide (a0 = 32)) then
some 3
else
(bif (decide (a0 = 10)) then
some 3
else
bnd (spec_l3Kind_l1 a0 ([43, 45, 42, 47, 37, 38, 124, 94, 60, 62, 40, 41, 123, 125, 61, 59]) 0) fun r7 =>
selm r7 (fun y8 =>
some 0) (fun z9 =>
some z9))))
else
(bif (decide (a0 = 32)) then
some 3
else
(bif (decide (a0 = 10)) then
some 3
else
bnd (spec_l3Kind_l1 a0 ([43, 45, 42, 47, 37, 38, 124, 94, 60, 62, 40, 41, 123, 125, 61, 59]) 0) fun r10 =>
selm r10 (fun y11 =>
some 0) (fun z12 =>
some z12))))) : Option (Int))
 (spec_l3Kind a0) := by
 exact fun r h => fn_le' (F := Tb) (G := GT) (sg := sg) (sig := s31800) (p := p31800) (by kernel_rfl) (by kernel_rfl) rfl rfl rfl rfl rfl ((show runC (phi Tb GT sg) Tb GT p31800.code (startAT p31800 (mkST p31800.ins [.int .u8 a0] p31800.bins [])) (finT p31800 s31800) = _ by kernel_rfl).trans h)

theorem spec_l3End_le (a0 : List UInt8) (a1 : Int) : Tv.Le
 (bnd (geti a0 a1) fun c1 =>
bnd (spec_l3Kind (c1.toNat : Int)) fun r2 =>
(bif (decide (r2 = 1)) then
bnd (spec_l3Run a0 a1) fun r3 =>
some r3
else
(bif (decide (r2 = 2)) then
bnd (spec_l3Run a0 a1) fun r4 =>
some r4
else
(bif (!decide (r2 = 4)) then
some (-1)
else
(bif (decide ((wrap64 (a1 + 2)) ≤ (a0.length : Int))) then
bnd (cutL a0 a1 (wrap64 (a1 + 2))) fun s5 =>
bnd (spec_l3Two s5) fun r6 =>
(bif r6 then
some (wrap64 (a1 + 2))
else
bnd (geti a0 a1) fun c7 =>
(bif (decide ((c7.toNat : Int) = 62)) then
some (-1)
else
some (wrap64 (a1 + 1))))
else
bnd (geti a0 a1) fun c8 =>
(bif (decide ((c8.toNat : Int) = 62)) then
some (-1)
else
some (wrap64 (a1 + 1))))))) : Option (Int))
 (spec_l3End a0 a1) := by
 rewrite [← wrapC_eq]
 exact fun r h => fn_le' (F := Tb) (G := GT) (sg := sg) (sig := s32100) (p := p32100) (by kernel_rfl) (by kernel_rfl) rfl rfl rfl rfl rfl ((show runC (phi Tb GT sg) Tb GT p32100.code (startAT p32100 (mkST p32100.ins [.str a0, .int .i64 a1] p32100.bins [])) (finT p32100 s32100) = _ by kernel_rfl).trans h)

theorem spec_Tokens_l1_le (t0 : List UInt8) (t4b : Bool) (t4 : List (List UInt8)) (t5 : Int) : Tv.Le
 ((bif (decide (t5 < (t0.length : Int))) then
bnd (geti t0 t5) fun c1 =>
bnd (spec_l3Kind (c1.toNat : Int)) fun r2 =>
(bif (decide (r2 = 3)) then
spec_Tokens_l1 t0 t4b t4 (wrap64 (t5 + 1))
else
bnd (spec_l3End t0 t5) fun r3 =>
(bif (decide (r3 < 0)) then
some (.inr ((false, ([] : List (List UInt8))), false, (t4b, t4)))
else
bnd (cutL t0 t5 r3) fun s4 =>
bnd (appL t4 ([s4] : List (List UInt8))) fun l5 =>
spec_Tokens_l1 t0 true l5 r3))
else
some (.inl (t4b, t4))) : Option (((Bool × List (List UInt8))) ⊕ ((Bool × List (List UInt8)) × Bool × (Bool × List (List UInt8)))))
 (spec_Tokens_l1 t0 t4b t4 t5) := by
 rewrite [← wrapC_eq]
 exact fun r h => loop_le' (F := Tb) (G := GT) (sg := sg) (sig := s32201) (p := p32201) (by kernel_rfl) (by kernel_rfl) rfl rfl rfl ((show runC (phi Tb GT sg) Tb GT p32201.code ((mkST p32201.ins [.str t0, .sl (.own t4b) .str t4, .int .i64 t5] p32201.bins [])) (finL Tb GT 32201 p32201 s32201) = _ by kernel_rfl).trans h)

theorem spec_l5First_le (a0 : List (List UInt8)) (a1 : Int) : Tv.Le
 ((bif (decide ((a0.length : Int) ≤ a1)) then
some (⟨0, 0, []⟩, (-1))
else
bnd (geti a0 a1) fun e1 =>
(bif (e1 == [40]) then
bnd (spec_l5Parse a0 (wrap64 (a1 + 1)) 1) fun r2 =>
(bif (decide (r2.2 < 0)) then
some (⟨0, 0, []⟩, (-1))
else
(bif (decide ((a0.length : Int) ≤ r2.2)) then
some (⟨0, 0, []⟩, (-1))
else
bnd (geti a0 r2.2) fun e3 =>
(bif (!(e3 == [41])) then
some (⟨0, 0, []⟩, (-1))
else
some (⟨r2.1.op, r2.1.n, r2.1.args⟩, (wrap64 (r2.2 + 1))))))
else
bnd (geti a0 a1) fun e4 =>
bnd (spec_l5Number e4) fun r5 =>
(bif (decide (0 ≤ r5)) then
bnd (geti a0 a1) fun e6 =>
bnd (spec_l5Number e6) fun r7 =>
bnd (spec_l4Leaf 0 r7) fun r8 =>
some (⟨r8.1, r8.2.1, r8.2.2.2⟩, (wrap64 (a1 + 1)))
else
bnd (geti a0 a1) fun e9 =>
bnd (spec_l5Var e9) fun r10 =>
(bif (decide (0 ≤ r10)) then
bnd (geti a0 a1) fun e11 =>
bnd (spec_l5Var e11) fun r12 =>
bnd (spec_l4Leaf 13 r12) fun r13 =>
some (⟨r13.1, r13.2.1, r13.2.2.2⟩, (wrap64 (a1 + 1)))
else
some (⟨0, 0, []⟩, (-1)))))) : Option (Exp × Int))
 (spec_l5First a0 a1) := by
 rewrite [← wrapC_eq]
 exact fun r h => fn_le' (F := Tb) (G := GT) (sg := sg) (sig := s32600) (p := p32600) (by kernel_rfl) (by kernel_rfl) rfl rfl rfl rfl rfl ((show runC (phi Tb GT sg) Tb GT p32600.code (startAT p32600 (mkST p32600.ins [.sl .share .str a0, .int .i64 a1] p32600.bins [])) (finT p32600 s32600) = _ by kernel_rfl).trans h)

theorem spec_l5Op_le (a0 : List UInt8) : Tv.Le
 (bnd (spec_l5Op_l1 a0 1) fun r1 =>
selm r1 (fun y2 =>
some 0) (fun z3 =>
some z3) : Option (Int))
 (spec_l5Op a0) := by
 exact fun r h => fn_le' (F := Tb) (G := GT) (sg := sg) (sig := s32800) (p := p32800) (by kernel_rfl) (by kernel_rfl) rfl rfl rfl rfl rfl ((show runC (phi Tb GT sg) Tb GT p32800.code (startAT p32800 (mkST p32800.ins [.str a0] p32800.bins [])) (finT p32800 s32800) = _ by kernel_rfl).trans h)

theorem spec_OpLevel_le (a0 : Int) : Tv.Le
 (bnd (spec_OpValid a0) fun r1 =>
(bif (!r1) then
some 0
else
bnd (geti ([1, 2, 3, 4, 5, 6, 6, 7, 7, 8, 8, 8] : List Int) (wrap64 (a0 - 1))) fun e2 =>
some e2) : Option (Int))
 (spec_OpLevel a0) := by
 rewrite [← wrapC_eq]
 exact fun r h => fn_le' (F := Tb) (G := GT) (sg := sg) (sig := s32700) (p := p32700) (by kernel_rfl) (by kernel_rfl) rfl rfl rfl rfl rfl ((show runC (phi Tb GT sg) Tb GT p32700.code (startAT p32700 (mkST p32700.ins [.int .i64 a0] p32700.bins [])) (finT p32700 s32700) = _ by kernel_rfl).trans h)

theorem spec_l4Both_le (a0 : Int) (a1 : Exp) (a2 : Exp) : Tv.Le
 (some (a0, 0, (.full, ([⟨a1.op, a1.n, a1.args⟩, ⟨a2.op, a2.n, a2.args⟩] : List Exp))) : Option (Int × Int × (Md × List Exp)))
 (spec_l4Both a0 a1 a2) := by
 exact fun r h => fn_le' (F := Tb) (G := GT) (sg := sg) (sig := s500) (p := p500) (by kernel_rfl) (by kernel_rfl) rfl rfl rfl rfl rfl ((show runC (phi Tb GT sg) Tb GT p500.code (startAT p500 (mkST p500.ins [.int .i64 a0, .agg (rowT .exp a1), .agg (rowT .exp a2)] p500.bins [])) (finT p500 s500) = _ by kernel_rfl).trans h)

theorem spec_l5Parse_l1_le (t0 : List (List UInt8)) (t2 : Int) (t9 : Int) (b100_0 : Int) (b100_1 : Int) (b100_2b : Bool) (b100_2 : List Exp) (b101_0 : Int) (b101_1 : Int) (b101_2m : Md) (b101_2 : List Exp) : Tv.Le
 ((bif (decide (0 ≤ t9)) then
(bif (decide (t9 < (t0.length : Int))) then
bnd (geti t0 t9) fun e1 =>
bnd (spec_l5Op e1) fun r2 =>
bnd (spec_OpLevel r2) fun r3 =>
(bif (decide (r3 = t2)) then
bnd (geti t0 t9) fun e4 =>
bnd (spec_l5Op e4) fun r5 =>
bnd (spec_l5Parse t0 (wrap64 (t9 + 1)) (wrap64 (t2 + 1))) fun r6 =>
bnd (spec_l4Both r5 (⟨b101_0, b101_1, b101_2⟩ : Exp) (⟨r6.1.op, r6.1.n, r6.1.args⟩ : Exp)) fun r7 =>
spec_l5Parse_l1 t0 t2 r6.2 b100_0 b100_1 b100_2b b100_2 r7.1 r7.2.1 (Md.dem r7.2.2.1) r7.2.2.2
else
some (t9, b100_0, b100_1, (b100_2b, b100_2), b101_0, b101_1, (b101_2m, b101_2)))
else
some (t9, b100_0, b100_1, (b100_2b, b100_2), b101_0, b101_1, (b101_2m, b101_2)))
else
some (t9, b100_0, b100_1, (b100_2b, b100_2), b101_0, b101_1, (b101_2m, b101_2))) : Option (Int × Int × Int × (Bool × List Exp) × Int × Int × (Md × List Exp)))
 (spec_l5Parse_l1 t0 t2 t9 b100_0 b100_1 b100_2b b100_2 b101_0 b101_1 b101_2m b101_2) := by
 rewrite [← wrapC_eq]
 exact fun r h => loop_le' (F := Tb) (G := GT) (sg := sg) (sig := s32901) (p := p32901) (by kernel_rfl) (by kernel_rfl) rfl rfl rfl ((show runC (phi Tb GT sg) Tb GT p32901.code ((mkST p32901.ins [.sl .share .str t0, .int .i64 t2, .bp 100 0, .bp 101 0, .int .i64 t9] p32901.bins [.var [.int .i64 b100_0, .int .i64 b100_1, .sl (.own b100_2b) .exp b100_2], .var [.int .i64 b101_0, .int .i64 b101_1, .sl b101_2m .exp b101_2]])) (finL Tb GT 32901 p32901 s32901) = _ by kernel_rfl).trans h)

theorem spec_l4Ok_le (a0 : Exp) (a1 : Int) : Tv.Le
 ((bif (decide (a1 < 1)) then
some false
else
(bif (decide (a0.op = 0)) then
bnd (spec_l6In a0.n 0 99999) fun r1 =>
(bif r1 then
some (decide ((a0.args.length : Int) = 0))
else
some false)
else
(bif (decide (a0.op = 13)) then
bnd (spec_l6In a0.n 0 3) fun r2 =>
(bif r2 then
some (decide ((a0.args.length : Int) = 0))
else
some false)
else
bnd (spec_OpValid a0.op) fun r3 =>
(bif r3 then
(bif (decide (a0.n = 0)) then
(bif (decide ((a0.args.length : Int) = 2)) then
bnd (geti a0.args 0) fun e4 =>
bnd (spec_l4Ok (⟨e4.op, e4.n, e4.args⟩ : Exp) (wrap64 (a1 - 1))) fun r5 =>
(bif r5 then
bnd (geti a0.args 1) fun e6 =>
bnd (spec_l4Ok (⟨e6.op, e6.n, e6.args⟩ : Exp) (wrap64 (a1 - 1))) fun r7 =>
some r7
else
some false)
else
some false)
else
some false)
else
some false)))) : Option (Bool))
 (spec_l4Ok a0 a1) := by
 rewrite [← wrapC_eq]
 exact fun r h => fn_le' (F := Tb) (G := GT) (sg := sg) (sig := s1800) (p := p1800) (by kernel_rfl) (by kernel_rfl) rfl rfl rfl rfl rfl ((show runC (phi Tb GT sg) Tb GT p1800.code (startAT p1800 (mkST p1800.ins [.agg (rowT .exp a0), .int .i64 a1] p1800.bins [])) (finT p1800 s1800) = _ by kernel_rfl).trans h)

theorem impl_tokenLength_le (a0 : List UInt8) : Tv.Le
 (bnd (impl_tokenLength_l1 a0 (([33100, 33200] : List Nat).length : Int) 0) fun r1 =>
selm r1 (fun y2 =>
bnd (impl_tokenLength_l3 y2 .full ([[61, 61], [60, 60], [62, 62]] : List (List UInt8)) (([[61, 61], [60, 60], [62, 62]] : List (List UInt8)).length : Int) 0) fun r4 =>
selm r4 (fun y5 =>
(bif (!(y5 == [])) then
bnd (geti y5 0) fun c7 =>
bnd (strings_IndexByte ([124, 94, 38, 60, 43, 45, 42, 47, 37, 40, 41, 123, 125, 61, 59]) (c7.toNat : Int)) fun r8 =>
(bif (decide (0 ≤ r8)) then
some 1
else
some 0)
else
some 0)) (fun z6 =>
some z6.2)) (fun z3 =>
some z3.2) : Option (Int))
 (impl_tokenLength a0) := by
 exact fun r h => fn_le' (F := Tb) (G := GT) (sg := sg) (sig := s33300) (p := p33300) (by kernel_rfl) (by kernel_rfl) rfl rfl rfl rfl rfl ((show runC (phi Tb GT sg) Tb GT p33300.code (startAT p33300 (mkST p33300.ins [.str a0] p33300.bins [])) (finT p33300 s33300) = _ by kernel_rfl).trans h)

theorem impl_Tokens_l1_le (t0 : List UInt8) (t4b : Bool) (t4 : List (List UInt8)) (t5 : Int) : Tv.Le
 ((bif (decide (t5 < (t0.length : Int))) then
bnd (geti t0 t5) fun c1 =>
(bif (decide ((c1.toNat : Int) = 32)) then
impl_Tokens_l1 t0 t4b t4 (wrap64 (t5 + 1))
else
bnd (geti t0 t5) fun c2 =>
(bif (decide ((c2.toNat : Int) = 10)) then
impl_Tokens_l1 t0 t4b t4 (wrap64 (t5 + 1))
else
bnd (cutL t0 t5 (t0.length : Int)) fun s3 =>
bnd (impl_tokenLength s3) fun r4 =>
(bif (decide (r4 = 0)) then
some (.inr ((false, []), false, (t4b, t4)))
else
bnd (cutL t0 t5 (wrap64 (t5 + r4))) fun s5 =>
bnd (appL t4 ([s5] : List (List UInt8))) fun l6 =>
impl_Tokens_l1 t0 true l6 (wrap64 (t5 + r4)))))
else
some (.inl (t4b, t4))) : Option (((Bool × List (List UInt8))) ⊕ ((Bool × List (List UInt8)) × Bool × (Bool × List (List UInt8)))))
 (impl_Tokens_l1 t0 t4b t4 t5) := by
 rewrite [← wrapC_eq]
 exact fun r h => loop_le' (F := Tb) (G := GT) (sg := sg) (sig := s33401) (p := p33401) (by kernel_rfl) (by kernel_rfl) rfl rfl rfl ((show runC (phi Tb GT sg) Tb GT p33401.code ((mkST p33401.ins [.str t0, .sl (.own t4b) .str t4, .int .i64 t5] p33401.bins [])) (finL Tb GT 33401 p33401 s33401) = _ by kernel_rfl).trans h)

theorem impl_parser_operand_p_le (a0tokens : List (List UInt8)) (a0at : Int) (a0failed : Bool) (A : List Ent) : Tv.Le
 (bnd (impl_parser_peek a0tokens a0at a0failed) fun r1 =>
(bif (r1.1 == [40]) then
bnd (impl_parser_expr_p 1 r1.2.1 (wrap64 (r1.2.2.1 + 1)) r1.2.2.2 A) fun r2 =>
bnd (impl_parser_need [41] r2.2.1 r2.2.2.1 r2.2.2.2.1) fun r3 =>
some (r2.1, r3.1, r3.2.1, r3.2.2, r2.2.2.2.2)
else
(bif (!(r1.1 == [])) then
bnd (geti r1.1 0) fun c4 =>
bnd (impl_isDigit (c4.toNat : Int)) fun r5 =>
(bif r5 then
bnd (impl_parser_number r1.2.1 r1.2.2.1 r1.2.2.2) fun r6 =>
some (⟨0, r6.1, ⟨none, 0⟩⟩, r6.2.1, r6.2.2.1, r6.2.2.2, A)
else
bnd (impl_parser_variable r1.2.1 r1.2.2.1 r1.2.2.2) fun r7 =>
some (⟨13, r7.1, ⟨none, 0⟩⟩, r7.2.1, r7.2.2.1, r7.2.2.2, A))
else
bnd (impl_parser_variable r1.2.1 r1.2.2.1 r1.2.2.2) fun r8 =>
some (⟨13, r8.1, ⟨none, 0⟩⟩, r8.2.1, r8.2.2.1, r8.2.2.2, A))) : Option (ExpH × List (List UInt8) × Int × Bool × List Ent))
 (impl_parser_operand_p a0tokens a0at a0failed A) := by
 rewrite [← wrapC_eq]
 exact fun r h => fn_le' (F := Tb) (G := GT) (sg := sg) (sig := s43900) (p := p43900) (by kernel_rfl) (by kernel_rfl) rfl rfl rfl rfl rfl ((show runC (phi Tb GT sg) Tb GT p43900.code (startAT p43900 (mkST p43900.ins [.bp 0 0] p43900.bins [.var [.sl .share .str a0tokens, .int .i64 a0at, .bool a0failed], .ar A])) (finT p43900 s43900) = _ by kernel_rfl).trans h)

theorem impl_parser_peek_le (a0tokens : List (List UInt8)) (a0at : Int) (a0failed : Bool) : Tv.Le
 ((bif (decide (a0at < (a0tokens.length : Int))) then
(bif (!a0failed) then
bnd (geti a0tokens a0at) fun e1 =>
some (e1, a0tokens, a0at, a0failed)
else
some ([], a0tokens, a0at, a0failed))
else
some ([], a0tokens, a0at, a0failed)) : Option (List UInt8 × List (List UInt8) × Int × Bool))
 (impl_parser_peek a0tokens a0at a0failed) := by
 exact fun r h => fn_le' (F := Tb) (G := GT) (sg := sg) (sig := s33500) (p := p33500) (by kernel_rfl) (by kernel_rfl) rfl rfl rfl rfl rfl ((show runC (phi Tb GT sg) Tb GT p33500.code (startAT p33500 (mkST p33500.ins [.bp 0 0] p33500.bins [.var [.sl .share .str a0tokens, .int .i64 a0at, .bool a0failed]])) (finT p33500 s33500) = _ by kernel_rfl).trans h)

theorem impl_opFrom_le (a0 : List UInt8) : Tv.Le
 (bnd (impl_opFrom_l1 a0 0) fun r1 =>
selm r1 (fun y2 =>
some 0) (fun z3 =>
some z3) : Option (Int))
 (impl_opFrom a0) := by
 exact fun r h => fn_le' (F := Tb) (G := GT) (sg := sg) (sig := s34200) (p := p34200) (by kernel_rfl) (by kernel_rfl) rfl rfl rfl rfl rfl ((show runC (phi Tb GT sg) Tb GT p34200.code (startAT p34200 (mkST p34200.ins [.str a0] p34200.bins [])) (finT p34200 s34200) = _ by kernel_rfl).trans h)

theorem impl_OpLevel_le (a0 : Int) : Tv.Le
 ((bif (decide (a0 = 1)) then
some 1
else
(bif (decide (a0 = 2)) then
some 2
else
(bif (decide (a0 = 3)) then
some 3
else
(bif (decide (a0 = 4)) then
some 4
else
(bif (decide (a0 = 5)) then
some 5
else
(bif (decide (a0 = 6)) then
some 6
else
(bif (decide (a0 = 7)) then
some 6
else
(bif (decide (a0 = 8)) then
some 7
else
(bif (decide (a0 = 9)) then
some 7
else
(bif (decide (a0 = 10)) then
some 8
else
(bif (decide (a0 = 11)) then
some 8
else
(bif (decide (a0 = 12)) then
some 8
else
some 0)))))))))))) : Option (Int))
 (impl_OpLevel a0) := by
 exact fun r h => fn_le' (F := Tb) (G := GT) (sg := sg) (sig := s34300) (p := p34300) (by kernel_rfl) (by kernel_rfl) rfl rfl rfl rfl rfl ((show runC (phi Tb GT sg) Tb GT p34300.code (startAT p34300 (mkST p34300.ins [.int .i64 a0] p34300.bins [])) (finT p34300 s34300) = _ by kernel_rfl).trans h)

theorem impl_parser_expr_p_l1_le (t1 : Int) (b0_0 : List (List UInt8)) (b0_1 : Int) (b0_2 : Bool) (b100_0 : Int) (b100_1 : Int) (b100_2 : Hd) (b101_0 : Int) (b101_1 : Int) (b101_2 : Hd) (b99 : List Ent) : Tv.Le
 ((bif (!b0_2) then
bnd (impl_parser_peek b0_0 b0_1 b0_2) fun r1 =>
bnd (impl_opFrom r1.1) fun r2 =>
(bif (decide (r2 = 0)) then
some (r1.2.1, r1.2.2.1, r1.2.2.2, b100_0, b100_1, b100_2, b101_0, b101_1, b101_2, b99)
else
bnd (impl_OpLevel r2) fun r3 =>
(bif (decide (r3 < t1)) then
some (r1.2.1, r1.2.2.1, r1.2.2.2, b100_0, b100_1, b100_2, b101_0, b101_1, b101_2, b99)
else
bnd (impl_OpLevel r2) fun r4 =>
bnd (impl_parser_expr_p (wrap64 (r4 + 1)) r1.2.1 (wrap64 (r1.2.2.1 + 1)) r1.2.2.2 b99) fun r5 =>
impl_parser_expr_p_l1 t1 r5.2.1 r5.2.2.1 r5.2.2.2.1 b100_0 b100_1 b100_2 r2 0 (⟨(some (List.length r5.2.2.2.2)), 2⟩ : Hd) (arPush r5.2.2.2.2 .expH ([⟨b101_0, b101_1, b101_2⟩, r5.1] : List ExpH))))
else
some (b0_0, b0_1, b0_2, b100_0, b100_1, b100_2, b101_0, b101_1, b101_2, b99)) : Option (List (List UInt8) × Int × Bool × Int × Int × Hd × Int × Int × Hd × List Ent))
 (impl_parser_expr_p_l1 t1 b0_0 b0_1 b0_2 b100_0 b100_1 b100_2 b101_0 b101_1 b101_2 b99) := by
 rewrite [← wrapC_eq]
 exact fun r h => loop_le' (F := Tb) (G := GT) (sg := sg) (sig := s43801) (p := p43801) (by kernel_rfl) (by kernel_rfl) rfl rfl rfl ((show runC (phi Tb GT sg) Tb GT p43801.code ((mkST p43801.ins [.bp 0 0, .int .i64 t1, .bp 100 0, .bp 101 0] p43801.bins [.var [.sl .share .str b0_0, .int .i64 b0_1, .bool b0_2], .var [.int .i64 b100_0, .int .i64 b100_1, .tr .expH b100_2.id b100_2.n], .var [.int .i64 b101_0, .int .i64 b101_1, .tr .expH b101_2.id b101_2.n], .ar b99])) (finL Tb GT 43801 p43801 s43801) = _ by kernel_rfl).trans h)

theorem impl_exprValid_le (a0 : Exp) (a1 : Int) : Tv.Le
 ((bif (decide (a0.op = 0)) then
(bif (decide (0 ≤ a0.n)) then
(bif (decide (a0.n ≤ 99999)) then
(bif (decide ((a0.args.length : Int) = 0)) then
some (decide (0 < a1))
else
some false)
else
some false)
else
some false)
else
(bif (decide (a0.op = 13)) then
(bif (decide (0 ≤ a0.n)) then
(bif (decide (a0.n < 4)) then
(bif (decide ((a0.args.length : Int) = 0)) then
some (decide (0 < a1))
else
some false)
else
some false)
else
some false)
else
bnd (impl_OpValid a0.op) fun r1 =>
(bif r1 then
(bif (decide (a0.n = 0)) then
(bif (decide ((a0.args.length : Int) = 2)) then
(bif (decide (1 < a1)) then
bnd (geti a0.args 0) fun e2 =>
bnd (impl_exprValid (⟨e2.op, e2.n, e2.args⟩ : Exp) (wrap64 (a1 - 1))) fun r3 =>
(bif r3 then
bnd (geti a0.args 1) fun e4 =>
bnd (impl_exprValid (⟨e4.op, e4.n, e4.args⟩ : Exp) (wrap64 (a1 - 1))) fun r5 =>
some r5
else
some false)
else
some false)
else
some false)
else
some false)
else
some false))) : Option (Bool))
 (impl_exprValid a0 a1) := by
 rewrite [← wrapC_eq]
 exact fun r h => fn_le' (F := Tb) (G := GT) (sg := sg) (sig := s1100) (p := p1100) (by kernel_rfl) (by kernel_rfl) rfl rfl rfl rfl rfl ((show runC (phi Tb GT sg) Tb GT p1100.code (startAT p1100 (mkST p1100.ins [.agg (rowT .exp a0), .int .i64 a1] p1100.bins [])) (finT p1100 s1100) = _ by kernel_rfl).trans h)

theorem laws_eqExprS_l1_le (t0 : List Exp) (t1 : List Exp) (t5 : Int) : Tv.Le
 ((bif (decide (t5 < (t0.length : Int))) then
bnd (geti t0 t5) fun e1 =>
bnd (geti t1 t5) fun e2 =>
bnd (laws_eqExpr (⟨e1.op, e1.n, e1.args⟩ : Exp) (⟨e2.op, e2.n, e2.args⟩ : Exp)) fun r3 =>
(bif (!r3) then
some (.inr false)
else
laws_eqExprS_l1 t0 t1 (wrap64 (t5 + 1)))
else
some (.inl ())) : Option (Unit ⊕ Bool))
 (laws_eqExprS_l1 t0 t1 t5) := by
 rewrite [← wrapC_eq]
 exact fun r h => loop_le' (F := Tb) (G := GT) (sg := sg) (sig := s8001) (p := p8001) (by kernel_rfl) (by kernel_rfl) rfl rfl rfl ((show runC (phi Tb GT sg) Tb GT p8001.code ((mkST p8001.ins [.sl .share .exp t0, .sl .share .exp t1, .int .i64 t5] p8001.bins [])) (finL Tb GT 8001 p8001 s8001) = _ by kernel_rfl).trans h)

end Go.TFnExactExprFrom
