import Derived.Test.YthedbdlbibkpiaaDoorDFnExactExprFromP
import Derived.KernelRfl
set_option linter.unusedVariables false
namespace Go.TFnExactExprFrom
open Go Go.RowKit Go.Vs Go.Tv
theorem laws_markExprS_p_l1_le (t0 : Hd) (t1 : Int) (t5 : Int) (b99 : List Ent) : Tv.Le
 ((bif (decide (t5 < ((t0.n : Nat) : Int))) then
bnd (idxN t0.n t5) fun i1 =>
bnd (arRow b99 .expH t0.id i1) fun e2 =>
bnd (idxN t0.n t5) fun i3 =>
bnd (arRow (arSet b99 .expH t0.id i1 (⟨t1, e2.n, e2.args⟩ : ExpH)) .expH t0.id i3) fun e4 =>
bnd (idxN t0.n t5) fun i5 =>
bnd (arRow (arSet (arSet b99 .expH t0.id i1 (⟨t1, e2.n, e2.args⟩ : ExpH)) .expH t0.id i3 (⟨e4.op, (wrap64 (t1 + 1)), e4.args⟩ : ExpH)) .expH t0.id i5) fun e6 =>
bnd (laws_markExprS_p e6.args (wrap64 ((wrap64 (t1 + 1)) + 1)) (arSet (arSet b99 .expH t0.id i1 (⟨t1, e2.n, e2.args⟩ : ExpH)) .expH t0.id i3 (⟨e4.op, (wrap64 (t1 + 1)), e4.args⟩ : ExpH))) fun r7 =>
laws_markExprS_p_l1 t0 r7.1 (wrap64 (t5 + 1)) r7.2
else
some (t1, b99)) : Option (Int × List Ent))
 (laws_markExprS_p_l1 t0 t1 t5 b99) := by
 rewrite [← wrapC_eq]
 exact fun r h => loop_le' (F := Tb) (G := GT) (sg := sg) (sig := s41301) (p := p41301) (by kernel_rfl) (by kernel_rfl) rfl rfl rfl ((show runC (phi Tb GT sg) Tb GT p41301.code ((mkST p41301.ins [.tr .expH t0.id t0.n, .int .i64 t1, .int .i64 t5] p41301.bins [.ar b99])) (finL Tb GT 41301 p41301 s41301) = _ by kernel_rfl).trans h)

theorem laws_heldExprS_l1_le (t0 : List Exp) (t1 : Int) (t5 : Int) : Tv.Le
 ((bif (decide (t5 < (t0.length : Int))) then
bnd (geti t0 t5) fun e1 =>
(bif (!decide (e1.op = t1)) then
some (.inr (t1, (-1)))
else
bnd (geti t0 t5) fun e2 =>
(bif (!decide (e2.n = (wrap64 (t1 + 1)))) then
some (.inr ((wrap64 (t1 + 1)), (-1)))
else
bnd (geti t0 t5) fun e3 =>
bnd (laws_heldExprS e3.args (wrap64 ((wrap64 (t1 + 1)) + 1))) fun r4 =>
(bif (decide (r4 < 0)) then
some (.inr (r4, (-1)))
else
laws_heldExprS_l1 t0 r4 (wrap64 (t5 + 1)))))
else
some (.inl t1)) : Option (Int ⊕ (Int × Int)))
 (laws_heldExprS_l1 t0 t1 t5) := by
 rewrite [← wrapC_eq]
 exact fun r h => loop_le' (F := Tb) (G := GT) (sg := sg) (sig := s10701) (p := p10701) (by kernel_rfl) (by kernel_rfl) rfl rfl rfl ((show runC (phi Tb GT sg) Tb GT p10701.code ((mkST p10701.ins [.sl .share .exp t0, .int .i64 t1, .int .i64 t5] p10701.bins [])) (finL Tb GT 10701 p10701 s10701) = _ by kernel_rfl).trans h)

theorem impl_parser_operand_le (a0tokens : List (List UInt8)) (a0at : Int) (a0failed : Bool) : Tv.Le
 (bnd (impl_parser_peek a0tokens a0at a0failed) fun r1 =>
(bif (r1.1 == [40]) then
bnd (impl_parser_expr 1 r1.2.1 (wrap64 (r1.2.2.1 + 1)) r1.2.2.2) fun r2 =>
bnd (impl_parser_need [41] r2.2.1 r2.2.2.1 r2.2.2.2) fun r3 =>
some (⟨r2.1.op, r2.1.n, r2.1.args⟩, r3.1, r3.2.1, r3.2.2)
else
(bif (!(r1.1 == [])) then
bnd (geti r1.1 0) fun c4 =>
bnd (impl_isDigit (c4.toNat : Int)) fun r5 =>
(bif r5 then
bnd (impl_parser_number r1.2.1 r1.2.2.1 r1.2.2.2) fun r6 =>
some (⟨0, r6.1, []⟩, r6.2.1, r6.2.2.1, r6.2.2.2)
else
bnd (impl_parser_variable r1.2.1 r1.2.2.1 r1.2.2.2) fun r7 =>
some (⟨13, r7.1, []⟩, r7.2.1, r7.2.2.1, r7.2.2.2))
else
bnd (impl_parser_variable r1.2.1 r1.2.2.1 r1.2.2.2) fun r8 =>
some (⟨13, r8.1, []⟩, r8.2.1, r8.2.2.1, r8.2.2.2))) : Option (Exp × List (List UInt8) × Int × Bool))
 (impl_parser_operand a0tokens a0at a0failed) := by
 rewrite [← wrapC_eq]
 exact fun r h => fn_le' (F := Tb) (G := GT) (sg := sg) (sig := s34100) (p := p34100) (by kernel_rfl) (by kernel_rfl) rfl rfl rfl rfl rfl ((show runC (phi Tb GT sg) Tb GT p34100.code (startAT p34100 (mkST p34100.ins [.bp 0 0] p34100.bins [.var [.sl .share .str a0tokens, .int .i64 a0at, .bool a0failed]])) (finT p34100 s34100) = _ by kernel_rfl).trans h)

theorem impl_parser_expr_l1_le (t1 : Int) (b0_0 : List (List UInt8)) (b0_1 : Int) (b0_2 : Bool) (b100_0 : Int) (b100_1 : Int) (b100_2b : Bool) (b100_2 : List Exp) (b101_0 : Int) (b101_1 : Int) (b101_2m : Md) (b101_2 : List Exp) : Tv.Le
 ((bif (!b0_2) then
bnd (impl_parser_peek b0_0 b0_1 b0_2) fun r1 =>
bnd (impl_opFrom r1.1) fun r2 =>
(bif (decide (r2 = 0)) then
some (r1.2.1, r1.2.2.1, r1.2.2.2, b100_0, b100_1, (b100_2b, b100_2), b101_0, b101_1, (b101_2m, b101_2))
else
bnd (impl_OpLevel r2) fun r3 =>
(bif (decide (r3 < t1)) then
some (r1.2.1, r1.2.2.1, r1.2.2.2, b100_0, b100_1, (b100_2b, b100_2), b101_0, b101_1, (b101_2m, b101_2))
else
bnd (impl_OpLevel r2) fun r4 =>
bnd (impl_parser_expr (wrap64 (r4 + 1)) r1.2.1 (wrap64 (r1.2.2.1 + 1)) r1.2.2.2) fun r5 =>
impl_parser_expr_l1 t1 r5.2.1 r5.2.2.1 r5.2.2.2 b100_0 b100_1 b100_2b b100_2 r2 0 .full ([⟨b101_0, b101_1, b101_2⟩, ⟨r5.1.op, r5.1.n, r5.1.args⟩] : List Exp)))
else
some (b0_0, b0_1, b0_2, b100_0, b100_1, (b100_2b, b100_2), b101_0, b101_1, (b101_2m, b101_2))) : Option (List (List UInt8) × Int × Bool × Int × Int × (Bool × List Exp) × Int × Int × (Md × List Exp)))
 (impl_parser_expr_l1 t1 b0_0 b0_1 b0_2 b100_0 b100_1 b100_2b b100_2 b101_0 b101_1 b101_2m b101_2) := by
 rewrite [← wrapC_eq]
 exact fun r h => loop_le' (F := Tb) (G := GT) (sg := sg) (sig := s34401) (p := p34401) (by kernel_rfl) (by kernel_rfl) rfl rfl rfl ((show runC (phi Tb GT sg) Tb GT p34401.code ((mkST p34401.ins [.bp 0 0, .int .i64 t1, .bp 100 0, .bp 101 0] p34401.bins [.var [.sl .share .str b0_0, .int .i64 b0_1, .bool b0_2], .var [.int .i64 b100_0, .int .i64 b100_1, .sl (.own b100_2b) .exp b100_2], .var [.int .i64 b101_0, .int .i64 b101_1, .sl b101_2m .exp b101_2]])) (finL Tb GT 34401 p34401 s34401) = _ by kernel_rfl).trans h)

theorem spec_l3Kind_l1_le (t0 : Int) (t3 : List UInt8) (t4 : Int) : Tv.Le
 ((bif (decide (t4 < (t3.length : Int))) then
bnd (geti t3 t4) fun c1 =>
(bif (decide ((c1.toNat : Int) = t0)) then
some (.inr 4)
else
spec_l3Kind_l1 t0 t3 (wrap64 (t4 + 1)))
else
some (.inl ())) : Option (Unit ⊕ Int))
 (spec_l3Kind_l1 t0 t3 t4) := by
 rewrite [← wrapC_eq]
 exact fun r h => loop_le' (F := Tb) (G := GT) (sg := sg) (sig := s31801) (p := p31801) (by kernel_rfl) (by kernel_rfl) rfl rfl rfl ((show runC (phi Tb GT sg) Tb GT p31801.code ((mkST p31801.ins [.int .u8 t0, .str t3, .int .i64 t4] p31801.bins [])) (finL Tb GT 31801 p31801 s31801) = _ by kernel_rfl).trans h)

theorem spec_l3Run_le (a0 : List UInt8) (a1 : Int) : Tv.Le
 (bnd (spec_l3Run_l1 a0 a1 a1) fun r1 =>
some r1 : Option (Int))
 (spec_l3Run a0 a1) := by
 exact fun r h => fn_le' (F := Tb) (G := GT) (sg := sg) (sig := s31900) (p := p31900) (by kernel_rfl) (by kernel_rfl) rfl rfl rfl rfl rfl ((show runC (phi Tb GT sg) Tb GT p31900.code (startAT p31900 (mkST p31900.ins [.str a0, .int .i64 a1] p31900.bins [])) (finT p31900 s31900) = _ by kernel_rfl).trans h)

theorem spec_l3Two_le (a0 : List UInt8) : Tv.Le
 ((bif (a0 == ([60, 60])) then
some true
else
(bif (a0 == ([62, 62])) then
some true
else
some (a0 == ([61, 61])))) : Option (Bool))
 (spec_l3Two a0) := by
 exact fun r h => fn_le' (F := Tb) (G := GT) (sg := sg) (sig := s32000) (p := p32000) (by kernel_rfl) (by kernel_rfl) rfl rfl rfl rfl rfl ((show runC (phi Tb GT sg) Tb GT p32000.code (startAT p32000 (mkST p32000.ins [.str a0] p32000.bins [])) (finT p32000 s32000) = _ by kernel_rfl).trans h)

theorem spec_l5Number_le (a0 : List UInt8) : Tv.Le
 (bnd (spec_l6In (a0.length : Int) 1 5) fun r1 =>
(bif (!r1) then
some (-1)
else
bnd (spec_l5Number_l1 a0 0 0) fun r2 =>
selm r2 (fun y3 =>
some y3) (fun z4 =>
some z4.1)) : Option (Int))
 (spec_l5Number a0) := by
 exact fun r h => fn_le' (F := Tb) (G := GT) (sg := sg) (sig := s32300) (p := p32300) (by kernel_rfl) (by kernel_rfl) rfl rfl rfl rfl rfl ((show runC (phi Tb GT sg) Tb GT p32300.code (startAT p32300 (mkST p32300.ins [.str a0] p32300.bins [])) (finT p32300 s32300) = _ by kernel_rfl).trans h)

theorem spec_l4Leaf_le (a0 : Int) (a1 : Int) : Tv.Le
 (some (a0, a1, ((.own false), ([] : List Exp))) : Option (Int × Int × (Md × List Exp)))
 (spec_l4Leaf a0 a1) := by
 exact fun r h => fn_le' (F := Tb) (G := GT) (sg := sg) (sig := s300) (p := p300) (by kernel_rfl) (by kernel_rfl) rfl rfl rfl rfl rfl ((show runC (phi Tb GT sg) Tb GT p300.code (startAT p300 (mkST p300.ins [.int .i64 a0, .int .i64 a1] p300.bins [])) (finT p300 s300) = _ by kernel_rfl).trans h)

theorem spec_l5Var_le (a0 : List UInt8) : Tv.Le
 (bnd (spec_l5Var_l1 a0 0) fun r1 =>
selm r1 (fun y2 =>
some (-1)) (fun z3 =>
some z3) : Option (Int))
 (spec_l5Var a0) := by
 exact fun r h => fn_le' (F := Tb) (G := GT) (sg := sg) (sig := s32500) (p := p32500) (by kernel_rfl) (by kernel_rfl) rfl rfl rfl rfl rfl ((show runC (phi Tb GT sg) Tb GT p32500.code (startAT p32500 (mkST p32500.ins [.str a0] p32500.bins [])) (finT p32500 s32500) = _ by kernel_rfl).trans h)

theorem spec_OpText_le (a0 : Int) : Tv.Le
 (bnd (spec_OpValid a0) fun r1 =>
(bif (!r1) then
some []
else
bnd (geti ([[124], [94], [38], [61, 61], [60], [60, 60], [62, 62], [43], [45], [42], [47], [37]] : List (List UInt8)) (wrap64 (a0 - 1))) fun e2 =>
some e2) : Option (List UInt8))
 (spec_OpText a0) := by
 rewrite [← wrapC_eq]
 exact fun r h => fn_le' (F := Tb) (G := GT) (sg := sg) (sig := s20700) (p := p20700) (by kernel_rfl) (by kernel_rfl) rfl rfl rfl rfl rfl ((show runC (phi Tb GT sg) Tb GT p20700.code (startAT p20700 (mkST p20700.ins [.int .i64 a0] p20700.bins [])) (finT p20700 s20700) = _ by kernel_rfl).trans h)

theorem spec_l5Op_l1_le (t0 : List UInt8) (t3 : Int) : Tv.Le
 ((bif (decide (t3 ≤ 12)) then
bnd (spec_OpText t3) fun r1 =>
(bif (t0 == r1) then
some (.inr t3)
else
spec_l5Op_l1 t0 (wrap64 (t3 + 1)))
else
some (.inl ())) : Option (Unit ⊕ Int))
 (spec_l5Op_l1 t0 t3) := by
 rewrite [← wrapC_eq]
 exact fun r h => loop_le' (F := Tb) (G := GT) (sg := sg) (sig := s32801) (p := p32801) (by kernel_rfl) (by kernel_rfl) rfl rfl rfl ((show runC (phi Tb GT sg) Tb GT p32801.code ((mkST p32801.ins [.str t0, .int .i64 t3] p32801.bins [])) (finL Tb GT 32801 p32801 s32801) = _ by kernel_rfl).trans h)

theorem spec_OpValid_le (a0 : Int) : Tv.Le
 (bnd (spec_l6In a0 1 12) fun r1 =>
some r1 : Option (Bool))
 (spec_OpValid a0) := by
 exact fun r h => fn_le' (F := Tb) (G := GT) (sg := sg) (sig := s1700) (p := p1700) (by kernel_rfl) (by kernel_rfl) rfl rfl rfl rfl rfl ((show runC (phi Tb GT sg) Tb GT p1700.code (startAT p1700 (mkST p1700.ins [.int .i64 a0] p1700.bins [])) (finT p1700 s1700) = _ by kernel_rfl).trans h)

theorem spec_l6In_le (a0 : Int) (a1 : Int) (a2 : Int) : Tv.Le
 ((bif (decide (a1 ≤ a0)) then
some (decide (a0 ≤ a2))
else
some false) : Option (Bool))
 (spec_l6In a0 a1 a2) := by
 exact fun r h => fn_le' (F := Tb) (G := GT) (sg := sg) (sig := s1600) (p := p1600) (by kernel_rfl) (by kernel_rfl) rfl rfl rfl rfl rfl ((show runC (phi Tb GT sg) Tb GT p1600.code (startAT p1600 (mkST p1600.ins [.int .i64 a0, .int .i64 a1, .int .i64 a2] p1600.bins [])) (finT p1600 s1600) = _ by kernel_rfl).trans h)

theorem impl_isDigit_le (a0 : Int) : Tv.Le
 ((bif (decide (48 ≤ a0)) then
some (decide (a0 ≤ 57))
else
some false) : Option (Bool))
 (impl_isDigit a0) := by
 exact fun r h => fn_le' (F := Tb) (G := GT) (sg := sg) (sig := s33100) (p := p33100) (by kernel_rfl) (by kernel_rfl) rfl rfl rfl rfl rfl ((show runC (phi Tb GT sg) Tb GT p33100.code (startAT p33100 (mkST p33100.ins [.int .u8 a0] p33100.bins [])) (finT p33100 s33100) = _ by kernel_rfl).trans h)

theorem impl_tokenLength_l1_l2_33100_le (t0 : List UInt8) (t5 : Int) (t9 : Int) (t10 : Int) : Tv.Le
 ((bif (decide (t5 < (t0.length : Int))) then
bnd (geti t0 t5) fun c1 =>
bnd (impl_isDigit (c1.toNat : Int)) fun r2 =>
(bif r2 then
impl_tokenLength_l1_l2_33100 t0 (wrap64 (t5 + 1)) t9 t10
else
some (t0, t5, t9, t10))
else
some (t0, t5, t9, t10)) : Option (List UInt8 × Int × Int × Int))
 (impl_tokenLength_l1_l2_33100 t0 t5 t9 t10) := by
 rewrite [← wrapC_eq]
 exact fun r h => loop_le' (F := Tb) (G := GT) (sg := sg) (sig := s33302) (p := p33302) (by kernel_rfl) (by kernel_rfl) rfl rfl rfl ((show runC (phi Tb GT sg) Tb GT p33302.code ((mkST p33302.ins [.str t0, .fn 33100 [], .int .i64 t5, .sl .full .fn ([33100, 33200] : List Nat), .int .i64 t9, .int .i64 t10] p33302.bins [])) (finL Tb GT 33302 p33302 s33302) = _ by kernel_rfl).trans h)

theorem impl_isLetter_le (a0 : Int) : Tv.Le
 ((bif (decide (97 ≤ a0)) then
some (decide (a0 ≤ 122))
else
some false) : Option (Bool))
 (impl_isLetter a0) := by
 exact fun r h => fn_le' (F := Tb) (G := GT) (sg := sg) (sig := s33200) (p := p33200) (by kernel_rfl) (by kernel_rfl) rfl rfl rfl rfl rfl ((show runC (phi Tb GT sg) Tb GT p33200.code (startAT p33200 (mkST p33200.ins [.int .u8 a0] p33200.bins [])) (finT p33200 s33200) = _ by kernel_rfl).trans h)

theorem impl_tokenLength_l1_l2_33200_le (t0 : List UInt8) (t5 : Int) (t9 : Int) (t10 : Int) : Tv.Le
 ((bif (decide (t5 < (t0.length : Int))) then
bnd (geti t0 t5) fun c1 =>
bnd (impl_isLetter (c1.toNat : Int)) fun r2 =>
(bif r2 then
impl_tokenLength_l1_l2_33200 t0 (wrap64 (t5 + 1)) t9 t10
else
some (t0, t5, t9, t10))
else
some (t0, t5, t9, t10)) : Option (List UInt8 × Int × Int × Int))
 (impl_tokenLength_l1_l2_33200 t0 t5 t9 t10) := by
 rewrite [← wrapC_eq]
 exact fun r h => loop_le' (F := Tb) (G := GT) (sg := sg) (sig := s33302) (p := p33302) (by kernel_rfl) (by kernel_rfl) rfl rfl rfl ((show runC (phi Tb GT sg) Tb GT p33302.code ((mkST p33302.ins [.str t0, .fn 33200 [], .int .i64 t5, .sl .full .fn ([33100, 33200] : List Nat), .int .i64 t9, .int .i64 t10] p33302.bins [])) (finL Tb GT 33302 p33302 s33302) = _ by kernel_rfl).trans h)

theorem impl_tokenLength_l1_le (t0 : List UInt8) (t9 : Int) (t10 : Int) : Tv.Le
 ((bif (decide (t10 < t9)) then
(bif (decide (t10 = 0)) then
bnd (impl_tokenLength_l1_l2_33100 t0 0 t9 t10) fun r2 =>
(bif (decide (0 < r2.2.1)) then
some (.inr (r2.1, r2.2.1))
else
impl_tokenLength_l1 r2.1 r2.2.2.1 (wrap64 (r2.2.2.2 + 1)))
else
(bif (decide ((t10 - 1) = 0)) then
bnd (impl_tokenLength_l1_l2_33200 t0 0 t9 t10) fun r3 =>
(bif (decide (0 < r3.2.1)) then
some (.inr (r3.1, r3.2.1))
else
impl_tokenLength_l1 r3.1 r3.2.2.1 (wrap64 (r3.2.2.2 + 1)))
else
none))
else
some (.inl t0)) : Option (List UInt8 ⊕ (List UInt8 × Int)))
 (impl_tokenLength_l1 t0 t9 t10) := by
 rewrite [← wrapC_eq]
 exact fun r h => loop_le' (F := Tb) (G := GT) (sg := sg) (sig := s33301) (p := p33301) (by kernel_rfl) (by kernel_rfl) rfl rfl rfl ((show runC (phi Tb GT sg) Tb GT p33301.code ((mkST p33301.ins [.str t0, .sl .full .fn ([33100, 33200] : List Nat), .int .i64 t9, .int .i64 t10] p33301.bins [])) (finL Tb GT 33301 p33301 s33301) = _ by kernel_rfl).trans h)

theorem strings_HasPrefix_le (a0 a1 : List UInt8) : Tv.Le (some (Lib.hasPrefix a0 a1) : Option (Bool)) (strings_HasPrefix a0 a1) := fun r h => by
  exact prim_le (F := Tb) (G := GT) (sg := fun _ => s37500) (g := 37500) (p := p37500) (x := r) (tv := [.str a0, .str a1]) (v := .bool r) (by kernel_rfl) rfl (prefix_pf h) rfl

theorem impl_tokenLength_l3_le (t0 : List UInt8) (t31m : Md) (t31 : List (List UInt8)) (t32 : Int) (t33 : Int) : Tv.Le
 ((bif (decide (t33 < t32)) then
bnd (geti t31 t33) fun e1 =>
bnd (strings_HasPrefix t0 e1) fun r2 =>
(bif r2 then
some (.inr (t0, 2))
else
impl_tokenLength_l3 t0 t31m t31 t32 (wrap64 (t33 + 1)))
else
some (.inl t0)) : Option (List UInt8 ⊕ (List UInt8 × Int)))
 (impl_tokenLength_l3 t0 t31m t31 t32 t33) := by
 rewrite [← wrapC_eq]
 exact fun r h => loop_le' (F := Tb) (G := GT) (sg := sg) (sig := s33303) (p := p33303) (by kernel_rfl) (by kernel_rfl) rfl rfl rfl ((show runC (phi Tb GT sg) Tb GT p33303.code ((mkST p33303.ins [.str t0, .sl t31m .str t31, .int .i64 t32, .int .i64 t33] p33303.bins [])) (finL Tb GT 33303 p33303 s33303) = _ by kernel_rfl).trans h)

theorem strings_IndexByte_le (a0 : List UInt8) (a1 : Int) : Tv.Le (some (Lib.indexByte a0 a1.toNat.toUInt8) : Option (Int)) (strings_IndexByte a0 a1) := fun r h => by
  exact prim_le (F := Tb) (G := GT) (sg := fun _ => s37600) (g := 37600) (p := p37600) (x := r) (tv := [.str a0, .int .u8 a1]) (v := .int .i64 r) (by kernel_rfl) rfl (index_pf h) rfl

theorem impl_parser_need_le (a1 : List UInt8) (a0tokens : List (List UInt8)) (a0at : Int) (a0failed : Bool) : Tv.Le
 (bnd (impl_parser_accept a1 a0tokens a0at a0failed) fun r1 =>
(bif (!r1.1) then
some (r1.2.1, r1.2.2.1, true)
else
some (r1.2.1, r1.2.2.1, r1.2.2.2)) : Option (List (List UInt8) × Int × Bool))
 (impl_parser_need a1 a0tokens a0at a0failed) := by
 exact fun r h => fn_le' (F := Tb) (G := GT) (sg := sg) (sig := s33700) (p := p33700) (by kernel_rfl) (by kernel_rfl) rfl rfl rfl rfl rfl ((show runC (phi Tb GT sg) Tb GT p33700.code (startAT p33700 (mkST p33700.ins [.bp 0 0, .str a1] p33700.bins [.var [.sl .share .str a0tokens, .int .i64 a0at, .bool a0failed]])) (finT p33700 s33700) = _ by kernel_rfl).trans h)

theorem impl_parser_number_le (a0tokens : List (List UInt8)) (a0at : Int) (a0failed : Bool) : Tv.Le
 (bnd (impl_parser_take a0tokens a0at a0failed) fun r1 =>
(bif (r1.1 == []) then
some (0, r1.2.1, r1.2.2.1, true)
else
(bif (decide (5 < (r1.1.length : Int))) then
some (0, r1.2.1, r1.2.2.1, true)
else
bnd (geti r1.1 0) fun c2 =>
bnd (impl_isDigit (c2.toNat : Int)) fun r3 =>
(bif (!r3) then
some (0, r1.2.1, r1.2.2.1, true)
else
bnd (strconv_Atoi r1.1) fun r4 =>
some (r4, r1.2.1, r1.2.2.1, r1.2.2.2)))) : Option (Int × List (List UInt8) × Int × Bool))
 (impl_parser_number a0tokens a0at a0failed) := by
 exact fun r h => fn_le' (F := Tb) (G := GT) (sg := sg) (sig := s33900) (p := p33900) (by kernel_rfl) (by kernel_rfl) rfl rfl rfl rfl rfl ((show runC (phi Tb GT sg) Tb GT p33900.code (startAT p33900 (mkST p33900.ins [.bp 0 0] p33900.bins [.var [.sl .share .str a0tokens, .int .i64 a0at, .bool a0failed]])) (finT p33900 s33900) = _ by kernel_rfl).trans h)

theorem impl_parser_variable_le (a0tokens : List (List UInt8)) (a0at : Int) (a0failed : Bool) : Tv.Le
 (bnd (impl_parser_take a0tokens a0at a0failed) fun r1 =>
(bif (!decide ((r1.1.length : Int) = 1)) then
some (0, r1.2.1, r1.2.2.1, true)
else
bnd (geti r1.1 0) fun c2 =>
(bif (decide ((c2.toNat : Int) < 97)) then
some (0, r1.2.1, r1.2.2.1, true)
else
bnd (geti r1.1 0) fun c3 =>
(bif (decide (101 ≤ (c3.toNat : Int))) then
some (0, r1.2.1, r1.2.2.1, true)
else
bnd (geti r1.1 0) fun c4 =>
some ((wrap64 ((((c4.toNat : Int) - 97) % 256))), r1.2.1, r1.2.2.1, r1.2.2.2)))) : Option (Int × List (List UInt8) × Int × Bool))
 (impl_parser_variable a0tokens a0at a0failed) := by
 rewrite [← wrapC_eq]
 exact fun r h => fn_le' (F := Tb) (G := GT) (sg := sg) (sig := s34000) (p := p34000) (by kernel_rfl) (by kernel_rfl) rfl rfl rfl rfl rfl ((show runC (phi Tb GT sg) Tb GT p34000.code (startAT p34000 (mkST p34000.ins [.bp 0 0] p34000.bins [.var [.sl .share .str a0tokens, .int .i64 a0at, .bool a0failed]])) (finT p34000 s34000) = _ by kernel_rfl).trans h)

theorem impl_opFrom_l1_le (t0 : List UInt8) (t6 : Int) : Tv.Le
 ((bif (decide (t6 < 12)) then
bnd (geti ([[124], [94], [38], [61, 61], [60], [60, 60], [62, 62], [43], [45], [42], [47], [37]] : List (List UInt8)) t6) fun s1 =>
(bif (s1 == t0) then
some (.inr (wrap64 (1 + t6)))
else
impl_opFrom_l1 t0 (wrap64 (t6 + 1)))
else
some (.inl ())) : Option (Unit ⊕ Int))
 (impl_opFrom_l1 t0 t6) := by
 rewrite [← wrapC_eq]
 exact fun r h => loop_le' (F := Tb) (G := GT) (sg := sg) (sig := s34201) (p := p34201) (by kernel_rfl) (by kernel_rfl) rfl rfl rfl ((show runC (phi Tb GT sg) Tb GT p34201.code ((mkST p34201.ins [.str t0, .agg [.str [124], .str [94], .str [38], .str ([61, 61]), .str [60], .str ([60, 60]), .str ([62, 62]), .str [43], .str [45], .str [42], .str [47], .str [37]], .int .i64 t6] p34201.bins [])) (finL Tb GT 34201 p34201 s34201) = _ by kernel_rfl).trans h)

theorem impl_OpValid_le (a0 : Int) : Tv.Le
 ((bif (decide (1 ≤ a0)) then
some (decide (a0 ≤ 12))
else
some false) : Option (Bool))
 (impl_OpValid a0) := by
 exact fun r h => fn_le' (F := Tb) (G := GT) (sg := sg) (sig := s1000) (p := p1000) (by kernel_rfl) (by kernel_rfl) rfl rfl rfl rfl rfl ((show runC (phi Tb GT sg) Tb GT p1000.code (startAT p1000 (mkST p1000.ins [.int .i64 a0] p1000.bins [])) (finT p1000 s1000) = _ by kernel_rfl).trans h)

theorem spec_l3Run_l1_le (t0 : List UInt8) (t1 : Int) (t5 : Int) : Tv.Le
 ((bif (decide (t5 < (t0.length : Int))) then
bnd (geti t0 t5) fun c1 =>
bnd (spec_l3Kind (c1.toNat : Int)) fun r2 =>
bnd (geti t0 t1) fun c3 =>
bnd (spec_l3Kind (c3.toNat : Int)) fun r4 =>
(bif (decide (r2 = r4)) then
spec_l3Run_l1 t0 t1 (wrap64 (t5 + 1))
else
some t5)
else
some t5) : Option (Int))
 (spec_l3Run_l1 t0 t1 t5) := by
 rewrite [← wrapC_eq]
 exact fun r h => loop_le' (F := Tb) (G := GT) (sg := sg) (sig := s31901) (p := p31901) (by kernel_rfl) (by kernel_rfl) rfl rfl rfl ((show runC (phi Tb GT sg) Tb GT p31901.code ((mkST p31901.ins [.str t0, .int .i64 t1, .int .i64 t5] p31901.bins [])) (finL Tb GT 31901 p31901 s31901) = _ by kernel_rfl).trans h)

theorem spec_l5Number_l1_le (t0 : List UInt8) (t3 : Int) (t4 : Int) : Tv.Le
 ((bif (decide (t4 < (t0.length : Int))) then
bnd (geti t0 t4) fun c1 =>
(bif (decide ((c1.toNat : Int) < 48)) then
some (.inr ((-1), t3))
else
bnd (geti t0 t4) fun c2 =>
(bif (decide (57 < (c2.toNat : Int))) then
some (.inr ((-1), t3))
else
bnd (geti t0 t4) fun c3 =>
spec_l5Number_l1 t0 (wrap64 ((wrap64 (10 * t3)) + (wrap64 ((((c3.toNat : Int) - 48) % 256))))) (wrap64 (t4 + 1))))
else
some (.inl t3)) : Option (Int ⊕ (Int × Int)))
 (spec_l5Number_l1 t0 t3 t4) := by
 rewrite [← wrapC_eq]
 exact fun r h => loop_le' (F := Tb) (G := GT) (sg := sg) (sig := s32301) (p := p32301) (by kernel_rfl) (by kernel_rfl) rfl rfl rfl ((show runC (phi Tb GT sg) Tb GT p32301.code ((mkST p32301.ins [.str t0, .int .i64 t3, .int .i64 t4] p32301.bins [])) (finL Tb GT 32301 p32301 s32301) = _ by kernel_rfl).trans h)

theorem spec_l5Name_le (a0 : Int) : Tv.Le
 (some (Tv.bytes ([(((wrap64 (97 + a0))) % 256)] : List Int)) : Option (List UInt8))
 (spec_l5Name a0) := by
 rewrite [← wrapC_eq]
 exact fun r h => fn_le' (F := Tb) (G := GT) (sg := sg) (sig := s32400) (p := p32400) (by kernel_rfl) (by kernel_rfl) rfl rfl rfl rfl rfl ((show runC (phi Tb GT sg) Tb GT p32400.code (startAT p32400 (mkST p32400.ins [.int .i64 a0] p32400.bins [])) (finT p32400 s32400) = _ by kernel_rfl).trans h)

theorem spec_l5Var_l1_le (t0 : List UInt8) (t3 : Int) : Tv.Le
 ((bif (decide (t3 < 4)) then
bnd (spec_l5Name t3) fun r1 =>
(bif (t0 == r1) then
some (.inr t3)
else
spec_l5Var_l1 t0 (wrap64 (t3 + 1)))
else
some (.inl ())) : Option (Unit ⊕ Int))
 (spec_l5Var_l1 t0 t3) := by
 rewrite [← wrapC_eq]
 exact fun r h => loop_le' (F := Tb) (G := GT) (sg := sg) (sig := s32501) (p := p32501) (by kernel_rfl) (by kernel_rfl) rfl rfl rfl ((show runC (phi Tb GT sg) Tb GT p32501.code ((mkST p32501.ins [.str t0, .int .i64 t3] p32501.bins [])) (finL Tb GT 32501 p32501 s32501) = _ by kernel_rfl).trans h)

theorem impl_parser_accept_le (a1 : List UInt8) (a0tokens : List (List UInt8)) (a0at : Int) (a0failed : Bool) : Tv.Le
 (bnd (impl_parser_peek a0tokens a0at a0failed) fun r1 =>
(bif (!(r1.1 == a1)) then
some (false, r1.2.1, r1.2.2.1, r1.2.2.2)
else
some (true, r1.2.1, (wrap64 (r1.2.2.1 + 1)), r1.2.2.2)) : Option (Bool × List (List UInt8) × Int × Bool))
 (impl_parser_accept a1 a0tokens a0at a0failed) := by
 rewrite [← wrapC_eq]
 exact fun r h => fn_le' (F := Tb) (G := GT) (sg := sg) (sig := s33600) (p := p33600) (by kernel_rfl) (by kernel_rfl) rfl rfl rfl rfl rfl ((show runC (phi Tb GT sg) Tb GT p33600.code (startAT p33600 (mkST p33600.ins [.bp 0 0, .str a1] p33600.bins [.var [.sl .share .str a0tokens, .int .i64 a0at, .bool a0failed]])) (finT p33600 s33600) = _ by kernel_rfl).trans h)

theorem impl_parser_take_le (a0tokens : List (List UInt8)) (a0at : Int) (a0failed : Bool) : Tv.Le
 (bnd (impl_parser_peek a0tokens a0at a0failed) fun r1 =>
(bif (r1.1 == []) then
some (r1.1, r1.2.1, (wrap64 (r1.2.2.1 + 1)), true)
else
some (r1.1, r1.2.1, (wrap64 (r1.2.2.1 + 1)), r1.2.2.2)) : Option (List UInt8 × List (List UInt8) × Int × Bool))
 (impl_parser_take a0tokens a0at a0failed) := by
 rewrite [← wrapC_eq]
 exact fun r h => fn_le' (F := Tb) (G := GT) (sg := sg) (sig := s33800) (p := p33800) (by kernel_rfl) (by kernel_rfl) rfl rfl rfl rfl rfl ((show runC (phi Tb GT sg) Tb GT p33800.code (startAT p33800 (mkST p33800.ins [.bp 0 0] p33800.bins [.var [.sl .share .str a0tokens, .int .i64 a0at, .bool a0failed]])) (finT p33800 s33800) = _ by kernel_rfl).trans h)

theorem strconv_Atoi_le (a0 : List UInt8) : Tv.Le (if a0.length ≤ 18 then Lib.atoi a0 else none : Option (Int)) (strconv_Atoi a0) := fun r h => by
  exact prim_le (F := Tb) (G := GT) (sg := fun _ => s37700) (g := 37700) (p := p37700) (x := r) (tv := [.str a0]) (v := .tup [.int .i64 r, .undef]) (by kernel_rfl) rfl (atoi_pf h) rfl

end Go.TFnExactExprFrom
