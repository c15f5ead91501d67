import Derived.Test.YthedbdlbibkpiaaDoorDFnTextNeedsP
import Derived.KernelRfl
set_option linter.unusedVariables false
namespace Go.TFnTextNeeds
open Go Go.RowKit Go.Vs Go.Tv
theorem impl_parser_expr_le (a1 : Int) (a0tokens : List (List UInt8)) (a0at : Int) (a0failed : Bool) : Tv.Le
  (bnd (impl_parser_operand a0tokens a0at a0failed) fun r1 =>
  bnd (impl_parser_expr_l1 a1 r1.2.1 r1.2.2.1 r1.2.2.2 0 0 false [] r1.1.op r1.1.n .share r1.1.args) fun r2 =>
  some (⟨r2.2.2.2.2.2.2.1, r2.2.2.2.2.2.2.2.1, r2.2.2.2.2.2.2.2.2.2⟩, r2.1, r2.2.1, r2.2.2.1) : Option (Exp × List (List UInt8) × Int × Bool))
  (impl_parser_expr a1 a0tokens a0at a0failed) := by
  exact fun r h => by
    have e : runC (phi Tb GT sg) Tb GT p34400.code (mkST p34400.ins [.bp 0 0, .int .i64 a1] p34400.bins [.var [.sl .share .str a0tokens, .int .i64 a0at, .bool a0failed]]) (finT p34400 s34400) = (
      bnd (impl_parser_operand a0tokens a0at a0failed) fun r1 =>
      bnd (impl_parser_expr_l1 a1 r1.2.1 r1.2.2.1 r1.2.2.2 0 0 false [] r1.1.op r1.1.n .share r1.1.args) fun r2 =>
      some (⟨r2.2.2.2.2.2.2.1, r2.2.2.2.2.2.2.2.1, r2.2.2.2.2.2.2.2.2.2⟩, r2.1, r2.2.1, r2.2.2.1) : Option (Exp × List (List UInt8) × Int × Bool)) := by kernel_rfl
    exact fn_le' (sig := s34400) (p := p34400) (by kernel_rfl) (by kernel_rfl) rfl rfl rfl (e.trans h)

theorem laws_sameExpr_l1_le (t5 : Int) (b100_0 : Int) (b100_1 : Int) (b100_2 : List Exp) (b101_0 : Int) (b101_1 : Int) (b101_2 : List Exp) : Tv.Le
  ((bif (decide (t5 < (b100_2.length : Int))) then
  bnd (geti b100_2 t5) fun e1 =>
  bnd (geti b101_2 t5) fun e2 =>
  bnd (laws_sameExpr (⟨e1.op, e1.n, e1.args⟩ : Exp) (⟨e2.op, e2.n, e2.args⟩ : Exp)) fun r3 =>
  (bif (!r3) then
  some (.inr false)
  else
  laws_sameExpr_l1 (wrap64 (t5 + 1)) b100_0 b100_1 b100_2 b101_0 b101_1 b101_2)
  else
  some (.inl ())) : Option (Unit ⊕ Bool))
  (laws_sameExpr_l1 t5 b100_0 b100_1 b100_2 b101_0 b101_1 b101_2) := by
  rewrite [← wrapC_eq]
  exact fun r h => by
    have e : runC (phi Tb GT sg) Tb GT p9801.code (mkST p9801.ins [.bp 100 0, .bp 101 0, .int .i64 t5] p9801.bins [.var [.int .i64 b100_0, .int .i64 b100_1, .sl .share .exp b100_2], .var [.int .i64 b101_0, .int .i64 b101_1, .sl .share .exp b101_2]]) (finL Tb GT 9801 p9801 s9801) = (
      (bif (decide (t5 < (b100_2.length : Int))) then
      bnd (geti b100_2 t5) fun e1 =>
      bnd (geti b101_2 t5) fun e2 =>
      bnd (laws_sameExpr (⟨e1.op, e1.n, e1.args⟩ : Exp) (⟨e2.op, e2.n, e2.args⟩ : Exp)) fun r3 =>
      (bif (!r3) then
      some (.inr false)
      else
      laws_sameExpr_l1 (wrapC (t5 + 1)) b100_0 b100_1 b100_2 b101_0 b101_1 b101_2)
      else
      some (.inl ())) : Option (Unit ⊕ Bool)) := by kernel_rfl
    exact loop_le' (sig := s9801) (p := p9801) (by kernel_rfl) (by kernel_rfl) rfl rfl rfl (e.trans h)

theorem spec_l3Run_l1_le (t0 : List UInt8) (t1 : Int) (t5 : Int) : Tv.Le
  ((bif (decide (t5 < (t0.length : Int))) then
  bnd (geti t0 t5) fun c1 =>
  bnd (spec_l3Kind (c1.toNat : Int)) fun r2 =>
  bnd (geti t0 t1) fun c3 =>
  bnd (spec_l3Kind (c3.toNat : Int)) fun r4 =>
  (bif (decide (r2 = r4)) then
  spec_l3Run_l1 t0 t1 (wrap64 (t5 + 1))
  else
  some t5)
  else
  some t5) : Option (Int))
  (spec_l3Run_l1 t0 t1 t5) := by
  rewrite [← wrapC_eq]
  exact fun r h => by
    have e : runC (phi Tb GT sg) Tb GT p31901.code (mkST p31901.ins [.str t0, .int .i64 t1, .int .i64 t5] p31901.bins []) (finL Tb GT 31901 p31901 s31901) = (
      (bif (decide (t5 < (t0.length : Int))) then
      bnd (geti t0 t5) fun c1 =>
      bnd (spec_l3Kind (c1.toNat : Int)) fun r2 =>
      bnd (geti t0 t1) fun c3 =>
      bnd (spec_l3Kind (c3.toNat : Int)) fun r4 =>
      (bif (decide (r2 = r4)) then
      spec_l3Run_l1 t0 t1 (wrapC (t5 + 1))
      else
      some t5)
      else
      some t5) : Option (Int)) := by kernel_rfl
    exact loop_le' (sig := s31901) (p := p31901) (by kernel_rfl) (by kernel_rfl) rfl rfl rfl (e.trans h)

theorem spec_l6Rd_pick_le (a1 : Int) (a0b : List Int) (a0p : Int) : Tv.Le
  ((bif (decide (a1 < 1)) then
  some (0, a0b, (wrap64 (a0p + 1)))
  else
  (bif (decide ((a0b.length : Int) = 0)) then
  some (0, a0b, (wrap64 (a0p + 1)))
  else
  (bif (decide ((wrap64 ((wrap64 (a0p + 1)) - 1)) < (a0b.length : Int))) then
  bnd (geti a0b (wrap64 ((wrap64 (a0p + 1)) - 1))) fun e1 =>
  bnd (remI (wrap64 (e1)) a1) fun n2 =>
  some (n2, a0b, (wrap64 (a0p + 1)))
  else
  bnd (remI (wrap64 ((wrap64 (a0p + 1)) - 1)) (a0b.length : Int)) fun n3 =>
  bnd (geti a0b n3) fun e4 =>
  bnd (remI (wrap64 ((wrap64 ((wrap64 ((wrap64 (a0p + 1)) - 1)) * 7)) + 3)) (a0b.length : Int)) fun n5 =>
  bnd (geti a0b n5) fun e6 =>
  bnd (quoI .i64 (wrap64 ((wrap64 (a0p + 1)) - 1)) (a0b.length : Int)) fun n7 =>
  bnd (remI (bits .xor .i64 (wrap64 ((wrap64 ((wrap64 ((wrap64 ((wrap64 (e4)) * 131)) + (wrap64 ((wrap64 (e6)) * 1117)))) + (wrap64 ((wrap64 ((wrap64 (a0p + 1)) - 1)) * 29)))) + (wrap64 (n7 * 53)))) (wrap64 (Int.tdiv (wrap64 ((wrap64 ((wrap64 ((wrap64 ((wrap64 (e4)) * 131)) + (wrap64 ((wrap64 (e6)) * 1117)))) + (wrap64 ((wrap64 ((wrap64 (a0p + 1)) - 1)) * 29)))) + (wrap64 (n7 * 53)))) 64))) a1) fun n8 =>
  some (n8, a0b, (wrap64 (a0p + 1)))))) : Option (Int × List Int × Int))
  (spec_l6Rd_pick a1 a0b a0p) := by
  rewrite [← wrapC_eq]
  exact fun r h => by
    have e : runC (phi Tb GT sg) Tb GT p200.code (mkST p200.ins [.bp 0 0, .int .i64 a1] p200.bins [.var [.sl .share .u8 a0b, .int .i64 a0p]]) (finT p200 s200) = (
      (bif (decide (a1 < 1)) then
      some (0, a0b, (wrapC (a0p + 1)))
      else
      (bif (decide ((a0b.length : Int) = 0)) then
      some (0, a0b, (wrapC (a0p + 1)))
      else
      (bif (decide ((wrapC ((wrapC (a0p + 1)) - 1)) < (a0b.length : Int))) then
      bnd (geti a0b (wrapC ((wrapC (a0p + 1)) - 1))) fun e1 =>
      bnd (remI (wrapC (e1)) a1) fun n2 =>
      some (n2, a0b, (wrapC (a0p + 1)))
      else
      bnd (remI (wrapC ((wrapC (a0p + 1)) - 1)) (a0b.length : Int)) fun n3 =>
      bnd (geti a0b n3) fun e4 =>
      bnd (remI (wrapC ((wrapC ((wrapC ((wrapC (a0p + 1)) - 1)) * 7)) + 3)) (a0b.length : Int)) fun n5 =>
      bnd (geti a0b n5) fun e6 =>
      bnd (quoI .i64 (wrapC ((wrapC (a0p + 1)) - 1)) (a0b.length : Int)) fun n7 =>
      bnd (remI (bits .xor .i64 (wrapC ((wrapC ((wrapC ((wrapC ((wrapC (e4)) * 131)) + (wrapC ((wrapC (e6)) * 1117)))) + (wrapC ((wrapC ((wrapC (a0p + 1)) - 1)) * 29)))) + (wrapC (n7 * 53)))) (wrapC (Int.tdiv (wrapC ((wrapC ((wrapC ((wrapC ((wrapC (e4)) * 131)) + (wrapC ((wrapC (e6)) * 1117)))) + (wrapC ((wrapC ((wrapC (a0p + 1)) - 1)) * 29)))) + (wrapC (n7 * 53)))) 64))) a1) fun n8 =>
      some (n8, a0b, (wrapC (a0p + 1)))))) : Option (Int × List Int × Int)) := by kernel_rfl
    exact fn_le' (sig := s200) (p := p200) (by kernel_rfl) (by kernel_rfl) rfl rfl rfl (e.trans h)

theorem spec_l91Expr_le (a1 : Int) (a0b : List Int) (a0p : Int) : Tv.Le
  ((bif (decide (a1 < 2)) then
  bnd (spec_l91Leaf a0b a0p) fun r1 =>
  some (r1.1, r1.2.1, ((Md.dem (Md.dem (Md.dem r1.2.2.1.1))), r1.2.2.1.2), r1.2.2.2.1, r1.2.2.2.2)
  else
  bnd (spec_l6Rd_pick 3 a0b a0p) fun r2 =>
  (bif (decide (r2.1 = 0)) then
  bnd (spec_l91Leaf r2.2.1 r2.2.2) fun r3 =>
  some (r3.1, r3.2.1, ((Md.dem (Md.dem (Md.dem r3.2.2.1.1))), r3.2.2.1.2), r3.2.2.2.1, r3.2.2.2.2)
  else
  bnd (spec_l91Op r2.2.1 r2.2.2) fun r4 =>
  bnd (spec_l91Expr (wrap64 (a1 - 1)) r4.2.1 r4.2.2) fun r5 =>
  bnd (spec_l91Expr (wrap64 (a1 - 1)) r5.2.2.2.1 r5.2.2.2.2) fun r6 =>
  bnd (spec_l4Both r4.1 (⟨r5.1, r5.2.1, r5.2.2.1.2⟩ : Exp) (⟨r6.1, r6.2.1, r6.2.2.1.2⟩ : Exp)) fun r7 =>
  some (r7.1, r7.2.1, ((Md.dem (Md.dem (Md.dem r7.2.2.1))), r7.2.2.2), r6.2.2.2.1, r6.2.2.2.2))) : Option (Int × Int × (Md × List Exp) × List Int × Int))
  (spec_l91Expr a1 a0b a0p) := by
  rewrite [← wrapC_eq]
  exact fun r h => by
    have e : runC (phi Tb GT sg) Tb GT p700.code (mkST p700.ins [.bp 0 0, .int .i64 a1] p700.bins [.var [.sl .share .u8 a0b, .int .i64 a0p]]) (finT p700 s700) = (
      (bif (decide (a1 < 2)) then
      bnd (spec_l91Leaf a0b a0p) fun r1 =>
      some (r1.1, r1.2.1, ((Md.dem (Md.dem (Md.dem r1.2.2.1.1))), r1.2.2.1.2), r1.2.2.2.1, r1.2.2.2.2)
      else
      bnd (spec_l6Rd_pick 3 a0b a0p) fun r2 =>
      (bif (decide (r2.1 = 0)) then
      bnd (spec_l91Leaf r2.2.1 r2.2.2) fun r3 =>
      some (r3.1, r3.2.1, ((Md.dem (Md.dem (Md.dem r3.2.2.1.1))), r3.2.2.1.2), r3.2.2.2.1, r3.2.2.2.2)
      else
      bnd (spec_l91Op r2.2.1 r2.2.2) fun r4 =>
      bnd (spec_l91Expr (wrapC (a1 - 1)) r4.2.1 r4.2.2) fun r5 =>
      bnd (spec_l91Expr (wrapC (a1 - 1)) r5.2.2.2.1 r5.2.2.2.2) fun r6 =>
      bnd (spec_l4Both r4.1 (⟨r5.1, r5.2.1, r5.2.2.1.2⟩ : Exp) (⟨r6.1, r6.2.1, r6.2.2.1.2⟩ : Exp)) fun r7 =>
      some (r7.1, r7.2.1, ((Md.dem (Md.dem (Md.dem r7.2.2.1))), r7.2.2.2), r6.2.2.2.1, r6.2.2.2.2))) : Option (Int × Int × (Md × List Exp) × List Int × Int)) := by kernel_rfl
    exact fn_le' (sig := s700) (p := p700) (by kernel_rfl) (by kernel_rfl) rfl rfl rfl (e.trans h)

theorem spec_l91Leaf_le (a0b : List Int) (a0p : Int) : Tv.Le
  (bnd (spec_l6Rd_pick 4 a0b a0p) fun r1 =>
  (bif (decide (r1.1 = 0)) then
  bnd (spec_l6Rd_pick 4 r1.2.1 r1.2.2) fun r2 =>
  bnd (spec_l4Leaf 0 r2.1) fun r3 =>
  some (r3.1, r3.2.1, ((Md.dem (Md.dem (Md.dem r3.2.2.1))), r3.2.2.2), r2.2.1, r2.2.2)
  else
  (bif (decide (r1.1 = 1)) then
  bnd (spec_l6Rd_pick 8 r1.2.1 r1.2.2) fun r4 =>
  bnd (geti ([5, 31, 32, 100, 2047, 2048, 65536, 99999] : List Int) r4.1) fun e5 =>
  bnd (spec_l4Leaf 0 e5) fun r6 =>
  some (r6.1, r6.2.1, ((Md.dem (Md.dem (Md.dem r6.2.2.1))), r6.2.2.2), r4.2.1, r4.2.2)
  else
  bnd (spec_l6Rd_pick 4 r1.2.1 r1.2.2) fun r7 =>
  bnd (spec_l4Leaf 13 r7.1) fun r8 =>
  some (r8.1, r8.2.1, ((Md.dem (Md.dem (Md.dem r8.2.2.1))), r8.2.2.2), r7.2.1, r7.2.2))) : Option (Int × Int × (Md × List Exp) × List Int × Int))
  (spec_l91Leaf a0b a0p) := by
  exact fun r h => by
    have e : runC (phi Tb GT sg) Tb GT p400.code (mkST p400.ins [.bp 0 0] p400.bins [.var [.sl .share .u8 a0b, .int .i64 a0p]]) (finT p400 s400) = (
      bnd (spec_l6Rd_pick 4 a0b a0p) fun r1 =>
      (bif (decide (r1.1 = 0)) then
      bnd (spec_l6Rd_pick 4 r1.2.1 r1.2.2) fun r2 =>
      bnd (spec_l4Leaf 0 r2.1) fun r3 =>
      some (r3.1, r3.2.1, ((Md.dem (Md.dem (Md.dem r3.2.2.1))), r3.2.2.2), r2.2.1, r2.2.2)
      else
      (bif (decide (r1.1 = 1)) then
      bnd (spec_l6Rd_pick 8 r1.2.1 r1.2.2) fun r4 =>
      bnd (geti ([5, 31, 32, 100, 2047, 2048, 65536, 99999] : List Int) r4.1) fun e5 =>
      bnd (spec_l4Leaf 0 e5) fun r6 =>
      some (r6.1, r6.2.1, ((Md.dem (Md.dem (Md.dem r6.2.2.1))), r6.2.2.2), r4.2.1, r4.2.2)
      else
      bnd (spec_l6Rd_pick 4 r1.2.1 r1.2.2) fun r7 =>
      bnd (spec_l4Leaf 13 r7.1) fun r8 =>
      some (r8.1, r8.2.1, ((Md.dem (Md.dem (Md.dem r8.2.2.1))), r8.2.2.2), r7.2.1, r7.2.2))) : Option (Int × Int × (Md × List Exp) × List Int × Int)) := by kernel_rfl
    exact fn_le' (sig := s400) (p := p400) (by kernel_rfl) (by kernel_rfl) rfl rfl rfl (e.trans h)

theorem spec_l91Op_le (a0b : List Int) (a0p : Int) : Tv.Le
  (bnd (spec_l6Rd_pick 12 a0b a0p) fun r1 =>
  some ((wrap64 (1 + r1.1)), r1.2.1, r1.2.2) : Option (Int × List Int × Int))
  (spec_l91Op a0b a0p) := by
  rewrite [← wrapC_eq]
  exact fun r h => by
    have e : runC (phi Tb GT sg) Tb GT p600.code (mkST p600.ins [.bp 0 0] p600.bins [.var [.sl .share .u8 a0b, .int .i64 a0p]]) (finT p600 s600) = (
      bnd (spec_l6Rd_pick 12 a0b a0p) fun r1 =>
      some ((wrapC (1 + r1.1)), r1.2.1, r1.2.2) : Option (Int × List Int × Int)) := by kernel_rfl
    exact fn_le' (sig := s600) (p := p600) (by kernel_rfl) (by kernel_rfl) rfl rfl rfl (e.trans h)

theorem impl_exprValid_le (a0 : Exp) (a1 : Int) : Tv.Le
  ((bif (decide (a0.op = 0)) then
  (bif (decide (0 ≤ a0.n)) then
  (bif (decide (a0.n ≤ 99999)) then
  (bif (decide ((a0.args.length : Int) = 0)) then
  some (decide (0 < a1))
  else
  some false)
  else
  some false)
  else
  some false)
  else
  (bif (decide (a0.op = 13)) then
  (bif (decide (0 ≤ a0.n)) then
  (bif (decide (a0.n < 4)) then
  (bif (decide ((a0.args.length : Int) = 0)) then
  some (decide (0 < a1))
  else
  some false)
  else
  some false)
  else
  some false)
  else
  bnd (impl_OpValid a0.op) fun r1 =>
  (bif r1 then
  (bif (decide (a0.n = 0)) then
  (bif (decide ((a0.args.length : Int) = 2)) then
  (bif (decide (1 < a1)) then
  bnd (geti a0.args 0) fun e2 =>
  bnd (impl_exprValid (⟨e2.op, e2.n, e2.args⟩ : Exp) (wrap64 (a1 - 1))) fun r3 =>
  (bif r3 then
  bnd (geti a0.args 1) fun e4 =>
  bnd (impl_exprValid (⟨e4.op, e4.n, e4.args⟩ : Exp) (wrap64 (a1 - 1))) fun r5 =>
  some r5
  else
  some false)
  else
  some false)
  else
  some false)
  else
  some false)
  else
  some false))) : Option (Bool))
  (impl_exprValid a0 a1) := by
  rewrite [← wrapC_eq]
  exact fun r h => by
    have e : runC (phi Tb GT sg) Tb GT p1100.code (mkST p1100.ins [.agg (rowT .exp a0), .int .i64 a1] p1100.bins []) (finT p1100 s1100) = (
      (bif (decide (a0.op = 0)) then
      (bif (decide (0 ≤ a0.n)) then
      (bif (decide (a0.n ≤ 99999)) then
      (bif (decide ((a0.args.length : Int) = 0)) then
      some (decide (0 < a1))
      else
      some false)
      else
      some false)
      else
      some false)
      else
      (bif (decide (a0.op = 13)) then
      (bif (decide (0 ≤ a0.n)) then
      (bif (decide (a0.n < 4)) then
      (bif (decide ((a0.args.length : Int) = 0)) then
      some (decide (0 < a1))
      else
      some false)
      else
      some false)
      else
      some false)
      else
      bnd (impl_OpValid a0.op) fun r1 =>
      (bif r1 then
      (bif (decide (a0.n = 0)) then
      (bif (decide ((a0.args.length : Int) = 2)) then
      (bif (decide (1 < a1)) then
      bnd (geti a0.args 0) fun e2 =>
      bnd (impl_exprValid (⟨e2.op, e2.n, e2.args⟩ : Exp) (wrapC (a1 - 1))) fun r3 =>
      (bif r3 then
      bnd (geti a0.args 1) fun e4 =>
      bnd (impl_exprValid (⟨e4.op, e4.n, e4.args⟩ : Exp) (wrapC (a1 - 1))) fun r5 =>
      some r5
      else
      some false)
      else
      some false)
      else
      some false)
      else
      some false)
      else
      some false))) : Option (Bool)) := by kernel_rfl
    exact fn_le' (sig := s1100) (p := p1100) (by kernel_rfl) (by kernel_rfl) rfl rfl rfl (e.trans h)

theorem strconv_Itoa_le (a0 : Int) : Tv.Le (if -9223372036854775808 ≤ a0 ∧ a0 ≤ 9223372036854775807 then some (Lib.itoa a0) else none : Option (List UInt8)) (strconv_Itoa a0) := fun r h => by
  exact prim_le (F := Tb) (G := GT) (sg := fun _ => s22000) (g := 22000) (p := p22000) (x := r) (tv := [.int .i64 a0]) (v := .str r) (by kernel_rfl) rfl (itoa_pf h) rfl

theorem impl_varText_le (a0 : Int) : Tv.Le
  (bnd (rune (wrap32 ((wrap64 (97 + a0))))) fun s1 =>
  some s1 : Option (List UInt8))
  (impl_varText a0) := by
  rewrite [← wrapC_eq]
  exact fun r h => by
    have e : runC (phi Tb GT sg) Tb GT p36400.code (mkST p36400.ins [.int .i64 a0] p36400.bins []) (finT p36400 s36400) = (
      bnd (rune (wrap32 ((wrapC (97 + a0))))) fun s1 =>
      some s1 : Option (List UInt8)) := by kernel_rfl
    exact fn_le' (sig := s36400) (p := p36400) (by kernel_rfl) (by kernel_rfl) rfl rfl rfl (e.trans h)

theorem impl_OpLevel_le (a0 : Int) : Tv.Le
  ((bif (decide (a0 = 1)) then
  some 1
  else
  (bif (decide (a0 = 2)) then
  some 2
  else
  (bif (decide (a0 = 3)) then
  some 3
  else
  (bif (decide (a0 = 4)) then
  some 4
  else
  (bif (decide (a0 = 5)) then
  some 5
  else
  (bif (decide (a0 = 6)) then
  some 6
  else
  (bif (decide (a0 = 7)) then
  some 6
  else
  (bif (decide (a0 = 8)) then
  some 7
  else
  (bif (decide (a0 = 9)) then
  some 7
  else
  (bif (decide (a0 = 10)) then
  some 8
  else
  (bif (decide (a0 = 11)) then
  some 8
  else
  (bif (decide (a0 = 12)) then
  some 8
  else
  some 0)))))))))))) : Option (Int))
  (impl_OpLevel a0) := by
  exact fun r h => by
    have e : runC (phi Tb GT sg) Tb GT p34300.code (mkST p34300.ins [.int .i64 a0] p34300.bins []) (finT p34300 s34300) = (
      (bif (decide (a0 = 1)) then
      some 1
      else
      (bif (decide (a0 = 2)) then
      some 2
      else
      (bif (decide (a0 = 3)) then
      some 3
      else
      (bif (decide (a0 = 4)) then
      some 4
      else
      (bif (decide (a0 = 5)) then
      some 5
      else
      (bif (decide (a0 = 6)) then
      some 6
      else
      (bif (decide (a0 = 7)) then
      some 6
      else
      (bif (decide (a0 = 8)) then
      some 7
      else
      (bif (decide (a0 = 9)) then
      some 7
      else
      (bif (decide (a0 = 10)) then
      some 8
      else
      (bif (decide (a0 = 11)) then
      some 8
      else
      (bif (decide (a0 = 12)) then
      some 8
      else
      some 0)))))))))))) : Option (Int)) := by kernel_rfl
    exact fn_le' (sig := s34300) (p := p34300) (by kernel_rfl) (by kernel_rfl) rfl rfl rfl (e.trans h)

theorem impl_operandTokens_le (a0 : Exp) (a1 : Int) (a2 : List (List UInt8)) : Tv.Le
  (bnd (impl_OpValid a0.op) fun r1 =>
  (bif (!r1) then
  bnd (impl_exprTokens (⟨a0.op, a0.n, a0.args⟩ : Exp) a2) fun r2 =>
  some r2
  else
  bnd (impl_OpLevel a0.op) fun r3 =>
  (bif (decide (a1 ≤ r3)) then
  bnd (impl_exprTokens (⟨a0.op, a0.n, a0.args⟩ : Exp) a2) fun r4 =>
  some r4
  else
  bnd (appL a2 ([[40]] : List (List UInt8))) fun l5 =>
  bnd (impl_exprTokens (⟨a0.op, a0.n, a0.args⟩ : Exp) l5) fun r6 =>
  bnd (appL r6 ([[41]] : List (List UInt8))) fun l7 =>
  some l7)) : Option (List (List UInt8)))
  (impl_operandTokens a0 a1 a2) := by
  exact fun r h => by
    have e : runC (phi Tb GT sg) Tb GT p36500.code (mkST p36500.ins [.agg (rowT .exp a0), .int .i64 a1, .sl (.own true) .str a2] p36500.bins []) (finT p36500 s36500) = (
      bnd (impl_OpValid a0.op) fun r1 =>
      (bif (!r1) then
      bnd (impl_exprTokens (⟨a0.op, a0.n, a0.args⟩ : Exp) a2) fun r2 =>
      some r2
      else
      bnd (impl_OpLevel a0.op) fun r3 =>
      (bif (decide (a1 ≤ r3)) then
      bnd (impl_exprTokens (⟨a0.op, a0.n, a0.args⟩ : Exp) a2) fun r4 =>
      some r4
      else
      bnd (appL a2 ([[40]] : List (List UInt8))) fun l5 =>
      bnd (impl_exprTokens (⟨a0.op, a0.n, a0.args⟩ : Exp) l5) fun r6 =>
      bnd (appL r6 ([[41]] : List (List UInt8))) fun l7 =>
      some l7)) : Option (List (List UInt8))) := by kernel_rfl
    exact fn_le' (sig := s36500) (p := p36500) (by kernel_rfl) (by kernel_rfl) rfl rfl rfl (e.trans h)

theorem impl_OpText_le (a0 : Int) : Tv.Le
  (bnd (impl_OpValid a0) fun r1 =>
  (bif (!r1) then
  some []
  else
  bnd (geti ([[124], [94], [38], [61, 61], [60], [60, 60], [62, 62], [43], [45], [42], [47], [37]] : List (List UInt8)) (wrap64 (a0 - 1))) fun _ =>
  bnd (([[124], [94], [38], [61, 61], [60], [60, 60], [62, 62], [43], [45], [42], [47], [37]] : List (List UInt8))[(Int.toNat (wrap64 (a0 - 1)))]?) fun s2 =>
  some s2) : Option (List UInt8))
  (impl_OpText a0) := by
  rewrite [← wrapC_eq]
  exact fun r h => by
    have e : runC (phi Tb GT sg) Tb GT p21000.code (mkST p21000.ins [.int .i64 a0] p21000.bins []) (finT p21000 s21000) = (
      bnd (impl_OpValid a0) fun r1 =>
      (bif (!r1) then
      some []
      else
      bnd (geti ([[124], [94], [38], [61, 61], [60], [60, 60], [62, 62], [43], [45], [42], [47], [37]] : List (List UInt8)) (wrapC (a0 - 1))) fun _ =>
      bnd (([[124], [94], [38], [61, 61], [60], [60, 60], [62, 62], [43], [45], [42], [47], [37]] : List (List UInt8))[(Int.toNat (wrapC (a0 - 1)))]?) fun s2 =>
      some s2) : Option (List UInt8)) := by kernel_rfl
    exact fn_le' (sig := s21000) (p := p21000) (by kernel_rfl) (by kernel_rfl) rfl rfl rfl (e.trans h)

theorem impl_TokenValid_le (a0 : List UInt8) : Tv.Le
  ((bif (!(a0 == [])) then
  bnd (impl_tokenLength a0) fun r1 =>
  some (decide (r1 = (a0.length : Int)))
  else
  some false) : Option (Bool))
  (impl_TokenValid a0) := by
  exact fun r h => by
    have e : runC (phi Tb GT sg) Tb GT p36200.code (mkST p36200.ins [.str a0] p36200.bins []) (finT p36200 s36200) = (
      (bif (!(a0 == [])) then
      bnd (impl_tokenLength a0) fun r1 =>
      some (decide (r1 = (a0.length : Int)))
      else
      some false) : Option (Bool)) := by kernel_rfl
    exact fn_le' (sig := s36200) (p := p36200) (by kernel_rfl) (by kernel_rfl) rfl rfl rfl (e.trans h)

theorem impl_TokensText_l1_le (t0 : List (List UInt8)) (t5 : List (List UInt8)) (t6 : Int) (t7 : Int) : Tv.Le
  ((bif (decide (t7 < t6)) then
  bnd (geti t5 t7) fun e1 =>
  bnd (impl_TokenValid e1) fun r2 =>
  (bif (!r2) then
  some (.inr (t0, []))
  else
  impl_TokensText_l1 t0 t5 t6 (wrap64 (t7 + 1)))
  else
  some (.inl t0)) : Option (List (List UInt8) ⊕ (List (List UInt8) × List UInt8)))
  (impl_TokensText_l1 t0 t5 t6 t7) := by
  rewrite [← wrapC_eq]
  exact fun r h => by
    have e : runC (phi Tb GT sg) Tb GT p36301.code (mkST p36301.ins [.sl .share .str t0, .sl .share .str t5, .int .i64 t6, .int .i64 t7] p36301.bins []) (finL Tb GT 36301 p36301 s36301) = (
      (bif (decide (t7 < t6)) then
      bnd (geti t5 t7) fun e1 =>
      bnd (impl_TokenValid e1) fun r2 =>
      (bif (!r2) then
      some (.inr (t0, []))
      else
      impl_TokensText_l1 t0 t5 t6 (wrapC (t7 + 1)))
      else
      some (.inl t0)) : Option (List (List UInt8) ⊕ (List (List UInt8) × List UInt8))) := by kernel_rfl
    exact loop_le' (sig := s36301) (p := p36301) (by kernel_rfl) (by kernel_rfl) rfl rfl rfl (e.trans h)

theorem strings_Join_le (a0 : List (List UInt8)) (a1 : List UInt8) : Tv.Le (if a0.length ≤ Vs.LIM ∧ (Lib.join a0 a1).length ≤ Vs.LIM then some (Lib.join a0 a1) else none : Option (List UInt8)) (strings_Join a0 a1) := fun r h => by
  exact prim_le (F := Tb) (G := GT) (sg := fun _ => s37800) (g := 37800) (p := p37800) (x := r) (tv := [.sl .share .str a0, .str a1]) (v := .str r) (by kernel_rfl) rfl (join_pf h) rfl

theorem spec_l6Dec_le (a0 : Int) : Tv.Le
  ((bif (decide (a0 < (-9223372036854775807))) then
  some ([45, 57, 50, 50, 51, 51, 55, 50, 48, 51, 54, 56, 53, 52, 55, 55, 53, 56, 48, 56])
  else
  (bif (decide (a0 < 0)) then
  bnd (spec_l6Dec (wrap64 (0 - a0))) fun r1 =>
  bnd (catS [45] r1) fun s2 =>
  some s2
  else
  (bif (decide (a0 < 10)) then
  some (Tv.bytes ([(((wrap64 (48 + a0))) % 256)] : List Int))
  else
  bnd (spec_l6Dec (wrap64 (Int.tdiv a0 10))) fun r3 =>
  bnd (catS r3 (Tv.bytes ([(((wrap64 (48 + (Int.tmod a0 10)))) % 256)] : List Int))) fun s4 =>
  some s4))) : Option (List UInt8))
  (spec_l6Dec a0) := by
  rewrite [← wrapC_eq]
  exact fun r h => by
    have e : runC (phi Tb GT sg) Tb GT p20500.code (mkST p20500.ins [.int .i64 a0] p20500.bins []) (finT p20500 s20500) = (
      (bif (decide (a0 < (-9223372036854775807))) then
      some ([45, 57, 50, 50, 51, 51, 55, 50, 48, 51, 54, 56, 53, 52, 55, 55, 53, 56, 48, 56])
      else
      (bif (decide (a0 < 0)) then
      bnd (spec_l6Dec (wrapC (0 - a0))) fun r1 =>
      bnd (catS [45] r1) fun s2 =>
      some s2
      else
      (bif (decide (a0 < 10)) then
      some (Tv.bytes ([(((wrapC (48 + a0))) % 256)] : List Int))
      else
      bnd (spec_l6Dec (wrapC (Int.tdiv a0 10))) fun r3 =>
      bnd (catS r3 (Tv.bytes ([(((wrapC (48 + (Int.tmod a0 10)))) % 256)] : List Int))) fun s4 =>
      some s4))) : Option (List UInt8)) := by kernel_rfl
    exact fn_le' (sig := s20500) (p := p20500) (by kernel_rfl) (by kernel_rfl) rfl rfl rfl (e.trans h)

theorem spec_l5Level_le (a0 : Exp) : Tv.Le
  ((bif (decide ((a0.args.length : Int) = 0)) then
  some 9
  else
  bnd (spec_OpLevel a0.op) fun r1 =>
  some r1) : Option (Int))
  (spec_l5Level a0) := by
  exact fun r h => by
    have e : runC (phi Tb GT sg) Tb GT p35200.code (mkST p35200.ins [.agg (rowT .exp a0)] p35200.bins []) (finT p35200 s35200) = (
      (bif (decide ((a0.args.length : Int) = 0)) then
      some 9
      else
      bnd (spec_OpLevel a0.op) fun r1 =>
      some r1) : Option (Int)) := by kernel_rfl
    exact fn_le' (sig := s35200) (p := p35200) (by kernel_rfl) (by kernel_rfl) rfl rfl rfl (e.trans h)

theorem spec_l5Wrap_le (a0 : List (List UInt8)) (a1 : Bool) : Tv.Le
  ((bif (!a1) then
  some a0
  else
  bnd (appL ([[40]] : List (List UInt8)) a0) fun l1 =>
  bnd (appL l1 ([[41]] : List (List UInt8))) fun l2 =>
  some l2) : Option (List (List UInt8)))
  (spec_l5Wrap a0 a1) := by
  exact fun r h => by
    have e : runC (phi Tb GT sg) Tb GT p35100.code (mkST p35100.ins [.sl (.own true) .str a0, .bool a1] p35100.bins []) (finT p35100 s35100) = (
      (bif (!a1) then
      some a0
      else
      bnd (appL ([[40]] : List (List UInt8)) a0) fun l1 =>
      bnd (appL l1 ([[41]] : List (List UInt8))) fun l2 =>
      some l2) : Option (List (List UInt8))) := by kernel_rfl
    exact fn_le' (sig := s35100) (p := p35100) (by kernel_rfl) (by kernel_rfl) rfl rfl rfl (e.trans h)

theorem spec_TokenValid_le (a0 : List UInt8) : Tv.Le
  ((bif (!(a0 == [])) then
  bnd (spec_l3End a0 0) fun r1 =>
  some (decide (r1 = (a0.length : Int)))
  else
  some false) : Option (Bool))
  (spec_TokenValid a0) := by
  exact fun r h => by
    have e : runC (phi Tb GT sg) Tb GT p34900.code (mkST p34900.ins [.str a0] p34900.bins []) (finT p34900 s34900) = (
      (bif (!(a0 == [])) then
      bnd (spec_l3End a0 0) fun r1 =>
      some (decide (r1 = (a0.length : Int)))
      else
      some false) : Option (Bool)) := by kernel_rfl
    exact fn_le' (sig := s34900) (p := p34900) (by kernel_rfl) (by kernel_rfl) rfl rfl rfl (e.trans h)

theorem spec_TokensText_l1_le (t0 : List (List UInt8)) (t3 : List UInt8) (t4 : Int) : Tv.Le
  ((bif (decide (t4 < (t0.length : Int))) then
  bnd (geti t0 t4) fun e1 =>
  bnd (spec_TokenValid e1) fun r2 =>
  (bif (!r2) then
  some (.inr ([], t3))
  else
  (bif (decide (0 < t4)) then
  bnd (catS t3 [32]) fun s3 =>
  bnd (geti t0 t4) fun e4 =>
  bnd (catS s3 e4) fun s5 =>
  spec_TokensText_l1 t0 s5 (wrap64 (t4 + 1))
  else
  bnd (geti t0 t4) fun e6 =>
  bnd (catS t3 e6) fun s7 =>
  spec_TokensText_l1 t0 s7 (wrap64 (t4 + 1))))
  else
  some (.inl t3)) : Option (List UInt8 ⊕ (List UInt8 × List UInt8)))
  (spec_TokensText_l1 t0 t3 t4) := by
  rewrite [← wrapC_eq]
  exact fun r h => by
    have e : runC (phi Tb GT sg) Tb GT p35001.code (mkST p35001.ins [.sl .share .str t0, .str t3, .int .i64 t4] p35001.bins []) (finL Tb GT 35001 p35001 s35001) = (
      (bif (decide (t4 < (t0.length : Int))) then
      bnd (geti t0 t4) fun e1 =>
      bnd (spec_TokenValid e1) fun r2 =>
      (bif (!r2) then
      some (.inr ([], t3))
      else
      (bif (decide (0 < t4)) then
      bnd (catS t3 [32]) fun s3 =>
      bnd (geti t0 t4) fun e4 =>
      bnd (catS s3 e4) fun s5 =>
      spec_TokensText_l1 t0 s5 (wrapC (t4 + 1))
      else
      bnd (geti t0 t4) fun e6 =>
      bnd (catS t3 e6) fun s7 =>
      spec_TokensText_l1 t0 s7 (wrapC (t4 + 1))))
      else
      some (.inl t3)) : Option (List UInt8 ⊕ (List UInt8 × List UInt8))) := by kernel_rfl
    exact loop_le' (sig := s35001) (p := p35001) (by kernel_rfl) (by kernel_rfl) rfl rfl rfl (e.trans h)

theorem impl_tokenLength_le (a0 : List UInt8) : Tv.Le
  (bnd (impl_tokenLength_l1 a0 (([33100, 33200] : List Nat).length : Int) 0) fun r1 =>
  selm r1 (fun y2 =>
  bnd (impl_tokenLength_l3 y2 .full ([[61, 61], [60, 60], [62, 62]] : List (List UInt8)) (([[61, 61], [60, 60], [62, 62]] : List (List UInt8)).length : Int) 0) fun r4 =>
  selm r4 (fun y5 =>
  (bif (!(y5 == [])) then
  bnd (geti y5 0) fun c7 =>
  bnd (strings_IndexByte ([124, 94, 38, 60, 43, 45, 42, 47, 37, 40, 41, 123, 125, 61, 59]) (c7.toNat : Int)) fun r8 =>
  (bif (decide (0 ≤ r8)) then
  some 1
  else
  some 0)
  else
  some 0)) (fun z6 =>
  some z6.2)) (fun z3 =>
  some z3.2) : Option (Int))
  (impl_tokenLength a0) := by
  exact fun r h => by
    have e : runC (phi Tb GT sg) Tb GT p33300.code (mkST p33300.ins [.str a0] p33300.bins []) (finT p33300 s33300) = (
      bnd (impl_tokenLength_l1 a0 (([33100, 33200] : List Nat).length : Int) 0) fun r1 =>
      selm r1 (fun y2 =>
      bnd (impl_tokenLength_l3 y2 .full ([[61, 61], [60, 60], [62, 62]] : List (List UInt8)) (([[61, 61], [60, 60], [62, 62]] : List (List UInt8)).length : Int) 0) fun r4 =>
      selm r4 (fun y5 =>
      (bif (!(y5 == [])) then
      bnd (geti y5 0) fun c7 =>
      bnd (strings_IndexByte ([124, 94, 38, 60, 43, 45, 42, 47, 37, 40, 41, 123, 125, 61, 59]) (c7.toNat : Int)) fun r8 =>
      (bif (decide (0 ≤ r8)) then
      some 1
      else
      some 0)
      else
      some 0)) (fun z6 =>
      some z6.2)) (fun z3 =>
      some z3.2) : Option (Int)) := by kernel_rfl
    exact fn_le' (sig := s33300) (p := p33300) (by kernel_rfl) (by kernel_rfl) rfl rfl rfl (e.trans h)

theorem impl_Tokens_l1_le (t0 : List UInt8) (t4b : Bool) (t4 : List (List UInt8)) (t5 : Int) : Tv.Le
  ((bif (decide (t5 < (t0.length : Int))) then
  bnd (geti t0 t5) fun c1 =>
  (bif (decide ((c1.toNat : Int) = 32)) then
  impl_Tokens_l1 t0 t4b t4 (wrap64 (t5 + 1))
  else
  bnd (geti t0 t5) fun c2 =>
  (bif (decide ((c2.toNat : Int) = 10)) then
  impl_Tokens_l1 t0 t4b t4 (wrap64 (t5 + 1))
  else
  bnd (cutL t0 t5 (t0.length : Int)) fun s3 =>
  bnd (impl_tokenLength s3) fun r4 =>
  (bif (decide (r4 = 0)) then
  some (.inr ((false, []), false, (t4b, t4)))
  else
  bnd (cutL t0 t5 (wrap64 (t5 + r4))) fun s5 =>
  bnd (appL t4 ([s5] : List (List UInt8))) fun l6 =>
  impl_Tokens_l1 t0 true l6 (wrap64 (t5 + r4)))))
  else
  some (.inl (t4b, t4))) : Option (((Bool × List (List UInt8))) ⊕ ((Bool × List (List UInt8)) × Bool × (Bool × List (List UInt8)))))
  (impl_Tokens_l1 t0 t4b t4 t5) := by
  rewrite [← wrapC_eq]
  exact fun r h => by
    have e : runC (phi Tb GT sg) Tb GT p33401.code (mkST p33401.ins [.str t0, .sl (.own t4b) .str t4, .int .i64 t5] p33401.bins []) (finL Tb GT 33401 p33401 s33401) = (
      (bif (decide (t5 < (t0.length : Int))) then
      bnd (geti t0 t5) fun c1 =>
      (bif (decide ((c1.toNat : Int) = 32)) then
      impl_Tokens_l1 t0 t4b t4 (wrapC (t5 + 1))
      else
      bnd (geti t0 t5) fun c2 =>
      (bif (decide ((c2.toNat : Int) = 10)) then
      impl_Tokens_l1 t0 t4b t4 (wrapC (t5 + 1))
      else
      bnd (cutL t0 t5 (t0.length : Int)) fun s3 =>
      bnd (impl_tokenLength s3) fun r4 =>
      (bif (decide (r4 = 0)) then
      some (.inr ((false, []), false, (t4b, t4)))
      else
      bnd (cutL t0 t5 (wrapC (t5 + r4))) fun s5 =>
      bnd (appL t4 ([s5] : List (List UInt8))) fun l6 =>
      impl_Tokens_l1 t0 true l6 (wrapC (t5 + r4)))))
      else
      some (.inl (t4b, t4))) : Option (((Bool × List (List UInt8))) ⊕ ((Bool × List (List UInt8)) × Bool × (Bool × List (List UInt8))))) := by kernel_rfl
    exact loop_le' (sig := s33401) (p := p33401) (by kernel_rfl) (by kernel_rfl) rfl rfl rfl (e.trans h)

theorem impl_parser_operand_le (a0tokens : List (List UInt8)) (a0at : Int) (a0failed : Bool) : Tv.Le
  (bnd (impl_parser_peek a0tokens a0at a0failed) fun r1 =>
  (bif (r1.1 == [40]) then
  bnd (impl_parser_expr 1 r1.2.1 (wrap64 (r1.2.2.1 + 1)) r1.2.2.2) fun r2 =>
  bnd (impl_parser_need [41] r2.2.1 r2.2.2.1 r2.2.2.2) fun r3 =>
  some (⟨r2.1.op, r2.1.n, r2.1.args⟩, r3.1, r3.2.1, r3.2.2)
  else
  (bif (!(r1.1 == [])) then
  bnd (geti r1.1 0) fun c4 =>
  bnd (impl_isDigit (c4.toNat : Int)) fun r5 =>
  (bif r5 then
  bnd (impl_parser_number r1.2.1 r1.2.2.1 r1.2.2.2) fun r6 =>
  some (⟨0, r6.1, []⟩, r6.2.1, r6.2.2.1, r6.2.2.2)
  else
  bnd (impl_parser_variable r1.2.1 r1.2.2.1 r1.2.2.2) fun r7 =>
  some (⟨13, r7.1, []⟩, r7.2.1, r7.2.2.1, r7.2.2.2))
  else
  bnd (impl_parser_variable r1.2.1 r1.2.2.1 r1.2.2.2) fun r8 =>
  some (⟨13, r8.1, []⟩, r8.2.1, r8.2.2.1, r8.2.2.2))) : Option (Exp × List (List UInt8) × Int × Bool))
  (impl_parser_operand a0tokens a0at a0failed) := by
  rewrite [← wrapC_eq]
  exact fun r h => by
    have e : runC (phi Tb GT sg) Tb GT p34100.code (mkST p34100.ins [.bp 0 0] p34100.bins [.var [.sl .share .str a0tokens, .int .i64 a0at, .bool a0failed]]) (finT p34100 s34100) = (
      bnd (impl_parser_peek a0tokens a0at a0failed) fun r1 =>
      (bif (r1.1 == [40]) then
      bnd (impl_parser_expr 1 r1.2.1 (wrapC (r1.2.2.1 + 1)) r1.2.2.2) fun r2 =>
      bnd (impl_parser_need [41] r2.2.1 r2.2.2.1 r2.2.2.2) fun r3 =>
      some (⟨r2.1.op, r2.1.n, r2.1.args⟩, r3.1, r3.2.1, r3.2.2)
      else
      (bif (!(r1.1 == [])) then
      bnd (geti r1.1 0) fun c4 =>
      bnd (impl_isDigit (c4.toNat : Int)) fun r5 =>
      (bif r5 then
      bnd (impl_parser_number r1.2.1 r1.2.2.1 r1.2.2.2) fun r6 =>
      some (⟨0, r6.1, []⟩, r6.2.1, r6.2.2.1, r6.2.2.2)
      else
      bnd (impl_parser_variable r1.2.1 r1.2.2.1 r1.2.2.2) fun r7 =>
      some (⟨13, r7.1, []⟩, r7.2.1, r7.2.2.1, r7.2.2.2))
      else
      bnd (impl_parser_variable r1.2.1 r1.2.2.1 r1.2.2.2) fun r8 =>
      some (⟨13, r8.1, []⟩, r8.2.1, r8.2.2.1, r8.2.2.2))) : Option (Exp × List (List UInt8) × Int × Bool)) := by kernel_rfl
    exact fn_le' (sig := s34100) (p := p34100) (by kernel_rfl) (by kernel_rfl) rfl rfl rfl (e.trans h)

theorem impl_parser_peek_le (a0tokens : List (List UInt8)) (a0at : Int) (a0failed : Bool) : Tv.Le
  ((bif (decide (a0at < (a0tokens.length : Int))) then
  (bif (!a0failed) then
  bnd (geti a0tokens a0at) fun e1 =>
  some (e1, a0tokens, a0at, a0failed)
  else
  some ([], a0tokens, a0at, a0failed))
  else
  some ([], a0tokens, a0at, a0failed)) : Option (List UInt8 × List (List UInt8) × Int × Bool))
  (impl_parser_peek a0tokens a0at a0failed) := by
  exact fun r h => by
    have e : runC (phi Tb GT sg) Tb GT p33500.code (mkST p33500.ins [.bp 0 0] p33500.bins [.var [.sl .share .str a0tokens, .int .i64 a0at, .bool a0failed]]) (finT p33500 s33500) = (
      (bif (decide (a0at < (a0tokens.length : Int))) then
      (bif (!a0failed) then
      bnd (geti a0tokens a0at) fun e1 =>
      some (e1, a0tokens, a0at, a0failed)
      else
      some ([], a0tokens, a0at, a0failed))
      else
      some ([], a0tokens, a0at, a0failed)) : Option (List UInt8 × List (List UInt8) × Int × Bool)) := by kernel_rfl
    exact fn_le' (sig := s33500) (p := p33500) (by kernel_rfl) (by kernel_rfl) rfl rfl rfl (e.trans h)

theorem impl_opFrom_le (a0 : List UInt8) : Tv.Le
  (bnd (impl_opFrom_l1 a0 0) fun r1 =>
  selm r1 (fun y2 =>
  some 0) (fun z3 =>
  some z3) : Option (Int))
  (impl_opFrom a0) := by
  exact fun r h => by
    have e : runC (phi Tb GT sg) Tb GT p34200.code (mkST p34200.ins [.str a0] p34200.bins []) (finT p34200 s34200) = (
      bnd (impl_opFrom_l1 a0 0) fun r1 =>
      selm r1 (fun y2 =>
      some 0) (fun z3 =>
      some z3) : Option (Int)) := by kernel_rfl
    exact fn_le' (sig := s34200) (p := p34200) (by kernel_rfl) (by kernel_rfl) rfl rfl rfl (e.trans h)

theorem impl_parser_expr_l1_le (t1 : Int) (b0_0 : List (List UInt8)) (b0_1 : Int) (b0_2 : Bool) (b100_0 : Int) (b100_1 : Int) (b100_2b : Bool) (b100_2 : List Exp) (b101_0 : Int) (b101_1 : Int) (b101_2m : Md) (b101_2 : List Exp) : Tv.Le
  ((bif (!b0_2) then
  bnd (impl_parser_peek b0_0 b0_1 b0_2) fun r1 =>
  bnd (impl_opFrom r1.1) fun r2 =>
  (bif (decide (r2 = 0)) then
  some (r1.2.1, r1.2.2.1, r1.2.2.2, b100_0, b100_1, (b100_2b, b100_2), b101_0, b101_1, (b101_2m, b101_2))
  else
  bnd (impl_OpLevel r2) fun r3 =>
  (bif (decide (r3 < t1)) then
  some (r1.2.1, r1.2.2.1, r1.2.2.2, b100_0, b100_1, (b100_2b, b100_2), b101_0, b101_1, (b101_2m, b101_2))
  else
  bnd (impl_OpLevel r2) fun r4 =>
  bnd (impl_parser_expr (wrap64 (r4 + 1)) r1.2.1 (wrap64 (r1.2.2.1 + 1)) r1.2.2.2) fun r5 =>
  impl_parser_expr_l1 t1 r5.2.1 r5.2.2.1 r5.2.2.2 b100_0 b100_1 b100_2b b100_2 r2 0 .full ([⟨b101_0, b101_1, b101_2⟩, ⟨r5.1.op, r5.1.n, r5.1.args⟩] : List Exp)))
  else
  some (b0_0, b0_1, b0_2, b100_0, b100_1, (b100_2b, b100_2), b101_0, b101_1, (b101_2m, b101_2))) : Option (List (List UInt8) × Int × Bool × Int × Int × (Bool × List Exp) × Int × Int × (Md × List Exp)))
  (impl_parser_expr_l1 t1 b0_0 b0_1 b0_2 b100_0 b100_1 b100_2b b100_2 b101_0 b101_1 b101_2m b101_2) := by
  rewrite [← wrapC_eq]
  exact fun r h => by
    have e : runC (phi Tb GT sg) Tb GT p34401.code (mkST p34401.ins [.bp 0 0, .int .i64 t1, .bp 100 0, .bp 101 0] p34401.bins [.var [.sl .share .str b0_0, .int .i64 b0_1, .bool b0_2], .var [.int .i64 b100_0, .int .i64 b100_1, .sl (.own b100_2b) .exp b100_2], .var [.int .i64 b101_0, .int .i64 b101_1, .sl b101_2m .exp b101_2]]) (finL Tb GT 34401 p34401 s34401) = (
      (bif (!b0_2) then
      bnd (impl_parser_peek b0_0 b0_1 b0_2) fun r1 =>
      bnd (impl_opFrom r1.1) fun r2 =>
      (bif (decide (r2 = 0)) then
      some (r1.2.1, r1.2.2.1, r1.2.2.2, b100_0, b100_1, (b100_2b, b100_2), b101_0, b101_1, (b101_2m, b101_2))
      else
      bnd (impl_OpLevel r2) fun r3 =>
      (bif (decide (r3 < t1)) then
      some (r1.2.1, r1.2.2.1, r1.2.2.2, b100_0, b100_1, (b100_2b, b100_2), b101_0, b101_1, (b101_2m, b101_2))
      else
      bnd (impl_OpLevel r2) fun r4 =>
      bnd (impl_parser_expr (wrapC (r4 + 1)) r1.2.1 (wrapC (r1.2.2.1 + 1)) r1.2.2.2) fun r5 =>
      impl_parser_expr_l1 t1 r5.2.1 r5.2.2.1 r5.2.2.2 b100_0 b100_1 b100_2b b100_2 r2 0 .full ([⟨b101_0, b101_1, b101_2⟩, ⟨r5.1.op, r5.1.n, r5.1.args⟩] : List Exp)))
      else
      some (b0_0, b0_1, b0_2, b100_0, b100_1, (b100_2b, b100_2), b101_0, b101_1, (b101_2m, b101_2))) : Option (List (List UInt8) × Int × Bool × Int × Int × (Bool × List Exp) × Int × Int × (Md × List Exp))) := by kernel_rfl
    exact loop_le' (sig := s34401) (p := p34401) (by kernel_rfl) (by kernel_rfl) rfl rfl rfl (e.trans h)

theorem impl_OpValid_le (a0 : Int) : Tv.Le
  ((bif (decide (1 ≤ a0)) then
  some (decide (a0 ≤ 12))
  else
  some false) : Option (Bool))
  (impl_OpValid a0) := by
  exact fun r h => by
    have e : runC (phi Tb GT sg) Tb GT p1000.code (mkST p1000.ins [.int .i64 a0] p1000.bins []) (finT p1000 s1000) = (
      (bif (decide (1 ≤ a0)) then
      some (decide (a0 ≤ 12))
      else
      some false) : Option (Bool)) := by kernel_rfl
    exact fn_le' (sig := s1000) (p := p1000) (by kernel_rfl) (by kernel_rfl) rfl rfl rfl (e.trans h)

theorem impl_isDigit_le (a0 : Int) : Tv.Le
  ((bif (decide (48 ≤ a0)) then
  some (decide (a0 ≤ 57))
  else
  some false) : Option (Bool))
  (impl_isDigit a0) := by
  exact fun r h => by
    have e : runC (phi Tb GT sg) Tb GT p33100.code (mkST p33100.ins [.int .u8 a0] p33100.bins []) (finT p33100 s33100) = (
      (bif (decide (48 ≤ a0)) then
      some (decide (a0 ≤ 57))
      else
      some false) : Option (Bool)) := by kernel_rfl
    exact fn_le' (sig := s33100) (p := p33100) (by kernel_rfl) (by kernel_rfl) rfl rfl rfl (e.trans h)

theorem impl_tokenLength_l1_l2_33100_le (t0 : List UInt8) (t5 : Int) (t9 : Int) (t10 : Int) : Tv.Le
  ((bif (decide (t5 < (t0.length : Int))) then
  bnd (geti t0 t5) fun c1 =>
  bnd (impl_isDigit (c1.toNat : Int)) fun r2 =>
  (bif r2 then
  impl_tokenLength_l1_l2_33100 t0 (wrap64 (t5 + 1)) t9 t10
  else
  some (t0, t5, t9, t10))
  else
  some (t0, t5, t9, t10)) : Option (List UInt8 × Int × Int × Int))
  (impl_tokenLength_l1_l2_33100 t0 t5 t9 t10) := by
  rewrite [← wrapC_eq]
  exact fun r h => by
    have e : runC (phi Tb GT sg) Tb GT p33302.code (mkST p33302.ins [.str t0, .fn 33100 [], .int .i64 t5, .sl .full .fn ([33100, 33200] : List Nat), .int .i64 t9, .int .i64 t10] p33302.bins []) (finL Tb GT 33302 p33302 s33302) = (
      (bif (decide (t5 < (t0.length : Int))) then
      bnd (geti t0 t5) fun c1 =>
      bnd (impl_isDigit (c1.toNat : Int)) fun r2 =>
      (bif r2 then
      impl_tokenLength_l1_l2_33100 t0 (wrapC (t5 + 1)) t9 t10
      else
      some (t0, t5, t9, t10))
      else
      some (t0, t5, t9, t10)) : Option (List UInt8 × Int × Int × Int)) := by kernel_rfl
    exact loop_le' (sig := s33302) (p := p33302) (by kernel_rfl) (by kernel_rfl) rfl rfl rfl (e.trans h)

theorem impl_isLetter_le (a0 : Int) : Tv.Le
  ((bif (decide (97 ≤ a0)) then
  some (decide (a0 ≤ 122))
  else
  some false) : Option (Bool))
  (impl_isLetter a0) := by
  exact fun r h => by
    have e : runC (phi Tb GT sg) Tb GT p33200.code (mkST p33200.ins [.int .u8 a0] p33200.bins []) (finT p33200 s33200) = (
      (bif (decide (97 ≤ a0)) then
      some (decide (a0 ≤ 122))
      else
      some false) : Option (Bool)) := by kernel_rfl
    exact fn_le' (sig := s33200) (p := p33200) (by kernel_rfl) (by kernel_rfl) rfl rfl rfl (e.trans h)

theorem impl_tokenLength_l1_l2_33200_le (t0 : List UInt8) (t5 : Int) (t9 : Int) (t10 : Int) : Tv.Le
  ((bif (decide (t5 < (t0.length : Int))) then
  bnd (geti t0 t5) fun c1 =>
  bnd (impl_isLetter (c1.toNat : Int)) fun r2 =>
  (bif r2 then
  impl_tokenLength_l1_l2_33200 t0 (wrap64 (t5 + 1)) t9 t10
  else
  some (t0, t5, t9, t10))
  else
  some (t0, t5, t9, t10)) : Option (List UInt8 × Int × Int × Int))
  (impl_tokenLength_l1_l2_33200 t0 t5 t9 t10) := by
  rewrite [← wrapC_eq]
  exact fun r h => by
    have e : runC (phi Tb GT sg) Tb GT p33302.code (mkST p33302.ins [.str t0, .fn 33200 [], .int .i64 t5, .sl .full .fn ([33100, 33200] : List Nat), .int .i64 t9, .int .i64 t10] p33302.bins []) (finL Tb GT 33302 p33302 s33302) = (
      (bif (decide (t5 < (t0.length : Int))) then
      bnd (geti t0 t5) fun c1 =>
      bnd (impl_isLetter (c1.toNat : Int)) fun r2 =>
      (bif r2 then
      impl_tokenLength_l1_l2_33200 t0 (wrapC (t5 + 1)) t9 t10
      else
      some (t0, t5, t9, t10))
      else
      some (t0, t5, t9, t10)) : Option (List UInt8 × Int × Int × Int)) := by kernel_rfl
    exact loop_le' (sig := s33302) (p := p33302) (by kernel_rfl) (by kernel_rfl) rfl rfl rfl (e.trans h)

theorem impl_tokenLength_l1_le (t0 : List UInt8) (t9 : Int) (t10 : Int) : Tv.Le
  ((bif (decide (t10 < t9)) then
  (bif (decide (t10 = 0)) then
  bnd (impl_tokenLength_l1_l2_33100 t0 0 t9 t10) fun r2 =>
  (bif (decide (0 < r2.2.1)) then
  some (.inr (r2.1, r2.2.1))
  else
  impl_tokenLength_l1 r2.1 r2.2.2.1 (wrap64 (r2.2.2.2 + 1)))
  else
  (bif (decide ((t10 - 1) = 0)) then
  bnd (impl_tokenLength_l1_l2_33200 t0 0 t9 t10) fun r3 =>
  (bif (decide (0 < r3.2.1)) then
  some (.inr (r3.1, r3.2.1))
  else
  impl_tokenLength_l1 r3.1 r3.2.2.1 (wrap64 (r3.2.2.2 + 1)))
  else
  none))
  else
  some (.inl t0)) : Option (List UInt8 ⊕ (List UInt8 × Int)))
  (impl_tokenLength_l1 t0 t9 t10) := by
  rewrite [← wrapC_eq]
  exact fun r h => by
    have e : runC (phi Tb GT sg) Tb GT p33301.code (mkST p33301.ins [.str t0, .sl .full .fn ([33100, 33200] : List Nat), .int .i64 t9, .int .i64 t10] p33301.bins []) (finL Tb GT 33301 p33301 s33301) = (
      (bif (decide (t10 < t9)) then
      (bif (decide (t10 = 0)) then
      bnd (impl_tokenLength_l1_l2_33100 t0 0 t9 t10) fun r2 =>
      (bif (decide (0 < r2.2.1)) then
      some (.inr (r2.1, r2.2.1))
      else
      impl_tokenLength_l1 r2.1 r2.2.2.1 (wrapC (r2.2.2.2 + 1)))
      else
      (bif (decide ((t10 - 1) = 0)) then
      bnd (impl_tokenLength_l1_l2_33200 t0 0 t9 t10) fun r3 =>
      (bif (decide (0 < r3.2.1)) then
      some (.inr (r3.1, r3.2.1))
      else
      impl_tokenLength_l1 r3.1 r3.2.2.1 (wrapC (r3.2.2.2 + 1)))
      else
      none))
      else
      some (.inl t0)) : Option (List UInt8 ⊕ (List UInt8 × Int))) := by kernel_rfl
    exact loop_le' (sig := s33301) (p := p33301) (by kernel_rfl) (by kernel_rfl) rfl rfl rfl (e.trans h)

theorem strings_HasPrefix_le (a0 a1 : List UInt8) : Tv.Le (some (Lib.hasPrefix a0 a1) : Option (Bool)) (strings_HasPrefix a0 a1) := fun r h => by
  exact prim_le (F := Tb) (G := GT) (sg := fun _ => s37500) (g := 37500) (p := p37500) (x := r) (tv := [.str a0, .str a1]) (v := .bool r) (by kernel_rfl) rfl (prefix_pf h) rfl

theorem impl_tokenLength_l3_le (t0 : List UInt8) (t31m : Md) (t31 : List (List UInt8)) (t32 : Int) (t33 : Int) : Tv.Le
  ((bif (decide (t33 < t32)) then
  bnd (geti t31 t33) fun e1 =>
  bnd (strings_HasPrefix t0 e1) fun r2 =>
  (bif r2 then
  some (.inr (t0, 2))
  else
  impl_tokenLength_l3 t0 t31m t31 t32 (wrap64 (t33 + 1)))
  else
  some (.inl t0)) : Option (List UInt8 ⊕ (List UInt8 × Int)))
  (impl_tokenLength_l3 t0 t31m t31 t32 t33) := by
  rewrite [← wrapC_eq]
  exact fun r h => by
    have e : runC (phi Tb GT sg) Tb GT p33303.code (mkST p33303.ins [.str t0, .sl t31m .str t31, .int .i64 t32, .int .i64 t33] p33303.bins []) (finL Tb GT 33303 p33303 s33303) = (
      (bif (decide (t33 < t32)) then
      bnd (geti t31 t33) fun e1 =>
      bnd (strings_HasPrefix t0 e1) fun r2 =>
      (bif r2 then
      some (.inr (t0, 2))
      else
      impl_tokenLength_l3 t0 t31m t31 t32 (wrapC (t33 + 1)))
      else
      some (.inl t0)) : Option (List UInt8 ⊕ (List UInt8 × Int))) := by kernel_rfl
    exact loop_le' (sig := s33303) (p := p33303) (by kernel_rfl) (by kernel_rfl) rfl rfl rfl (e.trans h)

theorem strings_IndexByte_le (a0 : List UInt8) (a1 : Int) : Tv.Le (some (Lib.indexByte a0 a1.toNat.toUInt8) : Option (Int)) (strings_IndexByte a0 a1) := fun r h => by
  exact prim_le (F := Tb) (G := GT) (sg := fun _ => s37600) (g := 37600) (p := p37600) (x := r) (tv := [.str a0, .int .u8 a1]) (v := .int .i64 r) (by kernel_rfl) rfl (index_pf h) rfl

theorem impl_parser_need_le (a1 : List UInt8) (a0tokens : List (List UInt8)) (a0at : Int) (a0failed : Bool) : Tv.Le
  (bnd (impl_parser_accept a1 a0tokens a0at a0failed) fun r1 =>
  (bif (!r1.1) then
  some (r1.2.1, r1.2.2.1, true)
  else
  some (r1.2.1, r1.2.2.1, r1.2.2.2)) : Option (List (List UInt8) × Int × Bool))
  (impl_parser_need a1 a0tokens a0at a0failed) := by
  exact fun r h => by
    have e : runC (phi Tb GT sg) Tb GT p33700.code (mkST p33700.ins [.bp 0 0, .str a1] p33700.bins [.var [.sl .share .str a0tokens, .int .i64 a0at, .bool a0failed]]) (finT p33700 s33700) = (
      bnd (impl_parser_accept a1 a0tokens a0at a0failed) fun r1 =>
      (bif (!r1.1) then
      some (r1.2.1, r1.2.2.1, true)
      else
      some (r1.2.1, r1.2.2.1, r1.2.2.2)) : Option (List (List UInt8) × Int × Bool)) := by kernel_rfl
    exact fn_le' (sig := s33700) (p := p33700) (by kernel_rfl) (by kernel_rfl) rfl rfl rfl (e.trans h)

theorem impl_parser_number_le (a0tokens : List (List UInt8)) (a0at : Int) (a0failed : Bool) : Tv.Le
  (bnd (impl_parser_take a0tokens a0at a0failed) fun r1 =>
  (bif (r1.1 == []) then
  some (0, r1.2.1, r1.2.2.1, true)
  else
  (bif (decide (5 < (r1.1.length : Int))) then
  some (0, r1.2.1, r1.2.2.1, true)
  else
  bnd (geti r1.1 0) fun c2 =>
  bnd (impl_isDigit (c2.toNat : Int)) fun r3 =>
  (bif (!r3) then
  some (0, r1.2.1, r1.2.2.1, true)
  else
  bnd (strconv_Atoi r1.1) fun r4 =>
  some (r4, r1.2.1, r1.2.2.1, r1.2.2.2)))) : Option (Int × List (List UInt8) × Int × Bool))
  (impl_parser_number a0tokens a0at a0failed) := by
  exact fun r h => by
    have e : runC (phi Tb GT sg) Tb GT p33900.code (mkST p33900.ins [.bp 0 0] p33900.bins [.var [.sl .share .str a0tokens, .int .i64 a0at, .bool a0failed]]) (finT p33900 s33900) = (
      bnd (impl_parser_take a0tokens a0at a0failed) fun r1 =>
      (bif (r1.1 == []) then
      some (0, r1.2.1, r1.2.2.1, true)
      else
      (bif (decide (5 < (r1.1.length : Int))) then
      some (0, r1.2.1, r1.2.2.1, true)
      else
      bnd (geti r1.1 0) fun c2 =>
      bnd (impl_isDigit (c2.toNat : Int)) fun r3 =>
      (bif (!r3) then
      some (0, r1.2.1, r1.2.2.1, true)
      else
      bnd (strconv_Atoi r1.1) fun r4 =>
      some (r4, r1.2.1, r1.2.2.1, r1.2.2.2)))) : Option (Int × List (List UInt8) × Int × Bool)) := by kernel_rfl
    exact fn_le' (sig := s33900) (p := p33900) (by kernel_rfl) (by kernel_rfl) rfl rfl rfl (e.trans h)

theorem impl_parser_variable_le (a0tokens : List (List UInt8)) (a0at : Int) (a0failed : Bool) : Tv.Le
  (bnd (impl_parser_take a0tokens a0at a0failed) fun r1 =>
  (bif (!decide ((r1.1.length : Int) = 1)) then
  some (0, r1.2.1, r1.2.2.1, true)
  else
  bnd (geti r1.1 0) fun c2 =>
  (bif (decide ((c2.toNat : Int) < 97)) then
  some (0, r1.2.1, r1.2.2.1, true)
  else
  bnd (geti r1.1 0) fun c3 =>
  (bif (decide (101 ≤ (c3.toNat : Int))) then
  some (0, r1.2.1, r1.2.2.1, true)
  else
  bnd (geti r1.1 0) fun c4 =>
  some ((wrap64 ((((c4.toNat : Int) - 97) % 256))), r1.2.1, r1.2.2.1, r1.2.2.2)))) : Option (Int × List (List UInt8) × Int × Bool))
  (impl_parser_variable a0tokens a0at a0failed) := by
  rewrite [← wrapC_eq]
  exact fun r h => by
    have e : runC (phi Tb GT sg) Tb GT p34000.code (mkST p34000.ins [.bp 0 0] p34000.bins [.var [.sl .share .str a0tokens, .int .i64 a0at, .bool a0failed]]) (finT p34000 s34000) = (
      bnd (impl_parser_take a0tokens a0at a0failed) fun r1 =>
      (bif (!decide ((r1.1.length : Int) = 1)) then
      some (0, r1.2.1, r1.2.2.1, true)
      else
      bnd (geti r1.1 0) fun c2 =>
      (bif (decide ((c2.toNat : Int) < 97)) then
      some (0, r1.2.1, r1.2.2.1, true)
      else
      bnd (geti r1.1 0) fun c3 =>
      (bif (decide (101 ≤ (c3.toNat : Int))) then
      some (0, r1.2.1, r1.2.2.1, true)
      else
      bnd (geti r1.1 0) fun c4 =>
      some ((wrapC ((((c4.toNat : Int) - 97) % 256))), r1.2.1, r1.2.2.1, r1.2.2.2)))) : Option (Int × List (List UInt8) × Int × Bool)) := by kernel_rfl
    exact fn_le' (sig := s34000) (p := p34000) (by kernel_rfl) (by kernel_rfl) rfl rfl rfl (e.trans h)

theorem impl_opFrom_l1_le (t0 : List UInt8) (t6 : Int) : Tv.Le
  ((bif (decide (t6 < 12)) then
  bnd (geti ([[124], [94], [38], [61, 61], [60], [60, 60], [62, 62], [43], [45], [42], [47], [37]] : List (List UInt8)) t6) fun s1 =>
  (bif (s1 == t0) then
  some (.inr (wrap64 (1 + t6)))
  else
  impl_opFrom_l1 t0 (wrap64 (t6 + 1)))
  else
  some (.inl ())) : Option (Unit ⊕ Int))
  (impl_opFrom_l1 t0 t6) := by
  rewrite [← wrapC_eq]
  exact fun r h => by
    have e : runC (phi Tb GT sg) Tb GT p34201.code (mkST p34201.ins [.str t0, .agg [.str [124], .str [94], .str [38], .str ([61, 61]), .str [60], .str ([60, 60]), .str ([62, 62]), .str [43], .str [45], .str [42], .str [47], .str [37]], .int .i64 t6] p34201.bins []) (finL Tb GT 34201 p34201 s34201) = (
      (bif (decide (t6 < 12)) then
      bnd (geti ([[124], [94], [38], [61, 61], [60], [60, 60], [62, 62], [43], [45], [42], [47], [37]] : List (List UInt8)) t6) fun s1 =>
      (bif (s1 == t0) then
      some (.inr (wrapC (1 + t6)))
      else
      impl_opFrom_l1 t0 (wrapC (t6 + 1)))
      else
      some (.inl ())) : Option (Unit ⊕ Int)) := by kernel_rfl
    exact loop_le' (sig := s34201) (p := p34201) (by kernel_rfl) (by kernel_rfl) rfl rfl rfl (e.trans h)

theorem impl_parser_accept_le (a1 : List UInt8) (a0tokens : List (List UInt8)) (a0at : Int) (a0failed : Bool) : Tv.Le
  (bnd (impl_parser_peek a0tokens a0at a0failed) fun r1 =>
  (bif (!(r1.1 == a1)) then
  some (false, r1.2.1, r1.2.2.1, r1.2.2.2)
  else
  some (true, r1.2.1, (wrap64 (r1.2.2.1 + 1)), r1.2.2.2)) : Option (Bool × List (List UInt8) × Int × Bool))
  (impl_parser_accept a1 a0tokens a0at a0failed) := by
  rewrite [← wrapC_eq]
  exact fun r h => by
    have e : runC (phi Tb GT sg) Tb GT p33600.code (mkST p33600.ins [.bp 0 0, .str a1] p33600.bins [.var [.sl .share .str a0tokens, .int .i64 a0at, .bool a0failed]]) (finT p33600 s33600) = (
      bnd (impl_parser_peek a0tokens a0at a0failed) fun r1 =>
      (bif (!(r1.1 == a1)) then
      some (false, r1.2.1, r1.2.2.1, r1.2.2.2)
      else
      some (true, r1.2.1, (wrapC (r1.2.2.1 + 1)), r1.2.2.2)) : Option (Bool × List (List UInt8) × Int × Bool)) := by kernel_rfl
    exact fn_le' (sig := s33600) (p := p33600) (by kernel_rfl) (by kernel_rfl) rfl rfl rfl (e.trans h)

theorem impl_parser_take_le (a0tokens : List (List UInt8)) (a0at : Int) (a0failed : Bool) : Tv.Le
  (bnd (impl_parser_peek a0tokens a0at a0failed) fun r1 =>
  (bif (r1.1 == []) then
  some (r1.1, r1.2.1, (wrap64 (r1.2.2.1 + 1)), true)
  else
  some (r1.1, r1.2.1, (wrap64 (r1.2.2.1 + 1)), r1.2.2.2)) : Option (List UInt8 × List (List UInt8) × Int × Bool))
  (impl_parser_take a0tokens a0at a0failed) := by
  rewrite [← wrapC_eq]
  exact fun r h => by
    have e : runC (phi Tb GT sg) Tb GT p33800.code (mkST p33800.ins [.bp 0 0] p33800.bins [.var [.sl .share .str a0tokens, .int .i64 a0at, .bool a0failed]]) (finT p33800 s33800) = (
      bnd (impl_parser_peek a0tokens a0at a0failed) fun r1 =>
      (bif (r1.1 == []) then
      some (r1.1, r1.2.1, (wrapC (r1.2.2.1 + 1)), true)
      else
      some (r1.1, r1.2.1, (wrapC (r1.2.2.1 + 1)), r1.2.2.2)) : Option (List UInt8 × List (List UInt8) × Int × Bool)) := by kernel_rfl
    exact fn_le' (sig := s33800) (p := p33800) (by kernel_rfl) (by kernel_rfl) rfl rfl rfl (e.trans h)

theorem strconv_Atoi_le (a0 : List UInt8) : Tv.Le (if a0.length ≤ 18 then Lib.atoi a0 else none : Option (Int)) (strconv_Atoi a0) := fun r h => by
  exact prim_le (F := Tb) (G := GT) (sg := fun _ => s37700) (g := 37700) (p := p37700) (x := r) (tv := [.str a0]) (v := .tup [.int .i64 r, .undef]) (by kernel_rfl) rfl (atoi_pf h) rfl

end Go.TFnTextNeeds
