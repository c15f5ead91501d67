import Derived.Test.YthedbdlbibkpiaaDoorDFnTextNeedsP
import Derived.KernelRfl
set_option linter.unusedVariables false
namespace Go.TFnTextNeeds
open Go Go.RowKit Go.Vs Go.Tv
theorem spec_Tokens_le (a0 : List UInt8) : Tv.Le
  ((bif (decide (20000 < (a0.length : Int))) then
  some (([] : List (List UInt8)), false)
  else
  bnd (spec_Tokens_l1 a0 true ([] : List (List UInt8)) 0) fun r1 =>
  selm r1 (fun y2 =>
  some (y2.2, true)) (fun z3 =>
  some (z3.1.2, z3.2.1))) : Option (List (List UInt8) × Bool))
  (spec_Tokens a0) := by
  exact fun r h => by
    have e : runC (phi Tb GT sg) Tb GT p32200.code (mkST p32200.ins [.str a0] p32200.bins []) (finT p32200 s32200) = (
      (bif (decide (20000 < (a0.length : Int))) then
      some (([] : List (List UInt8)), false)
      else
      bnd (spec_Tokens_l1 a0 true ([] : List (List UInt8)) 0) fun r1 =>
      selm r1 (fun y2 =>
      some (y2.2, true)) (fun z3 =>
      some (z3.1.2, z3.2.1))) : Option (List (List UInt8) × Bool)) := by kernel_rfl
    exact fn_le' (sig := s32200) (p := p32200) (by kernel_rfl) (by kernel_rfl) rfl rfl rfl (e.trans h)

theorem spec_l5Number_le (a0 : List UInt8) : Tv.Le
  (bnd (spec_l6In (a0.length : Int) 1 5) fun r1 =>
  (bif (!r1) then
  some (-1)
  else
  bnd (spec_l5Number_l1 a0 0 0) fun r2 =>
  selm r2 (fun y3 =>
  some y3) (fun z4 =>
  some z4.1)) : Option (Int))
  (spec_l5Number a0) := by
  exact fun r h => by
    have e : runC (phi Tb GT sg) Tb GT p32300.code (mkST p32300.ins [.str a0] p32300.bins []) (finT p32300 s32300) = (
      bnd (spec_l6In (a0.length : Int) 1 5) fun r1 =>
      (bif (!r1) then
      some (-1)
      else
      bnd (spec_l5Number_l1 a0 0 0) fun r2 =>
      selm r2 (fun y3 =>
      some y3) (fun z4 =>
      some z4.1)) : Option (Int)) := by kernel_rfl
    exact fn_le' (sig := s32300) (p := p32300) (by kernel_rfl) (by kernel_rfl) rfl rfl rfl (e.trans h)

theorem spec_l5Var_le (a0 : List UInt8) : Tv.Le
  (bnd (spec_l5Var_l1 a0 0) fun r1 =>
  selm r1 (fun y2 =>
  some (-1)) (fun z3 =>
  some z3) : Option (Int))
  (spec_l5Var a0) := by
  exact fun r h => by
    have e : runC (phi Tb GT sg) Tb GT p32500.code (mkST p32500.ins [.str a0] p32500.bins []) (finT p32500 s32500) = (
      bnd (spec_l5Var_l1 a0 0) fun r1 =>
      selm r1 (fun y2 =>
      some (-1)) (fun z3 =>
      some z3) : Option (Int)) := by kernel_rfl
    exact fn_le' (sig := s32500) (p := p32500) (by kernel_rfl) (by kernel_rfl) rfl rfl rfl (e.trans h)

theorem spec_l5First_le (a0 : List (List UInt8)) (a1 : Int) : Tv.Le
  ((bif (decide ((a0.length : Int) ≤ a1)) then
  some (⟨0, 0, []⟩, (-1))
  else
  bnd (geti a0 a1) fun e1 =>
  (bif (e1 == [40]) then
  bnd (spec_l5Parse a0 (wrap64 (a1 + 1)) 1) fun r2 =>
  (bif (decide (r2.2 < 0)) then
  some (⟨0, 0, []⟩, (-1))
  else
  (bif (decide ((a0.length : Int) ≤ r2.2)) then
  some (⟨0, 0, []⟩, (-1))
  else
  bnd (geti a0 r2.2) fun e3 =>
  (bif (!(e3 == [41])) then
  some (⟨0, 0, []⟩, (-1))
  else
  some (⟨r2.1.op, r2.1.n, r2.1.args⟩, (wrap64 (r2.2 + 1))))))
  else
  bnd (geti a0 a1) fun e4 =>
  bnd (spec_l5Number e4) fun r5 =>
  (bif (decide (0 ≤ r5)) then
  bnd (geti a0 a1) fun e6 =>
  bnd (spec_l5Number e6) fun r7 =>
  bnd (spec_l4Leaf 0 r7) fun r8 =>
  some (⟨r8.1, r8.2.1, r8.2.2.2⟩, (wrap64 (a1 + 1)))
  else
  bnd (geti a0 a1) fun e9 =>
  bnd (spec_l5Var e9) fun r10 =>
  (bif (decide (0 ≤ r10)) then
  bnd (geti a0 a1) fun e11 =>
  bnd (spec_l5Var e11) fun r12 =>
  bnd (spec_l4Leaf 13 r12) fun r13 =>
  some (⟨r13.1, r13.2.1, r13.2.2.2⟩, (wrap64 (a1 + 1)))
  else
  some (⟨0, 0, []⟩, (-1)))))) : Option (Exp × Int))
  (spec_l5First a0 a1) := by
  rewrite [← wrapC_eq]
  exact fun r h => by
    have e : runC (phi Tb GT sg) Tb GT p32600.code (mkST p32600.ins [.sl .share .str a0, .int .i64 a1] p32600.bins []) (finT p32600 s32600) = (
      (bif (decide ((a0.length : Int) ≤ a1)) then
      some (⟨0, 0, []⟩, (-1))
      else
      bnd (geti a0 a1) fun e1 =>
      (bif (e1 == [40]) then
      bnd (spec_l5Parse a0 (wrapC (a1 + 1)) 1) fun r2 =>
      (bif (decide (r2.2 < 0)) then
      some (⟨0, 0, []⟩, (-1))
      else
      (bif (decide ((a0.length : Int) ≤ r2.2)) then
      some (⟨0, 0, []⟩, (-1))
      else
      bnd (geti a0 r2.2) fun e3 =>
      (bif (!(e3 == [41])) then
      some (⟨0, 0, []⟩, (-1))
      else
      some (⟨r2.1.op, r2.1.n, r2.1.args⟩, (wrapC (r2.2 + 1))))))
      else
      bnd (geti a0 a1) fun e4 =>
      bnd (spec_l5Number e4) fun r5 =>
      (bif (decide (0 ≤ r5)) then
      bnd (geti a0 a1) fun e6 =>
      bnd (spec_l5Number e6) fun r7 =>
      bnd (spec_l4Leaf 0 r7) fun r8 =>
      some (⟨r8.1, r8.2.1, r8.2.2.2⟩, (wrapC (a1 + 1)))
      else
      bnd (geti a0 a1) fun e9 =>
      bnd (spec_l5Var e9) fun r10 =>
      (bif (decide (0 ≤ r10)) then
      bnd (geti a0 a1) fun e11 =>
      bnd (spec_l5Var e11) fun r12 =>
      bnd (spec_l4Leaf 13 r12) fun r13 =>
      some (⟨r13.1, r13.2.1, r13.2.2.2⟩, (wrapC (a1 + 1)))
      else
      some (⟨0, 0, []⟩, (-1)))))) : Option (Exp × Int)) := by kernel_rfl
    exact fn_le' (sig := s32600) (p := p32600) (by kernel_rfl) (by kernel_rfl) rfl rfl rfl (e.trans h)

theorem spec_l5Op_le (a0 : List UInt8) : Tv.Le
  (bnd (spec_l5Op_l1 a0 1) fun r1 =>
  selm r1 (fun y2 =>
  some 0) (fun z3 =>
  some z3) : Option (Int))
  (spec_l5Op a0) := by
  exact fun r h => by
    have e : runC (phi Tb GT sg) Tb GT p32800.code (mkST p32800.ins [.str a0] p32800.bins []) (finT p32800 s32800) = (
      bnd (spec_l5Op_l1 a0 1) fun r1 =>
      selm r1 (fun y2 =>
      some 0) (fun z3 =>
      some z3) : Option (Int)) := by kernel_rfl
    exact fn_le' (sig := s32800) (p := p32800) (by kernel_rfl) (by kernel_rfl) rfl rfl rfl (e.trans h)

theorem spec_l5Parse_le (a0 : List (List UInt8)) (a1 : Int) (a2 : Int) : Tv.Le
  ((bif (decide (8 < a2)) then
  bnd (spec_l5First a0 a1) fun r1 =>
  some (⟨r1.1.op, r1.1.n, r1.1.args⟩, r1.2)
  else
  bnd (spec_l5Parse a0 a1 (wrap64 (a2 + 1))) fun r2 =>
  bnd (spec_l5Parse_l1 a0 a2 r2.2 0 0 false [] r2.1.op r2.1.n .share r2.1.args) fun r3 =>
  some (⟨r3.2.2.2.2.1, r3.2.2.2.2.2.1, r3.2.2.2.2.2.2.2⟩, r3.1)) : Option (Exp × Int))
  (spec_l5Parse a0 a1 a2) := by
  rewrite [← wrapC_eq]
  exact fun r h => by
    have e : runC (phi Tb GT sg) Tb GT p32900.code (mkST p32900.ins [.sl .share .str a0, .int .i64 a1, .int .i64 a2] p32900.bins []) (finT p32900 s32900) = (
      (bif (decide (8 < a2)) then
      bnd (spec_l5First a0 a1) fun r1 =>
      some (⟨r1.1.op, r1.1.n, r1.1.args⟩, r1.2)
      else
      bnd (spec_l5Parse a0 a1 (wrapC (a2 + 1))) fun r2 =>
      bnd (spec_l5Parse_l1 a0 a2 r2.2 0 0 false [] r2.1.op r2.1.n .share r2.1.args) fun r3 =>
      some (⟨r3.2.2.2.2.1, r3.2.2.2.2.2.1, r3.2.2.2.2.2.2.2⟩, r3.1)) : Option (Exp × Int)) := by kernel_rfl
    exact fn_le' (sig := s32900) (p := p32900) (by kernel_rfl) (by kernel_rfl) rfl rfl rfl (e.trans h)

theorem spec_ExprFrom_le (a0 : List UInt8) : Tv.Le
  (bnd (spec_Tokens a0) fun r1 =>
  (bif (!r1.2) then
  some (⟨0, 0, []⟩, false)
  else
  bnd (spec_l5Parse r1.1 0 1) fun r2 =>
  (bif (!decide (r2.2 = (r1.1.length : Int))) then
  some (⟨0, 0, []⟩, false)
  else
  (bif (decide (r2.2 < 0)) then
  some (⟨0, 0, []⟩, false)
  else
  bnd (spec_ExprValid (⟨r2.1.op, r2.1.n, r2.1.args⟩ : Exp)) fun r3 =>
  (bif (!r3) then
  some (⟨0, 0, []⟩, false)
  else
  some (⟨r2.1.op, r2.1.n, r2.1.args⟩, true))))) : Option (Exp × Bool))
  (spec_ExprFrom a0) := by
  exact fun r h => by
    have e : runC (phi Tb GT sg) Tb GT p33000.code (mkST p33000.ins [.str a0] p33000.bins []) (finT p33000 s33000) = (
      bnd (spec_Tokens a0) fun r1 =>
      (bif (!r1.2) then
      some (⟨0, 0, []⟩, false)
      else
      bnd (spec_l5Parse r1.1 0 1) fun r2 =>
      (bif (!decide (r2.2 = (r1.1.length : Int))) then
      some (⟨0, 0, []⟩, false)
      else
      (bif (decide (r2.2 < 0)) then
      some (⟨0, 0, []⟩, false)
      else
      bnd (spec_ExprValid (⟨r2.1.op, r2.1.n, r2.1.args⟩ : Exp)) fun r3 =>
      (bif (!r3) then
      some (⟨0, 0, []⟩, false)
      else
      some (⟨r2.1.op, r2.1.n, r2.1.args⟩, true))))) : Option (Exp × Bool)) := by kernel_rfl
    exact fn_le' (sig := s33000) (p := p33000) (by kernel_rfl) (by kernel_rfl) rfl rfl rfl (e.trans h)

theorem laws_FnTextNeeds_le (a0 : List Int) (a1 : List Int) : Tv.Le
  ((bif (decide (1048576 < (a0.length : Int))) then
  some true
  else
  (bif (decide (1048576 < (a1.length : Int))) then
  some true
  else
  bnd (spec_DrawExprText a0) fun r1 =>
  bnd (impl_ExprText (⟨r1.op, r1.n, r1.args⟩ : Exp)) fun r2 =>
  bnd (spec_ExprText (⟨r1.op, r1.n, r1.args⟩ : Exp)) fun r3 =>
  (bif (!(r2 == r3)) then
  some (r2 == r3)
  else
  (bif (r2 == []) then
  some (r2 == r3)
  else
  bnd (laws_bytesOf r2 40) fun r4 =>
  (bif (decide (r4 = 0)) then
  some true
  else
  bnd (remI (a1.length : Int) r4) fun n5 =>
  bnd (laws_FnTextNeeds_l1 r2 n5 0 0 r1.op r1.n r1.args) fun r6 =>
  bnd (laws_FnTextNeeds_l2 r6.1 r6.2.1 1 r6.2.1 r6.2.2.1 r6.2.2.2.1 r6.2.2.2.2) fun r7 =>
  bnd (cutL r7.1 0 r7.2.1) fun s8 =>
  bnd (cutL r7.1 (wrap64 (r7.2.1 + 1)) r7.2.2.1) fun s9 =>
  bnd (catS s8 s9) fun s10 =>
  bnd (cutL r7.1 (wrap64 (r7.2.2.1 + 1)) (r7.1.length : Int)) fun s11 =>
  bnd (catS s10 s11) fun s12 =>
  bnd (impl_ExprFrom s12) fun r13 =>
  (bif (!r13.2) then
  some true
  else
  bnd (laws_sameExpr (⟨r13.1.op, r13.1.n, r13.1.args⟩ : Exp) (⟨r7.2.2.2.1, r7.2.2.2.2.1, r7.2.2.2.2.2⟩ : Exp)) fun r14 =>
  some (!r14))))))) : Option (Bool))
  (laws_FnTextNeeds a0 a1) := by
  rewrite [← wrapC_eq]
  exact fun r h => by
    have e : runC (phi Tb GT sg) Tb GT p36900.code (mkST p36900.ins [.sl .share .u8 a0, .sl .share .u8 a1] p36900.bins []) (finT p36900 s36900) = (
      (bif (decide (1048576 < (a0.length : Int))) then
      some true
      else
      (bif (decide (1048576 < (a1.length : Int))) then
      some true
      else
      bnd (spec_DrawExprText a0) fun r1 =>
      bnd (impl_ExprText (⟨r1.op, r1.n, r1.args⟩ : Exp)) fun r2 =>
      bnd (spec_ExprText (⟨r1.op, r1.n, r1.args⟩ : Exp)) fun r3 =>
      (bif (!(r2 == r3)) then
      some (r2 == r3)
      else
      (bif (r2 == []) then
      some (r2 == r3)
      else
      bnd (laws_bytesOf r2 40) fun r4 =>
      (bif (decide (r4 = 0)) then
      some true
      else
      bnd (remI (a1.length : Int) r4) fun n5 =>
      bnd (laws_FnTextNeeds_l1 r2 n5 0 0 r1.op r1.n r1.args) fun r6 =>
      bnd (laws_FnTextNeeds_l2 r6.1 r6.2.1 1 r6.2.1 r6.2.2.1 r6.2.2.2.1 r6.2.2.2.2) fun r7 =>
      bnd (cutL r7.1 0 r7.2.1) fun s8 =>
      bnd (cutL r7.1 (wrapC (r7.2.1 + 1)) r7.2.2.1) fun s9 =>
      bnd (catS s8 s9) fun s10 =>
      bnd (cutL r7.1 (wrapC (r7.2.2.1 + 1)) (r7.1.length : Int)) fun s11 =>
      bnd (catS s10 s11) fun s12 =>
      bnd (impl_ExprFrom s12) fun r13 =>
      (bif (!r13.2) then
      some true
      else
      bnd (laws_sameExpr (⟨r13.1.op, r13.1.n, r13.1.args⟩ : Exp) (⟨r7.2.2.2.1, r7.2.2.2.2.1, r7.2.2.2.2.2⟩ : Exp)) fun r14 =>
      some (!r14))))))) : Option (Bool)) := by kernel_rfl
    exact fn_le' (sig := s36900) (p := p36900) (by kernel_rfl) (by kernel_rfl) rfl rfl rfl (e.trans h)

theorem spec_l3Kind_le (a0 : Int) : Tv.Le
  ((bif (decide (48 ≤ a0)) then
  (bif (decide (a0 ≤ 57)) then
  some 1
  else
  (bif (decide (97 ≤ a0)) then
  (bif (decide (a0 ≤ 122)) then
  some 2
  else
  (bif (decide (a0 = 32)) then
  some 3
  else
  (bif (decide (a0 = 10)) then
  some 3
  else
  bnd (spec_l3Kind_l1 a0 ([43, 45, 42, 47, 37, 38, 124, 94, 60, 62, 40, 41, 123, 125, 61, 59]) 0) fun r1 =>
  selm r1 (fun y2 =>
  some 0) (fun z3 =>
  some z3))))
  else
  (bif (decide (a0 = 32)) then
  some 3
  else
  (bif (decide (a0 = 10)) then
  some 3
  else
  bnd (spec_l3Kind_l1 a0 ([43, 45, 42, 47, 37, 38, 124, 94, 60, 62, 40, 41, 123, 125, 61, 59]) 0) fun r4 =>
  selm r4 (fun y5 =>
  some 0) (fun z6 =>
  some z6)))))
  else
  (bif (decide (97 ≤ a0)) then
  (bif (decide (a0 ≤ 122)) then
  some 2
  else
  (bif (decide (a0 = 32)) then
  some 3
  else
  (bif (decide (a0 = 10)) then
  some 3
  else
  bnd (spec_l3Kind_l1 a0 ([43, 45, 42, 47, 37, 38, 124, 94, 60, 62, 40, 41, 123, 125, 61, 59]) 0) fun r7 =>
  selm r7 (fun y8 =>
  some 0) (fun z9 =>
  some z9))))
  else
  (bif (decide (a0 = 32)) then
  some 3
  else
  (bif (decide (a0 = 10)) then
  some 3
  else
  bnd (spec_l3Kind_l1 a0 ([43, 45, 42, 47, 37, 38, 124, 94, 60, 62, 40, 41, 123, 125, 61, 59]) 0) fun r10 =>
  selm r10 (fun y11 =>
  some 0) (fun z12 =>
  some z12))))) : Option (Int))
  (spec_l3Kind a0) := by
  exact fun r h => by
    have e : runC (phi Tb GT sg) Tb GT p31800.code (mkST p31800.ins [.int .u8 a0] p31800.bins []) (finT p31800 s31800) = (
      (bif (decide (48 ≤ a0)) then
      (bif (decide (a0 ≤ 57)) then
      some 1
      else
      (bif (decide (97 ≤ a0)) then
      (bif (decide (a0 ≤ 122)) then
      some 2
      else
      (bif (decide (a0 = 32)) then
      some 3
      else
      (bif (decide (a0 = 10)) then
      some 3
      else
      bnd (spec_l3Kind_l1 a0 ([43, 45, 42, 47, 37, 38, 124, 94, 60, 62, 40, 41, 123, 125, 61, 59]) 0) fun r1 =>
      selm r1 (fun y2 =>
      some 0) (fun z3 =>
      some z3))))
      else
      (bif (decide (a0 = 32)) then
      some 3
      else
      (bif (decide (a0 = 10)) then
      some 3
      else
      bnd (spec_l3Kind_l1 a0 ([43, 45, 42, 47, 37, 38, 124, 94, 60, 62, 40, 41, 123, 125, 61, 59]) 0) fun r4 =>
      selm r4 (fun y5 =>
      some 0) (fun z6 =>
      some z6)))))
      else
      (bif (decide (97 ≤ a0)) then
      (bif (decide (a0 ≤ 122)) then
      some 2
      else
      (bif (decide (a0 = 32)) then
      some 3
      else
      (bif (decide (a0 = 10)) then
      some 3
      else
      bnd (spec_l3Kind_l1 a0 ([43, 45, 42, 47, 37, 38, 124, 94, 60, 62, 40, 41, 123, 125, 61, 59]) 0) fun r7 =>
      selm r7 (fun y8 =>
      some 0) (fun z9 =>
      some z9))))
      else
      (bif (decide (a0 = 32)) then
      some 3
      else
      (bif (decide (a0 = 10)) then
      some 3
      else
      bnd (spec_l3Kind_l1 a0 ([43, 45, 42, 47, 37, 38, 124, 94, 60, 62, 40, 41, 123, 125, 61, 59]) 0) fun r10 =>
      selm r10 (fun y11 =>
      some 0) (fun z12 =>
      some z12))))) : Option (Int)) := by kernel_rfl
    exact fn_le' (sig := s31800) (p := p31800) (by kernel_rfl) (by kernel_rfl) rfl rfl rfl (e.trans h)

theorem spec_l3End_le (a0 : List UInt8) (a1 : Int) : Tv.Le
  (bnd (geti a0 a1) fun c1 =>
  bnd (spec_l3Kind (c1.toNat : Int)) fun r2 =>
  (bif (decide (r2 = 1)) then
  bnd (spec_l3Run a0 a1) fun r3 =>
  some r3
  else
  (bif (decide (r2 = 2)) then
  bnd (spec_l3Run a0 a1) fun r4 =>
  some r4
  else
  (bif (!decide (r2 = 4)) then
  some (-1)
  else
  (bif (decide ((wrap64 (a1 + 2)) ≤ (a0.length : Int))) then
  bnd (cutL a0 a1 (wrap64 (a1 + 2))) fun s5 =>
  bnd (spec_l3Two s5) fun r6 =>
  (bif r6 then
  some (wrap64 (a1 + 2))
  else
  bnd (geti a0 a1) fun c7 =>
  (bif (decide ((c7.toNat : Int) = 62)) then
  some (-1)
  else
  some (wrap64 (a1 + 1))))
  else
  bnd (geti a0 a1) fun c8 =>
  (bif (decide ((c8.toNat : Int) = 62)) then
  some (-1)
  else
  some (wrap64 (a1 + 1))))))) : Option (Int))
  (spec_l3End a0 a1) := by
  rewrite [← wrapC_eq]
  exact fun r h => by
    have e : runC (phi Tb GT sg) Tb GT p32100.code (mkST p32100.ins [.str a0, .int .i64 a1] p32100.bins []) (finT p32100 s32100) = (
      bnd (geti a0 a1) fun c1 =>
      bnd (spec_l3Kind (c1.toNat : Int)) fun r2 =>
      (bif (decide (r2 = 1)) then
      bnd (spec_l3Run a0 a1) fun r3 =>
      some r3
      else
      (bif (decide (r2 = 2)) then
      bnd (spec_l3Run a0 a1) fun r4 =>
      some r4
      else
      (bif (!decide (r2 = 4)) then
      some (-1)
      else
      (bif (decide ((wrapC (a1 + 2)) ≤ (a0.length : Int))) then
      bnd (cutL a0 a1 (wrapC (a1 + 2))) fun s5 =>
      bnd (spec_l3Two s5) fun r6 =>
      (bif r6 then
      some (wrapC (a1 + 2))
      else
      bnd (geti a0 a1) fun c7 =>
      (bif (decide ((c7.toNat : Int) = 62)) then
      some (-1)
      else
      some (wrapC (a1 + 1))))
      else
      bnd (geti a0 a1) fun c8 =>
      (bif (decide ((c8.toNat : Int) = 62)) then
      some (-1)
      else
      some (wrapC (a1 + 1))))))) : Option (Int)) := by kernel_rfl
    exact fn_le' (sig := s32100) (p := p32100) (by kernel_rfl) (by kernel_rfl) rfl rfl rfl (e.trans h)

theorem spec_Tokens_l1_le (t0 : List UInt8) (t4b : Bool) (t4 : List (List UInt8)) (t5 : Int) : Tv.Le
  ((bif (decide (t5 < (t0.length : Int))) then
  bnd (geti t0 t5) fun c1 =>
  bnd (spec_l3Kind (c1.toNat : Int)) fun r2 =>
  (bif (decide (r2 = 3)) then
  spec_Tokens_l1 t0 t4b t4 (wrap64 (t5 + 1))
  else
  bnd (spec_l3End t0 t5) fun r3 =>
  (bif (decide (r3 < 0)) then
  some (.inr ((false, ([] : List (List UInt8))), false, (t4b, t4)))
  else
  bnd (cutL t0 t5 r3) fun s4 =>
  bnd (appL t4 ([s4] : List (List UInt8))) fun l5 =>
  spec_Tokens_l1 t0 true l5 r3))
  else
  some (.inl (t4b, t4))) : Option (((Bool × List (List UInt8))) ⊕ ((Bool × List (List UInt8)) × Bool × (Bool × List (List UInt8)))))
  (spec_Tokens_l1 t0 t4b t4 t5) := by
  rewrite [← wrapC_eq]
  exact fun r h => by
    have e : runC (phi Tb GT sg) Tb GT p32201.code (mkST p32201.ins [.str t0, .sl (.own t4b) .str t4, .int .i64 t5] p32201.bins []) (finL Tb GT 32201 p32201 s32201) = (
      (bif (decide (t5 < (t0.length : Int))) then
      bnd (geti t0 t5) fun c1 =>
      bnd (spec_l3Kind (c1.toNat : Int)) fun r2 =>
      (bif (decide (r2 = 3)) then
      spec_Tokens_l1 t0 t4b t4 (wrapC (t5 + 1))
      else
      bnd (spec_l3End t0 t5) fun r3 =>
      (bif (decide (r3 < 0)) then
      some (.inr ((false, ([] : List (List UInt8))), false, (t4b, t4)))
      else
      bnd (cutL t0 t5 r3) fun s4 =>
      bnd (appL t4 ([s4] : List (List UInt8))) fun l5 =>
      spec_Tokens_l1 t0 true l5 r3))
      else
      some (.inl (t4b, t4))) : Option (((Bool × List (List UInt8))) ⊕ ((Bool × List (List UInt8)) × Bool × (Bool × List (List UInt8))))) := by kernel_rfl
    exact loop_le' (sig := s32201) (p := p32201) (by kernel_rfl) (by kernel_rfl) rfl rfl rfl (e.trans h)

theorem spec_l6In_le (a0 : Int) (a1 : Int) (a2 : Int) : Tv.Le
  ((bif (decide (a1 ≤ a0)) then
  some (decide (a0 ≤ a2))
  else
  some false) : Option (Bool))
  (spec_l6In a0 a1 a2) := by
  exact fun r h => by
    have e : runC (phi Tb GT sg) Tb GT p1600.code (mkST p1600.ins [.int .i64 a0, .int .i64 a1, .int .i64 a2] p1600.bins []) (finT p1600 s1600) = (
      (bif (decide (a1 ≤ a0)) then
      some (decide (a0 ≤ a2))
      else
      some false) : Option (Bool)) := by kernel_rfl
    exact fn_le' (sig := s1600) (p := p1600) (by kernel_rfl) (by kernel_rfl) rfl rfl rfl (e.trans h)

theorem spec_l5Number_l1_le (t0 : List UInt8) (t3 : Int) (t4 : Int) : Tv.Le
  ((bif (decide (t4 < (t0.length : Int))) then
  bnd (geti t0 t4) fun c1 =>
  (bif (decide ((c1.toNat : Int) < 48)) then
  some (.inr ((-1), t3))
  else
  bnd (geti t0 t4) fun c2 =>
  (bif (decide (57 < (c2.toNat : Int))) then
  some (.inr ((-1), t3))
  else
  bnd (geti t0 t4) fun c3 =>
  spec_l5Number_l1 t0 (wrap64 ((wrap64 (10 * t3)) + (wrap64 ((((c3.toNat : Int) - 48) % 256))))) (wrap64 (t4 + 1))))
  else
  some (.inl t3)) : Option (Int ⊕ (Int × Int)))
  (spec_l5Number_l1 t0 t3 t4) := by
  rewrite [← wrapC_eq]
  exact fun r h => by
    have e : runC (phi Tb GT sg) Tb GT p32301.code (mkST p32301.ins [.str t0, .int .i64 t3, .int .i64 t4] p32301.bins []) (finL Tb GT 32301 p32301 s32301) = (
      (bif (decide (t4 < (t0.length : Int))) then
      bnd (geti t0 t4) fun c1 =>
      (bif (decide ((c1.toNat : Int) < 48)) then
      some (.inr ((-1), t3))
      else
      bnd (geti t0 t4) fun c2 =>
      (bif (decide (57 < (c2.toNat : Int))) then
      some (.inr ((-1), t3))
      else
      bnd (geti t0 t4) fun c3 =>
      spec_l5Number_l1 t0 (wrapC ((wrapC (10 * t3)) + (wrapC ((((c3.toNat : Int) - 48) % 256))))) (wrapC (t4 + 1))))
      else
      some (.inl t3)) : Option (Int ⊕ (Int × Int))) := by kernel_rfl
    exact loop_le' (sig := s32301) (p := p32301) (by kernel_rfl) (by kernel_rfl) rfl rfl rfl (e.trans h)

theorem spec_l5Name_le (a0 : Int) : Tv.Le
  (some (Tv.bytes ([(((wrap64 (97 + a0))) % 256)] : List Int)) : Option (List UInt8))
  (spec_l5Name a0) := by
  rewrite [← wrapC_eq]
  exact fun r h => by
    have e : runC (phi Tb GT sg) Tb GT p32400.code (mkST p32400.ins [.int .i64 a0] p32400.bins []) (finT p32400 s32400) = (
      some (Tv.bytes ([(((wrapC (97 + a0))) % 256)] : List Int)) : Option (List UInt8)) := by kernel_rfl
    exact fn_le' (sig := s32400) (p := p32400) (by kernel_rfl) (by kernel_rfl) rfl rfl rfl (e.trans h)

theorem spec_l5Var_l1_le (t0 : List UInt8) (t3 : Int) : Tv.Le
  ((bif (decide (t3 < 4)) then
  bnd (spec_l5Name t3) fun r1 =>
  (bif (t0 == r1) then
  some (.inr t3)
  else
  spec_l5Var_l1 t0 (wrap64 (t3 + 1)))
  else
  some (.inl ())) : Option (Unit ⊕ Int))
  (spec_l5Var_l1 t0 t3) := by
  rewrite [← wrapC_eq]
  exact fun r h => by
    have e : runC (phi Tb GT sg) Tb GT p32501.code (mkST p32501.ins [.str t0, .int .i64 t3] p32501.bins []) (finL Tb GT 32501 p32501 s32501) = (
      (bif (decide (t3 < 4)) then
      bnd (spec_l5Name t3) fun r1 =>
      (bif (t0 == r1) then
      some (.inr t3)
      else
      spec_l5Var_l1 t0 (wrapC (t3 + 1)))
      else
      some (.inl ())) : Option (Unit ⊕ Int)) := by kernel_rfl
    exact loop_le' (sig := s32501) (p := p32501) (by kernel_rfl) (by kernel_rfl) rfl rfl rfl (e.trans h)

theorem spec_l4Leaf_le (a0 : Int) (a1 : Int) : Tv.Le
  (some (a0, a1, ((.own false), ([] : List Exp))) : Option (Int × Int × (Md × List Exp)))
  (spec_l4Leaf a0 a1) := by
  exact fun r h => by
    have e : runC (phi Tb GT sg) Tb GT p300.code (mkST p300.ins [.int .i64 a0, .int .i64 a1] p300.bins []) (finT p300 s300) = (
      some (a0, a1, ((.own false), ([] : List Exp))) : Option (Int × Int × (Md × List Exp))) := by kernel_rfl
    exact fn_le' (sig := s300) (p := p300) (by kernel_rfl) (by kernel_rfl) rfl rfl rfl (e.trans h)

theorem spec_OpText_le (a0 : Int) : Tv.Le
  (bnd (spec_OpValid a0) fun r1 =>
  (bif (!r1) then
  some []
  else
  bnd (geti ([[124], [94], [38], [61, 61], [60], [60, 60], [62, 62], [43], [45], [42], [47], [37]] : List (List UInt8)) (wrap64 (a0 - 1))) fun e2 =>
  some e2) : Option (List UInt8))
  (spec_OpText a0) := by
  rewrite [← wrapC_eq]
  exact fun r h => by
    have e : runC (phi Tb GT sg) Tb GT p20700.code (mkST p20700.ins [.int .i64 a0] p20700.bins []) (finT p20700 s20700) = (
      bnd (spec_OpValid a0) fun r1 =>
      (bif (!r1) then
      some []
      else
      bnd (geti ([[124], [94], [38], [61, 61], [60], [60, 60], [62, 62], [43], [45], [42], [47], [37]] : List (List UInt8)) (wrapC (a0 - 1))) fun e2 =>
      some e2) : Option (List UInt8)) := by kernel_rfl
    exact fn_le' (sig := s20700) (p := p20700) (by kernel_rfl) (by kernel_rfl) rfl rfl rfl (e.trans h)

theorem spec_l5Op_l1_le (t0 : List UInt8) (t3 : Int) : Tv.Le
  ((bif (decide (t3 ≤ 12)) then
  bnd (spec_OpText t3) fun r1 =>
  (bif (t0 == r1) then
  some (.inr t3)
  else
  spec_l5Op_l1 t0 (wrap64 (t3 + 1)))
  else
  some (.inl ())) : Option (Unit ⊕ Int))
  (spec_l5Op_l1 t0 t3) := by
  rewrite [← wrapC_eq]
  exact fun r h => by
    have e : runC (phi Tb GT sg) Tb GT p32801.code (mkST p32801.ins [.str t0, .int .i64 t3] p32801.bins []) (finL Tb GT 32801 p32801 s32801) = (
      (bif (decide (t3 ≤ 12)) then
      bnd (spec_OpText t3) fun r1 =>
      (bif (t0 == r1) then
      some (.inr t3)
      else
      spec_l5Op_l1 t0 (wrapC (t3 + 1)))
      else
      some (.inl ())) : Option (Unit ⊕ Int)) := by kernel_rfl
    exact loop_le' (sig := s32801) (p := p32801) (by kernel_rfl) (by kernel_rfl) rfl rfl rfl (e.trans h)

theorem spec_OpLevel_le (a0 : Int) : Tv.Le
  (bnd (spec_OpValid a0) fun r1 =>
  (bif (!r1) then
  some 0
  else
  bnd (geti ([1, 2, 3, 4, 5, 6, 6, 7, 7, 8, 8, 8] : List Int) (wrap64 (a0 - 1))) fun e2 =>
  some e2) : Option (Int))
  (spec_OpLevel a0) := by
  rewrite [← wrapC_eq]
  exact fun r h => by
    have e : runC (phi Tb GT sg) Tb GT p32700.code (mkST p32700.ins [.int .i64 a0] p32700.bins []) (finT p32700 s32700) = (
      bnd (spec_OpValid a0) fun r1 =>
      (bif (!r1) then
      some 0
      else
      bnd (geti ([1, 2, 3, 4, 5, 6, 6, 7, 7, 8, 8, 8] : List Int) (wrapC (a0 - 1))) fun e2 =>
      some e2) : Option (Int)) := by kernel_rfl
    exact fn_le' (sig := s32700) (p := p32700) (by kernel_rfl) (by kernel_rfl) rfl rfl rfl (e.trans h)

theorem spec_l4Both_le (a0 : Int) (a1 : Exp) (a2 : Exp) : Tv.Le
  (some (a0, 0, (.full, ([⟨a1.op, a1.n, a1.args⟩, ⟨a2.op, a2.n, a2.args⟩] : List Exp))) : Option (Int × Int × (Md × List Exp)))
  (spec_l4Both a0 a1 a2) := by
  exact fun r h => by
    have e : runC (phi Tb GT sg) Tb GT p500.code (mkST p500.ins [.int .i64 a0, .agg (rowT .exp a1), .agg (rowT .exp a2)] p500.bins []) (finT p500 s500) = (
      some (a0, 0, (.full, ([⟨a1.op, a1.n, a1.args⟩, ⟨a2.op, a2.n, a2.args⟩] : List Exp))) : Option (Int × Int × (Md × List Exp))) := by kernel_rfl
    exact fn_le' (sig := s500) (p := p500) (by kernel_rfl) (by kernel_rfl) rfl rfl rfl (e.trans h)

theorem spec_l5Parse_l1_le (t0 : List (List UInt8)) (t2 : Int) (t9 : Int) (b100_0 : Int) (b100_1 : Int) (b100_2b : Bool) (b100_2 : List Exp) (b101_0 : Int) (b101_1 : Int) (b101_2m : Md) (b101_2 : List Exp) : Tv.Le
  ((bif (decide (0 ≤ t9)) then
  (bif (decide (t9 < (t0.length : Int))) then
  bnd (geti t0 t9) fun e1 =>
  bnd (spec_l5Op e1) fun r2 =>
  bnd (spec_OpLevel r2) fun r3 =>
  (bif (decide (r3 = t2)) then
  bnd (geti t0 t9) fun e4 =>
  bnd (spec_l5Op e4) fun r5 =>
  bnd (spec_l5Parse t0 (wrap64 (t9 + 1)) (wrap64 (t2 + 1))) fun r6 =>
  bnd (spec_l4Both r5 (⟨b101_0, b101_1, b101_2⟩ : Exp) (⟨r6.1.op, r6.1.n, r6.1.args⟩ : Exp)) fun r7 =>
  spec_l5Parse_l1 t0 t2 r6.2 b100_0 b100_1 b100_2b b100_2 r7.1 r7.2.1 (Md.dem r7.2.2.1) r7.2.2.2
  else
  some (t9, b100_0, b100_1, (b100_2b, b100_2), b101_0, b101_1, (b101_2m, b101_2)))
  else
  some (t9, b100_0, b100_1, (b100_2b, b100_2), b101_0, b101_1, (b101_2m, b101_2)))
  else
  some (t9, b100_0, b100_1, (b100_2b, b100_2), b101_0, b101_1, (b101_2m, b101_2))) : Option (Int × Int × Int × (Bool × List Exp) × Int × Int × (Md × List Exp)))
  (spec_l5Parse_l1 t0 t2 t9 b100_0 b100_1 b100_2b b100_2 b101_0 b101_1 b101_2m b101_2) := by
  rewrite [← wrapC_eq]
  exact fun r h => by
    have e : runC (phi Tb GT sg) Tb GT p32901.code (mkST p32901.ins [.sl .share .str t0, .int .i64 t2, .bp 100 0, .bp 101 0, .int .i64 t9] p32901.bins [.var [.int .i64 b100_0, .int .i64 b100_1, .sl (.own b100_2b) .exp b100_2], .var [.int .i64 b101_0, .int .i64 b101_1, .sl b101_2m .exp b101_2]]) (finL Tb GT 32901 p32901 s32901) = (
      (bif (decide (0 ≤ t9)) then
      (bif (decide (t9 < (t0.length : Int))) then
      bnd (geti t0 t9) fun e1 =>
      bnd (spec_l5Op e1) fun r2 =>
      bnd (spec_OpLevel r2) fun r3 =>
      (bif (decide (r3 = t2)) then
      bnd (geti t0 t9) fun e4 =>
      bnd (spec_l5Op e4) fun r5 =>
      bnd (spec_l5Parse t0 (wrapC (t9 + 1)) (wrapC (t2 + 1))) fun r6 =>
      bnd (spec_l4Both r5 (⟨b101_0, b101_1, b101_2⟩ : Exp) (⟨r6.1.op, r6.1.n, r6.1.args⟩ : Exp)) fun r7 =>
      spec_l5Parse_l1 t0 t2 r6.2 b100_0 b100_1 b100_2b b100_2 r7.1 r7.2.1 (Md.dem r7.2.2.1) r7.2.2.2
      else
      some (t9, b100_0, b100_1, (b100_2b, b100_2), b101_0, b101_1, (b101_2m, b101_2)))
      else
      some (t9, b100_0, b100_1, (b100_2b, b100_2), b101_0, b101_1, (b101_2m, b101_2)))
      else
      some (t9, b100_0, b100_1, (b100_2b, b100_2), b101_0, b101_1, (b101_2m, b101_2))) : Option (Int × Int × Int × (Bool × List Exp) × Int × Int × (Md × List Exp))) := by kernel_rfl
    exact loop_le' (sig := s32901) (p := p32901) (by kernel_rfl) (by kernel_rfl) rfl rfl rfl (e.trans h)

theorem spec_ExprValid_le (a0 : Exp) : Tv.Le
  (bnd (spec_l4Ok (⟨a0.op, a0.n, a0.args⟩ : Exp) 5) fun r1 =>
  some r1 : Option (Bool))
  (spec_ExprValid a0) := by
  exact fun r h => by
    have e : runC (phi Tb GT sg) Tb GT p1900.code (mkST p1900.ins [.agg (rowT .exp a0)] p1900.bins []) (finT p1900 s1900) = (
      bnd (spec_l4Ok (⟨a0.op, a0.n, a0.args⟩ : Exp) 5) fun r1 =>
      some r1 : Option (Bool)) := by kernel_rfl
    exact fn_le' (sig := s1900) (p := p1900) (by kernel_rfl) (by kernel_rfl) rfl rfl rfl (e.trans h)

theorem spec_DrawExprText_le (a0 : List Int) : Tv.Le
  (bnd (spec_l6Open a0) fun r1 =>
  bnd (spec_l91Spoilt r1.1 r1.2) fun r2 =>
  some (⟨r2.1.op, r2.1.n, r2.1.args⟩) : Option (Exp))
  (spec_DrawExprText a0) := by
  exact fun r h => by
    have e : runC (phi Tb GT sg) Tb GT p36100.code (mkST p36100.ins [.sl .share .u8 a0] p36100.bins []) (finT p36100 s36100) = (
      bnd (spec_l6Open a0) fun r1 =>
      bnd (spec_l91Spoilt r1.1 r1.2) fun r2 =>
      some (⟨r2.1.op, r2.1.n, r2.1.args⟩) : Option (Exp)) := by kernel_rfl
    exact fn_le' (sig := s36100) (p := p36100) (by kernel_rfl) (by kernel_rfl) rfl rfl rfl (e.trans h)

theorem impl_ExprText_le (a0 : Exp) : Tv.Le
  (bnd (impl_ExprValid (⟨a0.op, a0.n, a0.args⟩ : Exp)) fun r1 =>
  (bif (!r1) then
  some []
  else
  bnd (impl_exprTokens (⟨a0.op, a0.n, a0.args⟩ : Exp) []) fun r2 =>
  bnd (impl_TokensText r2) fun r3 =>
  some r3) : Option (List UInt8))
  (impl_ExprText a0) := by
  exact fun r h => by
    have e : runC (phi Tb GT sg) Tb GT p36700.code (mkST p36700.ins [.agg (rowT .exp a0)] p36700.bins []) (finT p36700 s36700) = (
      bnd (impl_ExprValid (⟨a0.op, a0.n, a0.args⟩ : Exp)) fun r1 =>
      (bif (!r1) then
      some []
      else
      bnd (impl_exprTokens (⟨a0.op, a0.n, a0.args⟩ : Exp) []) fun r2 =>
      bnd (impl_TokensText r2) fun r3 =>
      some r3) : Option (List UInt8)) := by kernel_rfl
    exact fn_le' (sig := s36700) (p := p36700) (by kernel_rfl) (by kernel_rfl) rfl rfl rfl (e.trans h)

theorem spec_ExprText_le (a0 : Exp) : Tv.Le
  (bnd (spec_ExprValid (⟨a0.op, a0.n, a0.args⟩ : Exp)) fun r1 =>
  (bif (!r1) then
  some []
  else
  bnd (spec_l5Tokens (⟨a0.op, a0.n, a0.args⟩ : Exp)) fun r2 =>
  bnd (spec_TokensText r2) fun r3 =>
  some r3) : Option (List UInt8))
  (spec_ExprText a0) := by
  exact fun r h => by
    have e : runC (phi Tb GT sg) Tb GT p35400.code (mkST p35400.ins [.agg (rowT .exp a0)] p35400.bins []) (finT p35400 s35400) = (
      bnd (spec_ExprValid (⟨a0.op, a0.n, a0.args⟩ : Exp)) fun r1 =>
      (bif (!r1) then
      some []
      else
      bnd (spec_l5Tokens (⟨a0.op, a0.n, a0.args⟩ : Exp)) fun r2 =>
      bnd (spec_TokensText r2) fun r3 =>
      some r3) : Option (List UInt8)) := by kernel_rfl
    exact fn_le' (sig := s35400) (p := p35400) (by kernel_rfl) (by kernel_rfl) rfl rfl rfl (e.trans h)

theorem laws_bytesOf_le (a0 : List UInt8) (a1 : Int) : Tv.Le
  (bnd (laws_bytesOf_l1 a0 a1 0 0) fun r1 =>
  some r1 : Option (Int))
  (laws_bytesOf a0 a1) := by
  exact fun r h => by
    have e : runC (phi Tb GT sg) Tb GT p21500.code (mkST p21500.ins [.str a0, .int .u8 a1] p21500.bins []) (finT p21500 s21500) = (
      bnd (laws_bytesOf_l1 a0 a1 0 0) fun r1 =>
      some r1 : Option (Int)) := by kernel_rfl
    exact fn_le' (sig := s21500) (p := p21500) (by kernel_rfl) (by kernel_rfl) rfl rfl rfl (e.trans h)

theorem laws_FnTextNeeds_l1_le (t6 : List UInt8) (t9 : Int) (t10 : Int) (t11 : Int) (b100_0 : Int) (b100_1 : Int) (b100_2 : List Exp) : Tv.Le
  ((bif (decide (0 ≤ t9)) then
  bnd (geti t6 t11) fun c1 =>
  (bif (decide ((c1.toNat : Int) = 40)) then
  laws_FnTextNeeds_l1 t6 (wrap64 (t9 - 1)) t11 (wrap64 (t11 + 1)) b100_0 b100_1 b100_2
  else
  laws_FnTextNeeds_l1 t6 t9 t10 (wrap64 (t11 + 1)) b100_0 b100_1 b100_2)
  else
  some (t6, t10, b100_0, b100_1, b100_2)) : Option (List UInt8 × Int × Int × Int × List Exp))
  (laws_FnTextNeeds_l1 t6 t9 t10 t11 b100_0 b100_1 b100_2) := by
  rewrite [← wrapC_eq]
  exact fun r h => by
    have e : runC (phi Tb GT sg) Tb GT p36901.code (mkST p36901.ins [.bp 100 0, .str t6, .int .i64 t9, .int .i64 t10, .int .i64 t11] p36901.bins [.var [.int .i64 b100_0, .int .i64 b100_1, .sl .share .exp b100_2]]) (finL Tb GT 36901 p36901 s36901) = (
      (bif (decide (0 ≤ t9)) then
      bnd (geti t6 t11) fun c1 =>
      (bif (decide ((c1.toNat : Int) = 40)) then
      laws_FnTextNeeds_l1 t6 (wrapC (t9 - 1)) t11 (wrapC (t11 + 1)) b100_0 b100_1 b100_2
      else
      laws_FnTextNeeds_l1 t6 t9 t10 (wrapC (t11 + 1)) b100_0 b100_1 b100_2)
      else
      some (t6, t10, b100_0, b100_1, b100_2)) : Option (List UInt8 × Int × Int × Int × List Exp)) := by kernel_rfl
    exact loop_le' (sig := s36901) (p := p36901) (by kernel_rfl) (by kernel_rfl) rfl rfl rfl (e.trans h)

theorem laws_FnTextNeeds_l2_le (t6 : List UInt8) (t10 : Int) (t12 : Int) (t13 : Int) (b100_0 : Int) (b100_1 : Int) (b100_2 : List Exp) : Tv.Le
  ((bif (decide (0 < t12)) then
  bnd (geti t6 (wrap64 (t13 + 1))) fun c1 =>
  (bif (decide ((c1.toNat : Int) = 40)) then
  bnd (geti t6 (wrap64 (t13 + 1))) fun c2 =>
  (bif (decide ((c2.toNat : Int) = 41)) then
  laws_FnTextNeeds_l2 t6 t10 (wrap64 ((wrap64 (t12 + 1)) - 1)) (wrap64 (t13 + 1)) b100_0 b100_1 b100_2
  else
  laws_FnTextNeeds_l2 t6 t10 (wrap64 (t12 + 1)) (wrap64 (t13 + 1)) b100_0 b100_1 b100_2)
  else
  bnd (geti t6 (wrap64 (t13 + 1))) fun c3 =>
  (bif (decide ((c3.toNat : Int) = 41)) then
  laws_FnTextNeeds_l2 t6 t10 (wrap64 (t12 - 1)) (wrap64 (t13 + 1)) b100_0 b100_1 b100_2
  else
  laws_FnTextNeeds_l2 t6 t10 t12 (wrap64 (t13 + 1)) b100_0 b100_1 b100_2))
  else
  some (t6, t10, t13, b100_0, b100_1, b100_2)) : Option (List UInt8 × Int × Int × Int × Int × List Exp))
  (laws_FnTextNeeds_l2 t6 t10 t12 t13 b100_0 b100_1 b100_2) := by
  rewrite [← wrapC_eq]
  exact fun r h => by
    have e : runC (phi Tb GT sg) Tb GT p36902.code (mkST p36902.ins [.bp 100 0, .str t6, .int .i64 t10, .int .i64 t12, .int .i64 t13] p36902.bins [.var [.int .i64 b100_0, .int .i64 b100_1, .sl .share .exp b100_2]]) (finL Tb GT 36902 p36902 s36902) = (
      (bif (decide (0 < t12)) then
      bnd (geti t6 (wrapC (t13 + 1))) fun c1 =>
      (bif (decide ((c1.toNat : Int) = 40)) then
      bnd (geti t6 (wrapC (t13 + 1))) fun c2 =>
      (bif (decide ((c2.toNat : Int) = 41)) then
      laws_FnTextNeeds_l2 t6 t10 (wrapC ((wrapC (t12 + 1)) - 1)) (wrapC (t13 + 1)) b100_0 b100_1 b100_2
      else
      laws_FnTextNeeds_l2 t6 t10 (wrapC (t12 + 1)) (wrapC (t13 + 1)) b100_0 b100_1 b100_2)
      else
      bnd (geti t6 (wrapC (t13 + 1))) fun c3 =>
      (bif (decide ((c3.toNat : Int) = 41)) then
      laws_FnTextNeeds_l2 t6 t10 (wrapC (t12 - 1)) (wrapC (t13 + 1)) b100_0 b100_1 b100_2
      else
      laws_FnTextNeeds_l2 t6 t10 t12 (wrapC (t13 + 1)) b100_0 b100_1 b100_2))
      else
      some (t6, t10, t13, b100_0, b100_1, b100_2)) : Option (List UInt8 × Int × Int × Int × Int × List Exp)) := by kernel_rfl
    exact loop_le' (sig := s36902) (p := p36902) (by kernel_rfl) (by kernel_rfl) rfl rfl rfl (e.trans h)

theorem impl_ExprFrom_le (a0 : List UInt8) : Tv.Le
  (bnd (impl_Tokens a0) fun r1 =>
  (bif (!r1.2) then
  some (⟨0, 0, []⟩, false)
  else
  bnd (impl_parser_expr 1 r1.1 0 false) fun r2 =>
  (bif r2.2.2.2 then
  some (⟨0, 0, []⟩, false)
  else
  (bif (!decide (r2.2.2.1 = (r1.1.length : Int))) then
  some (⟨0, 0, []⟩, false)
  else
  bnd (impl_ExprValid (⟨r2.1.op, r2.1.n, r2.1.args⟩ : Exp)) fun r3 =>
  (bif (!r3) then
  some (⟨0, 0, []⟩, false)
  else
  some (⟨r2.1.op, r2.1.n, r2.1.args⟩, true))))) : Option (Exp × Bool))
  (impl_ExprFrom a0) := by
  exact fun r h => by
    have e : runC (phi Tb GT sg) Tb GT p34500.code (mkST p34500.ins [.str a0] p34500.bins []) (finT p34500 s34500) = (
      bnd (impl_Tokens a0) fun r1 =>
      (bif (!r1.2) then
      some (⟨0, 0, []⟩, false)
      else
      bnd (impl_parser_expr 1 r1.1 0 false) fun r2 =>
      (bif r2.2.2.2 then
      some (⟨0, 0, []⟩, false)
      else
      (bif (!decide (r2.2.2.1 = (r1.1.length : Int))) then
      some (⟨0, 0, []⟩, false)
      else
      bnd (impl_ExprValid (⟨r2.1.op, r2.1.n, r2.1.args⟩ : Exp)) fun r3 =>
      (bif (!r3) then
      some (⟨0, 0, []⟩, false)
      else
      some (⟨r2.1.op, r2.1.n, r2.1.args⟩, true))))) : Option (Exp × Bool)) := by kernel_rfl
    exact fn_le' (sig := s34500) (p := p34500) (by kernel_rfl) (by kernel_rfl) rfl rfl rfl (e.trans h)

theorem laws_sameExpr_le (a0 : Exp) (a1 : Exp) : Tv.Le
  ((bif (!decide (a0.op = a1.op)) then
  some false
  else
  (bif (!decide (a0.n = a1.n)) then
  some false
  else
  (bif (!decide ((a0.args.length : Int) = (a1.args.length : Int))) then
  some false
  else
  bnd (laws_sameExpr_l1 0 a0.op a0.n a0.args a1.op a1.n a1.args) fun r1 =>
  selm r1 (fun y2 =>
  some true) (fun z3 =>
  some z3)))) : Option (Bool))
  (laws_sameExpr a0 a1) := by
  exact fun r h => by
    have e : runC (phi Tb GT sg) Tb GT p9800.code (mkST p9800.ins [.agg (rowT .exp a0), .agg (rowT .exp a1)] p9800.bins []) (finT p9800 s9800) = (
      (bif (!decide (a0.op = a1.op)) then
      some false
      else
      (bif (!decide (a0.n = a1.n)) then
      some false
      else
      (bif (!decide ((a0.args.length : Int) = (a1.args.length : Int))) then
      some false
      else
      bnd (laws_sameExpr_l1 0 a0.op a0.n a0.args a1.op a1.n a1.args) fun r1 =>
      selm r1 (fun y2 =>
      some true) (fun z3 =>
      some z3)))) : Option (Bool)) := by kernel_rfl
    exact fn_le' (sig := s9800) (p := p9800) (by kernel_rfl) (by kernel_rfl) rfl rfl rfl (e.trans h)

theorem spec_l3Kind_l1_le (t0 : Int) (t3 : List UInt8) (t4 : Int) : Tv.Le
  ((bif (decide (t4 < (t3.length : Int))) then
  bnd (geti t3 t4) fun c1 =>
  (bif (decide ((c1.toNat : Int) = t0)) then
  some (.inr 4)
  else
  spec_l3Kind_l1 t0 t3 (wrap64 (t4 + 1)))
  else
  some (.inl ())) : Option (Unit ⊕ Int))
  (spec_l3Kind_l1 t0 t3 t4) := by
  rewrite [← wrapC_eq]
  exact fun r h => by
    have e : runC (phi Tb GT sg) Tb GT p31801.code (mkST p31801.ins [.int .u8 t0, .str t3, .int .i64 t4] p31801.bins []) (finL Tb GT 31801 p31801 s31801) = (
      (bif (decide (t4 < (t3.length : Int))) then
      bnd (geti t3 t4) fun c1 =>
      (bif (decide ((c1.toNat : Int) = t0)) then
      some (.inr 4)
      else
      spec_l3Kind_l1 t0 t3 (wrapC (t4 + 1)))
      else
      some (.inl ())) : Option (Unit ⊕ Int)) := by kernel_rfl
    exact loop_le' (sig := s31801) (p := p31801) (by kernel_rfl) (by kernel_rfl) rfl rfl rfl (e.trans h)

theorem spec_l3Run_le (a0 : List UInt8) (a1 : Int) : Tv.Le
  (bnd (spec_l3Run_l1 a0 a1 a1) fun r1 =>
  some r1 : Option (Int))
  (spec_l3Run a0 a1) := by
  exact fun r h => by
    have e : runC (phi Tb GT sg) Tb GT p31900.code (mkST p31900.ins [.str a0, .int .i64 a1] p31900.bins []) (finT p31900 s31900) = (
      bnd (spec_l3Run_l1 a0 a1 a1) fun r1 =>
      some r1 : Option (Int)) := by kernel_rfl
    exact fn_le' (sig := s31900) (p := p31900) (by kernel_rfl) (by kernel_rfl) rfl rfl rfl (e.trans h)

theorem spec_l3Two_le (a0 : List UInt8) : Tv.Le
  ((bif (a0 == ([60, 60])) then
  some true
  else
  (bif (a0 == ([62, 62])) then
  some true
  else
  some (a0 == ([61, 61])))) : Option (Bool))
  (spec_l3Two a0) := by
  exact fun r h => by
    have e : runC (phi Tb GT sg) Tb GT p32000.code (mkST p32000.ins [.str a0] p32000.bins []) (finT p32000 s32000) = (
      (bif (a0 == ([60, 60])) then
      some true
      else
      (bif (a0 == ([62, 62])) then
      some true
      else
      some (a0 == ([61, 61])))) : Option (Bool)) := by kernel_rfl
    exact fn_le' (sig := s32000) (p := p32000) (by kernel_rfl) (by kernel_rfl) rfl rfl rfl (e.trans h)

theorem spec_OpValid_le (a0 : Int) : Tv.Le
  (bnd (spec_l6In a0 1 12) fun r1 =>
  some r1 : Option (Bool))
  (spec_OpValid a0) := by
  exact fun r h => by
    have e : runC (phi Tb GT sg) Tb GT p1700.code (mkST p1700.ins [.int .i64 a0] p1700.bins []) (finT p1700 s1700) = (
      bnd (spec_l6In a0 1 12) fun r1 =>
      some r1 : Option (Bool)) := by kernel_rfl
    exact fn_le' (sig := s1700) (p := p1700) (by kernel_rfl) (by kernel_rfl) rfl rfl rfl (e.trans h)

theorem spec_l4Ok_le (a0 : Exp) (a1 : Int) : Tv.Le
  ((bif (decide (a1 < 1)) then
  some false
  else
  (bif (decide (a0.op = 0)) then
  bnd (spec_l6In a0.n 0 99999) fun r1 =>
  (bif r1 then
  some (decide ((a0.args.length : Int) = 0))
  else
  some false)
  else
  (bif (decide (a0.op = 13)) then
  bnd (spec_l6In a0.n 0 3) fun r2 =>
  (bif r2 then
  some (decide ((a0.args.length : Int) = 0))
  else
  some false)
  else
  bnd (spec_OpValid a0.op) fun r3 =>
  (bif r3 then
  (bif (decide (a0.n = 0)) then
  (bif (decide ((a0.args.length : Int) = 2)) then
  bnd (geti a0.args 0) fun e4 =>
  bnd (spec_l4Ok (⟨e4.op, e4.n, e4.args⟩ : Exp) (wrap64 (a1 - 1))) fun r5 =>
  (bif r5 then
  bnd (geti a0.args 1) fun e6 =>
  bnd (spec_l4Ok (⟨e6.op, e6.n, e6.args⟩ : Exp) (wrap64 (a1 - 1))) fun r7 =>
  some r7
  else
  some false)
  else
  some false)
  else
  some false)
  else
  some false)))) : Option (Bool))
  (spec_l4Ok a0 a1) := by
  rewrite [← wrapC_eq]
  exact fun r h => by
    have e : runC (phi Tb GT sg) Tb GT p1800.code (mkST p1800.ins [.agg (rowT .exp a0), .int .i64 a1] p1800.bins []) (finT p1800 s1800) = (
      (bif (decide (a1 < 1)) then
      some false
      else
      (bif (decide (a0.op = 0)) then
      bnd (spec_l6In a0.n 0 99999) fun r1 =>
      (bif r1 then
      some (decide ((a0.args.length : Int) = 0))
      else
      some false)
      else
      (bif (decide (a0.op = 13)) then
      bnd (spec_l6In a0.n 0 3) fun r2 =>
      (bif r2 then
      some (decide ((a0.args.length : Int) = 0))
      else
      some false)
      else
      bnd (spec_OpValid a0.op) fun r3 =>
      (bif r3 then
      (bif (decide (a0.n = 0)) then
      (bif (decide ((a0.args.length : Int) = 2)) then
      bnd (geti a0.args 0) fun e4 =>
      bnd (spec_l4Ok (⟨e4.op, e4.n, e4.args⟩ : Exp) (wrapC (a1 - 1))) fun r5 =>
      (bif r5 then
      bnd (geti a0.args 1) fun e6 =>
      bnd (spec_l4Ok (⟨e6.op, e6.n, e6.args⟩ : Exp) (wrapC (a1 - 1))) fun r7 =>
      some r7
      else
      some false)
      else
      some false)
      else
      some false)
      else
      some false)))) : Option (Bool)) := by kernel_rfl
    exact fn_le' (sig := s1800) (p := p1800) (by kernel_rfl) (by kernel_rfl) rfl rfl rfl (e.trans h)

theorem spec_l6Open_le (a0 : List Int) : Tv.Le
  ((bif (decide (2000 < (a0.length : Int))) then
  bnd (cutL a0 0 2000) fun l1 =>
  some (l1, 0)
  else
  some (a0, 0)) : Option (List Int × Int))
  (spec_l6Open a0) := by
  exact fun r h => by
    have e : runC (phi Tb GT sg) Tb GT p100.code (mkST p100.ins [.sl .share .u8 a0] p100.bins []) (finT p100 s100) = (
      (bif (decide (2000 < (a0.length : Int))) then
      bnd (cutL a0 0 2000) fun l1 =>
      some (l1, 0)
      else
      some (a0, 0)) : Option (List Int × Int)) := by kernel_rfl
    exact fn_le' (sig := s100) (p := p100) (by kernel_rfl) (by kernel_rfl) rfl rfl rfl (e.trans h)

theorem spec_l91Spoilt_le (a0b : List Int) (a0p : Int) : Tv.Le
  (bnd (spec_l6Rd_pick 4 a0b a0p) fun r1 =>
  bnd (spec_l91Expr (wrap64 (2 + r1.1)) r1.2.1 r1.2.2) fun r2 =>
  bnd (spec_l6Rd_pick 40 r2.2.2.2.1 r2.2.2.2.2) fun r3 =>
  (bif (decide (r3.1 = 0)) then
  bnd (spec_l6Rd_pick 2 r3.2.1 r3.2.2) fun r4 =>
  bnd (geti ([(-1), 100000] : List Int) r4.1) fun e5 =>
  some (⟨r2.1, e5, r2.2.2.1.2⟩, r4.2.1, r4.2.2)
  else
  (bif (decide (r3.1 = 1)) then
  bnd (spec_l6Rd_pick 2 r3.2.1 r3.2.2) fun r6 =>
  bnd (geti ([(-1), 14] : List Int) r6.1) fun e7 =>
  some (⟨e7, r2.2.1, r2.2.2.1.2⟩, r6.2.1, r6.2.2)
  else
  (bif (decide (r3.1 = 2)) then
  bnd (spec_l91Leaf r3.2.1 r3.2.2) fun r8 =>
  bnd (appM (Md.dem r2.2.2.1.1) r2.2.2.1.2 ([⟨r8.1, r8.2.1, r8.2.2.1.2⟩] : List Exp)) fun l9 =>
  some (⟨r2.1, r2.2.1, l9⟩, r8.2.2.2.1, r8.2.2.2.2)
  else
  (bif (decide (r3.1 = 3)) then
  bnd (spec_l91Leaf r3.2.1 r3.2.2) fun r10 =>
  bnd (spec_l4Both 8 (⟨r2.1, r2.2.1, r2.2.2.1.2⟩ : Exp) (⟨r10.1, r10.2.1, r10.2.2.1.2⟩ : Exp)) fun r11 =>
  bnd (spec_l91Expr 5 r10.2.2.2.1 r10.2.2.2.2) fun r12 =>
  bnd (spec_l4Both 8 (⟨r11.1, r11.2.1, r11.2.2.2⟩ : Exp) (⟨r12.1, r12.2.1, r12.2.2.1.2⟩ : Exp)) fun r13 =>
  some (⟨r13.1, r13.2.1, r13.2.2.2⟩, r12.2.2.2.1, r12.2.2.2.2)
  else
  (bif (decide (r3.1 = 4)) then
  bnd (spec_l91Op r3.2.1 r3.2.2) fun r14 =>
  bnd (spec_l91Expr 4 r14.2.1 r14.2.2) fun r15 =>
  bnd (spec_l4Leaf 13 4) fun r16 =>
  bnd (spec_l4Both r14.1 (⟨r15.1, r15.2.1, r15.2.2.1.2⟩ : Exp) (⟨r16.1, r16.2.1, r16.2.2.2⟩ : Exp)) fun r17 =>
  some (⟨r17.1, r17.2.1, r17.2.2.2⟩, r15.2.2.2.1, r15.2.2.2.2)
  else
  some (⟨r2.1, r2.2.1, r2.2.2.1.2⟩, r3.2.1, r3.2.2)))))) : Option (Exp × List Int × Int))
  (spec_l91Spoilt a0b a0p) := by
  rewrite [← wrapC_eq]
  exact fun r h => by
    have e : runC (phi Tb GT sg) Tb GT p800.code (mkST p800.ins [.bp 0 0] p800.bins [.var [.sl .share .u8 a0b, .int .i64 a0p]]) (finT p800 s800) = (
      bnd (spec_l6Rd_pick 4 a0b a0p) fun r1 =>
      bnd (spec_l91Expr (wrapC (2 + r1.1)) r1.2.1 r1.2.2) fun r2 =>
      bnd (spec_l6Rd_pick 40 r2.2.2.2.1 r2.2.2.2.2) fun r3 =>
      (bif (decide (r3.1 = 0)) then
      bnd (spec_l6Rd_pick 2 r3.2.1 r3.2.2) fun r4 =>
      bnd (geti ([(-1), 100000] : List Int) r4.1) fun e5 =>
      some (⟨r2.1, e5, r2.2.2.1.2⟩, r4.2.1, r4.2.2)
      else
      (bif (decide (r3.1 = 1)) then
      bnd (spec_l6Rd_pick 2 r3.2.1 r3.2.2) fun r6 =>
      bnd (geti ([(-1), 14] : List Int) r6.1) fun e7 =>
      some (⟨e7, r2.2.1, r2.2.2.1.2⟩, r6.2.1, r6.2.2)
      else
      (bif (decide (r3.1 = 2)) then
      bnd (spec_l91Leaf r3.2.1 r3.2.2) fun r8 =>
      bnd (appM (Md.dem r2.2.2.1.1) r2.2.2.1.2 ([⟨r8.1, r8.2.1, r8.2.2.1.2⟩] : List Exp)) fun l9 =>
      some (⟨r2.1, r2.2.1, l9⟩, r8.2.2.2.1, r8.2.2.2.2)
      else
      (bif (decide (r3.1 = 3)) then
      bnd (spec_l91Leaf r3.2.1 r3.2.2) fun r10 =>
      bnd (spec_l4Both 8 (⟨r2.1, r2.2.1, r2.2.2.1.2⟩ : Exp) (⟨r10.1, r10.2.1, r10.2.2.1.2⟩ : Exp)) fun r11 =>
      bnd (spec_l91Expr 5 r10.2.2.2.1 r10.2.2.2.2) fun r12 =>
      bnd (spec_l4Both 8 (⟨r11.1, r11.2.1, r11.2.2.2⟩ : Exp) (⟨r12.1, r12.2.1, r12.2.2.1.2⟩ : Exp)) fun r13 =>
      some (⟨r13.1, r13.2.1, r13.2.2.2⟩, r12.2.2.2.1, r12.2.2.2.2)
      else
      (bif (decide (r3.1 = 4)) then
      bnd (spec_l91Op r3.2.1 r3.2.2) fun r14 =>
      bnd (spec_l91Expr 4 r14.2.1 r14.2.2) fun r15 =>
      bnd (spec_l4Leaf 13 4) fun r16 =>
      bnd (spec_l4Both r14.1 (⟨r15.1, r15.2.1, r15.2.2.1.2⟩ : Exp) (⟨r16.1, r16.2.1, r16.2.2.2⟩ : Exp)) fun r17 =>
      some (⟨r17.1, r17.2.1, r17.2.2.2⟩, r15.2.2.2.1, r15.2.2.2.2)
      else
      some (⟨r2.1, r2.2.1, r2.2.2.1.2⟩, r3.2.1, r3.2.2)))))) : Option (Exp × List Int × Int)) := by kernel_rfl
    exact fn_le' (sig := s800) (p := p800) (by kernel_rfl) (by kernel_rfl) rfl rfl rfl (e.trans h)

theorem impl_ExprValid_le (a0 : Exp) : Tv.Le
  (bnd (impl_exprValid (⟨a0.op, a0.n, a0.args⟩ : Exp) 5) fun r1 =>
  some r1 : Option (Bool))
  (impl_ExprValid a0) := by
  exact fun r h => by
    have e : runC (phi Tb GT sg) Tb GT p1200.code (mkST p1200.ins [.agg (rowT .exp a0)] p1200.bins []) (finT p1200 s1200) = (
      bnd (impl_exprValid (⟨a0.op, a0.n, a0.args⟩ : Exp) 5) fun r1 =>
      some r1 : Option (Bool)) := by kernel_rfl
    exact fn_le' (sig := s1200) (p := p1200) (by kernel_rfl) (by kernel_rfl) rfl rfl rfl (e.trans h)

theorem impl_exprTokens_le (a0 : Exp) (a1 : List (List UInt8)) : Tv.Le
  ((bif (decide (a0.op = 0)) then
  bnd (strconv_Itoa a0.n) fun r1 =>
  bnd (appL a1 ([r1] : List (List UInt8))) fun l2 =>
  some l2
  else
  (bif (decide (a0.op = 13)) then
  bnd (impl_varText a0.n) fun r3 =>
  bnd (appL a1 ([r3] : List (List UInt8))) fun l4 =>
  some l4
  else
  bnd (impl_OpLevel a0.op) fun r5 =>
  bnd (geti a0.args 0) fun e6 =>
  bnd (impl_operandTokens (⟨e6.op, e6.n, e6.args⟩ : Exp) r5 a1) fun r7 =>
  bnd (impl_OpText a0.op) fun r8 =>
  bnd (appL r7 ([r8] : List (List UInt8))) fun l9 =>
  bnd (geti a0.args 1) fun e10 =>
  bnd (impl_operandTokens (⟨e10.op, e10.n, e10.args⟩ : Exp) (wrap64 (r5 + 1)) l9) fun r11 =>
  some r11)) : Option (List (List UInt8)))
  (impl_exprTokens a0 a1) := by
  rewrite [← wrapC_eq]
  exact fun r h => by
    have e : runC (phi Tb GT sg) Tb GT p36600.code (mkST p36600.ins [.agg (rowT .exp a0), .sl (.own true) .str a1] p36600.bins []) (finT p36600 s36600) = (
      (bif (decide (a0.op = 0)) then
      bnd (strconv_Itoa a0.n) fun r1 =>
      bnd (appL a1 ([r1] : List (List UInt8))) fun l2 =>
      some l2
      else
      (bif (decide (a0.op = 13)) then
      bnd (impl_varText a0.n) fun r3 =>
      bnd (appL a1 ([r3] : List (List UInt8))) fun l4 =>
      some l4
      else
      bnd (impl_OpLevel a0.op) fun r5 =>
      bnd (geti a0.args 0) fun e6 =>
      bnd (impl_operandTokens (⟨e6.op, e6.n, e6.args⟩ : Exp) r5 a1) fun r7 =>
      bnd (impl_OpText a0.op) fun r8 =>
      bnd (appL r7 ([r8] : List (List UInt8))) fun l9 =>
      bnd (geti a0.args 1) fun e10 =>
      bnd (impl_operandTokens (⟨e10.op, e10.n, e10.args⟩ : Exp) (wrapC (r5 + 1)) l9) fun r11 =>
      some r11)) : Option (List (List UInt8))) := by kernel_rfl
    exact fn_le' (sig := s36600) (p := p36600) (by kernel_rfl) (by kernel_rfl) rfl rfl rfl (e.trans h)

theorem impl_TokensText_le (a0 : List (List UInt8)) : Tv.Le
  (bnd (impl_TokensText_l1 a0 a0 (a0.length : Int) 0) fun r1 =>
  selm r1 (fun y2 =>
  bnd (strings_Join y2 [32]) fun r4 =>
  some r4) (fun z3 =>
  some z3.2) : Option (List UInt8))
  (impl_TokensText a0) := by
  exact fun r h => by
    have e : runC (phi Tb GT sg) Tb GT p36300.code (mkST p36300.ins [.sl .share .str a0] p36300.bins []) (finT p36300 s36300) = (
      bnd (impl_TokensText_l1 a0 a0 (a0.length : Int) 0) fun r1 =>
      selm r1 (fun y2 =>
      bnd (strings_Join y2 [32]) fun r4 =>
      some r4) (fun z3 =>
      some z3.2) : Option (List UInt8)) := by kernel_rfl
    exact fn_le' (sig := s36300) (p := p36300) (by kernel_rfl) (by kernel_rfl) rfl rfl rfl (e.trans h)

theorem spec_l5Tokens_le (a0 : Exp) : Tv.Le
  ((bif (decide (a0.op = 0)) then
  bnd (spec_l6Dec a0.n) fun r1 =>
  some ([r1] : List (List UInt8))
  else
  (bif (decide (a0.op = 13)) then
  bnd (spec_l5Name a0.n) fun r2 =>
  some ([r2] : List (List UInt8))
  else
  bnd (spec_OpLevel a0.op) fun r3 =>
  bnd (geti a0.args 0) fun e4 =>
  bnd (spec_l5Tokens (⟨e4.op, e4.n, e4.args⟩ : Exp)) fun r5 =>
  bnd (geti a0.args 0) fun e6 =>
  bnd (spec_l5Level (⟨e6.op, e6.n, e6.args⟩ : Exp)) fun r7 =>
  bnd (spec_l5Wrap r5 (decide (r7 < r3))) fun r8 =>
  bnd (spec_OpText a0.op) fun r9 =>
  bnd (appL r8 ([r9] : List (List UInt8))) fun l10 =>
  bnd (geti a0.args 1) fun e11 =>
  bnd (spec_l5Tokens (⟨e11.op, e11.n, e11.args⟩ : Exp)) fun r12 =>
  bnd (geti a0.args 1) fun e13 =>
  bnd (spec_l5Level (⟨e13.op, e13.n, e13.args⟩ : Exp)) fun r14 =>
  bnd (spec_l5Wrap r12 (decide (r14 ≤ r3))) fun r15 =>
  bnd (appL l10 r15) fun l16 =>
  some l16)) : Option (List (List UInt8)))
  (spec_l5Tokens a0) := by
  exact fun r h => by
    have e : runC (phi Tb GT sg) Tb GT p35300.code (mkST p35300.ins [.agg (rowT .exp a0)] p35300.bins []) (finT p35300 s35300) = (
      (bif (decide (a0.op = 0)) then
      bnd (spec_l6Dec a0.n) fun r1 =>
      some ([r1] : List (List UInt8))
      else
      (bif (decide (a0.op = 13)) then
      bnd (spec_l5Name a0.n) fun r2 =>
      some ([r2] : List (List UInt8))
      else
      bnd (spec_OpLevel a0.op) fun r3 =>
      bnd (geti a0.args 0) fun e4 =>
      bnd (spec_l5Tokens (⟨e4.op, e4.n, e4.args⟩ : Exp)) fun r5 =>
      bnd (geti a0.args 0) fun e6 =>
      bnd (spec_l5Level (⟨e6.op, e6.n, e6.args⟩ : Exp)) fun r7 =>
      bnd (spec_l5Wrap r5 (decide (r7 < r3))) fun r8 =>
      bnd (spec_OpText a0.op) fun r9 =>
      bnd (appL r8 ([r9] : List (List UInt8))) fun l10 =>
      bnd (geti a0.args 1) fun e11 =>
      bnd (spec_l5Tokens (⟨e11.op, e11.n, e11.args⟩ : Exp)) fun r12 =>
      bnd (geti a0.args 1) fun e13 =>
      bnd (spec_l5Level (⟨e13.op, e13.n, e13.args⟩ : Exp)) fun r14 =>
      bnd (spec_l5Wrap r12 (decide (r14 ≤ r3))) fun r15 =>
      bnd (appL l10 r15) fun l16 =>
      some l16)) : Option (List (List UInt8))) := by kernel_rfl
    exact fn_le' (sig := s35300) (p := p35300) (by kernel_rfl) (by kernel_rfl) rfl rfl rfl (e.trans h)

theorem spec_TokensText_le (a0 : List (List UInt8)) : Tv.Le
  (bnd (spec_TokensText_l1 a0 [] 0) fun r1 =>
  selm r1 (fun y2 =>
  some y2) (fun z3 =>
  some z3.1) : Option (List UInt8))
  (spec_TokensText a0) := by
  exact fun r h => by
    have e : runC (phi Tb GT sg) Tb GT p35000.code (mkST p35000.ins [.sl .share .str a0] p35000.bins []) (finT p35000 s35000) = (
      bnd (spec_TokensText_l1 a0 [] 0) fun r1 =>
      selm r1 (fun y2 =>
      some y2) (fun z3 =>
      some z3.1) : Option (List UInt8)) := by kernel_rfl
    exact fn_le' (sig := s35000) (p := p35000) (by kernel_rfl) (by kernel_rfl) rfl rfl rfl (e.trans h)

theorem laws_bytesOf_l1_le (t0 : List UInt8) (t1 : Int) (t5 : Int) (t6 : Int) : Tv.Le
  ((bif (decide (t6 < (t0.length : Int))) then
  bnd (geti t0 t6) fun c1 =>
  (bif (decide ((c1.toNat : Int) = t1)) then
  laws_bytesOf_l1 t0 t1 (wrap64 (t5 + 1)) (wrap64 (t6 + 1))
  else
  laws_bytesOf_l1 t0 t1 t5 (wrap64 (t6 + 1)))
  else
  some t5) : Option (Int))
  (laws_bytesOf_l1 t0 t1 t5 t6) := by
  rewrite [← wrapC_eq]
  exact fun r h => by
    have e : runC (phi Tb GT sg) Tb GT p21501.code (mkST p21501.ins [.str t0, .int .u8 t1, .int .i64 t5, .int .i64 t6] p21501.bins []) (finL Tb GT 21501 p21501 s21501) = (
      (bif (decide (t6 < (t0.length : Int))) then
      bnd (geti t0 t6) fun c1 =>
      (bif (decide ((c1.toNat : Int) = t1)) then
      laws_bytesOf_l1 t0 t1 (wrapC (t5 + 1)) (wrapC (t6 + 1))
      else
      laws_bytesOf_l1 t0 t1 t5 (wrapC (t6 + 1)))
      else
      some t5) : Option (Int)) := by kernel_rfl
    exact loop_le' (sig := s21501) (p := p21501) (by kernel_rfl) (by kernel_rfl) rfl rfl rfl (e.trans h)

theorem impl_Tokens_le (a0 : List UInt8) : Tv.Le
  ((bif (decide (20000 < (a0.length : Int))) then
  some ([], false)
  else
  bnd (impl_Tokens_l1 a0 false [] 0) fun r1 =>
  selm r1 (fun y2 =>
  some (y2.2, true)) (fun z3 =>
  some (z3.1.2, z3.2.1))) : Option (List (List UInt8) × Bool))
  (impl_Tokens a0) := by
  exact fun r h => by
    have e : runC (phi Tb GT sg) Tb GT p33400.code (mkST p33400.ins [.str a0] p33400.bins []) (finT p33400 s33400) = (
      (bif (decide (20000 < (a0.length : Int))) then
      some ([], false)
      else
      bnd (impl_Tokens_l1 a0 false [] 0) fun r1 =>
      selm r1 (fun y2 =>
      some (y2.2, true)) (fun z3 =>
      some (z3.1.2, z3.2.1))) : Option (List (List UInt8) × Bool)) := by kernel_rfl
    exact fn_le' (sig := s33400) (p := p33400) (by kernel_rfl) (by kernel_rfl) rfl rfl rfl (e.trans h)

end Go.TFnTextNeeds
