import Derived.Test.YtbofepgnakbohaaDFnExactQuadValidP
import Derived.KernelRfl
set_option linter.unusedVariables false
namespace Go.TFnExactQuadValid
open Go Go.RowKit Go.Vs Go.Tv
theorem laws_FnExactQuadValid_le (a0 : Quad) (a1 : Int) : Tv.Le
  (bnd (laws_toQuad a0) fun r1 =>
  bnd (spec_QuadValid r1 a1) fun r2 =>
  bnd (laws_toQuad a0) fun r3 =>
  bnd (impl_QuadValid r3 a1) fun r4 =>
  (bif (!(r4 == r2)) then
  some false
  else
  some true) : Option (Bool))
  (laws_FnExactQuadValid a0 a1) := fun r h => by
  have e : runC (phi Tb GT sg) Tb GT p12400.code (mkST p12400.ins [.agg (rowT .quad a0), .int .i64 a1] p12400.bins []) (finT p12400 s12400) = (
  bnd (laws_toQuad a0) fun r1 =>
  bnd (spec_QuadValid r1 a1) fun r2 =>
  bnd (laws_toQuad a0) fun r3 =>
  bnd (impl_QuadValid r3 a1) fun r4 =>
  (bif (!(r4 == r2)) then
  some false
  else
  some true) : Option (Bool)) := by kernel_rfl
  exact fn_le' (sig := s12400) (p := p12400) (by kernel_rfl) (by kernel_rfl) rfl rfl rfl (e.trans h)

theorem laws_toQuad_le (a0 : Quad) : Tv.Le
  (some a0 : Option (Quad))
  (laws_toQuad a0) := fun r h => by
  have e : runC (phi Tb GT sg) Tb GT p12100.code (mkST p12100.ins [.agg (rowT .quad a0)] p12100.bins []) (finT p12100 s12100) = (
  some a0 : Option (Quad)) := by kernel_rfl
  exact fn_le' (sig := s12100) (p := p12100) (by kernel_rfl) (by kernel_rfl) rfl rfl rfl (e.trans h)

theorem spec_QuadValid_le (a0 : Quad) (a1 : Int) : Tv.Le
  ((bif (decide (a0.op = 1)) then
  bnd (spec_l21Regs a0 true false false) fun r1 =>
  (bif r1 then
  bnd (spec_WordValid a0.n) fun r2 =>
  some r2
  else
  some false)
  else
  (bif (decide (a0.op = 2)) then
  bnd (spec_l21Regs a0 true true false) fun r3 =>
  (bif r3 then
  some (decide (a0.n = 0))
  else
  some false)
  else
  (bif (decide (a0.op = 3)) then
  bnd (spec_l21Regs a0 true true true) fun r4 =>
  (bif r4 then
  bnd (spec_OpValid a0.n) fun r5 =>
  some r5
  else
  some false)
  else
  (bif (decide (a0.op = 4)) then
  bnd (spec_l21Regs a0 false false false) fun r6 =>
  (bif r6 then
  (bif (decide (0 ≤ a0.n)) then
  some (decide (a0.n < a1))
  else
  some false)
  else
  some false)
  else
  (bif (decide (a0.op = 5)) then
  bnd (spec_l21Regs a0 false true false) fun r7 =>
  (bif r7 then
  (bif (decide (0 ≤ a0.n)) then
  some (decide (a0.n < a1))
  else
  some false)
  else
  some false)
  else
  (bif (decide (a0.op = 6)) then
  bnd (spec_l21Regs a0 false true false) fun r8 =>
  (bif r8 then
  bnd (spec_l6In a0.n 0 2) fun r9 =>
  some r9
  else
  some false)
  else
  (bif (decide (a0.op = 7)) then
  bnd (spec_l21Regs a0 true false false) fun r10 =>
  (bif r10 then
  bnd (spec_l6In a0.n 0 2) fun r11 =>
  some r11
  else
  some false)
  else
  (bif (decide (a0.op = 9)) then
  bnd (spec_l21Regs a0 false true false) fun r12 =>
  (bif r12 then
  some (decide (a0.n = 0))
  else
  some false)
  else
  (bif (decide (a0.op = 8)) then
  bnd (spec_l21Regs a0 false false false) fun r13 =>
  (bif r13 then
  some (decide (a0.n = 0))
  else
  some false)
  else
  (bif (decide (a0.op = 10)) then
  bnd (spec_l21Regs a0 false false false) fun r14 =>
  (bif r14 then
  some (decide (a0.n = 0))
  else
  some false)
  else
  some false)))))))))) : Option (Bool))
  (spec_QuadValid a0 a1) := fun r h => by
  have e : runC (phi Tb GT sg) Tb GT p12000.code (mkST p12000.ins [.agg (rowT .quad a0), .int .i64 a1] p12000.bins []) (finT p12000 s12000) = (
  (bif (decide (a0.op = 1)) then
  bnd (spec_l21Regs a0 true false false) fun r1 =>
  (bif r1 then
  bnd (spec_WordValid a0.n) fun r2 =>
  some r2
  else
  some false)
  else
  (bif (decide (a0.op = 2)) then
  bnd (spec_l21Regs a0 true true false) fun r3 =>
  (bif r3 then
  some (decide (a0.n = 0))
  else
  some false)
  else
  (bif (decide (a0.op = 3)) then
  bnd (spec_l21Regs a0 true true true) fun r4 =>
  (bif r4 then
  bnd (spec_OpValid a0.n) fun r5 =>
  some r5
  else
  some false)
  else
  (bif (decide (a0.op = 4)) then
  bnd (spec_l21Regs a0 false false false) fun r6 =>
  (bif r6 then
  (bif (decide (0 ≤ a0.n)) then
  some (decide (a0.n < a1))
  else
  some false)
  else
  some false)
  else
  (bif (decide (a0.op = 5)) then
  bnd (spec_l21Regs a0 false true false) fun r7 =>
  (bif r7 then
  (bif (decide (0 ≤ a0.n)) then
  some (decide (a0.n < a1))
  else
  some false)
  else
  some false)
  else
  (bif (decide (a0.op = 6)) then
  bnd (spec_l21Regs a0 false true false) fun r8 =>
  (bif r8 then
  bnd (spec_l6In a0.n 0 2) fun r9 =>
  some r9
  else
  some false)
  else
  (bif (decide (a0.op = 7)) then
  bnd (spec_l21Regs a0 true false false) fun r10 =>
  (bif r10 then
  bnd (spec_l6In a0.n 0 2) fun r11 =>
  some r11
  else
  some false)
  else
  (bif (decide (a0.op = 9)) then
  bnd (spec_l21Regs a0 false true false) fun r12 =>
  (bif r12 then
  some (decide (a0.n = 0))
  else
  some false)
  else
  (bif (decide (a0.op = 8)) then
  bnd (spec_l21Regs a0 false false false) fun r13 =>
  (bif r13 then
  some (decide (a0.n = 0))
  else
  some false)
  else
  (bif (decide (a0.op = 10)) then
  bnd (spec_l21Regs a0 false false false) fun r14 =>
  (bif r14 then
  some (decide (a0.n = 0))
  else
  some false)
  else
  some false)))))))))) : Option (Bool)) := by kernel_rfl
  exact fn_le' (sig := s12000) (p := p12000) (by kernel_rfl) (by kernel_rfl) rfl rfl rfl (e.trans h)

theorem impl_QuadValid_le (a0 : Quad) (a1 : Int) : Tv.Le
  (bnd (impl_isReg a0.dst) fun r1 =>
  bnd (impl_isReg a0.a) fun r2 =>
  bnd (impl_isReg a0.b) fun r3 =>
  (bif (decide (a0.op = 1)) then
  (bif (decide (a0.op = 1) && (decide (a0.dst = a0.dst) && (decide (a0.a = 0) && (decide (a0.b = 0) && (decide (a0.n = a0.n) && true))))) then
  (bif r1 then
  bnd (impl_WordValid a0.n) fun r4 =>
  some r4
  else
  some false)
  else
  some false)
  else
  (bif (decide (a0.op = 2)) then
  (bif (decide (a0.op = 2) && (decide (a0.dst = a0.dst) && (decide (a0.a = a0.a) && (decide (a0.b = 0) && (decide (a0.n = 0) && true))))) then
  (bif r1 then
  some r2
  else
  some false)
  else
  some false)
  else
  (bif (decide (a0.op = 3)) then
  (bif r1 then
  (bif r2 then
  (bif r3 then
  bnd (impl_OpValid a0.n) fun r5 =>
  some r5
  else
  some false)
  else
  some false)
  else
  some false)
  else
  (bif (decide (a0.op = 4)) then
  (bif (decide (a0.op = 4) && (decide (a0.dst = 0) && (decide (a0.a = 0) && (decide (a0.b = 0) && (decide (a0.n = a0.n) && true))))) then
  (bif (decide (0 ≤ a0.n)) then
  some (decide (a0.n < a1))
  else
  some false)
  else
  some false)
  else
  (bif (decide (a0.op = 5)) then
  (bif (decide (a0.op = 5) && (decide (a0.dst = 0) && (decide (a0.a = a0.a) && (decide (a0.b = 0) && (decide (a0.n = a0.n) && true))))) then
  (bif r2 then
  (bif (decide (0 ≤ a0.n)) then
  some (decide (a0.n < a1))
  else
  some false)
  else
  some false)
  else
  some false)
  else
  (bif (decide (a0.op = 6)) then
  (bif (decide (a0.op = 6) && (decide (a0.dst = 0) && (decide (a0.a = a0.a) && (decide (a0.b = 0) && (decide (a0.n = a0.n) && true))))) then
  (bif r2 then
  (bif (decide (0 ≤ a0.n)) then
  some (decide (a0.n < 3))
  else
  some false)
  else
  some false)
  else
  some false)
  else
  (bif (decide (a0.op = 7)) then
  (bif (decide (a0.op = 7) && (decide (a0.dst = a0.dst) && (decide (a0.a = 0) && (decide (a0.b = 0) && (decide (a0.n = a0.n) && true))))) then
  (bif r1 then
  (bif (decide (0 ≤ a0.n)) then
  some (decide (a0.n < 3))
  else
  some false)
  else
  some false)
  else
  some false)
  else
  (bif (decide (a0.op = 9)) then
  (bif (decide (a0.op = 9) && (decide (a0.dst = 0) && (decide (a0.a = a0.a) && (decide (a0.b = 0) && (decide (a0.n = 0) && true))))) then
  some r2
  else
  some false)
  else
  (bif (decide (a0.op = 8)) then
  some (decide (a0.op = a0.op) && (decide (a0.dst = 0) && (decide (a0.a = 0) && (decide (a0.b = 0) && (decide (a0.n = 0) && true)))))
  else
  (bif (decide (a0.op = 10)) then
  some (decide (a0.op = a0.op) && (decide (a0.dst = 0) && (decide (a0.a = 0) && (decide (a0.b = 0) && (decide (a0.n = 0) && true)))))
  else
  some false)))))))))) : Option (Bool))
  (impl_QuadValid a0 a1) := fun r h => by
  have e : runC (phi Tb GT sg) Tb GT p12300.code (mkST p12300.ins [.agg (rowT .quad a0), .int .i64 a1] p12300.bins []) (finT p12300 s12300) = (
  bnd (impl_isReg a0.dst) fun r1 =>
  bnd (impl_isReg a0.a) fun r2 =>
  bnd (impl_isReg a0.b) fun r3 =>
  (bif (decide (a0.op = 1)) then
  (bif (decide (a0.op = 1) && (decide (a0.dst = a0.dst) && (decide (a0.a = 0) && (decide (a0.b = 0) && (decide (a0.n = a0.n) && true))))) then
  (bif r1 then
  bnd (impl_WordValid a0.n) fun r4 =>
  some r4
  else
  some false)
  else
  some false)
  else
  (bif (decide (a0.op = 2)) then
  (bif (decide (a0.op = 2) && (decide (a0.dst = a0.dst) && (decide (a0.a = a0.a) && (decide (a0.b = 0) && (decide (a0.n = 0) && true))))) then
  (bif r1 then
  some r2
  else
  some false)
  else
  some false)
  else
  (bif (decide (a0.op = 3)) then
  (bif r1 then
  (bif r2 then
  (bif r3 then
  bnd (impl_OpValid a0.n) fun r5 =>
  some r5
  else
  some false)
  else
  some false)
  else
  some false)
  else
  (bif (decide (a0.op = 4)) then
  (bif (decide (a0.op = 4) && (decide (a0.dst = 0) && (decide (a0.a = 0) && (decide (a0.b = 0) && (decide (a0.n = a0.n) && true))))) then
  (bif (decide (0 ≤ a0.n)) then
  some (decide (a0.n < a1))
  else
  some false)
  else
  some false)
  else
  (bif (decide (a0.op = 5)) then
  (bif (decide (a0.op = 5) && (decide (a0.dst = 0) && (decide (a0.a = a0.a) && (decide (a0.b = 0) && (decide (a0.n = a0.n) && true))))) then
  (bif r2 then
  (bif (decide (0 ≤ a0.n)) then
  some (decide (a0.n < a1))
  else
  some false)
  else
  some false)
  else
  some false)
  else
  (bif (decide (a0.op = 6)) then
  (bif (decide (a0.op = 6) && (decide (a0.dst = 0) && (decide (a0.a = a0.a) && (decide (a0.b = 0) && (decide (a0.n = a0.n) && true))))) then
  (bif r2 then
  (bif (decide (0 ≤ a0.n)) then
  some (decide (a0.n < 3))
  else
  some false)
  else
  some false)
  else
  some false)
  else
  (bif (decide (a0.op = 7)) then
  (bif (decide (a0.op = 7) && (decide (a0.dst = a0.dst) && (decide (a0.a = 0) && (decide (a0.b = 0) && (decide (a0.n = a0.n) && true))))) then
  (bif r1 then
  (bif (decide (0 ≤ a0.n)) then
  some (decide (a0.n < 3))
  else
  some false)
  else
  some false)
  else
  some false)
  else
  (bif (decide (a0.op = 9)) then
  (bif (decide (a0.op = 9) && (decide (a0.dst = 0) && (decide (a0.a = a0.a) && (decide (a0.b = 0) && (decide (a0.n = 0) && true))))) then
  some r2
  else
  some false)
  else
  (bif (decide (a0.op = 8)) then
  some (decide (a0.op = a0.op) && (decide (a0.dst = 0) && (decide (a0.a = 0) && (decide (a0.b = 0) && (decide (a0.n = 0) && true)))))
  else
  (bif (decide (a0.op = 10)) then
  some (decide (a0.op = a0.op) && (decide (a0.dst = 0) && (decide (a0.a = 0) && (decide (a0.b = 0) && (decide (a0.n = 0) && true)))))
  else
  some false)))))))))) : Option (Bool)) := by kernel_rfl
  exact fn_le' (sig := s12300) (p := p12300) (by kernel_rfl) (by kernel_rfl) rfl rfl rfl (e.trans h)

theorem spec_l21Regs_le (a0 : Quad) (a1 : Bool) (a2 : Bool) (a3 : Bool) : Tv.Le
  (bnd (spec_l21Reg a0.dst a1) fun r1 =>
  (bif r1 then
  bnd (spec_l21Reg a0.a a2) fun r2 =>
  (bif r2 then
  bnd (spec_l21Reg a0.b a3) fun r3 =>
  some r3
  else
  some false)
  else
  some false) : Option (Bool))
  (spec_l21Regs a0 a1 a2 a3) := fun r h => by
  have e : runC (phi Tb GT sg) Tb GT p11900.code (mkST p11900.ins [.agg (rowT .quad a0), .bool a1, .bool a2, .bool a3] p11900.bins []) (finT p11900 s11900) = (
  bnd (spec_l21Reg a0.dst a1) fun r1 =>
  (bif r1 then
  bnd (spec_l21Reg a0.a a2) fun r2 =>
  (bif r2 then
  bnd (spec_l21Reg a0.b a3) fun r3 =>
  some r3
  else
  some false)
  else
  some false) : Option (Bool)) := by kernel_rfl
  exact fn_le' (sig := s11900) (p := p11900) (by kernel_rfl) (by kernel_rfl) rfl rfl rfl (e.trans h)

theorem spec_WordValid_le (a0 : Int) : Tv.Le
  (bnd (spec_l6In a0 (-2147483648) 2147483647) fun r1 =>
  some r1 : Option (Bool))
  (spec_WordValid a0) := fun r h => by
  have e : runC (phi Tb GT sg) Tb GT p6400.code (mkST p6400.ins [.int .i64 a0] p6400.bins []) (finT p6400 s6400) = (
  bnd (spec_l6In a0 (-2147483648) 2147483647) fun r1 =>
  some r1 : Option (Bool)) := by kernel_rfl
  exact fn_le' (sig := s6400) (p := p6400) (by kernel_rfl) (by kernel_rfl) rfl rfl rfl (e.trans h)

theorem spec_OpValid_le (a0 : Int) : Tv.Le
  (bnd (spec_l6In a0 1 12) fun r1 =>
  some r1 : Option (Bool))
  (spec_OpValid a0) := fun r h => by
  have e : runC (phi Tb GT sg) Tb GT p1700.code (mkST p1700.ins [.int .i64 a0] p1700.bins []) (finT p1700 s1700) = (
  bnd (spec_l6In a0 1 12) fun r1 =>
  some r1 : Option (Bool)) := by kernel_rfl
  exact fn_le' (sig := s1700) (p := p1700) (by kernel_rfl) (by kernel_rfl) rfl rfl rfl (e.trans h)

theorem spec_l6In_le (a0 : Int) (a1 : Int) (a2 : Int) : Tv.Le
  ((bif (decide (a1 ≤ a0)) then
  some (decide (a0 ≤ a2))
  else
  some false) : Option (Bool))
  (spec_l6In a0 a1 a2) := fun r h => by
  have e : runC (phi Tb GT sg) Tb GT p1600.code (mkST p1600.ins [.int .i64 a0, .int .i64 a1, .int .i64 a2] p1600.bins []) (finT p1600 s1600) = (
  (bif (decide (a1 ≤ a0)) then
  some (decide (a0 ≤ a2))
  else
  some false) : Option (Bool)) := by kernel_rfl
  exact fn_le' (sig := s1600) (p := p1600) (by kernel_rfl) (by kernel_rfl) rfl rfl rfl (e.trans h)

theorem impl_isReg_le (a0 : Int) : Tv.Le
  ((bif (decide (0 ≤ a0)) then
  some (decide (a0 < 12))
  else
  some false) : Option (Bool))
  (impl_isReg a0) := fun r h => by
  have e : runC (phi Tb GT sg) Tb GT p12200.code (mkST p12200.ins [.int .i64 a0] p12200.bins []) (finT p12200 s12200) = (
  (bif (decide (0 ≤ a0)) then
  some (decide (a0 < 12))
  else
  some false) : Option (Bool)) := by kernel_rfl
  exact fn_le' (sig := s12200) (p := p12200) (by kernel_rfl) (by kernel_rfl) rfl rfl rfl (e.trans h)

theorem impl_WordValid_le (a0 : Int) : Tv.Le
  ((bif (decide ((-2147483648) ≤ a0)) then
  some (decide (a0 ≤ 2147483647))
  else
  some false) : Option (Bool))
  (impl_WordValid a0) := fun r h => by
  have e : runC (phi Tb GT sg) Tb GT p5000.code (mkST p5000.ins [.int .i64 a0] p5000.bins []) (finT p5000 s5000) = (
  (bif (decide ((-2147483648) ≤ a0)) then
  some (decide (a0 ≤ 2147483647))
  else
  some false) : Option (Bool)) := by kernel_rfl
  exact fn_le' (sig := s5000) (p := p5000) (by kernel_rfl) (by kernel_rfl) rfl rfl rfl (e.trans h)

theorem impl_OpValid_le (a0 : Int) : Tv.Le
  ((bif (decide (1 ≤ a0)) then
  some (decide (a0 ≤ 12))
  else
  some false) : Option (Bool))
  (impl_OpValid a0) := fun r h => by
  have e : runC (phi Tb GT sg) Tb GT p1000.code (mkST p1000.ins [.int .i64 a0] p1000.bins []) (finT p1000 s1000) = (
  (bif (decide (1 ≤ a0)) then
  some (decide (a0 ≤ 12))
  else
  some false) : Option (Bool)) := by kernel_rfl
  exact fn_le' (sig := s1000) (p := p1000) (by kernel_rfl) (by kernel_rfl) rfl rfl rfl (e.trans h)

theorem spec_l21Reg_le (a0 : Int) (a1 : Bool) : Tv.Le
  ((bif a1 then
  bnd (spec_l6In a0 0 11) fun r1 =>
  some r1
  else
  some (decide (a0 = 0))) : Option (Bool))
  (spec_l21Reg a0 a1) := fun r h => by
  have e : runC (phi Tb GT sg) Tb GT p11800.code (mkST p11800.ins [.int .i64 a0, .bool a1] p11800.bins []) (finT p11800 s11800) = (
  (bif a1 then
  bnd (spec_l6In a0 0 11) fun r1 =>
  some r1
  else
  some (decide (a0 = 0))) : Option (Bool)) := by kernel_rfl
  exact fn_le' (sig := s11800) (p := p11800) (by kernel_rfl) (by kernel_rfl) rfl rfl rfl (e.trans h)

end Go.TFnExactQuadValid
