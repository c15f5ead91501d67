import Derived.Test.YtbofepgnakbohaaDFnExactCodeValidP
import Derived.KernelRfl
set_option linter.unusedVariables false
namespace Go.TFnExactCodeValid
open Go Go.RowKit Go.Vs Go.Tv
theorem laws_FnExactCodeValid_le (a0 : List Quad) : Tv.Le
  (bnd (laws_szQuadS a0 1048576) fun r1 =>
  (bif (decide (r1 < 0)) then
  some true
  else
  bnd (laws_toQuadS a0) fun r2 =>
  bnd (spec_CodeValid r2) fun r3 =>
  bnd (laws_toQuadS a0) fun r4 =>
  bnd (impl_CodeValid r4) fun r5 =>
  (bif (!(r5 == r3)) then
  some false
  else
  bnd (laws_toQuadS a0) fun r6 =>
  bnd (laws_eqQuadS r4 r6) fun r7 =>
  (bif (!r7) then
  some false
  else
  some true))) : Option (Bool))
  (laws_FnExactCodeValid a0) := fun r h => by
  have e : runC (phi Tb GT sg) Tb GT p15200.code (mkST p15200.ins [.sl .share .quad a0] p15200.bins []) (finT p15200 s15200) = (
  bnd (laws_szQuadS a0 1048576) fun r1 =>
  (bif (decide (r1 < 0)) then
  some true
  else
  bnd (laws_toQuadS a0) fun r2 =>
  bnd (spec_CodeValid r2) fun r3 =>
  bnd (laws_toQuadS a0) fun r4 =>
  bnd (impl_CodeValid r4) fun r5 =>
  (bif (!(r5 == r3)) then
  some false
  else
  bnd (laws_toQuadS a0) fun r6 =>
  bnd (laws_eqQuadS r4 r6) fun r7 =>
  (bif (!r7) then
  some false
  else
  some true))) : Option (Bool)) := by kernel_rfl
  exact fn_le' (sig := s15200) (p := p15200) (by kernel_rfl) (by kernel_rfl) rfl rfl rfl (e.trans h)

theorem laws_szQuadS_le (a0 : List Quad) (a1 : Int) : Tv.Le
  ((bif (decide ((wrap64 (a1 - (a0.length : Int))) < 0)) then
  some (-1)
  else
  some (wrap64 (a1 - (a0.length : Int)))) : Option (Int))
  (laws_szQuadS a0 a1) := fun r h => by
  have e : runC (phi Tb GT sg) Tb GT p14600.code (mkST p14600.ins [.sl .share .quad a0, .int .i64 a1] p14600.bins []) (finT p14600 s14600) = (
  (bif (decide ((wrap64 (a1 - (a0.length : Int))) < 0)) then
  some (-1)
  else
  some (wrap64 (a1 - (a0.length : Int)))) : Option (Int)) := by kernel_rfl
  exact fn_le' (sig := s14600) (p := p14600) (by kernel_rfl) (by kernel_rfl) rfl rfl rfl (e.trans h)

theorem laws_toQuadS_le (a0 : List Quad) : Tv.Le
  (bnd (made (a0.length : Int)) fun n1 =>
  bnd (laws_toQuadS_l1 a0 0 (List.replicate n1 (zeroD .quad))) fun r2 =>
  some r2 : Option (List Quad))
  (laws_toQuadS a0) := fun r h => by
  have e : runC (phi Tb GT sg) Tb GT p14800.code (mkST p14800.ins [.sl .share .quad a0] p14800.bins []) (finT p14800 s14800) = (
  bnd (made (a0.length : Int)) fun n1 =>
  bnd (laws_toQuadS_l1 a0 0 (List.replicate n1 (zeroD .quad))) fun r2 =>
  some r2 : Option (List Quad)) := by kernel_rfl
  exact fn_le' (sig := s14800) (p := p14800) (by kernel_rfl) (by kernel_rfl) rfl rfl rfl (e.trans h)

theorem spec_CodeValid_le (a0 : List Quad) : Tv.Le
  (bnd (spec_l6In (a0.length : Int) 1 600) fun r1 =>
  (bif (!r1) then
  some false
  else
  bnd (spec_CodeValid_l1 a0 (a0.length : Int) 0) fun r2 =>
  selm r2 (fun y3 =>
  bnd (geti y3.1 (wrap64 (y3.2 - 1))) fun e5 =>
  (bif (decide (e5.op = 10)) then
  some true
  else
  bnd (geti y3.1 (wrap64 (y3.2 - 1))) fun e6 =>
  some (decide (e6.op = 4)))) (fun z4 =>
  some z4.2.1)) : Option (Bool))
  (spec_CodeValid a0) := fun r h => by
  have e : runC (phi Tb GT sg) Tb GT p14700.code (mkST p14700.ins [.sl .share .quad a0] p14700.bins []) (finT p14700 s14700) = (
  bnd (spec_l6In (a0.length : Int) 1 600) fun r1 =>
  (bif (!r1) then
  some false
  else
  bnd (spec_CodeValid_l1 a0 (a0.length : Int) 0) fun r2 =>
  selm r2 (fun y3 =>
  bnd (geti y3.1 (wrap64 (y3.2 - 1))) fun e5 =>
  (bif (decide (e5.op = 10)) then
  some true
  else
  bnd (geti y3.1 (wrap64 (y3.2 - 1))) fun e6 =>
  some (decide (e6.op = 4)))) (fun z4 =>
  some z4.2.1)) : Option (Bool)) := by kernel_rfl
  exact fn_le' (sig := s14700) (p := p14700) (by kernel_rfl) (by kernel_rfl) rfl rfl rfl (e.trans h)

theorem impl_CodeValid_le (a0 : List Quad) : Tv.Le
  ((bif (decide ((a0.length : Int) < 1)) then
  some false
  else
  (bif (decide (600 < (a0.length : Int))) then
  some false
  else
  bnd (impl_CodeValid_l1 a0 a0 (a0.length : Int) 0) fun r1 =>
  selm r1 (fun y2 =>
  bnd (geti y2 (wrap64 ((y2.length : Int) - 1))) fun e4 =>
  (bif (decide (e4.op = 10)) then
  some true
  else
  some (decide (e4.op = 4)))) (fun z3 =>
  some z3.2))) : Option (Bool))
  (impl_CodeValid a0) := fun r h => by
  have e : runC (phi Tb GT sg) Tb GT p14900.code (mkST p14900.ins [.sl .share .quad a0] p14900.bins []) (finT p14900 s14900) = (
  (bif (decide ((a0.length : Int) < 1)) then
  some false
  else
  (bif (decide (600 < (a0.length : Int))) then
  some false
  else
  bnd (impl_CodeValid_l1 a0 a0 (a0.length : Int) 0) fun r1 =>
  selm r1 (fun y2 =>
  bnd (geti y2 (wrap64 ((y2.length : Int) - 1))) fun e4 =>
  (bif (decide (e4.op = 10)) then
  some true
  else
  some (decide (e4.op = 4)))) (fun z3 =>
  some z3.2))) : Option (Bool)) := by kernel_rfl
  exact fn_le' (sig := s14900) (p := p14900) (by kernel_rfl) (by kernel_rfl) rfl rfl rfl (e.trans h)

theorem laws_eqQuadS_le (a0 : List Quad) (a1 : List Quad) : Tv.Le
  ((bif (!decide ((a0.length : Int) = (a1.length : Int))) then
  some false
  else
  bnd (laws_eqQuadS_l1 a0 a1 0) fun r1 =>
  selm r1 (fun y2 =>
  some true) (fun z3 =>
  some z3)) : Option (Bool))
  (laws_eqQuadS a0 a1) := fun r h => by
  have e : runC (phi Tb GT sg) Tb GT p15100.code (mkST p15100.ins [.sl .share .quad a0, .sl .share .quad a1] p15100.bins []) (finT p15100 s15100) = (
  (bif (!decide ((a0.length : Int) = (a1.length : Int))) then
  some false
  else
  bnd (laws_eqQuadS_l1 a0 a1 0) fun r1 =>
  selm r1 (fun y2 =>
  some true) (fun z3 =>
  some z3)) : Option (Bool)) := by kernel_rfl
  exact fn_le' (sig := s15100) (p := p15100) (by kernel_rfl) (by kernel_rfl) rfl rfl rfl (e.trans h)

theorem laws_toQuad_le (a0 : Quad) : Tv.Le
  (some a0 : Option (Quad))
  (laws_toQuad a0) := fun r h => by
  have e : runC (phi Tb GT sg) Tb GT p12100.code (mkST p12100.ins [.agg (rowT .quad a0)] p12100.bins []) (finT p12100 s12100) = (
  some a0 : Option (Quad)) := by kernel_rfl
  exact fn_le' (sig := s12100) (p := p12100) (by kernel_rfl) (by kernel_rfl) rfl rfl rfl (e.trans h)

theorem laws_toQuadS_l1_le (t0 : List Quad) (t4 : Int) (b100 : List Quad) : Tv.Le
  ((bif (decide (t4 < (t0.length : Int))) then
  bnd (geti t0 t4) fun e1 =>
  bnd (laws_toQuad e1) fun r2 =>
  bnd (geti b100 t4) fun _ =>
  bnd (b100[(Int.toNat t4)]?) fun e4 =>
  laws_toQuadS_l1 t0 (wrap64 (t4 + 1)) (b100.set (Int.toNat t4) r2)
  else
  some b100) : Option (List Quad))
  (laws_toQuadS_l1 t0 t4 b100) := fun r h => by
  have e : runC (phi Tb GT sg) Tb GT p14801.code (mkST p14801.ins [.sl .share .quad t0, .bs 100, .int .i64 t4] p14801.bins [.rows .quad b100]) (finL Tb GT 14801 p14801 s14801) = (
  (bif (decide (t4 < (t0.length : Int))) then
  bnd (geti t0 t4) fun e1 =>
  bnd (laws_toQuad e1) fun r2 =>
  bnd (geti b100 t4) fun _ =>
  bnd (b100[(Int.toNat t4)]?) fun e4 =>
  laws_toQuadS_l1 t0 (wrap64 (t4 + 1)) (b100.set (Int.toNat t4) r2)
  else
  some b100) : Option (List Quad)) := by kernel_rfl
  exact loop_le' (sig := s14801) (p := p14801) (by kernel_rfl) (by kernel_rfl) rfl rfl rfl (e.trans h)

theorem spec_l6In_le (a0 : Int) (a1 : Int) (a2 : Int) : Tv.Le
  ((bif (decide (a1 ≤ a0)) then
  some (decide (a0 ≤ a2))
  else
  some false) : Option (Bool))
  (spec_l6In a0 a1 a2) := fun r h => by
  have e : runC (phi Tb GT sg) Tb GT p1600.code (mkST p1600.ins [.int .i64 a0, .int .i64 a1, .int .i64 a2] p1600.bins []) (finT p1600 s1600) = (
  (bif (decide (a1 ≤ a0)) then
  some (decide (a0 ≤ a2))
  else
  some false) : Option (Bool)) := by kernel_rfl
  exact fn_le' (sig := s1600) (p := p1600) (by kernel_rfl) (by kernel_rfl) rfl rfl rfl (e.trans h)

theorem spec_QuadValid_le (a0 : Quad) (a1 : Int) : Tv.Le
  ((bif (decide (a0.op = 1)) then
  bnd (spec_l21Regs a0 true false false) fun r1 =>
  (bif r1 then
  bnd (spec_WordValid a0.n) fun r2 =>
  some r2
  else
  some false)
  else
  (bif (decide (a0.op = 2)) then
  bnd (spec_l21Regs a0 true true false) fun r3 =>
  (bif r3 then
  some (decide (a0.n = 0))
  else
  some false)
  else
  (bif (decide (a0.op = 3)) then
  bnd (spec_l21Regs a0 true true true) fun r4 =>
  (bif r4 then
  bnd (spec_OpValid a0.n) fun r5 =>
  some r5
  else
  some false)
  else
  (bif (decide (a0.op = 4)) then
  bnd (spec_l21Regs a0 false false false) fun r6 =>
  (bif r6 then
  (bif (decide (0 ≤ a0.n)) then
  some (decide (a0.n < a1))
  else
  some false)
  else
  some false)
  else
  (bif (decide (a0.op = 5)) then
  bnd (spec_l21Regs a0 false true false) fun r7 =>
  (bif r7 then
  (bif (decide (0 ≤ a0.n)) then
  some (decide (a0.n < a1))
  else
  some false)
  else
  some false)
  else
  (bif (decide (a0.op = 6)) then
  bnd (spec_l21Regs a0 false true false) fun r8 =>
  (bif r8 then
  bnd (spec_l6In a0.n 0 2) fun r9 =>
  some r9
  else
  some false)
  else
  (bif (decide (a0.op = 7)) then
  bnd (spec_l21Regs a0 true false false) fun r10 =>
  (bif r10 then
  bnd (spec_l6In a0.n 0 2) fun r11 =>
  some r11
  else
  some false)
  else
  (bif (decide (a0.op = 9)) then
  bnd (spec_l21Regs a0 false true false) fun r12 =>
  (bif r12 then
  some (decide (a0.n = 0))
  else
  some false)
  else
  (bif (decide (a0.op = 8)) then
  bnd (spec_l21Regs a0 false false false) fun r13 =>
  (bif r13 then
  some (decide (a0.n = 0))
  else
  some false)
  else
  (bif (decide (a0.op = 10)) then
  bnd (spec_l21Regs a0 false false false) fun r14 =>
  (bif r14 then
  some (decide (a0.n = 0))
  else
  some false)
  else
  some false)))))))))) : Option (Bool))
  (spec_QuadValid a0 a1) := fun r h => by
  have e : runC (phi Tb GT sg) Tb GT p12000.code (mkST p12000.ins [.agg (rowT .quad a0), .int .i64 a1] p12000.bins []) (finT p12000 s12000) = (
  (bif (decide (a0.op = 1)) then
  bnd (spec_l21Regs a0 true false false) fun r1 =>
  (bif r1 then
  bnd (spec_WordValid a0.n) fun r2 =>
  some r2
  else
  some false)
  else
  (bif (decide (a0.op = 2)) then
  bnd (spec_l21Regs a0 true true false) fun r3 =>
  (bif r3 then
  some (decide (a0.n = 0))
  else
  some false)
  else
  (bif (decide (a0.op = 3)) then
  bnd (spec_l21Regs a0 true true true) fun r4 =>
  (bif r4 then
  bnd (spec_OpValid a0.n) fun r5 =>
  some r5
  else
  some false)
  else
  (bif (decide (a0.op = 4)) then
  bnd (spec_l21Regs a0 false false false) fun r6 =>
  (bif r6 then
  (bif (decide (0 ≤ a0.n)) then
  some (decide (a0.n < a1))
  else
  some false)
  else
  some false)
  else
  (bif (decide (a0.op = 5)) then
  bnd (spec_l21Regs a0 false true false) fun r7 =>
  (bif r7 then
  (bif (decide (0 ≤ a0.n)) then
  some (decide (a0.n < a1))
  else
  some false)
  else
  some false)
  else
  (bif (decide (a0.op = 6)) then
  bnd (spec_l21Regs a0 false true false) fun r8 =>
  (bif r8 then
  bnd (spec_l6In a0.n 0 2) fun r9 =>
  some r9
  else
  some false)
  else
  (bif (decide (a0.op = 7)) then
  bnd (spec_l21Regs a0 true false false) fun r10 =>
  (bif r10 then
  bnd (spec_l6In a0.n 0 2) fun r11 =>
  some r11
  else
  some false)
  else
  (bif (decide (a0.op = 9)) then
  bnd (spec_l21Regs a0 false true false) fun r12 =>
  (bif r12 then
  some (decide (a0.n = 0))
  else
  some false)
  else
  (bif (decide (a0.op = 8)) then
  bnd (spec_l21Regs a0 false false false) fun r13 =>
  (bif r13 then
  some (decide (a0.n = 0))
  else
  some false)
  else
  (bif (decide (a0.op = 10)) then
  bnd (spec_l21Regs a0 false false false) fun r14 =>
  (bif r14 then
  some (decide (a0.n = 0))
  else
  some false)
  else
  some false)))))))))) : Option (Bool)) := by kernel_rfl
  exact fn_le' (sig := s12000) (p := p12000) (by kernel_rfl) (by kernel_rfl) rfl rfl rfl (e.trans h)

theorem spec_CodeValid_l1_le (t0 : List Quad) (t3 : Int) (t4 : Int) : Tv.Le
  ((bif (decide (t4 < t3)) then
  bnd (geti t0 t4) fun e1 =>
  bnd (spec_QuadValid e1 t3) fun r2 =>
  (bif (!r2) then
  some (.inr (t0, false, t3))
  else
  spec_CodeValid_l1 t0 t3 (wrap64 (t4 + 1)))
  else
  some (.inl (t0, t3))) : Option ((List Quad × Int) ⊕ (List Quad × Bool × Int)))
  (spec_CodeValid_l1 t0 t3 t4) := fun r h => by
  have e : runC (phi Tb GT sg) Tb GT p14701.code (mkST p14701.ins [.sl .share .quad t0, .int .i64 t3, .int .i64 t4] p14701.bins []) (finL Tb GT 14701 p14701 s14701) = (
  (bif (decide (t4 < t3)) then
  bnd (geti t0 t4) fun e1 =>
  bnd (spec_QuadValid e1 t3) fun r2 =>
  (bif (!r2) then
  some (.inr (t0, false, t3))
  else
  spec_CodeValid_l1 t0 t3 (wrap64 (t4 + 1)))
  else
  some (.inl (t0, t3))) : Option ((List Quad × Int) ⊕ (List Quad × Bool × Int))) := by kernel_rfl
  exact loop_le' (sig := s14701) (p := p14701) (by kernel_rfl) (by kernel_rfl) rfl rfl rfl (e.trans h)

theorem impl_QuadValid_le (a0 : Quad) (a1 : Int) : Tv.Le
  (bnd (impl_isReg a0.dst) fun r1 =>
  bnd (impl_isReg a0.a) fun r2 =>
  bnd (impl_isReg a0.b) fun r3 =>
  (bif (decide (a0.op = 1)) then
  (bif (decide (a0.op = 1) && (decide (a0.dst = a0.dst) && (decide (a0.a = 0) && (decide (a0.b = 0) && (decide (a0.n = a0.n) && true))))) then
  (bif r1 then
  bnd (impl_WordValid a0.n) fun r4 =>
  some r4
  else
  some false)
  else
  some false)
  else
  (bif (decide (a0.op = 2)) then
  (bif (decide (a0.op = 2) && (decide (a0.dst = a0.dst) && (decide (a0.a = a0.a) && (decide (a0.b = 0) && (decide (a0.n = 0) && true))))) then
  (bif r1 then
  some r2
  else
  some false)
  else
  some false)
  else
  (bif (decide (a0.op = 3)) then
  (bif r1 then
  (bif r2 then
  (bif r3 then
  bnd (impl_OpValid a0.n) fun r5 =>
  some r5
  else
  some false)
  else
  some false)
  else
  some false)
  else
  (bif (decide (a0.op = 4)) then
  (bif (decide (a0.op = 4) && (decide (a0.dst = 0) && (decide (a0.a = 0) && (decide (a0.b = 0) && (decide (a0.n = a0.n) && true))))) then
  (bif (decide (0 ≤ a0.n)) then
  some (decide (a0.n < a1))
  else
  some false)
  else
  some false)
  else
  (bif (decide (a0.op = 5)) then
  (bif (decide (a0.op = 5) && (decide (a0.dst = 0) && (decide (a0.a = a0.a) && (decide (a0.b = 0) && (decide (a0.n = a0.n) && true))))) then
  (bif r2 then
  (bif (decide (0 ≤ a0.n)) then
  some (decide (a0.n < a1))
  else
  some false)
  else
  some false)
  else
  some false)
  else
  (bif (decide (a0.op = 6)) then
  (bif (decide (a0.op = 6) && (decide (a0.dst = 0) && (decide (a0.a = a0.a) && (decide (a0.b = 0) && (decide (a0.n = a0.n) && true))))) then
  (bif r2 then
  (bif (decide (0 ≤ a0.n)) then
  some (decide (a0.n < 3))
  else
  some false)
  else
  some false)
  else
  some false)
  else
  (bif (decide (a0.op = 7)) then
  (bif (decide (a0.op = 7) && (decide (a0.dst = a0.dst) && (decide (a0.a = 0) && (decide (a0.b = 0) && (decide (a0.n = a0.n) && true))))) then
  (bif r1 then
  (bif (decide (0 ≤ a0.n)) then
  some (decide (a0.n < 3))
  else
  some false)
  else
  some false)
  else
  some false)
  else
  (bif (decide (a0.op = 9)) then
  (bif (decide (a0.op = 9) && (decide (a0.dst = 0) && (decide (a0.a = a0.a) && (decide (a0.b = 0) && (decide (a0.n = 0) && true))))) then
  some r2
  else
  some false)
  else
  (bif (decide (a0.op = 8)) then
  some (decide (a0.op = a0.op) && (decide (a0.dst = 0) && (decide (a0.a = 0) && (decide (a0.b = 0) && (decide (a0.n = 0) && true)))))
  else
  (bif (decide (a0.op = 10)) then
  some (decide (a0.op = a0.op) && (decide (a0.dst = 0) && (decide (a0.a = 0) && (decide (a0.b = 0) && (decide (a0.n = 0) && true)))))
  else
  some false)))))))))) : Option (Bool))
  (impl_QuadValid a0 a1) := fun r h => by
  have e : runC (phi Tb GT sg) Tb GT p12300.code (mkST p12300.ins [.agg (rowT .quad a0), .int .i64 a1] p12300.bins []) (finT p12300 s12300) = (
  bnd (impl_isReg a0.dst) fun r1 =>
  bnd (impl_isReg a0.a) fun r2 =>
  bnd (impl_isReg a0.b) fun r3 =>
  (bif (decide (a0.op = 1)) then
  (bif (decide (a0.op = 1) && (decide (a0.dst = a0.dst) && (decide (a0.a = 0) && (decide (a0.b = 0) && (decide (a0.n = a0.n) && true))))) then
  (bif r1 then
  bnd (impl_WordValid a0.n) fun r4 =>
  some r4
  else
  some false)
  else
  some false)
  else
  (bif (decide (a0.op = 2)) then
  (bif (decide (a0.op = 2) && (decide (a0.dst = a0.dst) && (decide (a0.a = a0.a) && (decide (a0.b = 0) && (decide (a0.n = 0) && true))))) then
  (bif r1 then
  some r2
  else
  some false)
  else
  some false)
  else
  (bif (decide (a0.op = 3)) then
  (bif r1 then
  (bif r2 then
  (bif r3 then
  bnd (impl_OpValid a0.n) fun r5 =>
  some r5
  else
  some false)
  else
  some false)
  else
  some false)
  else
  (bif (decide (a0.op = 4)) then
  (bif (decide (a0.op = 4) && (decide (a0.dst = 0) && (decide (a0.a = 0) && (decide (a0.b = 0) && (decide (a0.n = a0.n) && true))))) then
  (bif (decide (0 ≤ a0.n)) then
  some (decide (a0.n < a1))
  else
  some false)
  else
  some false)
  else
  (bif (decide (a0.op = 5)) then
  (bif (decide (a0.op = 5) && (decide (a0.dst = 0) && (decide (a0.a = a0.a) && (decide (a0.b = 0) && (decide (a0.n = a0.n) && true))))) then
  (bif r2 then
  (bif (decide (0 ≤ a0.n)) then
  some (decide (a0.n < a1))
  else
  some false)
  else
  some false)
  else
  some false)
  else
  (bif (decide (a0.op = 6)) then
  (bif (decide (a0.op = 6) && (decide (a0.dst = 0) && (decide (a0.a = a0.a) && (decide (a0.b = 0) && (decide (a0.n = a0.n) && true))))) then
  (bif r2 then
  (bif (decide (0 ≤ a0.n)) then
  some (decide (a0.n < 3))
  else
  some false)
  else
  some false)
  else
  some false)
  else
  (bif (decide (a0.op = 7)) then
  (bif (decide (a0.op = 7) && (decide (a0.dst = a0.dst) && (decide (a0.a = 0) && (decide (a0.b = 0) && (decide (a0.n = a0.n) && true))))) then
  (bif r1 then
  (bif (decide (0 ≤ a0.n)) then
  some (decide (a0.n < 3))
  else
  some false)
  else
  some false)
  else
  some false)
  else
  (bif (decide (a0.op = 9)) then
  (bif (decide (a0.op = 9) && (decide (a0.dst = 0) && (decide (a0.a = a0.a) && (decide (a0.b = 0) && (decide (a0.n = 0) && true))))) then
  some r2
  else
  some false)
  else
  (bif (decide (a0.op = 8)) then
  some (decide (a0.op = a0.op) && (decide (a0.dst = 0) && (decide (a0.a = 0) && (decide (a0.b = 0) && (decide (a0.n = 0) && true)))))
  else
  (bif (decide (a0.op = 10)) then
  some (decide (a0.op = a0.op) && (decide (a0.dst = 0) && (decide (a0.a = 0) && (decide (a0.b = 0) && (decide (a0.n = 0) && true)))))
  else
  some false)))))))))) : Option (Bool)) := by kernel_rfl
  exact fn_le' (sig := s12300) (p := p12300) (by kernel_rfl) (by kernel_rfl) rfl rfl rfl (e.trans h)

theorem impl_CodeValid_l1_le (t0 : List Quad) (t14 : List Quad) (t15 : Int) (t16 : Int) : Tv.Le
  ((bif (decide (t16 < t15)) then
  bnd (geti t14 t16) fun e1 =>
  bnd (impl_QuadValid e1 (t0.length : Int)) fun r2 =>
  (bif (!r2) then
  some (.inr (t0, false))
  else
  impl_CodeValid_l1 t0 t14 t15 (wrap64 (t16 + 1)))
  else
  some (.inl t0)) : Option (List Quad ⊕ (List Quad × Bool)))
  (impl_CodeValid_l1 t0 t14 t15 t16) := fun r h => by
  have e : runC (phi Tb GT sg) Tb GT p14901.code (mkST p14901.ins [.sl .share .quad t0, .sl .share .quad t14, .int .i64 t15, .int .i64 t16] p14901.bins []) (finL Tb GT 14901 p14901 s14901) = (
  (bif (decide (t16 < t15)) then
  bnd (geti t14 t16) fun e1 =>
  bnd (impl_QuadValid e1 (t0.length : Int)) fun r2 =>
  (bif (!r2) then
  some (.inr (t0, false))
  else
  impl_CodeValid_l1 t0 t14 t15 (wrap64 (t16 + 1)))
  else
  some (.inl t0)) : Option (List Quad ⊕ (List Quad × Bool))) := by kernel_rfl
  exact loop_le' (sig := s14901) (p := p14901) (by kernel_rfl) (by kernel_rfl) rfl rfl rfl (e.trans h)

theorem laws_eqQuad_le (a0 : Quad) (a1 : Quad) : Tv.Le
  ((bif (!decide (a0.op = a1.op)) then
  some false
  else
  (bif (!decide (a0.dst = a1.dst)) then
  some false
  else
  (bif (!decide (a0.a = a1.a)) then
  some false
  else
  (bif (!decide (a0.b = a1.b)) then
  some false
  else
  (bif (!decide (a0.n = a1.n)) then
  some false
  else
  some true))))) : Option (Bool))
  (laws_eqQuad a0 a1) := fun r h => by
  have e : runC (phi Tb GT sg) Tb GT p15000.code (mkST p15000.ins [.agg (rowT .quad a0), .agg (rowT .quad a1)] p15000.bins []) (finT p15000 s15000) = (
  (bif (!decide (a0.op = a1.op)) then
  some false
  else
  (bif (!decide (a0.dst = a1.dst)) then
  some false
  else
  (bif (!decide (a0.a = a1.a)) then
  some false
  else
  (bif (!decide (a0.b = a1.b)) then
  some false
  else
  (bif (!decide (a0.n = a1.n)) then
  some false
  else
  some true))))) : Option (Bool)) := by kernel_rfl
  exact fn_le' (sig := s15000) (p := p15000) (by kernel_rfl) (by kernel_rfl) rfl rfl rfl (e.trans h)

theorem laws_eqQuadS_l1_le (t0 : List Quad) (t1 : List Quad) (t5 : Int) : Tv.Le
  ((bif (decide (t5 < (t0.length : Int))) then
  bnd (geti t0 t5) fun e1 =>
  bnd (geti t1 t5) fun e2 =>
  bnd (laws_eqQuad e1 e2) fun r3 =>
  (bif (!r3) then
  some (.inr false)
  else
  laws_eqQuadS_l1 t0 t1 (wrap64 (t5 + 1)))
  else
  some (.inl ())) : Option (Unit ⊕ Bool))
  (laws_eqQuadS_l1 t0 t1 t5) := fun r h => by
  have e : runC (phi Tb GT sg) Tb GT p15101.code (mkST p15101.ins [.sl .share .quad t0, .sl .share .quad t1, .int .i64 t5] p15101.bins []) (finL Tb GT 15101 p15101 s15101) = (
  (bif (decide (t5 < (t0.length : Int))) then
  bnd (geti t0 t5) fun e1 =>
  bnd (geti t1 t5) fun e2 =>
  bnd (laws_eqQuad e1 e2) fun r3 =>
  (bif (!r3) then
  some (.inr false)
  else
  laws_eqQuadS_l1 t0 t1 (wrap64 (t5 + 1)))
  else
  some (.inl ())) : Option (Unit ⊕ Bool)) := by kernel_rfl
  exact loop_le' (sig := s15101) (p := p15101) (by kernel_rfl) (by kernel_rfl) rfl rfl rfl (e.trans h)

theorem spec_l21Regs_le (a0 : Quad) (a1 : Bool) (a2 : Bool) (a3 : Bool) : Tv.Le
  (bnd (spec_l21Reg a0.dst a1) fun r1 =>
  (bif r1 then
  bnd (spec_l21Reg a0.a a2) fun r2 =>
  (bif r2 then
  bnd (spec_l21Reg a0.b a3) fun r3 =>
  some r3
  else
  some false)
  else
  some false) : Option (Bool))
  (spec_l21Regs a0 a1 a2 a3) := fun r h => by
  have e : runC (phi Tb GT sg) Tb GT p11900.code (mkST p11900.ins [.agg (rowT .quad a0), .bool a1, .bool a2, .bool a3] p11900.bins []) (finT p11900 s11900) = (
  bnd (spec_l21Reg a0.dst a1) fun r1 =>
  (bif r1 then
  bnd (spec_l21Reg a0.a a2) fun r2 =>
  (bif r2 then
  bnd (spec_l21Reg a0.b a3) fun r3 =>
  some r3
  else
  some false)
  else
  some false) : Option (Bool)) := by kernel_rfl
  exact fn_le' (sig := s11900) (p := p11900) (by kernel_rfl) (by kernel_rfl) rfl rfl rfl (e.trans h)

theorem spec_WordValid_le (a0 : Int) : Tv.Le
  (bnd (spec_l6In a0 (-2147483648) 2147483647) fun r1 =>
  some r1 : Option (Bool))
  (spec_WordValid a0) := fun r h => by
  have e : runC (phi Tb GT sg) Tb GT p6400.code (mkST p6400.ins [.int .i64 a0] p6400.bins []) (finT p6400 s6400) = (
  bnd (spec_l6In a0 (-2147483648) 2147483647) fun r1 =>
  some r1 : Option (Bool)) := by kernel_rfl
  exact fn_le' (sig := s6400) (p := p6400) (by kernel_rfl) (by kernel_rfl) rfl rfl rfl (e.trans h)

theorem spec_OpValid_le (a0 : Int) : Tv.Le
  (bnd (spec_l6In a0 1 12) fun r1 =>
  some r1 : Option (Bool))
  (spec_OpValid a0) := fun r h => by
  have e : runC (phi Tb GT sg) Tb GT p1700.code (mkST p1700.ins [.int .i64 a0] p1700.bins []) (finT p1700 s1700) = (
  bnd (spec_l6In a0 1 12) fun r1 =>
  some r1 : Option (Bool)) := by kernel_rfl
  exact fn_le' (sig := s1700) (p := p1700) (by kernel_rfl) (by kernel_rfl) rfl rfl rfl (e.trans h)

theorem impl_isReg_le (a0 : Int) : Tv.Le
  ((bif (decide (0 ≤ a0)) then
  some (decide (a0 < 12))
  else
  some false) : Option (Bool))
  (impl_isReg a0) := fun r h => by
  have e : runC (phi Tb GT sg) Tb GT p12200.code (mkST p12200.ins [.int .i64 a0] p12200.bins []) (finT p12200 s12200) = (
  (bif (decide (0 ≤ a0)) then
  some (decide (a0 < 12))
  else
  some false) : Option (Bool)) := by kernel_rfl
  exact fn_le' (sig := s12200) (p := p12200) (by kernel_rfl) (by kernel_rfl) rfl rfl rfl (e.trans h)

theorem impl_WordValid_le (a0 : Int) : Tv.Le
  ((bif (decide ((-2147483648) ≤ a0)) then
  some (decide (a0 ≤ 2147483647))
  else
  some false) : Option (Bool))
  (impl_WordValid a0) := fun r h => by
  have e : runC (phi Tb GT sg) Tb GT p5000.code (mkST p5000.ins [.int .i64 a0] p5000.bins []) (finT p5000 s5000) = (
  (bif (decide ((-2147483648) ≤ a0)) then
  some (decide (a0 ≤ 2147483647))
  else
  some false) : Option (Bool)) := by kernel_rfl
  exact fn_le' (sig := s5000) (p := p5000) (by kernel_rfl) (by kernel_rfl) rfl rfl rfl (e.trans h)

theorem impl_OpValid_le (a0 : Int) : Tv.Le
  ((bif (decide (1 ≤ a0)) then
  some (decide (a0 ≤ 12))
  else
  some false) : Option (Bool))
  (impl_OpValid a0) := fun r h => by
  have e : runC (phi Tb GT sg) Tb GT p1000.code (mkST p1000.ins [.int .i64 a0] p1000.bins []) (finT p1000 s1000) = (
  (bif (decide (1 ≤ a0)) then
  some (decide (a0 ≤ 12))
  else
  some false) : Option (Bool)) := by kernel_rfl
  exact fn_le' (sig := s1000) (p := p1000) (by kernel_rfl) (by kernel_rfl) rfl rfl rfl (e.trans h)

theorem spec_l21Reg_le (a0 : Int) (a1 : Bool) : Tv.Le
  ((bif a1 then
  bnd (spec_l6In a0 0 11) fun r1 =>
  some r1
  else
  some (decide (a0 = 0))) : Option (Bool))
  (spec_l21Reg a0 a1) := fun r h => by
  have e : runC (phi Tb GT sg) Tb GT p11800.code (mkST p11800.ins [.int .i64 a0, .bool a1] p11800.bins []) (finT p11800 s11800) = (
  (bif a1 then
  bnd (spec_l6In a0 0 11) fun r1 =>
  some r1
  else
  some (decide (a0 = 0))) : Option (Bool)) := by kernel_rfl
  exact fn_le' (sig := s11800) (p := p11800) (by kernel_rfl) (by kernel_rfl) rfl rfl rfl (e.trans h)

end Go.TFnExactCodeValid
