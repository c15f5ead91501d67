import Derived.Test.YtbgodlimjjgogaaDoorDFnQuadTextOtherP
import Derived.KernelRfl
set_option linter.unusedVariables false
namespace Go.TFnQuadTextOther
open Go Go.RowKit Go.Vs Go.Tv
theorem laws_FnQuadTextOther_le (a0 : List Int) (a1 : List Int) : Tv.Le
  ((bif (decide (1048576 < (a0.length : Int))) then
  some true
  else
  (bif (decide (1048576 < (a1.length : Int))) then
  some true
  else
  bnd (spec_DrawQuadText a0) fun r1 =>
  bnd (impl_QuadText r1) fun r2 =>
  bnd (spec_QuadText r1) fun r3 =>
  (bif (!(r2 == r3)) then
  some (r2 == r3)
  else
  (bif (r2 == []) then
  some (r2 == r3)
  else
  bnd (impl_QuadText (⟨r1.op, (Int.tmod (wrap64 ((wrap64 (r1.dst + 1)) + (Int.tmod (a1.length : Int) 11))) 12), r1.a, r1.b, r1.n⟩ : Quad)) fun r4 =>
  (bif (!(r4 == r2)) then
  bnd (impl_QuadText (⟨r1.op, r1.dst, (Int.tmod (wrap64 ((wrap64 (r1.a + 1)) + (Int.tmod (a1.length : Int) 11))) 12), r1.b, r1.n⟩ : Quad)) fun r5 =>
  some (!(r5 == r2))
  else
  some false))))) : Option (Bool))
  (laws_FnQuadTextOther a0 a1) := by
  rewrite [← wrapC_eq]
  exact fun r h => by
    have e : runC (phi Tb GT sg) Tb GT p21400.code (mkST p21400.ins [.sl .share .u8 a0, .sl .share .u8 a1] p21400.bins []) (finT p21400 s21400) = (
      (bif (decide (1048576 < (a0.length : Int))) then
      some true
      else
      (bif (decide (1048576 < (a1.length : Int))) then
      some true
      else
      bnd (spec_DrawQuadText a0) fun r1 =>
      bnd (impl_QuadText r1) fun r2 =>
      bnd (spec_QuadText r1) fun r3 =>
      (bif (!(r2 == r3)) then
      some (r2 == r3)
      else
      (bif (r2 == []) then
      some (r2 == r3)
      else
      bnd (impl_QuadText (⟨r1.op, (Int.tmod (wrapC ((wrapC (r1.dst + 1)) + (Int.tmod (a1.length : Int) 11))) 12), r1.a, r1.b, r1.n⟩ : Quad)) fun r4 =>
      (bif (!(r4 == r2)) then
      bnd (impl_QuadText (⟨r1.op, r1.dst, (Int.tmod (wrapC ((wrapC (r1.a + 1)) + (Int.tmod (a1.length : Int) 11))) 12), r1.b, r1.n⟩ : Quad)) fun r5 =>
      some (!(r5 == r2))
      else
      some false))))) : Option (Bool)) := by kernel_rfl
    exact fn_le' (sig := s21400) (p := p21400) (by kernel_rfl) (by kernel_rfl) rfl rfl rfl (e.trans h)

theorem spec_DrawQuadText_le (a0 : List Int) : Tv.Le
  (bnd (spec_l6Open a0) fun r1 =>
  bnd (spec_l93Wrong r1.1 r1.2) fun r2 =>
  some r2.1 : Option (Quad))
  (spec_DrawQuadText a0) := by
  exact fun r h => by
    have e : runC (phi Tb GT sg) Tb GT p21300.code (mkST p21300.ins [.sl .share .u8 a0] p21300.bins []) (finT p21300 s21300) = (
      bnd (spec_l6Open a0) fun r1 =>
      bnd (spec_l93Wrong r1.1 r1.2) fun r2 =>
      some r2.1 : Option (Quad)) := by kernel_rfl
    exact fn_le' (sig := s21300) (p := p21300) (by kernel_rfl) (by kernel_rfl) rfl rfl rfl (e.trans h)

theorem impl_QuadText_le (a0 : Quad) : Tv.Le
  (bnd (impl_QuadValid a0 600) fun r1 =>
  (bif (!r1) then
  some []
  else
  bnd (impl_regText a0.dst) fun r2 =>
  bnd (impl_regText a0.a) fun r3 =>
  bnd (strconv_Itoa a0.n) fun r4 =>
  (bif (decide (a0.op = 1)) then
  bnd (catS r2 ([32, 61, 32])) fun s5 =>
  bnd (catS s5 r4) fun s6 =>
  some s6
  else
  (bif (decide (a0.op = 2)) then
  bnd (catS r2 ([32, 61, 32])) fun s7 =>
  bnd (catS s7 r3) fun s8 =>
  some s8
  else
  (bif (decide (a0.op = 3)) then
  bnd (catS r2 ([32, 61, 32])) fun s9 =>
  bnd (catS s9 r3) fun s10 =>
  bnd (catS s10 [32]) fun s11 =>
  bnd (impl_OpText a0.n) fun r12 =>
  bnd (catS s11 r12) fun s13 =>
  bnd (catS s13 [32]) fun s14 =>
  bnd (impl_regText a0.b) fun r15 =>
  bnd (catS s14 r15) fun s16 =>
  some s16
  else
  (bif (decide (a0.op = 4)) then
  bnd (catS ([106, 117, 109, 112, 32]) r4) fun s17 =>
  some s17
  else
  (bif (decide (a0.op = 5)) then
  bnd (catS ([122, 101, 114, 111, 32]) r3) fun s18 =>
  bnd (catS s18 [32]) fun s19 =>
  bnd (catS s19 r4) fun s20 =>
  some s20
  else
  (bif (decide (a0.op = 6)) then
  bnd (catS ([115, 101, 110, 100, 32]) r4) fun s21 =>
  bnd (catS s21 [32]) fun s22 =>
  bnd (catS s22 r3) fun s23 =>
  some s23
  else
  (bif (decide (a0.op = 7)) then
  bnd (catS r2 ([32, 61, 32, 114, 101, 99, 118, 32])) fun s24 =>
  bnd (catS s24 r4) fun s25 =>
  some s25
  else
  (bif (decide (a0.op = 8)) then
  some ([121, 105, 101, 108, 100])
  else
  (bif (decide (a0.op = 9)) then
  bnd (catS ([112, 114, 105, 110, 116, 32]) r3) fun s26 =>
  some s26
  else
  some ([104, 97, 108, 116]))))))))))) : Option (List UInt8))
  (impl_QuadText a0) := by
  exact fun r h => by
    have e : runC (phi Tb GT sg) Tb GT p21100.code (mkST p21100.ins [.agg (rowT .quad a0)] p21100.bins []) (finT p21100 s21100) = (
      bnd (impl_QuadValid a0 600) fun r1 =>
      (bif (!r1) then
      some []
      else
      bnd (impl_regText a0.dst) fun r2 =>
      bnd (impl_regText a0.a) fun r3 =>
      bnd (strconv_Itoa a0.n) fun r4 =>
      (bif (decide (a0.op = 1)) then
      bnd (catS r2 ([32, 61, 32])) fun s5 =>
      bnd (catS s5 r4) fun s6 =>
      some s6
      else
      (bif (decide (a0.op = 2)) then
      bnd (catS r2 ([32, 61, 32])) fun s7 =>
      bnd (catS s7 r3) fun s8 =>
      some s8
      else
      (bif (decide (a0.op = 3)) then
      bnd (catS r2 ([32, 61, 32])) fun s9 =>
      bnd (catS s9 r3) fun s10 =>
      bnd (catS s10 [32]) fun s11 =>
      bnd (impl_OpText a0.n) fun r12 =>
      bnd (catS s11 r12) fun s13 =>
      bnd (catS s13 [32]) fun s14 =>
      bnd (impl_regText a0.b) fun r15 =>
      bnd (catS s14 r15) fun s16 =>
      some s16
      else
      (bif (decide (a0.op = 4)) then
      bnd (catS ([106, 117, 109, 112, 32]) r4) fun s17 =>
      some s17
      else
      (bif (decide (a0.op = 5)) then
      bnd (catS ([122, 101, 114, 111, 32]) r3) fun s18 =>
      bnd (catS s18 [32]) fun s19 =>
      bnd (catS s19 r4) fun s20 =>
      some s20
      else
      (bif (decide (a0.op = 6)) then
      bnd (catS ([115, 101, 110, 100, 32]) r4) fun s21 =>
      bnd (catS s21 [32]) fun s22 =>
      bnd (catS s22 r3) fun s23 =>
      some s23
      else
      (bif (decide (a0.op = 7)) then
      bnd (catS r2 ([32, 61, 32, 114, 101, 99, 118, 32])) fun s24 =>
      bnd (catS s24 r4) fun s25 =>
      some s25
      else
      (bif (decide (a0.op = 8)) then
      some ([121, 105, 101, 108, 100])
      else
      (bif (decide (a0.op = 9)) then
      bnd (catS ([112, 114, 105, 110, 116, 32]) r3) fun s26 =>
      some s26
      else
      some ([104, 97, 108, 116]))))))))))) : Option (List UInt8)) := by kernel_rfl
    exact fn_le' (sig := s21100) (p := p21100) (by kernel_rfl) (by kernel_rfl) rfl rfl rfl (e.trans h)

theorem spec_QuadText_le (a0 : Quad) : Tv.Le
  (bnd (spec_QuadValid a0 600) fun r1 =>
  (bif (!r1) then
  some []
  else
  (bif (decide (a0.op = 1)) then
  bnd (spec_l21R a0.dst) fun r2 =>
  bnd (catS r2 ([32, 61, 32])) fun s3 =>
  bnd (spec_l6Dec a0.n) fun r4 =>
  bnd (catS s3 r4) fun s5 =>
  some s5
  else
  (bif (decide (a0.op = 2)) then
  bnd (spec_l21R a0.dst) fun r6 =>
  bnd (catS r6 ([32, 61, 32])) fun s7 =>
  bnd (spec_l21R a0.a) fun r8 =>
  bnd (catS s7 r8) fun s9 =>
  some s9
  else
  (bif (decide (a0.op = 3)) then
  bnd (spec_l21R a0.dst) fun r10 =>
  bnd (catS r10 ([32, 61, 32])) fun s11 =>
  bnd (spec_l21R a0.a) fun r12 =>
  bnd (catS s11 r12) fun s13 =>
  bnd (catS s13 [32]) fun s14 =>
  bnd (spec_OpText a0.n) fun r15 =>
  bnd (catS s14 r15) fun s16 =>
  bnd (catS s16 [32]) fun s17 =>
  bnd (spec_l21R a0.b) fun r18 =>
  bnd (catS s17 r18) fun s19 =>
  some s19
  else
  (bif (decide (a0.op = 4)) then
  bnd (spec_l6Dec a0.n) fun r20 =>
  bnd (catS ([106, 117, 109, 112, 32]) r20) fun s21 =>
  some s21
  else
  (bif (decide (a0.op = 5)) then
  bnd (spec_l21R a0.a) fun r22 =>
  bnd (catS ([122, 101, 114, 111, 32]) r22) fun s23 =>
  bnd (catS s23 [32]) fun s24 =>
  bnd (spec_l6Dec a0.n) fun r25 =>
  bnd (catS s24 r25) fun s26 =>
  some s26
  else
  (bif (decide (a0.op = 6)) then
  bnd (spec_l6Dec a0.n) fun r27 =>
  bnd (catS ([115, 101, 110, 100, 32]) r27) fun s28 =>
  bnd (catS s28 [32]) fun s29 =>
  bnd (spec_l21R a0.a) fun r30 =>
  bnd (catS s29 r30) fun s31 =>
  some s31
  else
  (bif (decide (a0.op = 7)) then
  bnd (spec_l21R a0.dst) fun r32 =>
  bnd (catS r32 ([32, 61, 32, 114, 101, 99, 118, 32])) fun s33 =>
  bnd (spec_l6Dec a0.n) fun r34 =>
  bnd (catS s33 r34) fun s35 =>
  some s35
  else
  (bif (decide (a0.op = 8)) then
  some ([121, 105, 101, 108, 100])
  else
  (bif (decide (a0.op = 9)) then
  bnd (spec_l21R a0.a) fun r36 =>
  bnd (catS ([112, 114, 105, 110, 116, 32]) r36) fun s37 =>
  some s37
  else
  some ([104, 97, 108, 116]))))))))))) : Option (List UInt8))
  (spec_QuadText a0) := by
  exact fun r h => by
    have e : runC (phi Tb GT sg) Tb GT p20800.code (mkST p20800.ins [.agg (rowT .quad a0)] p20800.bins []) (finT p20800 s20800) = (
      bnd (spec_QuadValid a0 600) fun r1 =>
      (bif (!r1) then
      some []
      else
      (bif (decide (a0.op = 1)) then
      bnd (spec_l21R a0.dst) fun r2 =>
      bnd (catS r2 ([32, 61, 32])) fun s3 =>
      bnd (spec_l6Dec a0.n) fun r4 =>
      bnd (catS s3 r4) fun s5 =>
      some s5
      else
      (bif (decide (a0.op = 2)) then
      bnd (spec_l21R a0.dst) fun r6 =>
      bnd (catS r6 ([32, 61, 32])) fun s7 =>
      bnd (spec_l21R a0.a) fun r8 =>
      bnd (catS s7 r8) fun s9 =>
      some s9
      else
      (bif (decide (a0.op = 3)) then
      bnd (spec_l21R a0.dst) fun r10 =>
      bnd (catS r10 ([32, 61, 32])) fun s11 =>
      bnd (spec_l21R a0.a) fun r12 =>
      bnd (catS s11 r12) fun s13 =>
      bnd (catS s13 [32]) fun s14 =>
      bnd (spec_OpText a0.n) fun r15 =>
      bnd (catS s14 r15) fun s16 =>
      bnd (catS s16 [32]) fun s17 =>
      bnd (spec_l21R a0.b) fun r18 =>
      bnd (catS s17 r18) fun s19 =>
      some s19
      else
      (bif (decide (a0.op = 4)) then
      bnd (spec_l6Dec a0.n) fun r20 =>
      bnd (catS ([106, 117, 109, 112, 32]) r20) fun s21 =>
      some s21
      else
      (bif (decide (a0.op = 5)) then
      bnd (spec_l21R a0.a) fun r22 =>
      bnd (catS ([122, 101, 114, 111, 32]) r22) fun s23 =>
      bnd (catS s23 [32]) fun s24 =>
      bnd (spec_l6Dec a0.n) fun r25 =>
      bnd (catS s24 r25) fun s26 =>
      some s26
      else
      (bif (decide (a0.op = 6)) then
      bnd (spec_l6Dec a0.n) fun r27 =>
      bnd (catS ([115, 101, 110, 100, 32]) r27) fun s28 =>
      bnd (catS s28 [32]) fun s29 =>
      bnd (spec_l21R a0.a) fun r30 =>
      bnd (catS s29 r30) fun s31 =>
      some s31
      else
      (bif (decide (a0.op = 7)) then
      bnd (spec_l21R a0.dst) fun r32 =>
      bnd (catS r32 ([32, 61, 32, 114, 101, 99, 118, 32])) fun s33 =>
      bnd (spec_l6Dec a0.n) fun r34 =>
      bnd (catS s33 r34) fun s35 =>
      some s35
      else
      (bif (decide (a0.op = 8)) then
      some ([121, 105, 101, 108, 100])
      else
      (bif (decide (a0.op = 9)) then
      bnd (spec_l21R a0.a) fun r36 =>
      bnd (catS ([112, 114, 105, 110, 116, 32]) r36) fun s37 =>
      some s37
      else
      some ([104, 97, 108, 116]))))))))))) : Option (List UInt8)) := by kernel_rfl
    exact fn_le' (sig := s20800) (p := p20800) (by kernel_rfl) (by kernel_rfl) rfl rfl rfl (e.trans h)

theorem spec_l6Open_le (a0 : List Int) : Tv.Le
  ((bif (decide (2000 < (a0.length : Int))) then
  bnd (cutL a0 0 2000) fun l1 =>
  some (l1, 0)
  else
  some (a0, 0)) : Option (List Int × Int))
  (spec_l6Open a0) := by
  exact fun r h => by
    have e : runC (phi Tb GT sg) Tb GT p100.code (mkST p100.ins [.sl .share .u8 a0] p100.bins []) (finT p100 s100) = (
      (bif (decide (2000 < (a0.length : Int))) then
      bnd (cutL a0 0 2000) fun l1 =>
      some (l1, 0)
      else
      some (a0, 0)) : Option (List Int × Int)) := by kernel_rfl
    exact fn_le' (sig := s100) (p := p100) (by kernel_rfl) (by kernel_rfl) rfl rfl rfl (e.trans h)

theorem spec_l93Wrong_le (a0b : List Int) (a0p : Int) : Tv.Le
  (bnd (spec_l93Quad 20 a0b a0p) fun r1 =>
  bnd (spec_l6Rd_pick 12 r1.2.1 r1.2.2) fun r2 =>
  (bif (decide (r2.1 = 0)) then
  bnd (spec_l6Rd_pick 24 r2.2.1 r2.2.2) fun r3 =>
  (bif (decide (r3.1 = 0)) then
  some (⟨10, 0, 12, 0, 0⟩, r3.2.1, r3.2.2)
  else
  (bif (decide (r3.1 = 1)) then
  some (⟨10, 0, 0, 1, 0⟩, r3.2.1, r3.2.2)
  else
  (bif (decide (r3.1 = 2)) then
  bnd (spec_l6Rd_pick 2 r3.2.1 r3.2.2) fun r4 =>
  bnd (geti ([0, 11] : List Int) r4.1) fun e5 =>
  some (⟨e5, 0, 0, 0, 0⟩, r4.2.1, r4.2.2)
  else
  (bif (decide (r3.1 = 3)) then
  some (⟨10, 0, 0, 0, 600⟩, r3.2.1, r3.2.2)
  else
  some (⟨10, 0, 0, 0, 0⟩, r3.2.1, r3.2.2)))))
  else
  bnd (spec_l6Rd_pick 24 r2.2.1 r2.2.2) fun r6 =>
  (bif (decide (r6.1 = 0)) then
  some (⟨r1.1.op, r1.1.dst, 12, r1.1.b, r1.1.n⟩, r6.2.1, r6.2.2)
  else
  (bif (decide (r6.1 = 1)) then
  some (⟨r1.1.op, r1.1.dst, r1.1.a, 1, r1.1.n⟩, r6.2.1, r6.2.2)
  else
  (bif (decide (r6.1 = 2)) then
  bnd (spec_l6Rd_pick 2 r6.2.1 r6.2.2) fun r7 =>
  bnd (geti ([0, 11] : List Int) r7.1) fun e8 =>
  some (⟨e8, r1.1.dst, r1.1.a, r1.1.b, r1.1.n⟩, r7.2.1, r7.2.2)
  else
  (bif (decide (r6.1 = 3)) then
  some (⟨r1.1.op, r1.1.dst, r1.1.a, r1.1.b, 600⟩, r6.2.1, r6.2.2)
  else
  some (r1.1, r6.2.1, r6.2.2)))))) : Option (Quad × List Int × Int))
  (spec_l93Wrong a0b a0p) := by
  exact fun r h => by
    have e : runC (phi Tb GT sg) Tb GT p15500.code (mkST p15500.ins [.bp 0 0] p15500.bins [.var [.sl .share .u8 a0b, .int .i64 a0p]]) (finT p15500 s15500) = (
      bnd (spec_l93Quad 20 a0b a0p) fun r1 =>
      bnd (spec_l6Rd_pick 12 r1.2.1 r1.2.2) fun r2 =>
      (bif (decide (r2.1 = 0)) then
      bnd (spec_l6Rd_pick 24 r2.2.1 r2.2.2) fun r3 =>
      (bif (decide (r3.1 = 0)) then
      some (⟨10, 0, 12, 0, 0⟩, r3.2.1, r3.2.2)
      else
      (bif (decide (r3.1 = 1)) then
      some (⟨10, 0, 0, 1, 0⟩, r3.2.1, r3.2.2)
      else
      (bif (decide (r3.1 = 2)) then
      bnd (spec_l6Rd_pick 2 r3.2.1 r3.2.2) fun r4 =>
      bnd (geti ([0, 11] : List Int) r4.1) fun e5 =>
      some (⟨e5, 0, 0, 0, 0⟩, r4.2.1, r4.2.2)
      else
      (bif (decide (r3.1 = 3)) then
      some (⟨10, 0, 0, 0, 600⟩, r3.2.1, r3.2.2)
      else
      some (⟨10, 0, 0, 0, 0⟩, r3.2.1, r3.2.2)))))
      else
      bnd (spec_l6Rd_pick 24 r2.2.1 r2.2.2) fun r6 =>
      (bif (decide (r6.1 = 0)) then
      some (⟨r1.1.op, r1.1.dst, 12, r1.1.b, r1.1.n⟩, r6.2.1, r6.2.2)
      else
      (bif (decide (r6.1 = 1)) then
      some (⟨r1.1.op, r1.1.dst, r1.1.a, 1, r1.1.n⟩, r6.2.1, r6.2.2)
      else
      (bif (decide (r6.1 = 2)) then
      bnd (spec_l6Rd_pick 2 r6.2.1 r6.2.2) fun r7 =>
      bnd (geti ([0, 11] : List Int) r7.1) fun e8 =>
      some (⟨e8, r1.1.dst, r1.1.a, r1.1.b, r1.1.n⟩, r7.2.1, r7.2.2)
      else
      (bif (decide (r6.1 = 3)) then
      some (⟨r1.1.op, r1.1.dst, r1.1.a, r1.1.b, 600⟩, r6.2.1, r6.2.2)
      else
      some (r1.1, r6.2.1, r6.2.2)))))) : Option (Quad × List Int × Int)) := by kernel_rfl
    exact fn_le' (sig := s15500) (p := p15500) (by kernel_rfl) (by kernel_rfl) rfl rfl rfl (e.trans h)

theorem impl_QuadValid_le (a0 : Quad) (a1 : Int) : Tv.Le
  (bnd (impl_isReg a0.dst) fun r1 =>
  bnd (impl_isReg a0.a) fun r2 =>
  bnd (impl_isReg a0.b) fun r3 =>
  (bif (decide (a0.op = 1)) then
  (bif (decide (a0.op = 1) && (decide (a0.dst = a0.dst) && (decide (a0.a = 0) && (decide (a0.b = 0) && (decide (a0.n = a0.n) && true))))) then
  (bif r1 then
  bnd (impl_WordValid a0.n) fun r4 =>
  some r4
  else
  some false)
  else
  some false)
  else
  (bif (decide (a0.op = 2)) then
  (bif (decide (a0.op = 2) && (decide (a0.dst = a0.dst) && (decide (a0.a = a0.a) && (decide (a0.b = 0) && (decide (a0.n = 0) && true))))) then
  (bif r1 then
  some r2
  else
  some false)
  else
  some false)
  else
  (bif (decide (a0.op = 3)) then
  (bif r1 then
  (bif r2 then
  (bif r3 then
  bnd (impl_OpValid a0.n) fun r5 =>
  some r5
  else
  some false)
  else
  some false)
  else
  some false)
  else
  (bif (decide (a0.op = 4)) then
  (bif (decide (a0.op = 4) && (decide (a0.dst = 0) && (decide (a0.a = 0) && (decide (a0.b = 0) && (decide (a0.n = a0.n) && true))))) then
  (bif (decide (0 ≤ a0.n)) then
  some (decide (a0.n < a1))
  else
  some false)
  else
  some false)
  else
  (bif (decide (a0.op = 5)) then
  (bif (decide (a0.op = 5) && (decide (a0.dst = 0) && (decide (a0.a = a0.a) && (decide (a0.b = 0) && (decide (a0.n = a0.n) && true))))) then
  (bif r2 then
  (bif (decide (0 ≤ a0.n)) then
  some (decide (a0.n < a1))
  else
  some false)
  else
  some false)
  else
  some false)
  else
  (bif (decide (a0.op = 6)) then
  (bif (decide (a0.op = 6) && (decide (a0.dst = 0) && (decide (a0.a = a0.a) && (decide (a0.b = 0) && (decide (a0.n = a0.n) && true))))) then
  (bif r2 then
  (bif (decide (0 ≤ a0.n)) then
  some (decide (a0.n < 3))
  else
  some false)
  else
  some false)
  else
  some false)
  else
  (bif (decide (a0.op = 7)) then
  (bif (decide (a0.op = 7) && (decide (a0.dst = a0.dst) && (decide (a0.a = 0) && (decide (a0.b = 0) && (decide (a0.n = a0.n) && true))))) then
  (bif r1 then
  (bif (decide (0 ≤ a0.n)) then
  some (decide (a0.n < 3))
  else
  some false)
  else
  some false)
  else
  some false)
  else
  (bif (decide (a0.op = 9)) then
  (bif (decide (a0.op = 9) && (decide (a0.dst = 0) && (decide (a0.a = a0.a) && (decide (a0.b = 0) && (decide (a0.n = 0) && true))))) then
  some r2
  else
  some false)
  else
  (bif (decide (a0.op = 8)) then
  some (decide (a0.op = a0.op) && (decide (a0.dst = 0) && (decide (a0.a = 0) && (decide (a0.b = 0) && (decide (a0.n = 0) && true)))))
  else
  (bif (decide (a0.op = 10)) then
  some (decide (a0.op = a0.op) && (decide (a0.dst = 0) && (decide (a0.a = 0) && (decide (a0.b = 0) && (decide (a0.n = 0) && true)))))
  else
  some false)))))))))) : Option (Bool))
  (impl_QuadValid a0 a1) := by
  exact fun r h => by
    have e : runC (phi Tb GT sg) Tb GT p12300.code (mkST p12300.ins [.agg (rowT .quad a0), .int .i64 a1] p12300.bins []) (finT p12300 s12300) = (
      bnd (impl_isReg a0.dst) fun r1 =>
      bnd (impl_isReg a0.a) fun r2 =>
      bnd (impl_isReg a0.b) fun r3 =>
      (bif (decide (a0.op = 1)) then
      (bif (decide (a0.op = 1) && (decide (a0.dst = a0.dst) && (decide (a0.a = 0) && (decide (a0.b = 0) && (decide (a0.n = a0.n) && true))))) then
      (bif r1 then
      bnd (impl_WordValid a0.n) fun r4 =>
      some r4
      else
      some false)
      else
      some false)
      else
      (bif (decide (a0.op = 2)) then
      (bif (decide (a0.op = 2) && (decide (a0.dst = a0.dst) && (decide (a0.a = a0.a) && (decide (a0.b = 0) && (decide (a0.n = 0) && true))))) then
      (bif r1 then
      some r2
      else
      some false)
      else
      some false)
      else
      (bif (decide (a0.op = 3)) then
      (bif r1 then
      (bif r2 then
      (bif r3 then
      bnd (impl_OpValid a0.n) fun r5 =>
      some r5
      else
      some false)
      else
      some false)
      else
      some false)
      else
      (bif (decide (a0.op = 4)) then
      (bif (decide (a0.op = 4) && (decide (a0.dst = 0) && (decide (a0.a = 0) && (decide (a0.b = 0) && (decide (a0.n = a0.n) && true))))) then
      (bif (decide (0 ≤ a0.n)) then
      some (decide (a0.n < a1))
      else
      some false)
      else
      some false)
      else
      (bif (decide (a0.op = 5)) then
      (bif (decide (a0.op = 5) && (decide (a0.dst = 0) && (decide (a0.a = a0.a) && (decide (a0.b = 0) && (decide (a0.n = a0.n) && true))))) then
      (bif r2 then
      (bif (decide (0 ≤ a0.n)) then
      some (decide (a0.n < a1))
      else
      some false)
      else
      some false)
      else
      some false)
      else
      (bif (decide (a0.op = 6)) then
      (bif (decide (a0.op = 6) && (decide (a0.dst = 0) && (decide (a0.a = a0.a) && (decide (a0.b = 0) && (decide (a0.n = a0.n) && true))))) then
      (bif r2 then
      (bif (decide (0 ≤ a0.n)) then
      some (decide (a0.n < 3))
      else
      some false)
      else
      some false)
      else
      some false)
      else
      (bif (decide (a0.op = 7)) then
      (bif (decide (a0.op = 7) && (decide (a0.dst = a0.dst) && (decide (a0.a = 0) && (decide (a0.b = 0) && (decide (a0.n = a0.n) && true))))) then
      (bif r1 then
      (bif (decide (0 ≤ a0.n)) then
      some (decide (a0.n < 3))
      else
      some false)
      else
      some false)
      else
      some false)
      else
      (bif (decide (a0.op = 9)) then
      (bif (decide (a0.op = 9) && (decide (a0.dst = 0) && (decide (a0.a = a0.a) && (decide (a0.b = 0) && (decide (a0.n = 0) && true))))) then
      some r2
      else
      some false)
      else
      (bif (decide (a0.op = 8)) then
      some (decide (a0.op = a0.op) && (decide (a0.dst = 0) && (decide (a0.a = 0) && (decide (a0.b = 0) && (decide (a0.n = 0) && true)))))
      else
      (bif (decide (a0.op = 10)) then
      some (decide (a0.op = a0.op) && (decide (a0.dst = 0) && (decide (a0.a = 0) && (decide (a0.b = 0) && (decide (a0.n = 0) && true)))))
      else
      some false)))))))))) : Option (Bool)) := by kernel_rfl
    exact fn_le' (sig := s12300) (p := p12300) (by kernel_rfl) (by kernel_rfl) rfl rfl rfl (e.trans h)

theorem impl_regText_le (a0 : Int) : Tv.Le
  (bnd (strconv_Itoa a0) fun r1 =>
  bnd (catS [114] r1) fun s2 =>
  some s2 : Option (List UInt8))
  (impl_regText a0) := by
  exact fun r h => by
    have e : runC (phi Tb GT sg) Tb GT p20900.code (mkST p20900.ins [.int .i64 a0] p20900.bins []) (finT p20900 s20900) = (
      bnd (strconv_Itoa a0) fun r1 =>
      bnd (catS [114] r1) fun s2 =>
      some s2 : Option (List UInt8)) := by kernel_rfl
    exact fn_le' (sig := s20900) (p := p20900) (by kernel_rfl) (by kernel_rfl) rfl rfl rfl (e.trans h)

theorem strconv_Itoa_le (a0 : Int) : Tv.Le (if -9223372036854775808 ≤ a0 ∧ a0 ≤ 9223372036854775807 then some (Lib.itoa a0) else none : Option (List UInt8)) (strconv_Itoa a0) := fun r h => by
  exact prim_le (F := Tb) (G := GT) (sg := fun _ => s22000) (g := 22000) (p := p22000) (x := r) (tv := [.int .i64 a0]) (v := .str r) (by kernel_rfl) rfl (itoa_pf h) rfl

theorem impl_OpText_le (a0 : Int) : Tv.Le
  (bnd (impl_OpValid a0) fun r1 =>
  (bif (!r1) then
  some []
  else
  bnd (geti ([[124], [94], [38], [61, 61], [60], [60, 60], [62, 62], [43], [45], [42], [47], [37]] : List (List UInt8)) (wrap64 (a0 - 1))) fun _ =>
  bnd (([[124], [94], [38], [61, 61], [60], [60, 60], [62, 62], [43], [45], [42], [47], [37]] : List (List UInt8))[(Int.toNat (wrap64 (a0 - 1)))]?) fun s2 =>
  some s2) : Option (List UInt8))
  (impl_OpText a0) := by
  rewrite [← wrapC_eq]
  exact fun r h => by
    have e : runC (phi Tb GT sg) Tb GT p21000.code (mkST p21000.ins [.int .i64 a0] p21000.bins []) (finT p21000 s21000) = (
      bnd (impl_OpValid a0) fun r1 =>
      (bif (!r1) then
      some []
      else
      bnd (geti ([[124], [94], [38], [61, 61], [60], [60, 60], [62, 62], [43], [45], [42], [47], [37]] : List (List UInt8)) (wrapC (a0 - 1))) fun _ =>
      bnd (([[124], [94], [38], [61, 61], [60], [60, 60], [62, 62], [43], [45], [42], [47], [37]] : List (List UInt8))[(Int.toNat (wrapC (a0 - 1)))]?) fun s2 =>
      some s2) : Option (List UInt8)) := by kernel_rfl
    exact fn_le' (sig := s21000) (p := p21000) (by kernel_rfl) (by kernel_rfl) rfl rfl rfl (e.trans h)

theorem spec_QuadValid_le (a0 : Quad) (a1 : Int) : Tv.Le
  ((bif (decide (a0.op = 1)) then
  bnd (spec_l21Regs a0 true false false) fun r1 =>
  (bif r1 then
  bnd (spec_WordValid a0.n) fun r2 =>
  some r2
  else
  some false)
  else
  (bif (decide (a0.op = 2)) then
  bnd (spec_l21Regs a0 true true false) fun r3 =>
  (bif r3 then
  some (decide (a0.n = 0))
  else
  some false)
  else
  (bif (decide (a0.op = 3)) then
  bnd (spec_l21Regs a0 true true true) fun r4 =>
  (bif r4 then
  bnd (spec_OpValid a0.n) fun r5 =>
  some r5
  else
  some false)
  else
  (bif (decide (a0.op = 4)) then
  bnd (spec_l21Regs a0 false false false) fun r6 =>
  (bif r6 then
  (bif (decide (0 ≤ a0.n)) then
  some (decide (a0.n < a1))
  else
  some false)
  else
  some false)
  else
  (bif (decide (a0.op = 5)) then
  bnd (spec_l21Regs a0 false true false) fun r7 =>
  (bif r7 then
  (bif (decide (0 ≤ a0.n)) then
  some (decide (a0.n < a1))
  else
  some false)
  else
  some false)
  else
  (bif (decide (a0.op = 6)) then
  bnd (spec_l21Regs a0 false true false) fun r8 =>
  (bif r8 then
  bnd (spec_l6In a0.n 0 2) fun r9 =>
  some r9
  else
  some false)
  else
  (bif (decide (a0.op = 7)) then
  bnd (spec_l21Regs a0 true false false) fun r10 =>
  (bif r10 then
  bnd (spec_l6In a0.n 0 2) fun r11 =>
  some r11
  else
  some false)
  else
  (bif (decide (a0.op = 9)) then
  bnd (spec_l21Regs a0 false true false) fun r12 =>
  (bif r12 then
  some (decide (a0.n = 0))
  else
  some false)
  else
  (bif (decide (a0.op = 8)) then
  bnd (spec_l21Regs a0 false false false) fun r13 =>
  (bif r13 then
  some (decide (a0.n = 0))
  else
  some false)
  else
  (bif (decide (a0.op = 10)) then
  bnd (spec_l21Regs a0 false false false) fun r14 =>
  (bif r14 then
  some (decide (a0.n = 0))
  else
  some false)
  else
  some false)))))))))) : Option (Bool))
  (spec_QuadValid a0 a1) := by
  exact fun r h => by
    have e : runC (phi Tb GT sg) Tb GT p12000.code (mkST p12000.ins [.agg (rowT .quad a0), .int .i64 a1] p12000.bins []) (finT p12000 s12000) = (
      (bif (decide (a0.op = 1)) then
      bnd (spec_l21Regs a0 true false false) fun r1 =>
      (bif r1 then
      bnd (spec_WordValid a0.n) fun r2 =>
      some r2
      else
      some false)
      else
      (bif (decide (a0.op = 2)) then
      bnd (spec_l21Regs a0 true true false) fun r3 =>
      (bif r3 then
      some (decide (a0.n = 0))
      else
      some false)
      else
      (bif (decide (a0.op = 3)) then
      bnd (spec_l21Regs a0 true true true) fun r4 =>
      (bif r4 then
      bnd (spec_OpValid a0.n) fun r5 =>
      some r5
      else
      some false)
      else
      (bif (decide (a0.op = 4)) then
      bnd (spec_l21Regs a0 false false false) fun r6 =>
      (bif r6 then
      (bif (decide (0 ≤ a0.n)) then
      some (decide (a0.n < a1))
      else
      some false)
      else
      some false)
      else
      (bif (decide (a0.op = 5)) then
      bnd (spec_l21Regs a0 false true false) fun r7 =>
      (bif r7 then
      (bif (decide (0 ≤ a0.n)) then
      some (decide (a0.n < a1))
      else
      some false)
      else
      some false)
      else
      (bif (decide (a0.op = 6)) then
      bnd (spec_l21Regs a0 false true false) fun r8 =>
      (bif r8 then
      bnd (spec_l6In a0.n 0 2) fun r9 =>
      some r9
      else
      some false)
      else
      (bif (decide (a0.op = 7)) then
      bnd (spec_l21Regs a0 true false false) fun r10 =>
      (bif r10 then
      bnd (spec_l6In a0.n 0 2) fun r11 =>
      some r11
      else
      some false)
      else
      (bif (decide (a0.op = 9)) then
      bnd (spec_l21Regs a0 false true false) fun r12 =>
      (bif r12 then
      some (decide (a0.n = 0))
      else
      some false)
      else
      (bif (decide (a0.op = 8)) then
      bnd (spec_l21Regs a0 false false false) fun r13 =>
      (bif r13 then
      some (decide (a0.n = 0))
      else
      some false)
      else
      (bif (decide (a0.op = 10)) then
      bnd (spec_l21Regs a0 false false false) fun r14 =>
      (bif r14 then
      some (decide (a0.n = 0))
      else
      some false)
      else
      some false)))))))))) : Option (Bool)) := by kernel_rfl
    exact fn_le' (sig := s12000) (p := p12000) (by kernel_rfl) (by kernel_rfl) rfl rfl rfl (e.trans h)

theorem spec_l21R_le (a0 : Int) : Tv.Le
  (bnd (spec_l6Dec a0) fun r1 =>
  bnd (catS [114] r1) fun s2 =>
  some s2 : Option (List UInt8))
  (spec_l21R a0) := by
  exact fun r h => by
    have e : runC (phi Tb GT sg) Tb GT p20600.code (mkST p20600.ins [.int .i64 a0] p20600.bins []) (finT p20600 s20600) = (
      bnd (spec_l6Dec a0) fun r1 =>
      bnd (catS [114] r1) fun s2 =>
      some s2 : Option (List UInt8)) := by kernel_rfl
    exact fn_le' (sig := s20600) (p := p20600) (by kernel_rfl) (by kernel_rfl) rfl rfl rfl (e.trans h)

theorem spec_l6Dec_le (a0 : Int) : Tv.Le
  ((bif (decide (a0 < (-9223372036854775807))) then
  some ([45, 57, 50, 50, 51, 51, 55, 50, 48, 51, 54, 56, 53, 52, 55, 55, 53, 56, 48, 56])
  else
  (bif (decide (a0 < 0)) then
  bnd (spec_l6Dec (wrap64 (0 - a0))) fun r1 =>
  bnd (catS [45] r1) fun s2 =>
  some s2
  else
  (bif (decide (a0 < 10)) then
  some (Tv.bytes ([(((wrap64 (48 + a0))) % 256)] : List Int))
  else
  bnd (spec_l6Dec (wrap64 (Int.tdiv a0 10))) fun r3 =>
  bnd (catS r3 (Tv.bytes ([(((wrap64 (48 + (Int.tmod a0 10)))) % 256)] : List Int))) fun s4 =>
  some s4))) : Option (List UInt8))
  (spec_l6Dec a0) := by
  rewrite [← wrapC_eq]
  exact fun r h => by
    have e : runC (phi Tb GT sg) Tb GT p20500.code (mkST p20500.ins [.int .i64 a0] p20500.bins []) (finT p20500 s20500) = (
      (bif (decide (a0 < (-9223372036854775807))) then
      some ([45, 57, 50, 50, 51, 51, 55, 50, 48, 51, 54, 56, 53, 52, 55, 55, 53, 56, 48, 56])
      else
      (bif (decide (a0 < 0)) then
      bnd (spec_l6Dec (wrapC (0 - a0))) fun r1 =>
      bnd (catS [45] r1) fun s2 =>
      some s2
      else
      (bif (decide (a0 < 10)) then
      some (Tv.bytes ([(((wrapC (48 + a0))) % 256)] : List Int))
      else
      bnd (spec_l6Dec (wrapC (Int.tdiv a0 10))) fun r3 =>
      bnd (catS r3 (Tv.bytes ([(((wrapC (48 + (Int.tmod a0 10)))) % 256)] : List Int))) fun s4 =>
      some s4))) : Option (List UInt8)) := by kernel_rfl
    exact fn_le' (sig := s20500) (p := p20500) (by kernel_rfl) (by kernel_rfl) rfl rfl rfl (e.trans h)

theorem spec_OpText_le (a0 : Int) : Tv.Le
  (bnd (spec_OpValid a0) fun r1 =>
  (bif (!r1) then
  some []
  else
  bnd (geti ([[124], [94], [38], [61, 61], [60], [60, 60], [62, 62], [43], [45], [42], [47], [37]] : List (List UInt8)) (wrap64 (a0 - 1))) fun e2 =>
  some e2) : Option (List UInt8))
  (spec_OpText a0) := by
  rewrite [← wrapC_eq]
  exact fun r h => by
    have e : runC (phi Tb GT sg) Tb GT p20700.code (mkST p20700.ins [.int .i64 a0] p20700.bins []) (finT p20700 s20700) = (
      bnd (spec_OpValid a0) fun r1 =>
      (bif (!r1) then
      some []
      else
      bnd (geti ([[124], [94], [38], [61, 61], [60], [60, 60], [62, 62], [43], [45], [42], [47], [37]] : List (List UInt8)) (wrapC (a0 - 1))) fun e2 =>
      some e2) : Option (List UInt8)) := by kernel_rfl
    exact fn_le' (sig := s20700) (p := p20700) (by kernel_rfl) (by kernel_rfl) rfl rfl rfl (e.trans h)

theorem spec_l93Quad_le (a1 : Int) (a0b : List Int) (a0p : Int) : Tv.Le
  (bnd (spec_l6Rd_pick 12 a0b a0p) fun r1 =>
  (bif (decide (r1.1 = 0)) then
  bnd (spec_l93Reg r1.2.1 r1.2.2) fun r2 =>
  bnd (spec_l91Word r2.2.1 r2.2.2) fun r3 =>
  bnd (spec_l6Rd_pick 4 r3.2.1 r3.2.2) fun r4 =>
  bnd (geti ([0, 1, 2, r3.1] : List Int) r4.1) fun e5 =>
  some (⟨1, r2.1, 0, 0, e5⟩, r4.2.1, r4.2.2)
  else
  (bif (decide (r1.1 = 1)) then
  bnd (spec_l93Reg r1.2.1 r1.2.2) fun r6 =>
  bnd (spec_l91Word r6.2.1 r6.2.2) fun r7 =>
  bnd (spec_l6Rd_pick 4 r7.2.1 r7.2.2) fun r8 =>
  bnd (geti ([0, 1, 2, r7.1] : List Int) r8.1) fun e9 =>
  some (⟨1, r6.1, 0, 0, e9⟩, r8.2.1, r8.2.2)
  else
  (bif (decide (r1.1 = 2)) then
  bnd (spec_l93Reg r1.2.1 r1.2.2) fun r10 =>
  bnd (spec_l93Reg r10.2.1 r10.2.2) fun r11 =>
  some (⟨2, r10.1, r11.1, 0, 0⟩, r11.2.1, r11.2.2)
  else
  (bif (decide (r1.1 = 3)) then
  bnd (spec_l93Reg r1.2.1 r1.2.2) fun r12 =>
  bnd (spec_l93Reg r12.2.1 r12.2.2) fun r13 =>
  some (⟨2, r12.1, r13.1, 0, 0⟩, r13.2.1, r13.2.2)
  else
  (bif (decide (r1.1 = 4)) then
  bnd (spec_l93Reg r1.2.1 r1.2.2) fun r14 =>
  bnd (spec_l93Reg r14.2.1 r14.2.2) fun r15 =>
  bnd (spec_l93Reg r15.2.1 r15.2.2) fun r16 =>
  bnd (spec_l91Op r16.2.1 r16.2.2) fun r17 =>
  some (⟨3, r14.1, r15.1, r16.1, r17.1⟩, r17.2.1, r17.2.2)
  else
  (bif (decide (r1.1 = 5)) then
  bnd (spec_l93Reg r1.2.1 r1.2.2) fun r18 =>
  bnd (spec_l93Reg r18.2.1 r18.2.2) fun r19 =>
  bnd (spec_l93Reg r19.2.1 r19.2.2) fun r20 =>
  bnd (spec_l91Op r20.2.1 r20.2.2) fun r21 =>
  some (⟨3, r18.1, r19.1, r20.1, r21.1⟩, r21.2.1, r21.2.2)
  else
  (bif (decide (r1.1 = 6)) then
  bnd (spec_l93Reg r1.2.1 r1.2.2) fun r22 =>
  bnd (spec_l93Reg r22.2.1 r22.2.2) fun r23 =>
  bnd (spec_l93Reg r23.2.1 r23.2.2) fun r24 =>
  bnd (spec_l91Op r24.2.1 r24.2.2) fun r25 =>
  some (⟨3, r22.1, r23.1, r24.1, r25.1⟩, r25.2.1, r25.2.2)
  else
  (bif (decide (r1.1 = 7)) then
  bnd (spec_l6Rd_pick a1 r1.2.1 r1.2.2) fun r26 =>
  some (⟨4, 0, 0, 0, r26.1⟩, r26.2.1, r26.2.2)
  else
  (bif (decide (r1.1 = 8)) then
  bnd (spec_l93Reg r1.2.1 r1.2.2) fun r27 =>
  bnd (spec_l6Rd_pick a1 r27.2.1 r27.2.2) fun r28 =>
  some (⟨5, 0, r27.1, 0, r28.1⟩, r28.2.1, r28.2.2)
  else
  (bif (decide (r1.1 = 9)) then
  bnd (spec_l93Reg r1.2.1 r1.2.2) fun r29 =>
  bnd (spec_l6Rd_pick 2 r29.2.1 r29.2.2) fun r30 =>
  some (⟨6, 0, r29.1, 0, r30.1⟩, r30.2.1, r30.2.2)
  else
  (bif (decide (r1.1 = 10)) then
  bnd (spec_l93Reg r1.2.1 r1.2.2) fun r31 =>
  bnd (spec_l6Rd_pick 2 r31.2.1 r31.2.2) fun r32 =>
  some (⟨7, r31.1, 0, 0, r32.1⟩, r32.2.1, r32.2.2)
  else
  bnd (spec_l6Rd_pick 4 r1.2.1 r1.2.2) fun r33 =>
  (bif (decide (r33.1 = 0)) then
  some (⟨8, 0, 0, 0, 0⟩, r33.2.1, r33.2.2)
  else
  bnd (spec_l93Reg r33.2.1 r33.2.2) fun r34 =>
  some (⟨9, 0, r34.1, 0, 0⟩, r34.2.1, r34.2.2))))))))))))) : Option (Quad × List Int × Int))
  (spec_l93Quad a1 a0b a0p) := by
  exact fun r h => by
    have e : runC (phi Tb GT sg) Tb GT p15400.code (mkST p15400.ins [.bp 0 0, .int .i64 a1] p15400.bins [.var [.sl .share .u8 a0b, .int .i64 a0p]]) (finT p15400 s15400) = (
      bnd (spec_l6Rd_pick 12 a0b a0p) fun r1 =>
      (bif (decide (r1.1 = 0)) then
      bnd (spec_l93Reg r1.2.1 r1.2.2) fun r2 =>
      bnd (spec_l91Word r2.2.1 r2.2.2) fun r3 =>
      bnd (spec_l6Rd_pick 4 r3.2.1 r3.2.2) fun r4 =>
      bnd (geti ([0, 1, 2, r3.1] : List Int) r4.1) fun e5 =>
      some (⟨1, r2.1, 0, 0, e5⟩, r4.2.1, r4.2.2)
      else
      (bif (decide (r1.1 = 1)) then
      bnd (spec_l93Reg r1.2.1 r1.2.2) fun r6 =>
      bnd (spec_l91Word r6.2.1 r6.2.2) fun r7 =>
      bnd (spec_l6Rd_pick 4 r7.2.1 r7.2.2) fun r8 =>
      bnd (geti ([0, 1, 2, r7.1] : List Int) r8.1) fun e9 =>
      some (⟨1, r6.1, 0, 0, e9⟩, r8.2.1, r8.2.2)
      else
      (bif (decide (r1.1 = 2)) then
      bnd (spec_l93Reg r1.2.1 r1.2.2) fun r10 =>
      bnd (spec_l93Reg r10.2.1 r10.2.2) fun r11 =>
      some (⟨2, r10.1, r11.1, 0, 0⟩, r11.2.1, r11.2.2)
      else
      (bif (decide (r1.1 = 3)) then
      bnd (spec_l93Reg r1.2.1 r1.2.2) fun r12 =>
      bnd (spec_l93Reg r12.2.1 r12.2.2) fun r13 =>
      some (⟨2, r12.1, r13.1, 0, 0⟩, r13.2.1, r13.2.2)
      else
      (bif (decide (r1.1 = 4)) then
      bnd (spec_l93Reg r1.2.1 r1.2.2) fun r14 =>
      bnd (spec_l93Reg r14.2.1 r14.2.2) fun r15 =>
      bnd (spec_l93Reg r15.2.1 r15.2.2) fun r16 =>
      bnd (spec_l91Op r16.2.1 r16.2.2) fun r17 =>
      some (⟨3, r14.1, r15.1, r16.1, r17.1⟩, r17.2.1, r17.2.2)
      else
      (bif (decide (r1.1 = 5)) then
      bnd (spec_l93Reg r1.2.1 r1.2.2) fun r18 =>
      bnd (spec_l93Reg r18.2.1 r18.2.2) fun r19 =>
      bnd (spec_l93Reg r19.2.1 r19.2.2) fun r20 =>
      bnd (spec_l91Op r20.2.1 r20.2.2) fun r21 =>
      some (⟨3, r18.1, r19.1, r20.1, r21.1⟩, r21.2.1, r21.2.2)
      else
      (bif (decide (r1.1 = 6)) then
      bnd (spec_l93Reg r1.2.1 r1.2.2) fun r22 =>
      bnd (spec_l93Reg r22.2.1 r22.2.2) fun r23 =>
      bnd (spec_l93Reg r23.2.1 r23.2.2) fun r24 =>
      bnd (spec_l91Op r24.2.1 r24.2.2) fun r25 =>
      some (⟨3, r22.1, r23.1, r24.1, r25.1⟩, r25.2.1, r25.2.2)
      else
      (bif (decide (r1.1 = 7)) then
      bnd (spec_l6Rd_pick a1 r1.2.1 r1.2.2) fun r26 =>
      some (⟨4, 0, 0, 0, r26.1⟩, r26.2.1, r26.2.2)
      else
      (bif (decide (r1.1 = 8)) then
      bnd (spec_l93Reg r1.2.1 r1.2.2) fun r27 =>
      bnd (spec_l6Rd_pick a1 r27.2.1 r27.2.2) fun r28 =>
      some (⟨5, 0, r27.1, 0, r28.1⟩, r28.2.1, r28.2.2)
      else
      (bif (decide (r1.1 = 9)) then
      bnd (spec_l93Reg r1.2.1 r1.2.2) fun r29 =>
      bnd (spec_l6Rd_pick 2 r29.2.1 r29.2.2) fun r30 =>
      some (⟨6, 0, r29.1, 0, r30.1⟩, r30.2.1, r30.2.2)
      else
      (bif (decide (r1.1 = 10)) then
      bnd (spec_l93Reg r1.2.1 r1.2.2) fun r31 =>
      bnd (spec_l6Rd_pick 2 r31.2.1 r31.2.2) fun r32 =>
      some (⟨7, r31.1, 0, 0, r32.1⟩, r32.2.1, r32.2.2)
      else
      bnd (spec_l6Rd_pick 4 r1.2.1 r1.2.2) fun r33 =>
      (bif (decide (r33.1 = 0)) then
      some (⟨8, 0, 0, 0, 0⟩, r33.2.1, r33.2.2)
      else
      bnd (spec_l93Reg r33.2.1 r33.2.2) fun r34 =>
      some (⟨9, 0, r34.1, 0, 0⟩, r34.2.1, r34.2.2))))))))))))) : Option (Quad × List Int × Int)) := by kernel_rfl
    exact fn_le' (sig := s15400) (p := p15400) (by kernel_rfl) (by kernel_rfl) rfl rfl rfl (e.trans h)

theorem spec_l6Rd_pick_le (a1 : Int) (a0b : List Int) (a0p : Int) : Tv.Le
  ((bif (decide (a1 < 1)) then
  some (0, a0b, (wrap64 (a0p + 1)))
  else
  (bif (decide ((a0b.length : Int) = 0)) then
  some (0, a0b, (wrap64 (a0p + 1)))
  else
  (bif (decide ((wrap64 ((wrap64 (a0p + 1)) - 1)) < (a0b.length : Int))) then
  bnd (geti a0b (wrap64 ((wrap64 (a0p + 1)) - 1))) fun e1 =>
  bnd (remI (wrap64 (e1)) a1) fun n2 =>
  some (n2, a0b, (wrap64 (a0p + 1)))
  else
  bnd (remI (wrap64 ((wrap64 (a0p + 1)) - 1)) (a0b.length : Int)) fun n3 =>
  bnd (geti a0b n3) fun e4 =>
  bnd (remI (wrap64 ((wrap64 ((wrap64 ((wrap64 (a0p + 1)) - 1)) * 7)) + 3)) (a0b.length : Int)) fun n5 =>
  bnd (geti a0b n5) fun e6 =>
  bnd (quoI .i64 (wrap64 ((wrap64 (a0p + 1)) - 1)) (a0b.length : Int)) fun n7 =>
  bnd (remI (bits .xor .i64 (wrap64 ((wrap64 ((wrap64 ((wrap64 ((wrap64 (e4)) * 131)) + (wrap64 ((wrap64 (e6)) * 1117)))) + (wrap64 ((wrap64 ((wrap64 (a0p + 1)) - 1)) * 29)))) + (wrap64 (n7 * 53)))) (wrap64 (Int.tdiv (wrap64 ((wrap64 ((wrap64 ((wrap64 ((wrap64 (e4)) * 131)) + (wrap64 ((wrap64 (e6)) * 1117)))) + (wrap64 ((wrap64 ((wrap64 (a0p + 1)) - 1)) * 29)))) + (wrap64 (n7 * 53)))) 64))) a1) fun n8 =>
  some (n8, a0b, (wrap64 (a0p + 1)))))) : Option (Int × List Int × Int))
  (spec_l6Rd_pick a1 a0b a0p) := by
  rewrite [← wrapC_eq]
  exact fun r h => by
    have e : runC (phi Tb GT sg) Tb GT p200.code (mkST p200.ins [.bp 0 0, .int .i64 a1] p200.bins [.var [.sl .share .u8 a0b, .int .i64 a0p]]) (finT p200 s200) = (
      (bif (decide (a1 < 1)) then
      some (0, a0b, (wrapC (a0p + 1)))
      else
      (bif (decide ((a0b.length : Int) = 0)) then
      some (0, a0b, (wrapC (a0p + 1)))
      else
      (bif (decide ((wrapC ((wrapC (a0p + 1)) - 1)) < (a0b.length : Int))) then
      bnd (geti a0b (wrapC ((wrapC (a0p + 1)) - 1))) fun e1 =>
      bnd (remI (wrapC (e1)) a1) fun n2 =>
      some (n2, a0b, (wrapC (a0p + 1)))
      else
      bnd (remI (wrapC ((wrapC (a0p + 1)) - 1)) (a0b.length : Int)) fun n3 =>
      bnd (geti a0b n3) fun e4 =>
      bnd (remI (wrapC ((wrapC ((wrapC ((wrapC (a0p + 1)) - 1)) * 7)) + 3)) (a0b.length : Int)) fun n5 =>
      bnd (geti a0b n5) fun e6 =>
      bnd (quoI .i64 (wrapC ((wrapC (a0p + 1)) - 1)) (a0b.length : Int)) fun n7 =>
      bnd (remI (bits .xor .i64 (wrapC ((wrapC ((wrapC ((wrapC ((wrapC (e4)) * 131)) + (wrapC ((wrapC (e6)) * 1117)))) + (wrapC ((wrapC ((wrapC (a0p + 1)) - 1)) * 29)))) + (wrapC (n7 * 53)))) (wrapC (Int.tdiv (wrapC ((wrapC ((wrapC ((wrapC ((wrapC (e4)) * 131)) + (wrapC ((wrapC (e6)) * 1117)))) + (wrapC ((wrapC ((wrapC (a0p + 1)) - 1)) * 29)))) + (wrapC (n7 * 53)))) 64))) a1) fun n8 =>
      some (n8, a0b, (wrapC (a0p + 1)))))) : Option (Int × List Int × Int)) := by kernel_rfl
    exact fn_le' (sig := s200) (p := p200) (by kernel_rfl) (by kernel_rfl) rfl rfl rfl (e.trans h)

theorem impl_isReg_le (a0 : Int) : Tv.Le
  ((bif (decide (0 ≤ a0)) then
  some (decide (a0 < 12))
  else
  some false) : Option (Bool))
  (impl_isReg a0) := by
  exact fun r h => by
    have e : runC (phi Tb GT sg) Tb GT p12200.code (mkST p12200.ins [.int .i64 a0] p12200.bins []) (finT p12200 s12200) = (
      (bif (decide (0 ≤ a0)) then
      some (decide (a0 < 12))
      else
      some false) : Option (Bool)) := by kernel_rfl
    exact fn_le' (sig := s12200) (p := p12200) (by kernel_rfl) (by kernel_rfl) rfl rfl rfl (e.trans h)

theorem impl_WordValid_le (a0 : Int) : Tv.Le
  ((bif (decide ((-2147483648) ≤ a0)) then
  some (decide (a0 ≤ 2147483647))
  else
  some false) : Option (Bool))
  (impl_WordValid a0) := by
  exact fun r h => by
    have e : runC (phi Tb GT sg) Tb GT p5000.code (mkST p5000.ins [.int .i64 a0] p5000.bins []) (finT p5000 s5000) = (
      (bif (decide ((-2147483648) ≤ a0)) then
      some (decide (a0 ≤ 2147483647))
      else
      some false) : Option (Bool)) := by kernel_rfl
    exact fn_le' (sig := s5000) (p := p5000) (by kernel_rfl) (by kernel_rfl) rfl rfl rfl (e.trans h)

theorem impl_OpValid_le (a0 : Int) : Tv.Le
  ((bif (decide (1 ≤ a0)) then
  some (decide (a0 ≤ 12))
  else
  some false) : Option (Bool))
  (impl_OpValid a0) := by
  exact fun r h => by
    have e : runC (phi Tb GT sg) Tb GT p1000.code (mkST p1000.ins [.int .i64 a0] p1000.bins []) (finT p1000 s1000) = (
      (bif (decide (1 ≤ a0)) then
      some (decide (a0 ≤ 12))
      else
      some false) : Option (Bool)) := by kernel_rfl
    exact fn_le' (sig := s1000) (p := p1000) (by kernel_rfl) (by kernel_rfl) rfl rfl rfl (e.trans h)

theorem spec_l21Regs_le (a0 : Quad) (a1 : Bool) (a2 : Bool) (a3 : Bool) : Tv.Le
  (bnd (spec_l21Reg a0.dst a1) fun r1 =>
  (bif r1 then
  bnd (spec_l21Reg a0.a a2) fun r2 =>
  (bif r2 then
  bnd (spec_l21Reg a0.b a3) fun r3 =>
  some r3
  else
  some false)
  else
  some false) : Option (Bool))
  (spec_l21Regs a0 a1 a2 a3) := by
  exact fun r h => by
    have e : runC (phi Tb GT sg) Tb GT p11900.code (mkST p11900.ins [.agg (rowT .quad a0), .bool a1, .bool a2, .bool a3] p11900.bins []) (finT p11900 s11900) = (
      bnd (spec_l21Reg a0.dst a1) fun r1 =>
      (bif r1 then
      bnd (spec_l21Reg a0.a a2) fun r2 =>
      (bif r2 then
      bnd (spec_l21Reg a0.b a3) fun r3 =>
      some r3
      else
      some false)
      else
      some false) : Option (Bool)) := by kernel_rfl
    exact fn_le' (sig := s11900) (p := p11900) (by kernel_rfl) (by kernel_rfl) rfl rfl rfl (e.trans h)

theorem spec_WordValid_le (a0 : Int) : Tv.Le
  (bnd (spec_l6In a0 (-2147483648) 2147483647) fun r1 =>
  some r1 : Option (Bool))
  (spec_WordValid a0) := by
  exact fun r h => by
    have e : runC (phi Tb GT sg) Tb GT p6400.code (mkST p6400.ins [.int .i64 a0] p6400.bins []) (finT p6400 s6400) = (
      bnd (spec_l6In a0 (-2147483648) 2147483647) fun r1 =>
      some r1 : Option (Bool)) := by kernel_rfl
    exact fn_le' (sig := s6400) (p := p6400) (by kernel_rfl) (by kernel_rfl) rfl rfl rfl (e.trans h)

theorem spec_OpValid_le (a0 : Int) : Tv.Le
  (bnd (spec_l6In a0 1 12) fun r1 =>
  some r1 : Option (Bool))
  (spec_OpValid a0) := by
  exact fun r h => by
    have e : runC (phi Tb GT sg) Tb GT p1700.code (mkST p1700.ins [.int .i64 a0] p1700.bins []) (finT p1700 s1700) = (
      bnd (spec_l6In a0 1 12) fun r1 =>
      some r1 : Option (Bool)) := by kernel_rfl
    exact fn_le' (sig := s1700) (p := p1700) (by kernel_rfl) (by kernel_rfl) rfl rfl rfl (e.trans h)

theorem spec_l6In_le (a0 : Int) (a1 : Int) (a2 : Int) : Tv.Le
  ((bif (decide (a1 ≤ a0)) then
  some (decide (a0 ≤ a2))
  else
  some false) : Option (Bool))
  (spec_l6In a0 a1 a2) := by
  exact fun r h => by
    have e : runC (phi Tb GT sg) Tb GT p1600.code (mkST p1600.ins [.int .i64 a0, .int .i64 a1, .int .i64 a2] p1600.bins []) (finT p1600 s1600) = (
      (bif (decide (a1 ≤ a0)) then
      some (decide (a0 ≤ a2))
      else
      some false) : Option (Bool)) := by kernel_rfl
    exact fn_le' (sig := s1600) (p := p1600) (by kernel_rfl) (by kernel_rfl) rfl rfl rfl (e.trans h)

theorem spec_l93Reg_le (a0b : List Int) (a0p : Int) : Tv.Le
  (bnd (spec_l6Rd_pick 6 a0b a0p) fun r1 =>
  some (r1.1, r1.2.1, r1.2.2) : Option (Int × List Int × Int))
  (spec_l93Reg a0b a0p) := by
  exact fun r h => by
    have e : runC (phi Tb GT sg) Tb GT p15300.code (mkST p15300.ins [.bp 0 0] p15300.bins [.var [.sl .share .u8 a0b, .int .i64 a0p]]) (finT p15300 s15300) = (
      bnd (spec_l6Rd_pick 6 a0b a0p) fun r1 =>
      some (r1.1, r1.2.1, r1.2.2) : Option (Int × List Int × Int)) := by kernel_rfl
    exact fn_le' (sig := s15300) (p := p15300) (by kernel_rfl) (by kernel_rfl) rfl rfl rfl (e.trans h)

theorem spec_l91Word_le (a0b : List Int) (a0p : Int) : Tv.Le
  (bnd (spec_l6Rd_pick 6 a0b a0p) fun r1 =>
  (bif (decide (r1.1 = 0)) then
  bnd (spec_l6Rd_pick 8 r1.2.1 r1.2.2) fun r2 =>
  bnd (geti ([(-2147483648), 2147483647, (-1), 0, 1, (-2147483647), 65536, (-65536)] : List Int) r2.1) fun e3 =>
  some (e3, r2.2.1, r2.2.2)
  else
  (bif (decide (r1.1 = 1)) then
  bnd (spec_l6Rd_pick 256 r1.2.1 r1.2.2) fun r4 =>
  bnd (spec_l6Rd_pick 256 r4.2.1 r4.2.2) fun r5 =>
  bnd (spec_l6Rd_pick 256 r5.2.1 r5.2.2) fun r6 =>
  bnd (spec_l6Rd_pick 200 r6.2.1 r6.2.2) fun r7 =>
  bnd (spec_Wrap (wrap64 ((wrap64 ((wrap64 ((wrap64 (r4.1 * 65536)) + (wrap64 (r5.1 * 256)))) + r6.1)) * (wrap64 (1 + r7.1))))) fun r8 =>
  some (r8, r7.2.1, r7.2.2)
  else
  (bif (decide (r1.1 = 2)) then
  bnd (spec_l6Rd_pick 200 r1.2.1 r1.2.2) fun r9 =>
  some ((wrap64 (0 - r9.1)), r9.2.1, r9.2.2)
  else
  bnd (spec_l6Rd_pick 20 r1.2.1 r1.2.2) fun r10 =>
  some (r10.1, r10.2.1, r10.2.2)))) : Option (Int × List Int × Int))
  (spec_l91Word a0b a0p) := by
  rewrite [← wrapC_eq]
  exact fun r h => by
    have e : runC (phi Tb GT sg) Tb GT p3800.code (mkST p3800.ins [.bp 0 0] p3800.bins [.var [.sl .share .u8 a0b, .int .i64 a0p]]) (finT p3800 s3800) = (
      bnd (spec_l6Rd_pick 6 a0b a0p) fun r1 =>
      (bif (decide (r1.1 = 0)) then
      bnd (spec_l6Rd_pick 8 r1.2.1 r1.2.2) fun r2 =>
      bnd (geti ([(-2147483648), 2147483647, (-1), 0, 1, (-2147483647), 65536, (-65536)] : List Int) r2.1) fun e3 =>
      some (e3, r2.2.1, r2.2.2)
      else
      (bif (decide (r1.1 = 1)) then
      bnd (spec_l6Rd_pick 256 r1.2.1 r1.2.2) fun r4 =>
      bnd (spec_l6Rd_pick 256 r4.2.1 r4.2.2) fun r5 =>
      bnd (spec_l6Rd_pick 256 r5.2.1 r5.2.2) fun r6 =>
      bnd (spec_l6Rd_pick 200 r6.2.1 r6.2.2) fun r7 =>
      bnd (spec_Wrap (wrapC ((wrapC ((wrapC ((wrapC (r4.1 * 65536)) + (wrapC (r5.1 * 256)))) + r6.1)) * (wrapC (1 + r7.1))))) fun r8 =>
      some (r8, r7.2.1, r7.2.2)
      else
      (bif (decide (r1.1 = 2)) then
      bnd (spec_l6Rd_pick 200 r1.2.1 r1.2.2) fun r9 =>
      some ((wrapC (0 - r9.1)), r9.2.1, r9.2.2)
      else
      bnd (spec_l6Rd_pick 20 r1.2.1 r1.2.2) fun r10 =>
      some (r10.1, r10.2.1, r10.2.2)))) : Option (Int × List Int × Int)) := by kernel_rfl
    exact fn_le' (sig := s3800) (p := p3800) (by kernel_rfl) (by kernel_rfl) rfl rfl rfl (e.trans h)

theorem spec_l91Op_le (a0b : List Int) (a0p : Int) : Tv.Le
  (bnd (spec_l6Rd_pick 12 a0b a0p) fun r1 =>
  some ((wrap64 (1 + r1.1)), r1.2.1, r1.2.2) : Option (Int × List Int × Int))
  (spec_l91Op a0b a0p) := by
  rewrite [← wrapC_eq]
  exact fun r h => by
    have e : runC (phi Tb GT sg) Tb GT p600.code (mkST p600.ins [.bp 0 0] p600.bins [.var [.sl .share .u8 a0b, .int .i64 a0p]]) (finT p600 s600) = (
      bnd (spec_l6Rd_pick 12 a0b a0p) fun r1 =>
      some ((wrapC (1 + r1.1)), r1.2.1, r1.2.2) : Option (Int × List Int × Int)) := by kernel_rfl
    exact fn_le' (sig := s600) (p := p600) (by kernel_rfl) (by kernel_rfl) rfl rfl rfl (e.trans h)

theorem spec_l21Reg_le (a0 : Int) (a1 : Bool) : Tv.Le
  ((bif a1 then
  bnd (spec_l6In a0 0 11) fun r1 =>
  some r1
  else
  some (decide (a0 = 0))) : Option (Bool))
  (spec_l21Reg a0 a1) := by
  exact fun r h => by
    have e : runC (phi Tb GT sg) Tb GT p11800.code (mkST p11800.ins [.int .i64 a0, .bool a1] p11800.bins []) (finT p11800 s11800) = (
      (bif a1 then
      bnd (spec_l6In a0 0 11) fun r1 =>
      some r1
      else
      some (decide (a0 = 0))) : Option (Bool)) := by kernel_rfl
    exact fn_le' (sig := s11800) (p := p11800) (by kernel_rfl) (by kernel_rfl) rfl rfl rfl (e.trans h)

theorem spec_Wrap_le (a0 : Int) : Tv.Le
  ((bif (decide (2147483647 < (Int.tmod a0 4294967296))) then
  some (wrap64 ((Int.tmod a0 4294967296) - 4294967296))
  else
  (bif (decide ((Int.tmod a0 4294967296) < (-2147483648))) then
  some (wrap64 ((Int.tmod a0 4294967296) + 4294967296))
  else
  some (Int.tmod a0 4294967296))) : Option (Int))
  (spec_Wrap a0) := by
  rewrite [← wrapC_eq]
  exact fun r h => by
    have e : runC (phi Tb GT sg) Tb GT p3700.code (mkST p3700.ins [.int .i64 a0] p3700.bins []) (finT p3700 s3700) = (
      (bif (decide (2147483647 < (Int.tmod a0 4294967296))) then
      some (wrapC ((Int.tmod a0 4294967296) - 4294967296))
      else
      (bif (decide ((Int.tmod a0 4294967296) < (-2147483648))) then
      some (wrapC ((Int.tmod a0 4294967296) + 4294967296))
      else
      some (Int.tmod a0 4294967296))) : Option (Int)) := by kernel_rfl
    exact fn_le' (sig := s3700) (p := p3700) (by kernel_rfl) (by kernel_rfl) rfl rfl rfl (e.trans h)

end Go.TFnQuadTextOther
