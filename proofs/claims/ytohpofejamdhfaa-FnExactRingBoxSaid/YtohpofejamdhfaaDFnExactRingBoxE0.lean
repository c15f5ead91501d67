import Derived.Test.YtohpofejamdhfaaDFnExactRingBoxP
import Derived.KernelRfl
set_option linter.unusedVariables false
namespace Go.TFnExactRingBox
open Go Go.RowKit Go.Vs Go.Tv
theorem laws_FnExactRingBox_le (a0 : Rg) : Tv.Le
  (bnd (laws_szRing a0 1048576) fun r1 =>
  (bif (decide (r1 < 0)) then
  some true
  else
  bnd (laws_toRing a0) fun r2 =>
  bnd (spec_RingBox r2) fun r3 =>
  bnd (laws_toRing_p a0 ([] : List Ent)) fun r4 =>
  bnd (arView r4.2 .int r4.1.slots.id) fun l5 =>
  bnd (impl_RingBox_p (⟨r4.1.room, r4.1.head, r4.1.len, l5⟩ : Rg) (Go.Vs.blank r4.2)) fun r6 =>
  bnd (arJoin r4.2 r6.2.2) fun B7 =>
  bnd (arView B7 .int r6.1.items.id) fun l8 =>
  bnd (laws_eqBox (⟨r6.1.room, l8⟩ : Bx) r3.1) fun r9 =>
  (bif (!r9) then
  some false
  else
  (bif (!(r6.2.1 == r3.2)) then
  some false
  else
  bnd (laws_toRing a0) fun r10 =>
  bnd (arView B7 .int r4.1.slots.id) fun l11 =>
  bnd (laws_eqRing (⟨r4.1.room, r4.1.head, r4.1.len, l11⟩ : Rg) r10) fun r12 =>
  (bif (!r12) then
  some false
  else
  bnd (laws_markRing_p r4.1 1 B7) fun r13 =>
  (bif (decide (r13.1 < 0)) then
  some false
  else
  bnd (arView r13.2 .int r6.1.items.id) fun l14 =>
  bnd (laws_eqBox (⟨r6.1.room, l14⟩ : Bx) r3.1) fun r15 =>
  (bif (!r15) then
  some false
  else
  (bif (!(r6.2.1 == r3.2)) then
  some false
  else
  bnd (laws_markBox_p r6.1 1 r13.2) fun r16 =>
  bnd (arView r16.2 .int r6.1.items.id) fun l17 =>
  bnd (laws_heldBox (⟨r6.1.room, l17⟩ : Bx) 1) fun r18 =>
  (bif (decide (r18 < 0)) then
  some false
  else
  (bif (!decide (r18 = r16.1)) then
  some false
  else
  bnd (laws_toRing a0) fun r19 =>
  bnd (impl_RingBox r19) fun r20 =>
  bnd (laws_eqBox r20.1 r3.1) fun r21 =>
  (bif (!r21) then
  some false
  else
  (bif (!(r20.2 == r3.2)) then
  some false
  else
  bnd (arView r16.2 .int r6.1.items.id) fun l22 =>
  bnd (laws_heldBox (⟨r6.1.room, l22⟩ : Bx) 1) fun r23 =>
  (bif (decide (r23 < 0)) then
  some false
  else
  (bif (!decide (r23 = r16.1)) then
  some false
  else
  some true))))))))))))) : Option (Bool))
  (laws_FnExactRingBox a0) := by
  exact fun r h => by
    have e : runC (phi Tb GT sg) Tb GT p19300.code (startAT p19300 (mkST p19300.ins [.agg (rowT .rg a0)] p19300.bins [])) (finT p19300 s19300) = (
      bnd (laws_szRing a0 1048576) fun r1 =>
      (bif (decide (r1 < 0)) then
      some true
      else
      bnd (laws_toRing a0) fun r2 =>
      bnd (spec_RingBox r2) fun r3 =>
      bnd (laws_toRing_p a0 ([] : List Ent)) fun r4 =>
      bnd (arView r4.2 .int r4.1.slots.id) fun l5 =>
      bnd (impl_RingBox_p (⟨r4.1.room, r4.1.head, r4.1.len, l5⟩ : Rg) (Go.Vs.blank r4.2)) fun r6 =>
      bnd (arJoin r4.2 r6.2.2) fun B7 =>
      bnd (arView B7 .int r6.1.items.id) fun l8 =>
      bnd (laws_eqBox (⟨r6.1.room, l8⟩ : Bx) r3.1) fun r9 =>
      (bif (!r9) then
      some false
      else
      (bif (!(r6.2.1 == r3.2)) then
      some false
      else
      bnd (laws_toRing a0) fun r10 =>
      bnd (arView B7 .int r4.1.slots.id) fun l11 =>
      bnd (laws_eqRing (⟨r4.1.room, r4.1.head, r4.1.len, l11⟩ : Rg) r10) fun r12 =>
      (bif (!r12) then
      some false
      else
      bnd (laws_markRing_p r4.1 1 B7) fun r13 =>
      (bif (decide (r13.1 < 0)) then
      some false
      else
      bnd (arView r13.2 .int r6.1.items.id) fun l14 =>
      bnd (laws_eqBox (⟨r6.1.room, l14⟩ : Bx) r3.1) fun r15 =>
      (bif (!r15) then
      some false
      else
      (bif (!(r6.2.1 == r3.2)) then
      some false
      else
      bnd (laws_markBox_p r6.1 1 r13.2) fun r16 =>
      bnd (arView r16.2 .int r6.1.items.id) fun l17 =>
      bnd (laws_heldBox (⟨r6.1.room, l17⟩ : Bx) 1) fun r18 =>
      (bif (decide (r18 < 0)) then
      some false
      else
      (bif (!decide (r18 = r16.1)) then
      some false
      else
      bnd (laws_toRing a0) fun r19 =>
      bnd (impl_RingBox r19) fun r20 =>
      bnd (laws_eqBox r20.1 r3.1) fun r21 =>
      (bif (!r21) then
      some false
      else
      (bif (!(r20.2 == r3.2)) then
      some false
      else
      bnd (arView r16.2 .int r6.1.items.id) fun l22 =>
      bnd (laws_heldBox (⟨r6.1.room, l22⟩ : Bx) 1) fun r23 =>
      (bif (decide (r23 < 0)) then
      some false
      else
      (bif (!decide (r23 = r16.1)) then
      some false
      else
      some true))))))))))))) : Option (Bool)) := by kernel_rfl
    exact fn_le' (sig := s19300) (p := p19300) (by kernel_rfl) (by kernel_rfl) rfl rfl rfl rfl (e.trans h)

theorem laws_szRing_le (a0 : Rg) (a1 : Int) : Tv.Le
  (bnd (laws_szIntS a0.slots a1) fun r1 =>
  (bif (decide (r1 < 0)) then
  some (-1)
  else
  some r1) : Option (Int))
  (laws_szRing a0 a1) := by
  exact fun r h => by
    have e : runC (phi Tb GT sg) Tb GT p16200.code (startAT p16200 (mkST p16200.ins [.agg (rowT .rg a0), .int .i64 a1] p16200.bins [])) (finT p16200 s16200) = (
      bnd (laws_szIntS a0.slots a1) fun r1 =>
      (bif (decide (r1 < 0)) then
      some (-1)
      else
      some r1) : Option (Int)) := by kernel_rfl
    exact fn_le' (sig := s16200) (p := p16200) (by kernel_rfl) (by kernel_rfl) rfl rfl rfl rfl (e.trans h)

theorem laws_toRing_le (a0 : Rg) : Tv.Le
  (bnd (laws_toIntS a0.slots) fun r1 =>
  some (⟨a0.room, a0.head, a0.len, r1⟩) : Option (Rg))
  (laws_toRing a0) := by
  exact fun r h => by
    have e : runC (phi Tb GT sg) Tb GT p16500.code (startAT p16500 (mkST p16500.ins [.agg (rowT .rg a0)] p16500.bins [])) (finT p16500 s16500) = (
      bnd (laws_toIntS a0.slots) fun r1 =>
      some (⟨a0.room, a0.head, a0.len, r1⟩) : Option (Rg)) := by kernel_rfl
    exact fn_le' (sig := s16500) (p := p16500) (by kernel_rfl) (by kernel_rfl) rfl rfl rfl rfl (e.trans h)

theorem spec_RingBox_le (a0 : Rg) : Tv.Le
  (bnd (spec_RingValid a0) fun r1 =>
  (bif (!r1) then
  some (⟨0, []⟩, false)
  else
  bnd (spec_RingBox_l1 0 a0.room a0.head a0.len a0.slots 0 false [] a0.room false ([] : List Int)) fun r2 =>
  some (⟨r2.2.2.1, r2.2.2.2.2⟩, true)) : Option (Bx × Bool))
  (spec_RingBox a0) := by
  exact fun r h => by
    have e : runC (phi Tb GT sg) Tb GT p18800.code (startAT p18800 (mkST p18800.ins [.agg (rowT .rg a0)] p18800.bins [])) (finT p18800 s18800) = (
      bnd (spec_RingValid a0) fun r1 =>
      (bif (!r1) then
      some (⟨0, []⟩, false)
      else
      bnd (spec_RingBox_l1 0 a0.room a0.head a0.len a0.slots 0 false [] a0.room false ([] : List Int)) fun r2 =>
      some (⟨r2.2.2.1, r2.2.2.2.2⟩, true)) : Option (Bx × Bool)) := by kernel_rfl
    exact fn_le' (sig := s18800) (p := p18800) (by kernel_rfl) (by kernel_rfl) rfl rfl rfl rfl (e.trans h)

theorem laws_toRing_p_le (a0 : Rg) (A : List Ent) : Tv.Le
  (bnd (laws_toIntS_p a0.slots A) fun r1 =>
  some (⟨a0.room, a0.head, a0.len, r1.1⟩, r1.2) : Option (RgH × List Ent))
  (laws_toRing_p a0 A) := by
  exact fun r h => by
    have e : runC (phi Tb GT sg) Tb GT p39100.code (startAT p39100 (mkST p39100.ins [.agg (rowT .rg a0)] p39100.bins [.ar A])) (finT p39100 s39100) = (
      bnd (laws_toIntS_p a0.slots A) fun r1 =>
      some (⟨a0.room, a0.head, a0.len, r1.1⟩, r1.2) : Option (RgH × List Ent)) := by kernel_rfl
    exact fn_le' (sig := s39100) (p := p39100) (by kernel_rfl) (by kernel_rfl) rfl rfl rfl rfl (e.trans h)

theorem impl_RingBox_p_le (a0 : Rg) (A : List Ent) : Tv.Le
  (bnd (impl_RingValid a0) fun r1 =>
  (bif (!r1) then
  some (⟨0, ⟨none, 0⟩⟩, false, A)
  else
  bnd (impl_RingBox_p_l1 a0.len 0 a0.room a0.head a0.len a0.slots 0 (⟨none, 0⟩ : Hd) a0.room (⟨none, 0⟩ : Hd) A) fun r2 =>
  some (⟨r2.2.2.1, r2.2.2.2.1⟩, true, r2.2.2.2.2)) : Option (BxH × Bool × List Ent))
  (impl_RingBox_p a0 A) := by
  exact fun r h => by
    have e : runC (phi Tb GT sg) Tb GT p39400.code (startAT p39400 (mkST p39400.ins [.agg (rowT .rg a0)] p39400.bins [.ar A])) (finT p39400 s39400) = (
      bnd (impl_RingValid a0) fun r1 =>
      (bif (!r1) then
      some (⟨0, ⟨none, 0⟩⟩, false, A)
      else
      bnd (impl_RingBox_p_l1 a0.len 0 a0.room a0.head a0.len a0.slots 0 (⟨none, 0⟩ : Hd) a0.room (⟨none, 0⟩ : Hd) A) fun r2 =>
      some (⟨r2.2.2.1, r2.2.2.2.1⟩, true, r2.2.2.2.2)) : Option (BxH × Bool × List Ent)) := by kernel_rfl
    exact fn_le' (sig := s39400) (p := p39400) (by kernel_rfl) (by kernel_rfl) rfl rfl rfl rfl (e.trans h)

theorem laws_eqBox_le (a0 : Bx) (a1 : Bx) : Tv.Le
  ((bif (!decide (a0.room = a1.room)) then
  some false
  else
  bnd (laws_eqIntS a0.items a1.items) fun r1 =>
  (bif (!r1) then
  some false
  else
  some true)) : Option (Bool))
  (laws_eqBox a0 a1) := by
  exact fun r h => by
    have e : runC (phi Tb GT sg) Tb GT p19000.code (startAT p19000 (mkST p19000.ins [.agg (rowT .bx a0), .agg (rowT .bx a1)] p19000.bins [])) (finT p19000 s19000) = (
      (bif (!decide (a0.room = a1.room)) then
      some false
      else
      bnd (laws_eqIntS a0.items a1.items) fun r1 =>
      (bif (!r1) then
      some false
      else
      some true)) : Option (Bool)) := by kernel_rfl
    exact fn_le' (sig := s19000) (p := p19000) (by kernel_rfl) (by kernel_rfl) rfl rfl rfl rfl (e.trans h)

theorem laws_eqRing_le (a0 : Rg) (a1 : Rg) : Tv.Le
  ((bif (!decide (a0.room = a1.room)) then
  some false
  else
  (bif (!decide (a0.head = a1.head)) then
  some false
  else
  (bif (!decide (a0.len = a1.len)) then
  some false
  else
  bnd (laws_eqIntS a0.slots a1.slots) fun r1 =>
  (bif (!r1) then
  some false
  else
  some true)))) : Option (Bool))
  (laws_eqRing a0 a1) := by
  exact fun r h => by
    have e : runC (phi Tb GT sg) Tb GT p16900.code (startAT p16900 (mkST p16900.ins [.agg (rowT .rg a0), .agg (rowT .rg a1)] p16900.bins [])) (finT p16900 s16900) = (
      (bif (!decide (a0.room = a1.room)) then
      some false
      else
      (bif (!decide (a0.head = a1.head)) then
      some false
      else
      (bif (!decide (a0.len = a1.len)) then
      some false
      else
      bnd (laws_eqIntS a0.slots a1.slots) fun r1 =>
      (bif (!r1) then
      some false
      else
      some true)))) : Option (Bool)) := by kernel_rfl
    exact fn_le' (sig := s16900) (p := p16900) (by kernel_rfl) (by kernel_rfl) rfl rfl rfl rfl (e.trans h)

theorem laws_markRing_p_le (a0 : RgH) (a1 : Int) (A : List Ent) : Tv.Le
  (bnd (laws_markIntS_p a0.slots a1 A) fun r1 =>
  some (r1.1, r1.2) : Option (Int × List Ent))
  (laws_markRing_p a0 a1 A) := by
  exact fun r h => by
    have e : runC (phi Tb GT sg) Tb GT p39300.code (startAT p39300 (mkST p39300.ins [.agg (rowT .rgH a0), .int .i64 a1] p39300.bins [.ar A])) (finT p39300 s39300) = (
      bnd (laws_markIntS_p a0.slots a1 A) fun r1 =>
      some (r1.1, r1.2) : Option (Int × List Ent)) := by kernel_rfl
    exact fn_le' (sig := s39300) (p := p39300) (by kernel_rfl) (by kernel_rfl) rfl rfl rfl rfl (e.trans h)

theorem laws_markBox_p_le (a0 : BxH) (a1 : Int) (A : List Ent) : Tv.Le
  (bnd (laws_markIntS_p a0.items a1 A) fun r1 =>
  some (r1.1, r1.2) : Option (Int × List Ent))
  (laws_markBox_p a0 a1 A) := by
  exact fun r h => by
    have e : runC (phi Tb GT sg) Tb GT p39500.code (startAT p39500 (mkST p39500.ins [.agg (rowT .bxH a0), .int .i64 a1] p39500.bins [.ar A])) (finT p39500 s39500) = (
      bnd (laws_markIntS_p a0.items a1 A) fun r1 =>
      some (r1.1, r1.2) : Option (Int × List Ent)) := by kernel_rfl
    exact fn_le' (sig := s39500) (p := p39500) (by kernel_rfl) (by kernel_rfl) rfl rfl rfl rfl (e.trans h)

theorem laws_heldBox_le (a0 : Bx) (a1 : Int) : Tv.Le
  (bnd (laws_heldIntS a0.items a1) fun r1 =>
  (bif (decide (r1 < 0)) then
  some (-1)
  else
  some r1) : Option (Int))
  (laws_heldBox a0 a1) := by
  exact fun r h => by
    have e : runC (phi Tb GT sg) Tb GT p19200.code (startAT p19200 (mkST p19200.ins [.agg (rowT .bx a0), .int .i64 a1] p19200.bins [])) (finT p19200 s19200) = (
      bnd (laws_heldIntS a0.items a1) fun r1 =>
      (bif (decide (r1 < 0)) then
      some (-1)
      else
      some r1) : Option (Int)) := by kernel_rfl
    exact fn_le' (sig := s19200) (p := p19200) (by kernel_rfl) (by kernel_rfl) rfl rfl rfl rfl (e.trans h)

theorem impl_RingBox_le (a0 : Rg) : Tv.Le
  (bnd (impl_RingValid a0) fun r1 =>
  (bif (!r1) then
  some (⟨0, []⟩, false)
  else
  bnd (impl_RingBox_l1 a0.len 0 a0.room a0.head a0.len a0.slots 0 false [] a0.room false []) fun r2 =>
  some (⟨r2.2.2.1, r2.2.2.2.2⟩, true)) : Option (Bx × Bool))
  (impl_RingBox a0) := by
  exact fun r h => by
    have e : runC (phi Tb GT sg) Tb GT p18900.code (startAT p18900 (mkST p18900.ins [.agg (rowT .rg a0)] p18900.bins [])) (finT p18900 s18900) = (
      bnd (impl_RingValid a0) fun r1 =>
      (bif (!r1) then
      some (⟨0, []⟩, false)
      else
      bnd (impl_RingBox_l1 a0.len 0 a0.room a0.head a0.len a0.slots 0 false [] a0.room false []) fun r2 =>
      some (⟨r2.2.2.1, r2.2.2.2.2⟩, true)) : Option (Bx × Bool)) := by kernel_rfl
    exact fn_le' (sig := s18900) (p := p18900) (by kernel_rfl) (by kernel_rfl) rfl rfl rfl rfl (e.trans h)

theorem laws_szIntS_le (a0 : List Int) (a1 : Int) : Tv.Le
  ((bif (decide ((wrap64 (a1 - (a0.length : Int))) < 0)) then
  some (-1)
  else
  some (wrap64 (a1 - (a0.length : Int)))) : Option (Int))
  (laws_szIntS a0 a1) := by
  rewrite [← wrapC_eq]
  exact fun r h => by
    have e : runC (phi Tb GT sg) Tb GT p7200.code (startAT p7200 (mkST p7200.ins [.sl .share .int a0, .int .i64 a1] p7200.bins [])) (finT p7200 s7200) = (
      (bif (decide ((wrapC (a1 - (a0.length : Int))) < 0)) then
      some (-1)
      else
      some (wrapC (a1 - (a0.length : Int)))) : Option (Int)) := by kernel_rfl
    exact fn_le' (sig := s7200) (p := p7200) (by kernel_rfl) (by kernel_rfl) rfl rfl rfl rfl (e.trans h)

theorem laws_toIntS_le (a0 : List Int) : Tv.Le
  (bnd (made (a0.length : Int)) fun n1 =>
  bnd (laws_toIntS_l1 a0 0 (List.replicate n1 (zeroD .int))) fun r2 =>
  some r2 : Option (List Int))
  (laws_toIntS a0) := by
  exact fun r h => by
    have e : runC (phi Tb GT sg) Tb GT p7800.code (startAT p7800 (mkST p7800.ins [.sl .share .int a0] p7800.bins [])) (finT p7800 s7800) = (
      bnd (made (a0.length : Int)) fun n1 =>
      bnd (laws_toIntS_l1 a0 0 (List.replicate n1 (zeroD .int))) fun r2 =>
      some r2 : Option (List Int)) := by kernel_rfl
    exact fn_le' (sig := s7800) (p := p7800) (by kernel_rfl) (by kernel_rfl) rfl rfl rfl rfl (e.trans h)

theorem spec_RingValid_le (a0 : Rg) : Tv.Le
  (bnd (spec_l6In a0.room 1 4) fun r1 =>
  (bif r1 then
  bnd (spec_l6In a0.head 0 (wrap64 (a0.room - 1))) fun r2 =>
  (bif r2 then
  bnd (spec_l6In a0.len 0 a0.room) fun r3 =>
  (bif r3 then
  bnd (spec_l4Words a0.slots 4) fun r4 =>
  some r4
  else
  some false)
  else
  some false)
  else
  some false) : Option (Bool))
  (spec_RingValid a0) := by
  rewrite [← wrapC_eq]
  exact fun r h => by
    have e : runC (phi Tb GT sg) Tb GT p16300.code (startAT p16300 (mkST p16300.ins [.agg (rowT .rg a0)] p16300.bins [])) (finT p16300 s16300) = (
      bnd (spec_l6In a0.room 1 4) fun r1 =>
      (bif r1 then
      bnd (spec_l6In a0.head 0 (wrapC (a0.room - 1))) fun r2 =>
      (bif r2 then
      bnd (spec_l6In a0.len 0 a0.room) fun r3 =>
      (bif r3 then
      bnd (spec_l4Words a0.slots 4) fun r4 =>
      some r4
      else
      some false)
      else
      some false)
      else
      some false) : Option (Bool)) := by kernel_rfl
    exact fn_le' (sig := s16300) (p := p16300) (by kernel_rfl) (by kernel_rfl) rfl rfl rfl rfl (e.trans h)

theorem spec_RingBox_l1_le (t5 : Int) (b100_0 : Int) (b100_1 : Int) (b100_2 : Int) (b100_3 : List Int) (b101_0 : Int) (b101_1b : Bool) (b101_1 : List Int) (b102_0 : Int) (b102_1b : Bool) (b102_1 : List Int) : Tv.Le
  ((bif (decide (t5 < b100_2)) then
  bnd (remI (wrap64 (b100_1 + t5)) b100_0) fun n1 =>
  bnd (geti b100_3 n1) fun e2 =>
  bnd (appL b102_1 ([e2] : List Int)) fun l3 =>
  spec_RingBox_l1 (wrap64 (t5 + 1)) b100_0 b100_1 b100_2 b100_3 b101_0 b101_1b b101_1 b102_0 true l3
  else
  some (b101_0, (b101_1b, b101_1), b102_0, (b102_1b, b102_1))) : Option (Int × (Bool × List Int) × Int × (Bool × List Int)))
  (spec_RingBox_l1 t5 b100_0 b100_1 b100_2 b100_3 b101_0 b101_1b b101_1 b102_0 b102_1b b102_1) := by
  rewrite [← wrapC_eq]
  exact fun r h => by
    have e : runC (phi Tb GT sg) Tb GT p18801.code ((mkST p18801.ins [.bp 100 0, .bp 101 0, .bp 102 0, .int .i64 t5] p18801.bins [.var [.int .i64 b100_0, .int .i64 b100_1, .int .i64 b100_2, .sl .share .int b100_3], .var [.int .i64 b101_0, .sl (.own b101_1b) .int b101_1], .var [.int .i64 b102_0, .sl (.own b102_1b) .int b102_1]])) (finL Tb GT 18801 p18801 s18801) = (
      (bif (decide (t5 < b100_2)) then
      bnd (remI (wrapC (b100_1 + t5)) b100_0) fun n1 =>
      bnd (geti b100_3 n1) fun e2 =>
      bnd (appL b102_1 ([e2] : List Int)) fun l3 =>
      spec_RingBox_l1 (wrapC (t5 + 1)) b100_0 b100_1 b100_2 b100_3 b101_0 b101_1b b101_1 b102_0 true l3
      else
      some (b101_0, (b101_1b, b101_1), b102_0, (b102_1b, b102_1))) : Option (Int × (Bool × List Int) × Int × (Bool × List Int))) := by kernel_rfl
    exact loop_le' (sig := s18801) (p := p18801) (by kernel_rfl) (by kernel_rfl) rfl rfl rfl (e.trans h)

theorem laws_toIntS_p_le (a0 : List Int) (A : List Ent) : Tv.Le
  (bnd (made (a0.length : Int)) fun n1 =>
  bnd (laws_toIntS_p_l1 a0 (⟨(some (List.length A)), n1⟩ : Hd) 0 (arPush A .int (List.replicate n1 (zeroD .int)))) fun r2 =>
  some (r2.1, r2.2) : Option (Hd × List Ent))
  (laws_toIntS_p a0 A) := by
  exact fun r h => by
    have e : runC (phi Tb GT sg) Tb GT p39600.code (startAT p39600 (mkST p39600.ins [.sl .share .int a0] p39600.bins [.ar A])) (finT p39600 s39600) = (
      bnd (made (a0.length : Int)) fun n1 =>
      bnd (laws_toIntS_p_l1 a0 (⟨(some (List.length A)), n1⟩ : Hd) 0 (arPush A .int (List.replicate n1 (zeroD .int)))) fun r2 =>
      some (r2.1, r2.2) : Option (Hd × List Ent)) := by kernel_rfl
    exact fn_le' (sig := s39600) (p := p39600) (by kernel_rfl) (by kernel_rfl) rfl rfl rfl rfl (e.trans h)

theorem impl_RingValid_le (a0 : Rg) : Tv.Le
  ((bif (decide (1 ≤ a0.room)) then
  (bif (decide (a0.room ≤ 4)) then
  (bif (decide (0 ≤ a0.head)) then
  (bif (decide (a0.head < a0.room)) then
  (bif (decide (0 ≤ a0.len)) then
  (bif (decide (a0.len ≤ a0.room)) then
  (bif (decide ((a0.slots.length : Int) = 4)) then
  bnd (impl_areWords a0.slots) fun r1 =>
  some r1
  else
  some false)
  else
  some false)
  else
  some false)
  else
  some false)
  else
  some false)
  else
  some false)
  else
  some false) : Option (Bool))
  (impl_RingValid a0) := by
  exact fun r h => by
    have e : runC (phi Tb GT sg) Tb GT p16600.code (startAT p16600 (mkST p16600.ins [.agg (rowT .rg a0)] p16600.bins [])) (finT p16600 s16600) = (
      (bif (decide (1 ≤ a0.room)) then
      (bif (decide (a0.room ≤ 4)) then
      (bif (decide (0 ≤ a0.head)) then
      (bif (decide (a0.head < a0.room)) then
      (bif (decide (0 ≤ a0.len)) then
      (bif (decide (a0.len ≤ a0.room)) then
      (bif (decide ((a0.slots.length : Int) = 4)) then
      bnd (impl_areWords a0.slots) fun r1 =>
      some r1
      else
      some false)
      else
      some false)
      else
      some false)
      else
      some false)
      else
      some false)
      else
      some false)
      else
      some false) : Option (Bool)) := by kernel_rfl
    exact fn_le' (sig := s16600) (p := p16600) (by kernel_rfl) (by kernel_rfl) rfl rfl rfl rfl (e.trans h)

theorem impl_RingBox_p_l1_le (t14 : Int) (t15 : Int) (b100_0 : Int) (b100_1 : Int) (b100_2 : Int) (b100_3 : List Int) (b101_0 : Int) (b101_1 : Hd) (b102_0 : Int) (b102_1 : Hd) (b99 : List Ent) : Tv.Le
  ((bif (decide (t15 < t14)) then
  bnd (remI (wrap64 (b100_1 + t15)) b100_0) fun n1 =>
  bnd (geti b100_3 n1) fun e2 =>
  bnd (arApp b99 .int b102_1.id b102_1.n ([e2] : List Int)) fun B3 =>
  impl_RingBox_p_l1 t14 (wrap64 (t15 + 1)) b100_0 b100_1 b100_2 b100_3 b101_0 b101_1 b102_0 (⟨(some (List.length b99)), (b102_1.n + List.length ([e2] : List Int))⟩ : Hd) B3
  else
  some (b101_0, b101_1, b102_0, b102_1, b99)) : Option (Int × Hd × Int × Hd × List Ent))
  (impl_RingBox_p_l1 t14 t15 b100_0 b100_1 b100_2 b100_3 b101_0 b101_1 b102_0 b102_1 b99) := by
  rewrite [← wrapC_eq]
  exact fun r h => by
    have e : runC (phi Tb GT sg) Tb GT p39401.code ((mkST p39401.ins [.bp 100 0, .bp 101 0, .bp 102 0, .int .i64 t14, .int .i64 t15] p39401.bins [.var [.int .i64 b100_0, .int .i64 b100_1, .int .i64 b100_2, .sl .share .int b100_3], .var [.int .i64 b101_0, .tr .int b101_1.id b101_1.n], .var [.int .i64 b102_0, .tr .int b102_1.id b102_1.n], .ar b99])) (finL Tb GT 39401 p39401 s39401) = (
      (bif (decide (t15 < t14)) then
      bnd (remI (wrapC (b100_1 + t15)) b100_0) fun n1 =>
      bnd (geti b100_3 n1) fun e2 =>
      bnd (arApp b99 .int b102_1.id b102_1.n ([e2] : List Int)) fun B3 =>
      impl_RingBox_p_l1 t14 (wrapC (t15 + 1)) b100_0 b100_1 b100_2 b100_3 b101_0 b101_1 b102_0 (⟨(some (List.length b99)), (b102_1.n + List.length ([e2] : List Int))⟩ : Hd) B3
      else
      some (b101_0, b101_1, b102_0, b102_1, b99)) : Option (Int × Hd × Int × Hd × List Ent)) := by kernel_rfl
    exact loop_le' (sig := s39401) (p := p39401) (by kernel_rfl) (by kernel_rfl) rfl rfl rfl (e.trans h)

theorem laws_eqIntS_le (a0 : List Int) (a1 : List Int) : Tv.Le
  ((bif (!decide ((a0.length : Int) = (a1.length : Int))) then
  some false
  else
  bnd (laws_eqIntS_l1 a0 a1 0) fun r1 =>
  selm r1 (fun y2 =>
  some true) (fun z3 =>
  some z3)) : Option (Bool))
  (laws_eqIntS a0 a1) := by
  exact fun r h => by
    have e : runC (phi Tb GT sg) Tb GT p8400.code (startAT p8400 (mkST p8400.ins [.sl .share .int a0, .sl .share .int a1] p8400.bins [])) (finT p8400 s8400) = (
      (bif (!decide ((a0.length : Int) = (a1.length : Int))) then
      some false
      else
      bnd (laws_eqIntS_l1 a0 a1 0) fun r1 =>
      selm r1 (fun y2 =>
      some true) (fun z3 =>
      some z3)) : Option (Bool)) := by kernel_rfl
    exact fn_le' (sig := s8400) (p := p8400) (by kernel_rfl) (by kernel_rfl) rfl rfl rfl rfl (e.trans h)

theorem laws_markIntS_p_le (a0 : Hd) (a1 : Int) (A : List Ent) : Tv.Le
  (bnd (laws_markIntS_p_l1 a0 a1 0 A) fun r1 =>
  some (r1.1, r1.2) : Option (Int × List Ent))
  (laws_markIntS_p a0 a1 A) := by
  exact fun r h => by
    have e : runC (phi Tb GT sg) Tb GT p38700.code (startAT p38700 (mkST p38700.ins [.tr .int a0.id a0.n, .int .i64 a1] p38700.bins [.ar A])) (finT p38700 s38700) = (
      bnd (laws_markIntS_p_l1 a0 a1 0 A) fun r1 =>
      some (r1.1, r1.2) : Option (Int × List Ent)) := by kernel_rfl
    exact fn_le' (sig := s38700) (p := p38700) (by kernel_rfl) (by kernel_rfl) rfl rfl rfl rfl (e.trans h)

theorem laws_heldIntS_le (a0 : List Int) (a1 : Int) : Tv.Le
  (bnd (laws_heldIntS_l1 a0 a1 0) fun r1 =>
  selm r1 (fun y2 =>
  some y2) (fun z3 =>
  some z3.2) : Option (Int))
  (laws_heldIntS a0 a1) := by
  exact fun r h => by
    have e : runC (phi Tb GT sg) Tb GT p10600.code (startAT p10600 (mkST p10600.ins [.sl .share .int a0, .int .i64 a1] p10600.bins [])) (finT p10600 s10600) = (
      bnd (laws_heldIntS_l1 a0 a1 0) fun r1 =>
      selm r1 (fun y2 =>
      some y2) (fun z3 =>
      some z3.2) : Option (Int)) := by kernel_rfl
    exact fn_le' (sig := s10600) (p := p10600) (by kernel_rfl) (by kernel_rfl) rfl rfl rfl rfl (e.trans h)

theorem impl_RingBox_l1_le (t14 : Int) (t15 : Int) (b100_0 : Int) (b100_1 : Int) (b100_2 : Int) (b100_3 : List Int) (b101_0 : Int) (b101_1b : Bool) (b101_1 : List Int) (b102_0 : Int) (b102_1b : Bool) (b102_1 : List Int) : Tv.Le
  ((bif (decide (t15 < t14)) then
  bnd (remI (wrap64 (b100_1 + t15)) b100_0) fun n1 =>
  bnd (geti b100_3 n1) fun e2 =>
  bnd (appL b102_1 ([e2] : List Int)) fun l3 =>
  impl_RingBox_l1 t14 (wrap64 (t15 + 1)) b100_0 b100_1 b100_2 b100_3 b101_0 b101_1b b101_1 b102_0 true l3
  else
  some (b101_0, (b101_1b, b101_1), b102_0, (b102_1b, b102_1))) : Option (Int × (Bool × List Int) × Int × (Bool × List Int)))
  (impl_RingBox_l1 t14 t15 b100_0 b100_1 b100_2 b100_3 b101_0 b101_1b b101_1 b102_0 b102_1b b102_1) := by
  rewrite [← wrapC_eq]
  exact fun r h => by
    have e : runC (phi Tb GT sg) Tb GT p18901.code ((mkST p18901.ins [.bp 100 0, .bp 101 0, .bp 102 0, .int .i64 t14, .int .i64 t15] p18901.bins [.var [.int .i64 b100_0, .int .i64 b100_1, .int .i64 b100_2, .sl .share .int b100_3], .var [.int .i64 b101_0, .sl (.own b101_1b) .int b101_1], .var [.int .i64 b102_0, .sl (.own b102_1b) .int b102_1]])) (finL Tb GT 18901 p18901 s18901) = (
      (bif (decide (t15 < t14)) then
      bnd (remI (wrapC (b100_1 + t15)) b100_0) fun n1 =>
      bnd (geti b100_3 n1) fun e2 =>
      bnd (appL b102_1 ([e2] : List Int)) fun l3 =>
      impl_RingBox_l1 t14 (wrapC (t15 + 1)) b100_0 b100_1 b100_2 b100_3 b101_0 b101_1b b101_1 b102_0 true l3
      else
      some (b101_0, (b101_1b, b101_1), b102_0, (b102_1b, b102_1))) : Option (Int × (Bool × List Int) × Int × (Bool × List Int))) := by kernel_rfl
    exact loop_le' (sig := s18901) (p := p18901) (by kernel_rfl) (by kernel_rfl) rfl rfl rfl (e.trans h)

theorem laws_toIntS_l1_le (t0 : List Int) (t4 : Int) (b100 : List Int) : Tv.Le
  ((bif (decide (t4 < (t0.length : Int))) then
  bnd (geti t0 t4) fun e1 =>
  bnd (geti b100 t4) fun _ =>
  bnd (b100[(Int.toNat t4)]?) fun e3 =>
  laws_toIntS_l1 t0 (wrap64 (t4 + 1)) (b100.set (Int.toNat t4) e1)
  else
  some b100) : Option (List Int))
  (laws_toIntS_l1 t0 t4 b100) := by
  rewrite [← wrapC_eq]
  exact fun r h => by
    have e : runC (phi Tb GT sg) Tb GT p7801.code ((mkST p7801.ins [.sl .share .int t0, .bs 100, .int .i64 t4] p7801.bins [.rows .int b100])) (finL Tb GT 7801 p7801 s7801) = (
      (bif (decide (t4 < (t0.length : Int))) then
      bnd (geti t0 t4) fun e1 =>
      bnd (geti b100 t4) fun _ =>
      bnd (b100[(Int.toNat t4)]?) fun e3 =>
      laws_toIntS_l1 t0 (wrapC (t4 + 1)) (b100.set (Int.toNat t4) e1)
      else
      some b100) : Option (List Int)) := by kernel_rfl
    exact loop_le' (sig := s7801) (p := p7801) (by kernel_rfl) (by kernel_rfl) rfl rfl rfl (e.trans h)

theorem spec_l6In_le (a0 : Int) (a1 : Int) (a2 : Int) : Tv.Le
  ((bif (decide (a1 ≤ a0)) then
  some (decide (a0 ≤ a2))
  else
  some false) : Option (Bool))
  (spec_l6In a0 a1 a2) := by
  exact fun r h => by
    have e : runC (phi Tb GT sg) Tb GT p1600.code (startAT p1600 (mkST p1600.ins [.int .i64 a0, .int .i64 a1, .int .i64 a2] p1600.bins [])) (finT p1600 s1600) = (
      (bif (decide (a1 ≤ a0)) then
      some (decide (a0 ≤ a2))
      else
      some false) : Option (Bool)) := by kernel_rfl
    exact fn_le' (sig := s1600) (p := p1600) (by kernel_rfl) (by kernel_rfl) rfl rfl rfl rfl (e.trans h)

theorem spec_l4Words_le (a0 : List Int) (a1 : Int) : Tv.Le
  ((bif (!decide ((a0.length : Int) = a1)) then
  some false
  else
  bnd (spec_l4Words_l1 a0 0) fun r1 =>
  selm r1 (fun y2 =>
  some true) (fun z3 =>
  some z3)) : Option (Bool))
  (spec_l4Words a0 a1) := by
  exact fun r h => by
    have e : runC (phi Tb GT sg) Tb GT p6500.code (startAT p6500 (mkST p6500.ins [.sl .share .int a0, .int .i64 a1] p6500.bins [])) (finT p6500 s6500) = (
      (bif (!decide ((a0.length : Int) = a1)) then
      some false
      else
      bnd (spec_l4Words_l1 a0 0) fun r1 =>
      selm r1 (fun y2 =>
      some true) (fun z3 =>
      some z3)) : Option (Bool)) := by kernel_rfl
    exact fn_le' (sig := s6500) (p := p6500) (by kernel_rfl) (by kernel_rfl) rfl rfl rfl rfl (e.trans h)

theorem laws_toIntS_p_l1_le (t0 : List Int) (t3 : Hd) (t4 : Int) (b99 : List Ent) : Tv.Le
  ((bif (decide (t4 < (t0.length : Int))) then
  bnd (geti t0 t4) fun e1 =>
  bnd (idxN t3.n t4) fun i2 =>
  bnd (arRow b99 .int t3.id i2) fun e3 =>
  laws_toIntS_p_l1 t0 t3 (wrap64 (t4 + 1)) (arSet b99 .int t3.id i2 e1)
  else
  some (t3, b99)) : Option (Hd × List Ent))
  (laws_toIntS_p_l1 t0 t3 t4 b99) := by
  rewrite [← wrapC_eq]
  exact fun r h => by
    have e : runC (phi Tb GT sg) Tb GT p39601.code ((mkST p39601.ins [.sl .share .int t0, .tr .int t3.id t3.n, .int .i64 t4] p39601.bins [.ar b99])) (finL Tb GT 39601 p39601 s39601) = (
      (bif (decide (t4 < (t0.length : Int))) then
      bnd (geti t0 t4) fun e1 =>
      bnd (idxN t3.n t4) fun i2 =>
      bnd (arRow b99 .int t3.id i2) fun e3 =>
      laws_toIntS_p_l1 t0 t3 (wrapC (t4 + 1)) (arSet b99 .int t3.id i2 e1)
      else
      some (t3, b99)) : Option (Hd × List Ent)) := by kernel_rfl
    exact loop_le' (sig := s39601) (p := p39601) (by kernel_rfl) (by kernel_rfl) rfl rfl rfl (e.trans h)

theorem impl_areWords_le (a0 : List Int) : Tv.Le
  (bnd (impl_areWords_l1 a0 (a0.length : Int) 0) fun r1 =>
  selm r1 (fun y2 =>
  some true) (fun z3 =>
  some z3) : Option (Bool))
  (impl_areWords a0) := by
  exact fun r h => by
    have e : runC (phi Tb GT sg) Tb GT p5100.code (startAT p5100 (mkST p5100.ins [.sl .share .int a0] p5100.bins [])) (finT p5100 s5100) = (
      bnd (impl_areWords_l1 a0 (a0.length : Int) 0) fun r1 =>
      selm r1 (fun y2 =>
      some true) (fun z3 =>
      some z3) : Option (Bool)) := by kernel_rfl
    exact fn_le' (sig := s5100) (p := p5100) (by kernel_rfl) (by kernel_rfl) rfl rfl rfl rfl (e.trans h)

theorem laws_eqIntS_l1_le (t0 : List Int) (t1 : List Int) (t5 : Int) : Tv.Le
  ((bif (decide (t5 < (t0.length : Int))) then
  bnd (geti t0 t5) fun e1 =>
  bnd (geti t1 t5) fun e2 =>
  (bif (!decide (e1 = e2)) then
  some (.inr false)
  else
  laws_eqIntS_l1 t0 t1 (wrap64 (t5 + 1)))
  else
  some (.inl ())) : Option (Unit ⊕ Bool))
  (laws_eqIntS_l1 t0 t1 t5) := by
  rewrite [← wrapC_eq]
  exact fun r h => by
    have e : runC (phi Tb GT sg) Tb GT p8401.code ((mkST p8401.ins [.sl .share .int t0, .sl .share .int t1, .int .i64 t5] p8401.bins [])) (finL Tb GT 8401 p8401 s8401) = (
      (bif (decide (t5 < (t0.length : Int))) then
      bnd (geti t0 t5) fun e1 =>
      bnd (geti t1 t5) fun e2 =>
      (bif (!decide (e1 = e2)) then
      some (.inr false)
      else
      laws_eqIntS_l1 t0 t1 (wrapC (t5 + 1)))
      else
      some (.inl ())) : Option (Unit ⊕ Bool)) := by kernel_rfl
    exact loop_le' (sig := s8401) (p := p8401) (by kernel_rfl) (by kernel_rfl) rfl rfl rfl (e.trans h)

theorem laws_markIntS_p_l1_le (t0 : Hd) (t1 : Int) (t5 : Int) (b99 : List Ent) : Tv.Le
  ((bif (decide (t5 < ((t0.n : Nat) : Int))) then
  bnd (idxN t0.n t5) fun i1 =>
  bnd (arRow b99 .int t0.id i1) fun e2 =>
  laws_markIntS_p_l1 t0 (wrap64 (t1 + 1)) (wrap64 (t5 + 1)) (arSet b99 .int t0.id i1 t1)
  else
  some (t1, b99)) : Option (Int × List Ent))
  (laws_markIntS_p_l1 t0 t1 t5 b99) := by
  rewrite [← wrapC_eq]
  exact fun r h => by
    have e : runC (phi Tb GT sg) Tb GT p38701.code ((mkST p38701.ins [.tr .int t0.id t0.n, .int .i64 t1, .int .i64 t5] p38701.bins [.ar b99])) (finL Tb GT 38701 p38701 s38701) = (
      (bif (decide (t5 < ((t0.n : Nat) : Int))) then
      bnd (idxN t0.n t5) fun i1 =>
      bnd (arRow b99 .int t0.id i1) fun e2 =>
      laws_markIntS_p_l1 t0 (wrapC (t1 + 1)) (wrapC (t5 + 1)) (arSet b99 .int t0.id i1 t1)
      else
      some (t1, b99)) : Option (Int × List Ent)) := by kernel_rfl
    exact loop_le' (sig := s38701) (p := p38701) (by kernel_rfl) (by kernel_rfl) rfl rfl rfl (e.trans h)

theorem laws_heldIntS_l1_le (t0 : List Int) (t1 : Int) (t5 : Int) : Tv.Le
  ((bif (decide (t5 < (t0.length : Int))) then
  bnd (geti t0 t5) fun e1 =>
  (bif (!decide (e1 = t1)) then
  some (.inr (t1, (-1)))
  else
  laws_heldIntS_l1 t0 (wrap64 (t1 + 1)) (wrap64 (t5 + 1)))
  else
  some (.inl t1)) : Option (Int ⊕ (Int × Int)))
  (laws_heldIntS_l1 t0 t1 t5) := by
  rewrite [← wrapC_eq]
  exact fun r h => by
    have e : runC (phi Tb GT sg) Tb GT p10601.code ((mkST p10601.ins [.sl .share .int t0, .int .i64 t1, .int .i64 t5] p10601.bins [])) (finL Tb GT 10601 p10601 s10601) = (
      (bif (decide (t5 < (t0.length : Int))) then
      bnd (geti t0 t5) fun e1 =>
      (bif (!decide (e1 = t1)) then
      some (.inr (t1, (-1)))
      else
      laws_heldIntS_l1 t0 (wrapC (t1 + 1)) (wrapC (t5 + 1)))
      else
      some (.inl t1)) : Option (Int ⊕ (Int × Int))) := by kernel_rfl
    exact loop_le' (sig := s10601) (p := p10601) (by kernel_rfl) (by kernel_rfl) rfl rfl rfl (e.trans h)

theorem spec_WordValid_le (a0 : Int) : Tv.Le
  (bnd (spec_l6In a0 (-2147483648) 2147483647) fun r1 =>
  some r1 : Option (Bool))
  (spec_WordValid a0) := by
  exact fun r h => by
    have e : runC (phi Tb GT sg) Tb GT p6400.code (startAT p6400 (mkST p6400.ins [.int .i64 a0] p6400.bins [])) (finT p6400 s6400) = (
      bnd (spec_l6In a0 (-2147483648) 2147483647) fun r1 =>
      some r1 : Option (Bool)) := by kernel_rfl
    exact fn_le' (sig := s6400) (p := p6400) (by kernel_rfl) (by kernel_rfl) rfl rfl rfl rfl (e.trans h)

theorem spec_l4Words_l1_le (t0 : List Int) (t5 : Int) : Tv.Le
  ((bif (decide (t5 < (t0.length : Int))) then
  bnd (geti t0 t5) fun e1 =>
  bnd (spec_WordValid e1) fun r2 =>
  (bif (!r2) then
  some (.inr false)
  else
  spec_l4Words_l1 t0 (wrap64 (t5 + 1)))
  else
  some (.inl ())) : Option (Unit ⊕ Bool))
  (spec_l4Words_l1 t0 t5) := by
  rewrite [← wrapC_eq]
  exact fun r h => by
    have e : runC (phi Tb GT sg) Tb GT p6501.code ((mkST p6501.ins [.sl .share .int t0, .int .i64 t5] p6501.bins [])) (finL Tb GT 6501 p6501 s6501) = (
      (bif (decide (t5 < (t0.length : Int))) then
      bnd (geti t0 t5) fun e1 =>
      bnd (spec_WordValid e1) fun r2 =>
      (bif (!r2) then
      some (.inr false)
      else
      spec_l4Words_l1 t0 (wrapC (t5 + 1)))
      else
      some (.inl ())) : Option (Unit ⊕ Bool)) := by kernel_rfl
    exact loop_le' (sig := s6501) (p := p6501) (by kernel_rfl) (by kernel_rfl) rfl rfl rfl (e.trans h)

theorem impl_WordValid_le (a0 : Int) : Tv.Le
  ((bif (decide ((-2147483648) ≤ a0)) then
  some (decide (a0 ≤ 2147483647))
  else
  some false) : Option (Bool))
  (impl_WordValid a0) := by
  exact fun r h => by
    have e : runC (phi Tb GT sg) Tb GT p5000.code (startAT p5000 (mkST p5000.ins [.int .i64 a0] p5000.bins [])) (finT p5000 s5000) = (
      (bif (decide ((-2147483648) ≤ a0)) then
      some (decide (a0 ≤ 2147483647))
      else
      some false) : Option (Bool)) := by kernel_rfl
    exact fn_le' (sig := s5000) (p := p5000) (by kernel_rfl) (by kernel_rfl) rfl rfl rfl rfl (e.trans h)

theorem impl_areWords_l1_le (t5 : List Int) (t6 : Int) (t7 : Int) : Tv.Le
  ((bif (decide (t7 < t6)) then
  bnd (geti t5 t7) fun e1 =>
  bnd (impl_WordValid e1) fun r2 =>
  (bif (!r2) then
  some (.inr false)
  else
  impl_areWords_l1 t5 t6 (wrap64 (t7 + 1)))
  else
  some (.inl ())) : Option (Unit ⊕ Bool))
  (impl_areWords_l1 t5 t6 t7) := by
  rewrite [← wrapC_eq]
  exact fun r h => by
    have e : runC (phi Tb GT sg) Tb GT p5101.code ((mkST p5101.ins [.sl .share .int t5, .int .i64 t6, .int .i64 t7] p5101.bins [])) (finL Tb GT 5101 p5101 s5101) = (
      (bif (decide (t7 < t6)) then
      bnd (geti t5 t7) fun e1 =>
      bnd (impl_WordValid e1) fun r2 =>
      (bif (!r2) then
      some (.inr false)
      else
      impl_areWords_l1 t5 t6 (wrapC (t7 + 1)))
      else
      some (.inl ())) : Option (Unit ⊕ Bool)) := by kernel_rfl
    exact loop_le' (sig := s5101) (p := p5101) (by kernel_rfl) (by kernel_rfl) rfl rfl rfl (e.trans h)

end Go.TFnExactRingBox
