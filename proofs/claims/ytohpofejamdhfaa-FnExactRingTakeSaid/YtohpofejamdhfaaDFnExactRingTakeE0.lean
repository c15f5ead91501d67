import Derived.Test.YtohpofejamdhfaaDFnExactRingTakeP
import Derived.KernelRfl
set_option linter.unusedVariables false
namespace Go.TFnExactRingTake
open Go Go.RowKit Go.Vs Go.Tv
theorem laws_FnExactRingTake_le (a0 : Rg) : Tv.Le
  (bnd (laws_szRing a0 1048576) fun r1 =>
  (bif (decide (r1 < 0)) then
  some true
  else
  bnd (laws_toRing a0) fun r2 =>
  bnd (spec_RingTake r2) fun r3 =>
  bnd (laws_toRing_p a0 ([] : List Ent)) fun r4 =>
  bnd (arView r4.2 .int r4.1.slots.id) fun l5 =>
  bnd (impl_RingTake_p (⟨r4.1.room, r4.1.head, r4.1.len, l5⟩ : Rg) (Go.Vs.blank r4.2)) fun r6 =>
  bnd (arJoin r4.2 r6.2.2.2) fun B7 =>
  bnd (arView B7 .int r6.1.slots.id) fun l8 =>
  bnd (laws_eqRing (⟨r6.1.room, r6.1.head, r6.1.len, l8⟩ : Rg) r3.1) fun r9 =>
  (bif (!r9) then
  some false
  else
  (bif (!decide (r6.2.1 = r3.2.1)) then
  some false
  else
  (bif (!(r6.2.2.1 == r3.2.2)) then
  some false
  else
  bnd (laws_toRing a0) fun r10 =>
  bnd (arView B7 .int r4.1.slots.id) fun l11 =>
  bnd (laws_eqRing (⟨r4.1.room, r4.1.head, r4.1.len, l11⟩ : Rg) r10) fun r12 =>
  (bif (!r12) then
  some false
  else
  bnd (laws_markRing_p r4.1 1 B7) fun r13 =>
  (bif (decide (r13.1 < 0)) then
  some false
  else
  bnd (arView r13.2 .int r6.1.slots.id) fun l14 =>
  bnd (laws_eqRing (⟨r6.1.room, r6.1.head, r6.1.len, l14⟩ : Rg) r3.1) fun r15 =>
  (bif (!r15) then
  some false
  else
  (bif (!decide (r6.2.1 = r3.2.1)) then
  some false
  else
  (bif (!(r6.2.2.1 == r3.2.2)) then
  some false
  else
  bnd (laws_markRing_p r6.1 1 r13.2) fun r16 =>
  bnd (arView r16.2 .int r6.1.slots.id) fun l17 =>
  bnd (laws_heldRing (⟨r6.1.room, r6.1.head, r6.1.len, l17⟩ : Rg) 1) fun r18 =>
  (bif (decide (r18 < 0)) then
  some false
  else
  (bif (!decide (r18 = r16.1)) then
  some false
  else
  bnd (laws_toRing a0) fun r19 =>
  bnd (impl_RingTake r19) fun r20 =>
  bnd (laws_eqRing r20.1 r3.1) fun r21 =>
  (bif (!r21) then
  some false
  else
  (bif (!decide (r20.2.1 = r3.2.1)) then
  some false
  else
  (bif (!(r20.2.2 == r3.2.2)) then
  some false
  else
  bnd (arView r16.2 .int r6.1.slots.id) fun l22 =>
  bnd (laws_heldRing (⟨r6.1.room, r6.1.head, r6.1.len, l22⟩ : Rg) 1) fun r23 =>
  (bif (decide (r23 < 0)) then
  some false
  else
  (bif (!decide (r23 = r16.1)) then
  some false
  else
  some true)))))))))))))))) : Option (Bool))
  (laws_FnExactRingTake a0) := by
  exact fun r h => by
    have e : runC (phi Tb GT sg) Tb GT p17200.code (startAT p17200 (mkST p17200.ins [.agg (rowT .rg a0)] p17200.bins [])) (finT p17200 s17200) = (
      bnd (laws_szRing a0 1048576) fun r1 =>
      (bif (decide (r1 < 0)) then
      some true
      else
      bnd (laws_toRing a0) fun r2 =>
      bnd (spec_RingTake r2) fun r3 =>
      bnd (laws_toRing_p a0 ([] : List Ent)) fun r4 =>
      bnd (arView r4.2 .int r4.1.slots.id) fun l5 =>
      bnd (impl_RingTake_p (⟨r4.1.room, r4.1.head, r4.1.len, l5⟩ : Rg) (Go.Vs.blank r4.2)) fun r6 =>
      bnd (arJoin r4.2 r6.2.2.2) fun B7 =>
      bnd (arView B7 .int r6.1.slots.id) fun l8 =>
      bnd (laws_eqRing (⟨r6.1.room, r6.1.head, r6.1.len, l8⟩ : Rg) r3.1) fun r9 =>
      (bif (!r9) then
      some false
      else
      (bif (!decide (r6.2.1 = r3.2.1)) then
      some false
      else
      (bif (!(r6.2.2.1 == r3.2.2)) then
      some false
      else
      bnd (laws_toRing a0) fun r10 =>
      bnd (arView B7 .int r4.1.slots.id) fun l11 =>
      bnd (laws_eqRing (⟨r4.1.room, r4.1.head, r4.1.len, l11⟩ : Rg) r10) fun r12 =>
      (bif (!r12) then
      some false
      else
      bnd (laws_markRing_p r4.1 1 B7) fun r13 =>
      (bif (decide (r13.1 < 0)) then
      some false
      else
      bnd (arView r13.2 .int r6.1.slots.id) fun l14 =>
      bnd (laws_eqRing (⟨r6.1.room, r6.1.head, r6.1.len, l14⟩ : Rg) r3.1) fun r15 =>
      (bif (!r15) then
      some false
      else
      (bif (!decide (r6.2.1 = r3.2.1)) then
      some false
      else
      (bif (!(r6.2.2.1 == r3.2.2)) then
      some false
      else
      bnd (laws_markRing_p r6.1 1 r13.2) fun r16 =>
      bnd (arView r16.2 .int r6.1.slots.id) fun l17 =>
      bnd (laws_heldRing (⟨r6.1.room, r6.1.head, r6.1.len, l17⟩ : Rg) 1) fun r18 =>
      (bif (decide (r18 < 0)) then
      some false
      else
      (bif (!decide (r18 = r16.1)) then
      some false
      else
      bnd (laws_toRing a0) fun r19 =>
      bnd (impl_RingTake r19) fun r20 =>
      bnd (laws_eqRing r20.1 r3.1) fun r21 =>
      (bif (!r21) then
      some false
      else
      (bif (!decide (r20.2.1 = r3.2.1)) then
      some false
      else
      (bif (!(r20.2.2 == r3.2.2)) then
      some false
      else
      bnd (arView r16.2 .int r6.1.slots.id) fun l22 =>
      bnd (laws_heldRing (⟨r6.1.room, r6.1.head, r6.1.len, l22⟩ : Rg) 1) fun r23 =>
      (bif (decide (r23 < 0)) then
      some false
      else
      (bif (!decide (r23 = r16.1)) then
      some false
      else
      some true)))))))))))))))) : Option (Bool)) := by kernel_rfl
    exact fn_le' (sig := s17200) (p := p17200) (by kernel_rfl) (by kernel_rfl) rfl rfl rfl rfl (e.trans h)

theorem laws_szRing_le (a0 : Rg) (a1 : Int) : Tv.Le
  (bnd (laws_szIntS a0.slots a1) fun r1 =>
  (bif (decide (r1 < 0)) then
  some (-1)
  else
  some r1) : Option (Int))
  (laws_szRing a0 a1) := by
  exact fun r h => by
    have e : runC (phi Tb GT sg) Tb GT p16200.code (startAT p16200 (mkST p16200.ins [.agg (rowT .rg a0), .int .i64 a1] p16200.bins [])) (finT p16200 s16200) = (
      bnd (laws_szIntS a0.slots a1) fun r1 =>
      (bif (decide (r1 < 0)) then
      some (-1)
      else
      some r1) : Option (Int)) := by kernel_rfl
    exact fn_le' (sig := s16200) (p := p16200) (by kernel_rfl) (by kernel_rfl) rfl rfl rfl rfl (e.trans h)

theorem laws_toRing_le (a0 : Rg) : Tv.Le
  (bnd (laws_toIntS a0.slots) fun r1 =>
  some (⟨a0.room, a0.head, a0.len, r1⟩) : Option (Rg))
  (laws_toRing a0) := by
  exact fun r h => by
    have e : runC (phi Tb GT sg) Tb GT p16500.code (startAT p16500 (mkST p16500.ins [.agg (rowT .rg a0)] p16500.bins [])) (finT p16500 s16500) = (
      bnd (laws_toIntS a0.slots) fun r1 =>
      some (⟨a0.room, a0.head, a0.len, r1⟩) : Option (Rg)) := by kernel_rfl
    exact fn_le' (sig := s16500) (p := p16500) (by kernel_rfl) (by kernel_rfl) rfl rfl rfl rfl (e.trans h)

theorem spec_RingTake_le (a0 : Rg) : Tv.Le
  (bnd (spec_RingValid a0) fun r1 =>
  (bif (!r1) then
  some (⟨0, 0, 0, []⟩, 0, false)
  else
  (bif (decide (a0.len = 0)) then
  some (⟨0, 0, 0, []⟩, 0, false)
  else
  bnd (remI (wrap64 (a0.head + 1)) a0.room) fun n2 =>
  bnd (appL ([] : List Int) a0.slots) fun l3 =>
  bnd (geti a0.slots a0.head) fun e4 =>
  some (⟨a0.room, n2, (wrap64 (a0.len - 1)), l3⟩, e4, true))) : Option (Rg × Int × Bool))
  (spec_RingTake a0) := by
  rewrite [← wrapC_eq]
  exact fun r h => by
    have e : runC (phi Tb GT sg) Tb GT p16400.code (startAT p16400 (mkST p16400.ins [.agg (rowT .rg a0)] p16400.bins [])) (finT p16400 s16400) = (
      bnd (spec_RingValid a0) fun r1 =>
      (bif (!r1) then
      some (⟨0, 0, 0, []⟩, 0, false)
      else
      (bif (decide (a0.len = 0)) then
      some (⟨0, 0, 0, []⟩, 0, false)
      else
      bnd (remI (wrapC (a0.head + 1)) a0.room) fun n2 =>
      bnd (appL ([] : List Int) a0.slots) fun l3 =>
      bnd (geti a0.slots a0.head) fun e4 =>
      some (⟨a0.room, n2, (wrapC (a0.len - 1)), l3⟩, e4, true))) : Option (Rg × Int × Bool)) := by kernel_rfl
    exact fn_le' (sig := s16400) (p := p16400) (by kernel_rfl) (by kernel_rfl) rfl rfl rfl rfl (e.trans h)

theorem laws_toRing_p_le (a0 : Rg) (A : List Ent) : Tv.Le
  (bnd (laws_toIntS_p a0.slots A) fun r1 =>
  some (⟨a0.room, a0.head, a0.len, r1.1⟩, r1.2) : Option (RgH × List Ent))
  (laws_toRing_p a0 A) := by
  exact fun r h => by
    have e : runC (phi Tb GT sg) Tb GT p39100.code (startAT p39100 (mkST p39100.ins [.agg (rowT .rg a0)] p39100.bins [.ar A])) (finT p39100 s39100) = (
      bnd (laws_toIntS_p a0.slots A) fun r1 =>
      some (⟨a0.room, a0.head, a0.len, r1.1⟩, r1.2) : Option (RgH × List Ent)) := by kernel_rfl
    exact fn_le' (sig := s39100) (p := p39100) (by kernel_rfl) (by kernel_rfl) rfl rfl rfl rfl (e.trans h)

theorem impl_RingTake_p_le (a0 : Rg) (A : List Ent) : Tv.Le
  (bnd (impl_RingValid a0) fun r1 =>
  (bif (!r1) then
  some (⟨0, 0, 0, ⟨none, 0⟩⟩, 0, false, A)
  else
  (bif (decide (a0.len = 0)) then
  some (⟨0, 0, 0, ⟨none, 0⟩⟩, 0, false, A)
  else
  bnd (slices_Clone___int_int__p a0.slots A) fun r2 =>
  bnd (idxN r2.1.n a0.head) fun i3 =>
  bnd (arRow r2.2 .int r2.1.id i3) fun e4 =>
  bnd (remI (wrap64 (a0.head + 1)) a0.room) fun n5 =>
  some (⟨a0.room, n5, (wrap64 (a0.len - 1)), r2.1⟩, e4, true, r2.2))) : Option (RgH × Int × Bool × List Ent))
  (impl_RingTake_p a0 A) := by
  rewrite [← wrapC_eq]
  exact fun r h => by
    have e : runC (phi Tb GT sg) Tb GT p39200.code (startAT p39200 (mkST p39200.ins [.agg (rowT .rg a0)] p39200.bins [.ar A])) (finT p39200 s39200) = (
      bnd (impl_RingValid a0) fun r1 =>
      (bif (!r1) then
      some (⟨0, 0, 0, ⟨none, 0⟩⟩, 0, false, A)
      else
      (bif (decide (a0.len = 0)) then
      some (⟨0, 0, 0, ⟨none, 0⟩⟩, 0, false, A)
      else
      bnd (slices_Clone___int_int__p a0.slots A) fun r2 =>
      bnd (idxN r2.1.n a0.head) fun i3 =>
      bnd (arRow r2.2 .int r2.1.id i3) fun e4 =>
      bnd (remI (wrapC (a0.head + 1)) a0.room) fun n5 =>
      some (⟨a0.room, n5, (wrapC (a0.len - 1)), r2.1⟩, e4, true, r2.2))) : Option (RgH × Int × Bool × List Ent)) := by kernel_rfl
    exact fn_le' (sig := s39200) (p := p39200) (by kernel_rfl) (by kernel_rfl) rfl rfl rfl rfl (e.trans h)

theorem laws_eqRing_le (a0 : Rg) (a1 : Rg) : Tv.Le
  ((bif (!decide (a0.room = a1.room)) then
  some false
  else
  (bif (!decide (a0.head = a1.head)) then
  some false
  else
  (bif (!decide (a0.len = a1.len)) then
  some false
  else
  bnd (laws_eqIntS a0.slots a1.slots) fun r1 =>
  (bif (!r1) then
  some false
  else
  some true)))) : Option (Bool))
  (laws_eqRing a0 a1) := by
  exact fun r h => by
    have e : runC (phi Tb GT sg) Tb GT p16900.code (startAT p16900 (mkST p16900.ins [.agg (rowT .rg a0), .agg (rowT .rg a1)] p16900.bins [])) (finT p16900 s16900) = (
      (bif (!decide (a0.room = a1.room)) then
      some false
      else
      (bif (!decide (a0.head = a1.head)) then
      some false
      else
      (bif (!decide (a0.len = a1.len)) then
      some false
      else
      bnd (laws_eqIntS a0.slots a1.slots) fun r1 =>
      (bif (!r1) then
      some false
      else
      some true)))) : Option (Bool)) := by kernel_rfl
    exact fn_le' (sig := s16900) (p := p16900) (by kernel_rfl) (by kernel_rfl) rfl rfl rfl rfl (e.trans h)

theorem laws_markRing_p_le (a0 : RgH) (a1 : Int) (A : List Ent) : Tv.Le
  (bnd (laws_markIntS_p a0.slots a1 A) fun r1 =>
  some (r1.1, r1.2) : Option (Int × List Ent))
  (laws_markRing_p a0 a1 A) := by
  exact fun r h => by
    have e : runC (phi Tb GT sg) Tb GT p39300.code (startAT p39300 (mkST p39300.ins [.agg (rowT .rgH a0), .int .i64 a1] p39300.bins [.ar A])) (finT p39300 s39300) = (
      bnd (laws_markIntS_p a0.slots a1 A) fun r1 =>
      some (r1.1, r1.2) : Option (Int × List Ent)) := by kernel_rfl
    exact fn_le' (sig := s39300) (p := p39300) (by kernel_rfl) (by kernel_rfl) rfl rfl rfl rfl (e.trans h)

theorem laws_heldRing_le (a0 : Rg) (a1 : Int) : Tv.Le
  (bnd (laws_heldIntS a0.slots a1) fun r1 =>
  (bif (decide (r1 < 0)) then
  some (-1)
  else
  some r1) : Option (Int))
  (laws_heldRing a0 a1) := by
  exact fun r h => by
    have e : runC (phi Tb GT sg) Tb GT p17100.code (startAT p17100 (mkST p17100.ins [.agg (rowT .rg a0), .int .i64 a1] p17100.bins [])) (finT p17100 s17100) = (
      bnd (laws_heldIntS a0.slots a1) fun r1 =>
      (bif (decide (r1 < 0)) then
      some (-1)
      else
      some r1) : Option (Int)) := by kernel_rfl
    exact fn_le' (sig := s17100) (p := p17100) (by kernel_rfl) (by kernel_rfl) rfl rfl rfl rfl (e.trans h)

theorem impl_RingTake_le (a0 : Rg) : Tv.Le
  (bnd (impl_RingValid a0) fun r1 =>
  (bif (!r1) then
  some (⟨0, 0, 0, []⟩, 0, false)
  else
  (bif (decide (a0.len = 0)) then
  some (⟨0, 0, 0, []⟩, 0, false)
  else
  bnd (slices_Clone___int_int_ a0.slots) fun r2 =>
  bnd (geti r2 a0.head) fun e3 =>
  bnd (remI (wrap64 (a0.head + 1)) a0.room) fun n4 =>
  some (⟨a0.room, n4, (wrap64 (a0.len - 1)), r2⟩, e3, true))) : Option (Rg × Int × Bool))
  (impl_RingTake a0) := by
  rewrite [← wrapC_eq]
  exact fun r h => by
    have e : runC (phi Tb GT sg) Tb GT p16800.code (startAT p16800 (mkST p16800.ins [.agg (rowT .rg a0)] p16800.bins [])) (finT p16800 s16800) = (
      bnd (impl_RingValid a0) fun r1 =>
      (bif (!r1) then
      some (⟨0, 0, 0, []⟩, 0, false)
      else
      (bif (decide (a0.len = 0)) then
      some (⟨0, 0, 0, []⟩, 0, false)
      else
      bnd (slices_Clone___int_int_ a0.slots) fun r2 =>
      bnd (geti r2 a0.head) fun e3 =>
      bnd (remI (wrapC (a0.head + 1)) a0.room) fun n4 =>
      some (⟨a0.room, n4, (wrapC (a0.len - 1)), r2⟩, e3, true))) : Option (Rg × Int × Bool)) := by kernel_rfl
    exact fn_le' (sig := s16800) (p := p16800) (by kernel_rfl) (by kernel_rfl) rfl rfl rfl rfl (e.trans h)

theorem laws_szIntS_le (a0 : List Int) (a1 : Int) : Tv.Le
  ((bif (decide ((wrap64 (a1 - (a0.length : Int))) < 0)) then
  some (-1)
  else
  some (wrap64 (a1 - (a0.length : Int)))) : Option (Int))
  (laws_szIntS a0 a1) := by
  rewrite [← wrapC_eq]
  exact fun r h => by
    have e : runC (phi Tb GT sg) Tb GT p7200.code (startAT p7200 (mkST p7200.ins [.sl .share .int a0, .int .i64 a1] p7200.bins [])) (finT p7200 s7200) = (
      (bif (decide ((wrapC (a1 - (a0.length : Int))) < 0)) then
      some (-1)
      else
      some (wrapC (a1 - (a0.length : Int)))) : Option (Int)) := by kernel_rfl
    exact fn_le' (sig := s7200) (p := p7200) (by kernel_rfl) (by kernel_rfl) rfl rfl rfl rfl (e.trans h)

theorem laws_toIntS_le (a0 : List Int) : Tv.Le
  (bnd (made (a0.length : Int)) fun n1 =>
  bnd (laws_toIntS_l1 a0 0 (List.replicate n1 (zeroD .int))) fun r2 =>
  some r2 : Option (List Int))
  (laws_toIntS a0) := by
  exact fun r h => by
    have e : runC (phi Tb GT sg) Tb GT p7800.code (startAT p7800 (mkST p7800.ins [.sl .share .int a0] p7800.bins [])) (finT p7800 s7800) = (
      bnd (made (a0.length : Int)) fun n1 =>
      bnd (laws_toIntS_l1 a0 0 (List.replicate n1 (zeroD .int))) fun r2 =>
      some r2 : Option (List Int)) := by kernel_rfl
    exact fn_le' (sig := s7800) (p := p7800) (by kernel_rfl) (by kernel_rfl) rfl rfl rfl rfl (e.trans h)

theorem spec_RingValid_le (a0 : Rg) : Tv.Le
  (bnd (spec_l6In a0.room 1 4) fun r1 =>
  (bif r1 then
  bnd (spec_l6In a0.head 0 (wrap64 (a0.room - 1))) fun r2 =>
  (bif r2 then
  bnd (spec_l6In a0.len 0 a0.room) fun r3 =>
  (bif r3 then
  bnd (spec_l4Words a0.slots 4) fun r4 =>
  some r4
  else
  some false)
  else
  some false)
  else
  some false) : Option (Bool))
  (spec_RingValid a0) := by
  rewrite [← wrapC_eq]
  exact fun r h => by
    have e : runC (phi Tb GT sg) Tb GT p16300.code (startAT p16300 (mkST p16300.ins [.agg (rowT .rg a0)] p16300.bins [])) (finT p16300 s16300) = (
      bnd (spec_l6In a0.room 1 4) fun r1 =>
      (bif r1 then
      bnd (spec_l6In a0.head 0 (wrapC (a0.room - 1))) fun r2 =>
      (bif r2 then
      bnd (spec_l6In a0.len 0 a0.room) fun r3 =>
      (bif r3 then
      bnd (spec_l4Words a0.slots 4) fun r4 =>
      some r4
      else
      some false)
      else
      some false)
      else
      some false) : Option (Bool)) := by kernel_rfl
    exact fn_le' (sig := s16300) (p := p16300) (by kernel_rfl) (by kernel_rfl) rfl rfl rfl rfl (e.trans h)

theorem laws_toIntS_p_le (a0 : List Int) (A : List Ent) : Tv.Le
  (bnd (made (a0.length : Int)) fun n1 =>
  bnd (laws_toIntS_p_l1 a0 (⟨(some (List.length A)), n1⟩ : Hd) 0 (arPush A .int (List.replicate n1 (zeroD .int)))) fun r2 =>
  some (r2.1, r2.2) : Option (Hd × List Ent))
  (laws_toIntS_p a0 A) := by
  exact fun r h => by
    have e : runC (phi Tb GT sg) Tb GT p39600.code (startAT p39600 (mkST p39600.ins [.sl .share .int a0] p39600.bins [.ar A])) (finT p39600 s39600) = (
      bnd (made (a0.length : Int)) fun n1 =>
      bnd (laws_toIntS_p_l1 a0 (⟨(some (List.length A)), n1⟩ : Hd) 0 (arPush A .int (List.replicate n1 (zeroD .int)))) fun r2 =>
      some (r2.1, r2.2) : Option (Hd × List Ent)) := by kernel_rfl
    exact fn_le' (sig := s39600) (p := p39600) (by kernel_rfl) (by kernel_rfl) rfl rfl rfl rfl (e.trans h)

theorem impl_RingValid_le (a0 : Rg) : Tv.Le
  ((bif (decide (1 ≤ a0.room)) then
  (bif (decide (a0.room ≤ 4)) then
  (bif (decide (0 ≤ a0.head)) then
  (bif (decide (a0.head < a0.room)) then
  (bif (decide (0 ≤ a0.len)) then
  (bif (decide (a0.len ≤ a0.room)) then
  (bif (decide ((a0.slots.length : Int) = 4)) then
  bnd (impl_areWords a0.slots) fun r1 =>
  some r1
  else
  some false)
  else
  some false)
  else
  some false)
  else
  some false)
  else
  some false)
  else
  some false)
  else
  some false) : Option (Bool))
  (impl_RingValid a0) := by
  exact fun r h => by
    have e : runC (phi Tb GT sg) Tb GT p16600.code (startAT p16600 (mkST p16600.ins [.agg (rowT .rg a0)] p16600.bins [])) (finT p16600 s16600) = (
      (bif (decide (1 ≤ a0.room)) then
      (bif (decide (a0.room ≤ 4)) then
      (bif (decide (0 ≤ a0.head)) then
      (bif (decide (a0.head < a0.room)) then
      (bif (decide (0 ≤ a0.len)) then
      (bif (decide (a0.len ≤ a0.room)) then
      (bif (decide ((a0.slots.length : Int) = 4)) then
      bnd (impl_areWords a0.slots) fun r1 =>
      some r1
      else
      some false)
      else
      some false)
      else
      some false)
      else
      some false)
      else
      some false)
      else
      some false)
      else
      some false) : Option (Bool)) := by kernel_rfl
    exact fn_le' (sig := s16600) (p := p16600) (by kernel_rfl) (by kernel_rfl) rfl rfl rfl rfl (e.trans h)

theorem slices_Clone___int_int__p_le (a0 : List Int) (A : List Ent) : Tv.Le (if a0.length ≤ 4294967296 then some (⟨some A.length, a0.length⟩, arPush A .int a0) else none : Option (Hd × List Ent)) (slices_Clone___int_int__p a0 A) := fun r h => by
  split at h
  · injection h with h
    subst h
    exact primA_le (F := Tb) (G := GT) (sg := fun _ => s38200) (g := 38200) (p := p38200) (x := (⟨some A.length, a0.length⟩, arPush A .int a0)) (tv := [.sl .share .int a0]) (es := A) (es' := arPush A .int a0) (v := .tr .int (some A.length) a0.length) (by kernel_rfl) rfl (clone_pa ‹_›) rfl
  · cases h

theorem laws_eqIntS_le (a0 : List Int) (a1 : List Int) : Tv.Le
  ((bif (!decide ((a0.length : Int) = (a1.length : Int))) then
  some false
  else
  bnd (laws_eqIntS_l1 a0 a1 0) fun r1 =>
  selm r1 (fun y2 =>
  some true) (fun z3 =>
  some z3)) : Option (Bool))
  (laws_eqIntS a0 a1) := by
  exact fun r h => by
    have e : runC (phi Tb GT sg) Tb GT p8400.code (startAT p8400 (mkST p8400.ins [.sl .share .int a0, .sl .share .int a1] p8400.bins [])) (finT p8400 s8400) = (
      (bif (!decide ((a0.length : Int) = (a1.length : Int))) then
      some false
      else
      bnd (laws_eqIntS_l1 a0 a1 0) fun r1 =>
      selm r1 (fun y2 =>
      some true) (fun z3 =>
      some z3)) : Option (Bool)) := by kernel_rfl
    exact fn_le' (sig := s8400) (p := p8400) (by kernel_rfl) (by kernel_rfl) rfl rfl rfl rfl (e.trans h)

theorem laws_markIntS_p_le (a0 : Hd) (a1 : Int) (A : List Ent) : Tv.Le
  (bnd (laws_markIntS_p_l1 a0 a1 0 A) fun r1 =>
  some (r1.1, r1.2) : Option (Int × List Ent))
  (laws_markIntS_p a0 a1 A) := by
  exact fun r h => by
    have e : runC (phi Tb GT sg) Tb GT p38700.code (startAT p38700 (mkST p38700.ins [.tr .int a0.id a0.n, .int .i64 a1] p38700.bins [.ar A])) (finT p38700 s38700) = (
      bnd (laws_markIntS_p_l1 a0 a1 0 A) fun r1 =>
      some (r1.1, r1.2) : Option (Int × List Ent)) := by kernel_rfl
    exact fn_le' (sig := s38700) (p := p38700) (by kernel_rfl) (by kernel_rfl) rfl rfl rfl rfl (e.trans h)

theorem laws_heldIntS_le (a0 : List Int) (a1 : Int) : Tv.Le
  (bnd (laws_heldIntS_l1 a0 a1 0) fun r1 =>
  selm r1 (fun y2 =>
  some y2) (fun z3 =>
  some z3.2) : Option (Int))
  (laws_heldIntS a0 a1) := by
  exact fun r h => by
    have e : runC (phi Tb GT sg) Tb GT p10600.code (startAT p10600 (mkST p10600.ins [.sl .share .int a0, .int .i64 a1] p10600.bins [])) (finT p10600 s10600) = (
      bnd (laws_heldIntS_l1 a0 a1 0) fun r1 =>
      selm r1 (fun y2 =>
      some y2) (fun z3 =>
      some z3.2) : Option (Int)) := by kernel_rfl
    exact fn_le' (sig := s10600) (p := p10600) (by kernel_rfl) (by kernel_rfl) rfl rfl rfl rfl (e.trans h)

theorem slices_Clone___int_int__le (a0 : List Int) : Tv.Le (if a0.length ≤ 4294967296 then some a0 else none : Option (List Int)) (slices_Clone___int_int_ a0) := fun r h => by
  split at h
  · injection h with h
    subst h
    exact prim_le (F := Tb) (G := GT) (sg := fun _ => s16700) (g := 16700) (p := p16700) (x := a0) (tv := [.sl .share .int a0]) (v := .sl (.own true) .int a0) (by kernel_rfl) rfl (clone_pf ‹_›) rfl
  · cases h

theorem laws_toIntS_l1_le (t0 : List Int) (t4 : Int) (b100 : List Int) : Tv.Le
  ((bif (decide (t4 < (t0.length : Int))) then
  bnd (geti t0 t4) fun e1 =>
  bnd (geti b100 t4) fun _ =>
  bnd (b100[(Int.toNat t4)]?) fun e3 =>
  laws_toIntS_l1 t0 (wrap64 (t4 + 1)) (b100.set (Int.toNat t4) e1)
  else
  some b100) : Option (List Int))
  (laws_toIntS_l1 t0 t4 b100) := by
  rewrite [← wrapC_eq]
  exact fun r h => by
    have e : runC (phi Tb GT sg) Tb GT p7801.code ((mkST p7801.ins [.sl .share .int t0, .bs 100, .int .i64 t4] p7801.bins [.rows .int b100])) (finL Tb GT 7801 p7801 s7801) = (
      (bif (decide (t4 < (t0.length : Int))) then
      bnd (geti t0 t4) fun e1 =>
      bnd (geti b100 t4) fun _ =>
      bnd (b100[(Int.toNat t4)]?) fun e3 =>
      laws_toIntS_l1 t0 (wrapC (t4 + 1)) (b100.set (Int.toNat t4) e1)
      else
      some b100) : Option (List Int)) := by kernel_rfl
    exact loop_le' (sig := s7801) (p := p7801) (by kernel_rfl) (by kernel_rfl) rfl rfl rfl (e.trans h)

theorem spec_l6In_le (a0 : Int) (a1 : Int) (a2 : Int) : Tv.Le
  ((bif (decide (a1 ≤ a0)) then
  some (decide (a0 ≤ a2))
  else
  some false) : Option (Bool))
  (spec_l6In a0 a1 a2) := by
  exact fun r h => by
    have e : runC (phi Tb GT sg) Tb GT p1600.code (startAT p1600 (mkST p1600.ins [.int .i64 a0, .int .i64 a1, .int .i64 a2] p1600.bins [])) (finT p1600 s1600) = (
      (bif (decide (a1 ≤ a0)) then
      some (decide (a0 ≤ a2))
      else
      some false) : Option (Bool)) := by kernel_rfl
    exact fn_le' (sig := s1600) (p := p1600) (by kernel_rfl) (by kernel_rfl) rfl rfl rfl rfl (e.trans h)

theorem spec_l4Words_le (a0 : List Int) (a1 : Int) : Tv.Le
  ((bif (!decide ((a0.length : Int) = a1)) then
  some false
  else
  bnd (spec_l4Words_l1 a0 0) fun r1 =>
  selm r1 (fun y2 =>
  some true) (fun z3 =>
  some z3)) : Option (Bool))
  (spec_l4Words a0 a1) := by
  exact fun r h => by
    have e : runC (phi Tb GT sg) Tb GT p6500.code (startAT p6500 (mkST p6500.ins [.sl .share .int a0, .int .i64 a1] p6500.bins [])) (finT p6500 s6500) = (
      (bif (!decide ((a0.length : Int) = a1)) then
      some false
      else
      bnd (spec_l4Words_l1 a0 0) fun r1 =>
      selm r1 (fun y2 =>
      some true) (fun z3 =>
      some z3)) : Option (Bool)) := by kernel_rfl
    exact fn_le' (sig := s6500) (p := p6500) (by kernel_rfl) (by kernel_rfl) rfl rfl rfl rfl (e.trans h)

theorem laws_toIntS_p_l1_le (t0 : List Int) (t3 : Hd) (t4 : Int) (b99 : List Ent) : Tv.Le
  ((bif (decide (t4 < (t0.length : Int))) then
  bnd (geti t0 t4) fun e1 =>
  bnd (idxN t3.n t4) fun i2 =>
  bnd (arRow b99 .int t3.id i2) fun e3 =>
  laws_toIntS_p_l1 t0 t3 (wrap64 (t4 + 1)) (arSet b99 .int t3.id i2 e1)
  else
  some (t3, b99)) : Option (Hd × List Ent))
  (laws_toIntS_p_l1 t0 t3 t4 b99) := by
  rewrite [← wrapC_eq]
  exact fun r h => by
    have e : runC (phi Tb GT sg) Tb GT p39601.code ((mkST p39601.ins [.sl .share .int t0, .tr .int t3.id t3.n, .int .i64 t4] p39601.bins [.ar b99])) (finL Tb GT 39601 p39601 s39601) = (
      (bif (decide (t4 < (t0.length : Int))) then
      bnd (geti t0 t4) fun e1 =>
      bnd (idxN t3.n t4) fun i2 =>
      bnd (arRow b99 .int t3.id i2) fun e3 =>
      laws_toIntS_p_l1 t0 t3 (wrapC (t4 + 1)) (arSet b99 .int t3.id i2 e1)
      else
      some (t3, b99)) : Option (Hd × List Ent)) := by kernel_rfl
    exact loop_le' (sig := s39601) (p := p39601) (by kernel_rfl) (by kernel_rfl) rfl rfl rfl (e.trans h)

theorem impl_areWords_le (a0 : List Int) : Tv.Le
  (bnd (impl_areWords_l1 a0 (a0.length : Int) 0) fun r1 =>
  selm r1 (fun y2 =>
  some true) (fun z3 =>
  some z3) : Option (Bool))
  (impl_areWords a0) := by
  exact fun r h => by
    have e : runC (phi Tb GT sg) Tb GT p5100.code (startAT p5100 (mkST p5100.ins [.sl .share .int a0] p5100.bins [])) (finT p5100 s5100) = (
      bnd (impl_areWords_l1 a0 (a0.length : Int) 0) fun r1 =>
      selm r1 (fun y2 =>
      some true) (fun z3 =>
      some z3) : Option (Bool)) := by kernel_rfl
    exact fn_le' (sig := s5100) (p := p5100) (by kernel_rfl) (by kernel_rfl) rfl rfl rfl rfl (e.trans h)

theorem laws_eqIntS_l1_le (t0 : List Int) (t1 : List Int) (t5 : Int) : Tv.Le
  ((bif (decide (t5 < (t0.length : Int))) then
  bnd (geti t0 t5) fun e1 =>
  bnd (geti t1 t5) fun e2 =>
  (bif (!decide (e1 = e2)) then
  some (.inr false)
  else
  laws_eqIntS_l1 t0 t1 (wrap64 (t5 + 1)))
  else
  some (.inl ())) : Option (Unit ⊕ Bool))
  (laws_eqIntS_l1 t0 t1 t5) := by
  rewrite [← wrapC_eq]
  exact fun r h => by
    have e : runC (phi Tb GT sg) Tb GT p8401.code ((mkST p8401.ins [.sl .share .int t0, .sl .share .int t1, .int .i64 t5] p8401.bins [])) (finL Tb GT 8401 p8401 s8401) = (
      (bif (decide (t5 < (t0.length : Int))) then
      bnd (geti t0 t5) fun e1 =>
      bnd (geti t1 t5) fun e2 =>
      (bif (!decide (e1 = e2)) then
      some (.inr false)
      else
      laws_eqIntS_l1 t0 t1 (wrapC (t5 + 1)))
      else
      some (.inl ())) : Option (Unit ⊕ Bool)) := by kernel_rfl
    exact loop_le' (sig := s8401) (p := p8401) (by kernel_rfl) (by kernel_rfl) rfl rfl rfl (e.trans h)

theorem laws_markIntS_p_l1_le (t0 : Hd) (t1 : Int) (t5 : Int) (b99 : List Ent) : Tv.Le
  ((bif (decide (t5 < ((t0.n : Nat) : Int))) then
  bnd (idxN t0.n t5) fun i1 =>
  bnd (arRow b99 .int t0.id i1) fun e2 =>
  laws_markIntS_p_l1 t0 (wrap64 (t1 + 1)) (wrap64 (t5 + 1)) (arSet b99 .int t0.id i1 t1)
  else
  some (t1, b99)) : Option (Int × List Ent))
  (laws_markIntS_p_l1 t0 t1 t5 b99) := by
  rewrite [← wrapC_eq]
  exact fun r h => by
    have e : runC (phi Tb GT sg) Tb GT p38701.code ((mkST p38701.ins [.tr .int t0.id t0.n, .int .i64 t1, .int .i64 t5] p38701.bins [.ar b99])) (finL Tb GT 38701 p38701 s38701) = (
      (bif (decide (t5 < ((t0.n : Nat) : Int))) then
      bnd (idxN t0.n t5) fun i1 =>
      bnd (arRow b99 .int t0.id i1) fun e2 =>
      laws_markIntS_p_l1 t0 (wrapC (t1 + 1)) (wrapC (t5 + 1)) (arSet b99 .int t0.id i1 t1)
      else
      some (t1, b99)) : Option (Int × List Ent)) := by kernel_rfl
    exact loop_le' (sig := s38701) (p := p38701) (by kernel_rfl) (by kernel_rfl) rfl rfl rfl (e.trans h)

theorem laws_heldIntS_l1_le (t0 : List Int) (t1 : Int) (t5 : Int) : Tv.Le
  ((bif (decide (t5 < (t0.length : Int))) then
  bnd (geti t0 t5) fun e1 =>
  (bif (!decide (e1 = t1)) then
  some (.inr (t1, (-1)))
  else
  laws_heldIntS_l1 t0 (wrap64 (t1 + 1)) (wrap64 (t5 + 1)))
  else
  some (.inl t1)) : Option (Int ⊕ (Int × Int)))
  (laws_heldIntS_l1 t0 t1 t5) := by
  rewrite [← wrapC_eq]
  exact fun r h => by
    have e : runC (phi Tb GT sg) Tb GT p10601.code ((mkST p10601.ins [.sl .share .int t0, .int .i64 t1, .int .i64 t5] p10601.bins [])) (finL Tb GT 10601 p10601 s10601) = (
      (bif (decide (t5 < (t0.length : Int))) then
      bnd (geti t0 t5) fun e1 =>
      (bif (!decide (e1 = t1)) then
      some (.inr (t1, (-1)))
      else
      laws_heldIntS_l1 t0 (wrapC (t1 + 1)) (wrapC (t5 + 1)))
      else
      some (.inl t1)) : Option (Int ⊕ (Int × Int))) := by kernel_rfl
    exact loop_le' (sig := s10601) (p := p10601) (by kernel_rfl) (by kernel_rfl) rfl rfl rfl (e.trans h)

theorem spec_WordValid_le (a0 : Int) : Tv.Le
  (bnd (spec_l6In a0 (-2147483648) 2147483647) fun r1 =>
  some r1 : Option (Bool))
  (spec_WordValid a0) := by
  exact fun r h => by
    have e : runC (phi Tb GT sg) Tb GT p6400.code (startAT p6400 (mkST p6400.ins [.int .i64 a0] p6400.bins [])) (finT p6400 s6400) = (
      bnd (spec_l6In a0 (-2147483648) 2147483647) fun r1 =>
      some r1 : Option (Bool)) := by kernel_rfl
    exact fn_le' (sig := s6400) (p := p6400) (by kernel_rfl) (by kernel_rfl) rfl rfl rfl rfl (e.trans h)

theorem spec_l4Words_l1_le (t0 : List Int) (t5 : Int) : Tv.Le
  ((bif (decide (t5 < (t0.length : Int))) then
  bnd (geti t0 t5) fun e1 =>
  bnd (spec_WordValid e1) fun r2 =>
  (bif (!r2) then
  some (.inr false)
  else
  spec_l4Words_l1 t0 (wrap64 (t5 + 1)))
  else
  some (.inl ())) : Option (Unit ⊕ Bool))
  (spec_l4Words_l1 t0 t5) := by
  rewrite [← wrapC_eq]
  exact fun r h => by
    have e : runC (phi Tb GT sg) Tb GT p6501.code ((mkST p6501.ins [.sl .share .int t0, .int .i64 t5] p6501.bins [])) (finL Tb GT 6501 p6501 s6501) = (
      (bif (decide (t5 < (t0.length : Int))) then
      bnd (geti t0 t5) fun e1 =>
      bnd (spec_WordValid e1) fun r2 =>
      (bif (!r2) then
      some (.inr false)
      else
      spec_l4Words_l1 t0 (wrapC (t5 + 1)))
      else
      some (.inl ())) : Option (Unit ⊕ Bool)) := by kernel_rfl
    exact loop_le' (sig := s6501) (p := p6501) (by kernel_rfl) (by kernel_rfl) rfl rfl rfl (e.trans h)

theorem impl_WordValid_le (a0 : Int) : Tv.Le
  ((bif (decide ((-2147483648) ≤ a0)) then
  some (decide (a0 ≤ 2147483647))
  else
  some false) : Option (Bool))
  (impl_WordValid a0) := by
  exact fun r h => by
    have e : runC (phi Tb GT sg) Tb GT p5000.code (startAT p5000 (mkST p5000.ins [.int .i64 a0] p5000.bins [])) (finT p5000 s5000) = (
      (bif (decide ((-2147483648) ≤ a0)) then
      some (decide (a0 ≤ 2147483647))
      else
      some false) : Option (Bool)) := by kernel_rfl
    exact fn_le' (sig := s5000) (p := p5000) (by kernel_rfl) (by kernel_rfl) rfl rfl rfl rfl (e.trans h)

theorem impl_areWords_l1_le (t5 : List Int) (t6 : Int) (t7 : Int) : Tv.Le
  ((bif (decide (t7 < t6)) then
  bnd (geti t5 t7) fun e1 =>
  bnd (impl_WordValid e1) fun r2 =>
  (bif (!r2) then
  some (.inr false)
  else
  impl_areWords_l1 t5 t6 (wrap64 (t7 + 1)))
  else
  some (.inl ())) : Option (Unit ⊕ Bool))
  (impl_areWords_l1 t5 t6 t7) := by
  rewrite [← wrapC_eq]
  exact fun r h => by
    have e : runC (phi Tb GT sg) Tb GT p5101.code ((mkST p5101.ins [.sl .share .int t5, .int .i64 t6, .int .i64 t7] p5101.bins [])) (finL Tb GT 5101 p5101 s5101) = (
      (bif (decide (t7 < t6)) then
      bnd (geti t5 t7) fun e1 =>
      bnd (impl_WordValid e1) fun r2 =>
      (bif (!r2) then
      some (.inr false)
      else
      impl_areWords_l1 t5 t6 (wrapC (t7 + 1)))
      else
      some (.inl ())) : Option (Unit ⊕ Bool)) := by kernel_rfl
    exact loop_le' (sig := s5101) (p := p5101) (by kernel_rfl) (by kernel_rfl) rfl rfl rfl (e.trans h)

end Go.TFnExactRingTake
