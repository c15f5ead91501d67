import Derived.Test.YtohpofejamdhfaaDFnRingSlotsP
import Derived.KernelRfl
set_option linter.unusedVariables false
namespace Go.TFnRingSlots
open Go Go.RowKit Go.Vs Go.Tv
theorem laws_FnRingSlots_le (a0 : List Int) : Tv.Le
  ((bif (decide (1048576 < (a0.length : Int))) then
  some true
  else
  bnd (spec_DrawRingPut a0) fun r1 =>
  bnd (impl_RingPut r1.1 r1.2) fun r2 =>
  bnd (spec_RingPut r1.1 r1.2) fun r3 =>
  (bif (!(r2.2 == r3.2)) then
  (bif (r2.2 == r3.2) then
  bnd (laws_sameRing r2.1 r3.1) fun r4 =>
  some r4
  else
  some false)
  else
  bnd (laws_sameRing r2.1 r3.1) fun r5 =>
  (bif (!r5) then
  (bif (r2.2 == r3.2) then
  bnd (laws_sameRing r2.1 r3.1) fun r6 =>
  some r6
  else
  some false)
  else
  (bif (!r2.2) then
  (bif (r2.2 == r3.2) then
  bnd (laws_sameRing r2.1 r3.1) fun r7 =>
  some r7
  else
  some false)
  else
  bnd (remI (wrap64 (r1.1.head + r1.1.len)) r1.1.room) fun n8 =>
  bnd (laws_FnRingSlots_l1 r1.2 n8 0 r1.1.room r1.1.head r1.1.len r1.1.slots r2.1.room r2.1.head r2.1.len r2.1.slots) fun r9 =>
  selm r9 (fun y10 =>
  bnd (impl_RingTake (⟨y10.2.2.2.2.2.2.1, y10.2.2.2.2.2.2.2.1, y10.2.2.2.2.2.2.2.2.1, y10.2.2.2.2.2.2.2.2.2⟩ : Rg)) fun r12 =>
  bnd (geti y10.2.2.2.2.2.2.2.2.2 y10.2.1) fun e13 =>
  (bif (decide (e13 = y10.1)) then
  (bif (decide (y10.2.2.2.2.2.2.2.1 = y10.2.2.2.1)) then
  (bif r12.2.2 then
  bnd (laws_sameInts r12.1.slots y10.2.2.2.2.2.2.2.2.2) fun r14 =>
  some r14
  else
  some false)
  else
  some false)
  else
  some false)) (fun z11 =>
  some z11.1))))) : Option (Bool))
  (laws_FnRingSlots a0) := by
  rewrite [← wrapC_eq]
  exact fun r h => by
    have e : runC (phi Tb GT sg) Tb GT p20200.code (startAT p20200 (mkST p20200.ins [.sl .share .u8 a0] p20200.bins [])) (finT p20200 s20200) = (
      (bif (decide (1048576 < (a0.length : Int))) then
      some true
      else
      bnd (spec_DrawRingPut a0) fun r1 =>
      bnd (impl_RingPut r1.1 r1.2) fun r2 =>
      bnd (spec_RingPut r1.1 r1.2) fun r3 =>
      (bif (!(r2.2 == r3.2)) then
      (bif (r2.2 == r3.2) then
      bnd (laws_sameRing r2.1 r3.1) fun r4 =>
      some r4
      else
      some false)
      else
      bnd (laws_sameRing r2.1 r3.1) fun r5 =>
      (bif (!r5) then
      (bif (r2.2 == r3.2) then
      bnd (laws_sameRing r2.1 r3.1) fun r6 =>
      some r6
      else
      some false)
      else
      (bif (!r2.2) then
      (bif (r2.2 == r3.2) then
      bnd (laws_sameRing r2.1 r3.1) fun r7 =>
      some r7
      else
      some false)
      else
      bnd (remI (wrapC (r1.1.head + r1.1.len)) r1.1.room) fun n8 =>
      bnd (laws_FnRingSlots_l1 r1.2 n8 0 r1.1.room r1.1.head r1.1.len r1.1.slots r2.1.room r2.1.head r2.1.len r2.1.slots) fun r9 =>
      selm r9 (fun y10 =>
      bnd (impl_RingTake (⟨y10.2.2.2.2.2.2.1, y10.2.2.2.2.2.2.2.1, y10.2.2.2.2.2.2.2.2.1, y10.2.2.2.2.2.2.2.2.2⟩ : Rg)) fun r12 =>
      bnd (geti y10.2.2.2.2.2.2.2.2.2 y10.2.1) fun e13 =>
      (bif (decide (e13 = y10.1)) then
      (bif (decide (y10.2.2.2.2.2.2.2.1 = y10.2.2.2.1)) then
      (bif r12.2.2 then
      bnd (laws_sameInts r12.1.slots y10.2.2.2.2.2.2.2.2.2) fun r14 =>
      some r14
      else
      some false)
      else
      some false)
      else
      some false)) (fun z11 =>
      some z11.1))))) : Option (Bool)) := by kernel_rfl
    exact fn_le' (sig := s20200) (p := p20200) (by kernel_rfl) (by kernel_rfl) rfl rfl rfl rfl (e.trans h)

theorem spec_DrawRingPut_le (a0 : List Int) : Tv.Le
  (bnd (spec_l6Open a0) fun r1 =>
  bnd (spec_l92Ring r1.1 r1.2) fun r2 =>
  bnd (spec_l6Rd_pick 24 r2.2.1 r2.2.2) fun r3 =>
  (bif (decide (r3.1 = 0)) then
  bnd (spec_l91Any r3.2.1 r3.2.2) fun r4 =>
  some (r2.1, r4.1)
  else
  bnd (spec_l91Word r3.2.1 r3.2.2) fun r5 =>
  some (r2.1, r5.1)) : Option (Rg × Int))
  (spec_DrawRingPut a0) := by
  exact fun r h => by
    have e : runC (phi Tb GT sg) Tb GT p19900.code (startAT p19900 (mkST p19900.ins [.sl .share .u8 a0] p19900.bins [])) (finT p19900 s19900) = (
      bnd (spec_l6Open a0) fun r1 =>
      bnd (spec_l92Ring r1.1 r1.2) fun r2 =>
      bnd (spec_l6Rd_pick 24 r2.2.1 r2.2.2) fun r3 =>
      (bif (decide (r3.1 = 0)) then
      bnd (spec_l91Any r3.2.1 r3.2.2) fun r4 =>
      some (r2.1, r4.1)
      else
      bnd (spec_l91Word r3.2.1 r3.2.2) fun r5 =>
      some (r2.1, r5.1)) : Option (Rg × Int)) := by kernel_rfl
    exact fn_le' (sig := s19900) (p := p19900) (by kernel_rfl) (by kernel_rfl) rfl rfl rfl rfl (e.trans h)

theorem impl_RingPut_le (a0 : Rg) (a1 : Int) : Tv.Le
  (bnd (impl_RingValid a0) fun r1 =>
  (bif (!r1) then
  some (⟨0, 0, 0, []⟩, false)
  else
  bnd (impl_WordValid a1) fun r2 =>
  (bif (!r2) then
  some (⟨0, 0, 0, []⟩, false)
  else
  (bif (decide (a0.len = a0.room)) then
  some (⟨0, 0, 0, []⟩, false)
  else
  bnd (slices_Clone___int_int__p a0.slots ([] : List Ent)) fun r3 =>
  bnd (remI (wrap64 (a0.head + a0.len)) a0.room) fun n4 =>
  bnd (idxN r3.1.n n4) fun i5 =>
  bnd (arRow r3.2 .int r3.1.id i5) fun e6 =>
  bnd (arView (arSet r3.2 .int r3.1.id i5 a1) .int r3.1.id) fun l7 =>
  some (⟨a0.room, a0.head, (wrap64 (a0.len + 1)), l7⟩, true)))) : Option (Rg × Bool))
  (impl_RingPut a0 a1) := by
  rewrite [← wrapC_eq]
  exact fun r h => by
    have e : runC (phi Tb GT sg) Tb GT p20000.code (startAT p20000 (mkST p20000.ins [.agg (rowT .rg a0), .int .i64 a1] p20000.bins [])) (finT p20000 s20000) = (
      bnd (impl_RingValid a0) fun r1 =>
      (bif (!r1) then
      some (⟨0, 0, 0, []⟩, false)
      else
      bnd (impl_WordValid a1) fun r2 =>
      (bif (!r2) then
      some (⟨0, 0, 0, []⟩, false)
      else
      (bif (decide (a0.len = a0.room)) then
      some (⟨0, 0, 0, []⟩, false)
      else
      bnd (slices_Clone___int_int__p a0.slots ([] : List Ent)) fun r3 =>
      bnd (remI (wrapC (a0.head + a0.len)) a0.room) fun n4 =>
      bnd (idxN r3.1.n n4) fun i5 =>
      bnd (arRow r3.2 .int r3.1.id i5) fun e6 =>
      bnd (arView (arSet r3.2 .int r3.1.id i5 a1) .int r3.1.id) fun l7 =>
      some (⟨a0.room, a0.head, (wrapC (a0.len + 1)), l7⟩, true)))) : Option (Rg × Bool)) := by kernel_rfl
    exact fn_le' (sig := s20000) (p := p20000) (by kernel_rfl) (by kernel_rfl) rfl rfl rfl rfl (e.trans h)

theorem spec_RingPut_le (a0 : Rg) (a1 : Int) : Tv.Le
  (bnd (spec_RingValid a0) fun r1 =>
  (bif (!r1) then
  some (⟨0, 0, 0, []⟩, false)
  else
  bnd (spec_WordValid a1) fun r2 =>
  (bif (!r2) then
  some (⟨0, 0, 0, []⟩, false)
  else
  (bif (decide (a0.len = a0.room)) then
  some (⟨0, 0, 0, []⟩, false)
  else
  bnd (arApp (arPush ([] : List Ent) .int ([] : List Int)) .int (some (List.length ([] : List Ent))) 0 a0.slots) fun B3 =>
  bnd (remI (wrap64 (a0.head + a0.len)) a0.room) fun n4 =>
  bnd (idxN (0 + List.length a0.slots) n4) fun i5 =>
  bnd (arRow B3 .int (some (List.length (arPush ([] : List Ent) .int ([] : List Int)))) i5) fun e6 =>
  bnd (arView (arSet B3 .int (some (List.length (arPush ([] : List Ent) .int ([] : List Int)))) i5 a1) .int (some (List.length (arPush ([] : List Ent) .int ([] : List Int))))) fun l7 =>
  some (⟨a0.room, a0.head, (wrap64 (a0.len + 1)), l7⟩, true)))) : Option (Rg × Bool))
  (spec_RingPut a0 a1) := by
  rewrite [← wrapC_eq]
  exact fun r h => by
    have e : runC (phi Tb GT sg) Tb GT p20100.code (startAT p20100 (mkST p20100.ins [.agg (rowT .rg a0), .int .i64 a1] p20100.bins [])) (finT p20100 s20100) = (
      bnd (spec_RingValid a0) fun r1 =>
      (bif (!r1) then
      some (⟨0, 0, 0, []⟩, false)
      else
      bnd (spec_WordValid a1) fun r2 =>
      (bif (!r2) then
      some (⟨0, 0, 0, []⟩, false)
      else
      (bif (decide (a0.len = a0.room)) then
      some (⟨0, 0, 0, []⟩, false)
      else
      bnd (arApp (arPush ([] : List Ent) .int ([] : List Int)) .int (some (List.length ([] : List Ent))) 0 a0.slots) fun B3 =>
      bnd (remI (wrapC (a0.head + a0.len)) a0.room) fun n4 =>
      bnd (idxN (0 + List.length a0.slots) n4) fun i5 =>
      bnd (arRow B3 .int (some (List.length (arPush ([] : List Ent) .int ([] : List Int)))) i5) fun e6 =>
      bnd (arView (arSet B3 .int (some (List.length (arPush ([] : List Ent) .int ([] : List Int)))) i5 a1) .int (some (List.length (arPush ([] : List Ent) .int ([] : List Int))))) fun l7 =>
      some (⟨a0.room, a0.head, (wrapC (a0.len + 1)), l7⟩, true)))) : Option (Rg × Bool)) := by kernel_rfl
    exact fn_le' (sig := s20100) (p := p20100) (by kernel_rfl) (by kernel_rfl) rfl rfl rfl rfl (e.trans h)

theorem laws_sameRing_le (a0 : Rg) (a1 : Rg) : Tv.Le
  ((bif (decide (a0.room = a1.room)) then
  (bif (decide (a0.head = a1.head)) then
  (bif (decide (a0.len = a1.len)) then
  bnd (laws_sameInts a0.slots a1.slots) fun r1 =>
  some r1
  else
  some false)
  else
  some false)
  else
  some false) : Option (Bool))
  (laws_sameRing a0 a1) := by
  exact fun r h => by
    have e : runC (phi Tb GT sg) Tb GT p19700.code (startAT p19700 (mkST p19700.ins [.agg (rowT .rg a0), .agg (rowT .rg a1)] p19700.bins [])) (finT p19700 s19700) = (
      (bif (decide (a0.room = a1.room)) then
      (bif (decide (a0.head = a1.head)) then
      (bif (decide (a0.len = a1.len)) then
      bnd (laws_sameInts a0.slots a1.slots) fun r1 =>
      some r1
      else
      some false)
      else
      some false)
      else
      some false) : Option (Bool)) := by kernel_rfl
    exact fn_le' (sig := s19700) (p := p19700) (by kernel_rfl) (by kernel_rfl) rfl rfl rfl rfl (e.trans h)

theorem laws_FnRingSlots_l1_le (t4 : Int) (t9 : Int) (t10 : Int) (b100_0 : Int) (b100_1 : Int) (b100_2 : Int) (b100_3 : List Int) (b101_0 : Int) (b101_1 : Int) (b101_2 : Int) (b101_3 : List Int) : Tv.Le
  ((bif (decide (t10 < (b100_3.length : Int))) then
  (bif (!decide (t10 = t9)) then
  bnd (geti b101_3 t10) fun e1 =>
  bnd (geti b100_3 t10) fun e2 =>
  (bif (!decide (e1 = e2)) then
  some (.inr (false, t4, t9, b100_0, b100_1, b100_2, b100_3, b101_0, b101_1, b101_2, b101_3))
  else
  laws_FnRingSlots_l1 t4 t9 (wrap64 (t10 + 1)) b100_0 b100_1 b100_2 b100_3 b101_0 b101_1 b101_2 b101_3)
  else
  laws_FnRingSlots_l1 t4 t9 (wrap64 (t10 + 1)) b100_0 b100_1 b100_2 b100_3 b101_0 b101_1 b101_2 b101_3)
  else
  some (.inl (t4, t9, b100_0, b100_1, b100_2, b100_3, b101_0, b101_1, b101_2, b101_3))) : Option ((Int × Int × Int × Int × Int × List Int × Int × Int × Int × List Int) ⊕ (Bool × Int × Int × Int × Int × Int × List Int × Int × Int × Int × List Int)))
  (laws_FnRingSlots_l1 t4 t9 t10 b100_0 b100_1 b100_2 b100_3 b101_0 b101_1 b101_2 b101_3) := by
  rewrite [← wrapC_eq]
  exact fun r h => by
    have e : runC (phi Tb GT sg) Tb GT p20201.code ((mkST p20201.ins [.bp 100 0, .int .i64 t4, .bp 101 0, .int .i64 t9, .int .i64 t10] p20201.bins [.var [.int .i64 b100_0, .int .i64 b100_1, .int .i64 b100_2, .sl .share .int b100_3], .var [.int .i64 b101_0, .int .i64 b101_1, .int .i64 b101_2, .sl .share .int b101_3]])) (finL Tb GT 20201 p20201 s20201) = (
      (bif (decide (t10 < (b100_3.length : Int))) then
      (bif (!decide (t10 = t9)) then
      bnd (geti b101_3 t10) fun e1 =>
      bnd (geti b100_3 t10) fun e2 =>
      (bif (!decide (e1 = e2)) then
      some (.inr (false, t4, t9, b100_0, b100_1, b100_2, b100_3, b101_0, b101_1, b101_2, b101_3))
      else
      laws_FnRingSlots_l1 t4 t9 (wrapC (t10 + 1)) b100_0 b100_1 b100_2 b100_3 b101_0 b101_1 b101_2 b101_3)
      else
      laws_FnRingSlots_l1 t4 t9 (wrapC (t10 + 1)) b100_0 b100_1 b100_2 b100_3 b101_0 b101_1 b101_2 b101_3)
      else
      some (.inl (t4, t9, b100_0, b100_1, b100_2, b100_3, b101_0, b101_1, b101_2, b101_3))) : Option ((Int × Int × Int × Int × Int × List Int × Int × Int × Int × List Int) ⊕ (Bool × Int × Int × Int × Int × Int × List Int × Int × Int × Int × List Int))) := by kernel_rfl
    exact loop_le' (sig := s20201) (p := p20201) (by kernel_rfl) (by kernel_rfl) rfl rfl rfl (e.trans h)

theorem impl_RingTake_le (a0 : Rg) : Tv.Le
  (bnd (impl_RingValid a0) fun r1 =>
  (bif (!r1) then
  some (⟨0, 0, 0, []⟩, 0, false)
  else
  (bif (decide (a0.len = 0)) then
  some (⟨0, 0, 0, []⟩, 0, false)
  else
  bnd (slices_Clone___int_int_ a0.slots) fun r2 =>
  bnd (geti r2 a0.head) fun e3 =>
  bnd (remI (wrap64 (a0.head + 1)) a0.room) fun n4 =>
  some (⟨a0.room, n4, (wrap64 (a0.len - 1)), r2⟩, e3, true))) : Option (Rg × Int × Bool))
  (impl_RingTake a0) := by
  rewrite [← wrapC_eq]
  exact fun r h => by
    have e : runC (phi Tb GT sg) Tb GT p16800.code (startAT p16800 (mkST p16800.ins [.agg (rowT .rg a0)] p16800.bins [])) (finT p16800 s16800) = (
      bnd (impl_RingValid a0) fun r1 =>
      (bif (!r1) then
      some (⟨0, 0, 0, []⟩, 0, false)
      else
      (bif (decide (a0.len = 0)) then
      some (⟨0, 0, 0, []⟩, 0, false)
      else
      bnd (slices_Clone___int_int_ a0.slots) fun r2 =>
      bnd (geti r2 a0.head) fun e3 =>
      bnd (remI (wrapC (a0.head + 1)) a0.room) fun n4 =>
      some (⟨a0.room, n4, (wrapC (a0.len - 1)), r2⟩, e3, true))) : Option (Rg × Int × Bool)) := by kernel_rfl
    exact fn_le' (sig := s16800) (p := p16800) (by kernel_rfl) (by kernel_rfl) rfl rfl rfl rfl (e.trans h)

theorem laws_sameInts_le (a0 : List Int) (a1 : List Int) : Tv.Le
  ((bif (!decide ((a0.length : Int) = (a1.length : Int))) then
  some false
  else
  bnd (laws_sameInts_l1 a0 a1 0) fun r1 =>
  selm r1 (fun y2 =>
  some true) (fun z3 =>
  some z3)) : Option (Bool))
  (laws_sameInts a0 a1) := by
  exact fun r h => by
    have e : runC (phi Tb GT sg) Tb GT p9700.code (startAT p9700 (mkST p9700.ins [.sl .share .int a0, .sl .share .int a1] p9700.bins [])) (finT p9700 s9700) = (
      (bif (!decide ((a0.length : Int) = (a1.length : Int))) then
      some false
      else
      bnd (laws_sameInts_l1 a0 a1 0) fun r1 =>
      selm r1 (fun y2 =>
      some true) (fun z3 =>
      some z3)) : Option (Bool)) := by kernel_rfl
    exact fn_le' (sig := s9700) (p := p9700) (by kernel_rfl) (by kernel_rfl) rfl rfl rfl rfl (e.trans h)

theorem spec_l6Open_le (a0 : List Int) : Tv.Le
  ((bif (decide (2000 < (a0.length : Int))) then
  bnd (cutL a0 0 2000) fun l1 =>
  some (l1, 0)
  else
  some (a0, 0)) : Option (List Int × Int))
  (spec_l6Open a0) := by
  exact fun r h => by
    have e : runC (phi Tb GT sg) Tb GT p100.code (startAT p100 (mkST p100.ins [.sl .share .u8 a0] p100.bins [])) (finT p100 s100) = (
      (bif (decide (2000 < (a0.length : Int))) then
      bnd (cutL a0 0 2000) fun l1 =>
      some (l1, 0)
      else
      some (a0, 0)) : Option (List Int × Int)) := by kernel_rfl
    exact fn_le' (sig := s100) (p := p100) (by kernel_rfl) (by kernel_rfl) rfl rfl rfl rfl (e.trans h)

theorem spec_l92Ring_le (a0b : List Int) (a0p : Int) : Tv.Le
  (bnd (spec_l6Rd_pick 4 a0b a0p) fun r1 =>
  bnd (spec_l6Rd_pick (wrap64 (1 + r1.1)) r1.2.1 r1.2.2) fun r2 =>
  bnd (spec_l6Rd_pick (wrap64 ((wrap64 (1 + r1.1)) + 1)) r2.2.1 r2.2.2) fun r3 =>
  bnd (spec_l92Items 4 r3.2.1 r3.2.2) fun r4 =>
  bnd (spec_l6Rd_pick 40 r4.2.1 r4.2.2) fun r5 =>
  (bif (decide (r5.1 = 0)) then
  some (⟨(wrap64 (1 + r1.1)), (wrap64 (1 + r1.1)), r3.1, r4.1⟩, r5.2.1, r5.2.2)
  else
  (bif (decide (r5.1 = 1)) then
  bnd (spec_l6Rd_pick 2 r5.2.1 r5.2.2) fun r6 =>
  bnd (geti ([(-1), (wrap64 ((wrap64 (1 + r1.1)) + 1))] : List Int) r6.1) fun e7 =>
  some (⟨(wrap64 (1 + r1.1)), r2.1, e7, r4.1⟩, r6.2.1, r6.2.2)
  else
  (bif (decide (r5.1 = 2)) then
  bnd (spec_l92Items 3 r5.2.1 r5.2.2) fun r8 =>
  some (⟨(wrap64 (1 + r1.1)), r2.1, r3.1, r8.1⟩, r8.2.1, r8.2.2)
  else
  some (⟨(wrap64 (1 + r1.1)), r2.1, r3.1, r4.1⟩, r5.2.1, r5.2.2)))) : Option (Rg × List Int × Int))
  (spec_l92Ring a0b a0p) := by
  rewrite [← wrapC_eq]
  exact fun r h => by
    have e : runC (phi Tb GT sg) Tb GT p19500.code (startAT p19500 (mkST p19500.ins [.bp 0 0] p19500.bins [.var [.sl .share .u8 a0b, .int .i64 a0p]])) (finT p19500 s19500) = (
      bnd (spec_l6Rd_pick 4 a0b a0p) fun r1 =>
      bnd (spec_l6Rd_pick (wrapC (1 + r1.1)) r1.2.1 r1.2.2) fun r2 =>
      bnd (spec_l6Rd_pick (wrapC ((wrapC (1 + r1.1)) + 1)) r2.2.1 r2.2.2) fun r3 =>
      bnd (spec_l92Items 4 r3.2.1 r3.2.2) fun r4 =>
      bnd (spec_l6Rd_pick 40 r4.2.1 r4.2.2) fun r5 =>
      (bif (decide (r5.1 = 0)) then
      some (⟨(wrapC (1 + r1.1)), (wrapC (1 + r1.1)), r3.1, r4.1⟩, r5.2.1, r5.2.2)
      else
      (bif (decide (r5.1 = 1)) then
      bnd (spec_l6Rd_pick 2 r5.2.1 r5.2.2) fun r6 =>
      bnd (geti ([(-1), (wrapC ((wrapC (1 + r1.1)) + 1))] : List Int) r6.1) fun e7 =>
      some (⟨(wrapC (1 + r1.1)), r2.1, e7, r4.1⟩, r6.2.1, r6.2.2)
      else
      (bif (decide (r5.1 = 2)) then
      bnd (spec_l92Items 3 r5.2.1 r5.2.2) fun r8 =>
      some (⟨(wrapC (1 + r1.1)), r2.1, r3.1, r8.1⟩, r8.2.1, r8.2.2)
      else
      some (⟨(wrapC (1 + r1.1)), r2.1, r3.1, r4.1⟩, r5.2.1, r5.2.2)))) : Option (Rg × List Int × Int)) := by kernel_rfl
    exact fn_le' (sig := s19500) (p := p19500) (by kernel_rfl) (by kernel_rfl) rfl rfl rfl rfl (e.trans h)

theorem spec_l6Rd_pick_le (a1 : Int) (a0b : List Int) (a0p : Int) : Tv.Le
  ((bif (decide (a1 < 1)) then
  some (0, a0b, (wrap64 (a0p + 1)))
  else
  (bif (decide ((a0b.length : Int) = 0)) then
  some (0, a0b, (wrap64 (a0p + 1)))
  else
  (bif (decide ((wrap64 ((wrap64 (a0p + 1)) - 1)) < (a0b.length : Int))) then
  bnd (geti a0b (wrap64 ((wrap64 (a0p + 1)) - 1))) fun e1 =>
  bnd (remI (wrap64 (e1)) a1) fun n2 =>
  some (n2, a0b, (wrap64 (a0p + 1)))
  else
  bnd (remI (wrap64 ((wrap64 (a0p + 1)) - 1)) (a0b.length : Int)) fun n3 =>
  bnd (geti a0b n3) fun e4 =>
  bnd (remI (wrap64 ((wrap64 ((wrap64 ((wrap64 (a0p + 1)) - 1)) * 7)) + 3)) (a0b.length : Int)) fun n5 =>
  bnd (geti a0b n5) fun e6 =>
  bnd (quoI .i64 (wrap64 ((wrap64 (a0p + 1)) - 1)) (a0b.length : Int)) fun n7 =>
  bnd (remI (bits .xor .i64 (wrap64 ((wrap64 ((wrap64 ((wrap64 ((wrap64 (e4)) * 131)) + (wrap64 ((wrap64 (e6)) * 1117)))) + (wrap64 ((wrap64 ((wrap64 (a0p + 1)) - 1)) * 29)))) + (wrap64 (n7 * 53)))) (wrap64 (Int.tdiv (wrap64 ((wrap64 ((wrap64 ((wrap64 ((wrap64 (e4)) * 131)) + (wrap64 ((wrap64 (e6)) * 1117)))) + (wrap64 ((wrap64 ((wrap64 (a0p + 1)) - 1)) * 29)))) + (wrap64 (n7 * 53)))) 64))) a1) fun n8 =>
  some (n8, a0b, (wrap64 (a0p + 1)))))) : Option (Int × List Int × Int))
  (spec_l6Rd_pick a1 a0b a0p) := by
  rewrite [← wrapC_eq]
  exact fun r h => by
    have e : runC (phi Tb GT sg) Tb GT p200.code (startAT p200 (mkST p200.ins [.bp 0 0, .int .i64 a1] p200.bins [.var [.sl .share .u8 a0b, .int .i64 a0p]])) (finT p200 s200) = (
      (bif (decide (a1 < 1)) then
      some (0, a0b, (wrapC (a0p + 1)))
      else
      (bif (decide ((a0b.length : Int) = 0)) then
      some (0, a0b, (wrapC (a0p + 1)))
      else
      (bif (decide ((wrapC ((wrapC (a0p + 1)) - 1)) < (a0b.length : Int))) then
      bnd (geti a0b (wrapC ((wrapC (a0p + 1)) - 1))) fun e1 =>
      bnd (remI (wrapC (e1)) a1) fun n2 =>
      some (n2, a0b, (wrapC (a0p + 1)))
      else
      bnd (remI (wrapC ((wrapC (a0p + 1)) - 1)) (a0b.length : Int)) fun n3 =>
      bnd (geti a0b n3) fun e4 =>
      bnd (remI (wrapC ((wrapC ((wrapC ((wrapC (a0p + 1)) - 1)) * 7)) + 3)) (a0b.length : Int)) fun n5 =>
      bnd (geti a0b n5) fun e6 =>
      bnd (quoI .i64 (wrapC ((wrapC (a0p + 1)) - 1)) (a0b.length : Int)) fun n7 =>
      bnd (remI (bits .xor .i64 (wrapC ((wrapC ((wrapC ((wrapC ((wrapC (e4)) * 131)) + (wrapC ((wrapC (e6)) * 1117)))) + (wrapC ((wrapC ((wrapC (a0p + 1)) - 1)) * 29)))) + (wrapC (n7 * 53)))) (wrapC (Int.tdiv (wrapC ((wrapC ((wrapC ((wrapC ((wrapC (e4)) * 131)) + (wrapC ((wrapC (e6)) * 1117)))) + (wrapC ((wrapC ((wrapC (a0p + 1)) - 1)) * 29)))) + (wrapC (n7 * 53)))) 64))) a1) fun n8 =>
      some (n8, a0b, (wrapC (a0p + 1)))))) : Option (Int × List Int × Int)) := by kernel_rfl
    exact fn_le' (sig := s200) (p := p200) (by kernel_rfl) (by kernel_rfl) rfl rfl rfl rfl (e.trans h)

theorem spec_l91Any_le (a0b : List Int) (a0p : Int) : Tv.Le
  (bnd (spec_l6Rd_pick 4 a0b a0p) fun r1 =>
  (bif (decide (r1.1 = 0)) then
  bnd (spec_l91Word r1.2.1 r1.2.2) fun r2 =>
  bnd (spec_l6Rd_pick 6 r2.2.1 r2.2.2) fun r3 =>
  bnd (geti ([1, 2, 3, 65536, (-65536), 1000000000] : List Int) r3.1) fun e4 =>
  some ((wrap64 (r2.1 * e4)), r3.2.1, r3.2.2)
  else
  (bif (decide (r1.1 = 1)) then
  bnd (spec_l6Rd_pick 7 r1.2.1 r1.2.2) fun r5 =>
  bnd (geti ([2147483648, (-2147483649), 4294967295, 4294967296, (-4294967296), 9223372036854775807, (-9223372036854775808)] : List Int) r5.1) fun e6 =>
  some (e6, r5.2.1, r5.2.2)
  else
  bnd (spec_l91Word r1.2.1 r1.2.2) fun r7 =>
  some (r7.1, r7.2.1, r7.2.2))) : Option (Int × List Int × Int))
  (spec_l91Any a0b a0p) := by
  rewrite [← wrapC_eq]
  exact fun r h => by
    have e : runC (phi Tb GT sg) Tb GT p18300.code (startAT p18300 (mkST p18300.ins [.bp 0 0] p18300.bins [.var [.sl .share .u8 a0b, .int .i64 a0p]])) (finT p18300 s18300) = (
      bnd (spec_l6Rd_pick 4 a0b a0p) fun r1 =>
      (bif (decide (r1.1 = 0)) then
      bnd (spec_l91Word r1.2.1 r1.2.2) fun r2 =>
      bnd (spec_l6Rd_pick 6 r2.2.1 r2.2.2) fun r3 =>
      bnd (geti ([1, 2, 3, 65536, (-65536), 1000000000] : List Int) r3.1) fun e4 =>
      some ((wrapC (r2.1 * e4)), r3.2.1, r3.2.2)
      else
      (bif (decide (r1.1 = 1)) then
      bnd (spec_l6Rd_pick 7 r1.2.1 r1.2.2) fun r5 =>
      bnd (geti ([2147483648, (-2147483649), 4294967295, 4294967296, (-4294967296), 9223372036854775807, (-9223372036854775808)] : List Int) r5.1) fun e6 =>
      some (e6, r5.2.1, r5.2.2)
      else
      bnd (spec_l91Word r1.2.1 r1.2.2) fun r7 =>
      some (r7.1, r7.2.1, r7.2.2))) : Option (Int × List Int × Int)) := by kernel_rfl
    exact fn_le' (sig := s18300) (p := p18300) (by kernel_rfl) (by kernel_rfl) rfl rfl rfl rfl (e.trans h)

theorem spec_l91Word_le (a0b : List Int) (a0p : Int) : Tv.Le
  (bnd (spec_l6Rd_pick 6 a0b a0p) fun r1 =>
  (bif (decide (r1.1 = 0)) then
  bnd (spec_l6Rd_pick 8 r1.2.1 r1.2.2) fun r2 =>
  bnd (geti ([(-2147483648), 2147483647, (-1), 0, 1, (-2147483647), 65536, (-65536)] : List Int) r2.1) fun e3 =>
  some (e3, r2.2.1, r2.2.2)
  else
  (bif (decide (r1.1 = 1)) then
  bnd (spec_l6Rd_pick 256 r1.2.1 r1.2.2) fun r4 =>
  bnd (spec_l6Rd_pick 256 r4.2.1 r4.2.2) fun r5 =>
  bnd (spec_l6Rd_pick 256 r5.2.1 r5.2.2) fun r6 =>
  bnd (spec_l6Rd_pick 200 r6.2.1 r6.2.2) fun r7 =>
  bnd (spec_Wrap (wrap64 ((wrap64 ((wrap64 ((wrap64 (r4.1 * 65536)) + (wrap64 (r5.1 * 256)))) + r6.1)) * (wrap64 (1 + r7.1))))) fun r8 =>
  some (r8, r7.2.1, r7.2.2)
  else
  (bif (decide (r1.1 = 2)) then
  bnd (spec_l6Rd_pick 200 r1.2.1 r1.2.2) fun r9 =>
  some ((wrap64 (0 - r9.1)), r9.2.1, r9.2.2)
  else
  bnd (spec_l6Rd_pick 20 r1.2.1 r1.2.2) fun r10 =>
  some (r10.1, r10.2.1, r10.2.2)))) : Option (Int × List Int × Int))
  (spec_l91Word a0b a0p) := by
  rewrite [← wrapC_eq]
  exact fun r h => by
    have e : runC (phi Tb GT sg) Tb GT p3800.code (startAT p3800 (mkST p3800.ins [.bp 0 0] p3800.bins [.var [.sl .share .u8 a0b, .int .i64 a0p]])) (finT p3800 s3800) = (
      bnd (spec_l6Rd_pick 6 a0b a0p) fun r1 =>
      (bif (decide (r1.1 = 0)) then
      bnd (spec_l6Rd_pick 8 r1.2.1 r1.2.2) fun r2 =>
      bnd (geti ([(-2147483648), 2147483647, (-1), 0, 1, (-2147483647), 65536, (-65536)] : List Int) r2.1) fun e3 =>
      some (e3, r2.2.1, r2.2.2)
      else
      (bif (decide (r1.1 = 1)) then
      bnd (spec_l6Rd_pick 256 r1.2.1 r1.2.2) fun r4 =>
      bnd (spec_l6Rd_pick 256 r4.2.1 r4.2.2) fun r5 =>
      bnd (spec_l6Rd_pick 256 r5.2.1 r5.2.2) fun r6 =>
      bnd (spec_l6Rd_pick 200 r6.2.1 r6.2.2) fun r7 =>
      bnd (spec_Wrap (wrapC ((wrapC ((wrapC ((wrapC (r4.1 * 65536)) + (wrapC (r5.1 * 256)))) + r6.1)) * (wrapC (1 + r7.1))))) fun r8 =>
      some (r8, r7.2.1, r7.2.2)
      else
      (bif (decide (r1.1 = 2)) then
      bnd (spec_l6Rd_pick 200 r1.2.1 r1.2.2) fun r9 =>
      some ((wrapC (0 - r9.1)), r9.2.1, r9.2.2)
      else
      bnd (spec_l6Rd_pick 20 r1.2.1 r1.2.2) fun r10 =>
      some (r10.1, r10.2.1, r10.2.2)))) : Option (Int × List Int × Int)) := by kernel_rfl
    exact fn_le' (sig := s3800) (p := p3800) (by kernel_rfl) (by kernel_rfl) rfl rfl rfl rfl (e.trans h)

theorem impl_RingValid_le (a0 : Rg) : Tv.Le
  ((bif (decide (1 ≤ a0.room)) then
  (bif (decide (a0.room ≤ 4)) then
  (bif (decide (0 ≤ a0.head)) then
  (bif (decide (a0.head < a0.room)) then
  (bif (decide (0 ≤ a0.len)) then
  (bif (decide (a0.len ≤ a0.room)) then
  (bif (decide ((a0.slots.length : Int) = 4)) then
  bnd (impl_areWords a0.slots) fun r1 =>
  some r1
  else
  some false)
  else
  some false)
  else
  some false)
  else
  some false)
  else
  some false)
  else
  some false)
  else
  some false) : Option (Bool))
  (impl_RingValid a0) := by
  exact fun r h => by
    have e : runC (phi Tb GT sg) Tb GT p16600.code (startAT p16600 (mkST p16600.ins [.agg (rowT .rg a0)] p16600.bins [])) (finT p16600 s16600) = (
      (bif (decide (1 ≤ a0.room)) then
      (bif (decide (a0.room ≤ 4)) then
      (bif (decide (0 ≤ a0.head)) then
      (bif (decide (a0.head < a0.room)) then
      (bif (decide (0 ≤ a0.len)) then
      (bif (decide (a0.len ≤ a0.room)) then
      (bif (decide ((a0.slots.length : Int) = 4)) then
      bnd (impl_areWords a0.slots) fun r1 =>
      some r1
      else
      some false)
      else
      some false)
      else
      some false)
      else
      some false)
      else
      some false)
      else
      some false)
      else
      some false) : Option (Bool)) := by kernel_rfl
    exact fn_le' (sig := s16600) (p := p16600) (by kernel_rfl) (by kernel_rfl) rfl rfl rfl rfl (e.trans h)

theorem impl_WordValid_le (a0 : Int) : Tv.Le
  ((bif (decide ((-2147483648) ≤ a0)) then
  some (decide (a0 ≤ 2147483647))
  else
  some false) : Option (Bool))
  (impl_WordValid a0) := by
  exact fun r h => by
    have e : runC (phi Tb GT sg) Tb GT p5000.code (startAT p5000 (mkST p5000.ins [.int .i64 a0] p5000.bins [])) (finT p5000 s5000) = (
      (bif (decide ((-2147483648) ≤ a0)) then
      some (decide (a0 ≤ 2147483647))
      else
      some false) : Option (Bool)) := by kernel_rfl
    exact fn_le' (sig := s5000) (p := p5000) (by kernel_rfl) (by kernel_rfl) rfl rfl rfl rfl (e.trans h)

theorem slices_Clone___int_int__p_le (a0 : List Int) (A : List Ent) : Tv.Le (if a0.length ≤ 4294967296 then some (⟨some A.length, a0.length⟩, arPush A .int a0) else none : Option (Hd × List Ent)) (slices_Clone___int_int__p a0 A) := fun r h => by
  split at h
  · injection h with h
    subst h
    exact primA_le (F := Tb) (G := GT) (sg := fun _ => s38200) (g := 38200) (p := p38200) (x := (⟨some A.length, a0.length⟩, arPush A .int a0)) (tv := [.sl .share .int a0]) (es := A) (es' := arPush A .int a0) (v := .tr .int (some A.length) a0.length) (by kernel_rfl) rfl (clone_pa ‹_›) rfl
  · cases h

theorem spec_RingValid_le (a0 : Rg) : Tv.Le
  (bnd (spec_l6In a0.room 1 4) fun r1 =>
  (bif r1 then
  bnd (spec_l6In a0.head 0 (wrap64 (a0.room - 1))) fun r2 =>
  (bif r2 then
  bnd (spec_l6In a0.len 0 a0.room) fun r3 =>
  (bif r3 then
  bnd (spec_l4Words a0.slots 4) fun r4 =>
  some r4
  else
  some false)
  else
  some false)
  else
  some false) : Option (Bool))
  (spec_RingValid a0) := by
  rewrite [← wrapC_eq]
  exact fun r h => by
    have e : runC (phi Tb GT sg) Tb GT p16300.code (startAT p16300 (mkST p16300.ins [.agg (rowT .rg a0)] p16300.bins [])) (finT p16300 s16300) = (
      bnd (spec_l6In a0.room 1 4) fun r1 =>
      (bif r1 then
      bnd (spec_l6In a0.head 0 (wrapC (a0.room - 1))) fun r2 =>
      (bif r2 then
      bnd (spec_l6In a0.len 0 a0.room) fun r3 =>
      (bif r3 then
      bnd (spec_l4Words a0.slots 4) fun r4 =>
      some r4
      else
      some false)
      else
      some false)
      else
      some false) : Option (Bool)) := by kernel_rfl
    exact fn_le' (sig := s16300) (p := p16300) (by kernel_rfl) (by kernel_rfl) rfl rfl rfl rfl (e.trans h)

theorem spec_WordValid_le (a0 : Int) : Tv.Le
  (bnd (spec_l6In a0 (-2147483648) 2147483647) fun r1 =>
  some r1 : Option (Bool))
  (spec_WordValid a0) := by
  exact fun r h => by
    have e : runC (phi Tb GT sg) Tb GT p6400.code (startAT p6400 (mkST p6400.ins [.int .i64 a0] p6400.bins [])) (finT p6400 s6400) = (
      bnd (spec_l6In a0 (-2147483648) 2147483647) fun r1 =>
      some r1 : Option (Bool)) := by kernel_rfl
    exact fn_le' (sig := s6400) (p := p6400) (by kernel_rfl) (by kernel_rfl) rfl rfl rfl rfl (e.trans h)

theorem slices_Clone___int_int__le (a0 : List Int) : Tv.Le (if a0.length ≤ 4294967296 then some a0 else none : Option (List Int)) (slices_Clone___int_int_ a0) := fun r h => by
  split at h
  · injection h with h
    subst h
    exact prim_le (F := Tb) (G := GT) (sg := fun _ => s16700) (g := 16700) (p := p16700) (x := a0) (tv := [.sl .share .int a0]) (v := .sl (.own true) .int a0) (by kernel_rfl) rfl (clone_pf ‹_›) rfl
  · cases h

theorem laws_sameInts_l1_le (t0 : List Int) (t1 : List Int) (t5 : Int) : Tv.Le
  ((bif (decide (t5 < (t0.length : Int))) then
  bnd (geti t0 t5) fun e1 =>
  bnd (geti t1 t5) fun e2 =>
  (bif (!decide (e1 = e2)) then
  some (.inr false)
  else
  laws_sameInts_l1 t0 t1 (wrap64 (t5 + 1)))
  else
  some (.inl ())) : Option (Unit ⊕ Bool))
  (laws_sameInts_l1 t0 t1 t5) := by
  rewrite [← wrapC_eq]
  exact fun r h => by
    have e : runC (phi Tb GT sg) Tb GT p9701.code ((mkST p9701.ins [.sl .share .int t0, .sl .share .int t1, .int .i64 t5] p9701.bins [])) (finL Tb GT 9701 p9701 s9701) = (
      (bif (decide (t5 < (t0.length : Int))) then
      bnd (geti t0 t5) fun e1 =>
      bnd (geti t1 t5) fun e2 =>
      (bif (!decide (e1 = e2)) then
      some (.inr false)
      else
      laws_sameInts_l1 t0 t1 (wrapC (t5 + 1)))
      else
      some (.inl ())) : Option (Unit ⊕ Bool)) := by kernel_rfl
    exact loop_le' (sig := s9701) (p := p9701) (by kernel_rfl) (by kernel_rfl) rfl rfl rfl (e.trans h)

theorem spec_l92Items_le (a1 : Int) (a0b : List Int) (a0p : Int) : Tv.Le
  (bnd (spec_l92Items_l1 a1 true ([] : List Int) 0 a0b a0p) fun r1 =>
  some (r1.1.2, r1.2.1, r1.2.2) : Option (List Int × List Int × Int))
  (spec_l92Items a1 a0b a0p) := by
  exact fun r h => by
    have e : runC (phi Tb GT sg) Tb GT p17300.code (startAT p17300 (mkST p17300.ins [.bp 0 0, .int .i64 a1] p17300.bins [.var [.sl .share .u8 a0b, .int .i64 a0p]])) (finT p17300 s17300) = (
      bnd (spec_l92Items_l1 a1 true ([] : List Int) 0 a0b a0p) fun r1 =>
      some (r1.1.2, r1.2.1, r1.2.2) : Option (List Int × List Int × Int)) := by kernel_rfl
    exact fn_le' (sig := s17300) (p := p17300) (by kernel_rfl) (by kernel_rfl) rfl rfl rfl rfl (e.trans h)

theorem spec_Wrap_le (a0 : Int) : Tv.Le
  ((bif (decide (2147483647 < (Int.tmod a0 4294967296))) then
  some (wrap64 ((Int.tmod a0 4294967296) - 4294967296))
  else
  (bif (decide ((Int.tmod a0 4294967296) < (-2147483648))) then
  some (wrap64 ((Int.tmod a0 4294967296) + 4294967296))
  else
  some (Int.tmod a0 4294967296))) : Option (Int))
  (spec_Wrap a0) := by
  rewrite [← wrapC_eq]
  exact fun r h => by
    have e : runC (phi Tb GT sg) Tb GT p3700.code (startAT p3700 (mkST p3700.ins [.int .i64 a0] p3700.bins [])) (finT p3700 s3700) = (
      (bif (decide (2147483647 < (Int.tmod a0 4294967296))) then
      some (wrapC ((Int.tmod a0 4294967296) - 4294967296))
      else
      (bif (decide ((Int.tmod a0 4294967296) < (-2147483648))) then
      some (wrapC ((Int.tmod a0 4294967296) + 4294967296))
      else
      some (Int.tmod a0 4294967296))) : Option (Int)) := by kernel_rfl
    exact fn_le' (sig := s3700) (p := p3700) (by kernel_rfl) (by kernel_rfl) rfl rfl rfl rfl (e.trans h)

theorem impl_areWords_le (a0 : List Int) : Tv.Le
  (bnd (impl_areWords_l1 a0 (a0.length : Int) 0) fun r1 =>
  selm r1 (fun y2 =>
  some true) (fun z3 =>
  some z3) : Option (Bool))
  (impl_areWords a0) := by
  exact fun r h => by
    have e : runC (phi Tb GT sg) Tb GT p5100.code (startAT p5100 (mkST p5100.ins [.sl .share .int a0] p5100.bins [])) (finT p5100 s5100) = (
      bnd (impl_areWords_l1 a0 (a0.length : Int) 0) fun r1 =>
      selm r1 (fun y2 =>
      some true) (fun z3 =>
      some z3) : Option (Bool)) := by kernel_rfl
    exact fn_le' (sig := s5100) (p := p5100) (by kernel_rfl) (by kernel_rfl) rfl rfl rfl rfl (e.trans h)

theorem spec_l6In_le (a0 : Int) (a1 : Int) (a2 : Int) : Tv.Le
  ((bif (decide (a1 ≤ a0)) then
  some (decide (a0 ≤ a2))
  else
  some false) : Option (Bool))
  (spec_l6In a0 a1 a2) := by
  exact fun r h => by
    have e : runC (phi Tb GT sg) Tb GT p1600.code (startAT p1600 (mkST p1600.ins [.int .i64 a0, .int .i64 a1, .int .i64 a2] p1600.bins [])) (finT p1600 s1600) = (
      (bif (decide (a1 ≤ a0)) then
      some (decide (a0 ≤ a2))
      else
      some false) : Option (Bool)) := by kernel_rfl
    exact fn_le' (sig := s1600) (p := p1600) (by kernel_rfl) (by kernel_rfl) rfl rfl rfl rfl (e.trans h)

theorem spec_l4Words_le (a0 : List Int) (a1 : Int) : Tv.Le
  ((bif (!decide ((a0.length : Int) = a1)) then
  some false
  else
  bnd (spec_l4Words_l1 a0 0) fun r1 =>
  selm r1 (fun y2 =>
  some true) (fun z3 =>
  some z3)) : Option (Bool))
  (spec_l4Words a0 a1) := by
  exact fun r h => by
    have e : runC (phi Tb GT sg) Tb GT p6500.code (startAT p6500 (mkST p6500.ins [.sl .share .int a0, .int .i64 a1] p6500.bins [])) (finT p6500 s6500) = (
      (bif (!decide ((a0.length : Int) = a1)) then
      some false
      else
      bnd (spec_l4Words_l1 a0 0) fun r1 =>
      selm r1 (fun y2 =>
      some true) (fun z3 =>
      some z3)) : Option (Bool)) := by kernel_rfl
    exact fn_le' (sig := s6500) (p := p6500) (by kernel_rfl) (by kernel_rfl) rfl rfl rfl rfl (e.trans h)

theorem spec_l92Items_l1_le (t1 : Int) (t5b : Bool) (t5 : List Int) (t6 : Int) (b0_0 : List Int) (b0_1 : Int) : Tv.Le
  ((bif (decide (t6 < t1)) then
  bnd (spec_l91Word b0_0 b0_1) fun r1 =>
  bnd (appL t5 ([r1.1] : List Int)) fun l2 =>
  spec_l92Items_l1 t1 true l2 (wrap64 (t6 + 1)) r1.2.1 r1.2.2
  else
  some ((t5b, t5), b0_0, b0_1)) : Option ((Bool × List Int) × List Int × Int))
  (spec_l92Items_l1 t1 t5b t5 t6 b0_0 b0_1) := by
  rewrite [← wrapC_eq]
  exact fun r h => by
    have e : runC (phi Tb GT sg) Tb GT p17301.code ((mkST p17301.ins [.bp 0 0, .int .i64 t1, .sl (.own t5b) .int t5, .int .i64 t6] p17301.bins [.var [.sl .share .u8 b0_0, .int .i64 b0_1]])) (finL Tb GT 17301 p17301 s17301) = (
      (bif (decide (t6 < t1)) then
      bnd (spec_l91Word b0_0 b0_1) fun r1 =>
      bnd (appL t5 ([r1.1] : List Int)) fun l2 =>
      spec_l92Items_l1 t1 true l2 (wrapC (t6 + 1)) r1.2.1 r1.2.2
      else
      some ((t5b, t5), b0_0, b0_1)) : Option ((Bool × List Int) × List Int × Int)) := by kernel_rfl
    exact loop_le' (sig := s17301) (p := p17301) (by kernel_rfl) (by kernel_rfl) rfl rfl rfl (e.trans h)

theorem impl_areWords_l1_le (t5 : List Int) (t6 : Int) (t7 : Int) : Tv.Le
  ((bif (decide (t7 < t6)) then
  bnd (geti t5 t7) fun e1 =>
  bnd (impl_WordValid e1) fun r2 =>
  (bif (!r2) then
  some (.inr false)
  else
  impl_areWords_l1 t5 t6 (wrap64 (t7 + 1)))
  else
  some (.inl ())) : Option (Unit ⊕ Bool))
  (impl_areWords_l1 t5 t6 t7) := by
  rewrite [← wrapC_eq]
  exact fun r h => by
    have e : runC (phi Tb GT sg) Tb GT p5101.code ((mkST p5101.ins [.sl .share .int t5, .int .i64 t6, .int .i64 t7] p5101.bins [])) (finL Tb GT 5101 p5101 s5101) = (
      (bif (decide (t7 < t6)) then
      bnd (geti t5 t7) fun e1 =>
      bnd (impl_WordValid e1) fun r2 =>
      (bif (!r2) then
      some (.inr false)
      else
      impl_areWords_l1 t5 t6 (wrapC (t7 + 1)))
      else
      some (.inl ())) : Option (Unit ⊕ Bool)) := by kernel_rfl
    exact loop_le' (sig := s5101) (p := p5101) (by kernel_rfl) (by kernel_rfl) rfl rfl rfl (e.trans h)

theorem spec_l4Words_l1_le (t0 : List Int) (t5 : Int) : Tv.Le
  ((bif (decide (t5 < (t0.length : Int))) then
  bnd (geti t0 t5) fun e1 =>
  bnd (spec_WordValid e1) fun r2 =>
  (bif (!r2) then
  some (.inr false)
  else
  spec_l4Words_l1 t0 (wrap64 (t5 + 1)))
  else
  some (.inl ())) : Option (Unit ⊕ Bool))
  (spec_l4Words_l1 t0 t5) := by
  rewrite [← wrapC_eq]
  exact fun r h => by
    have e : runC (phi Tb GT sg) Tb GT p6501.code ((mkST p6501.ins [.sl .share .int t0, .int .i64 t5] p6501.bins [])) (finL Tb GT 6501 p6501 s6501) = (
      (bif (decide (t5 < (t0.length : Int))) then
      bnd (geti t0 t5) fun e1 =>
      bnd (spec_WordValid e1) fun r2 =>
      (bif (!r2) then
      some (.inr false)
      else
      spec_l4Words_l1 t0 (wrapC (t5 + 1)))
      else
      some (.inl ())) : Option (Unit ⊕ Bool)) := by kernel_rfl
    exact loop_le' (sig := s6501) (p := p6501) (by kernel_rfl) (by kernel_rfl) rfl rfl rfl (e.trans h)

end Go.TFnRingSlots
