import Derived.Test.YtpkgdoapdijmeaaDFnWorldNewP
import Derived.KernelRfl
set_option linter.unusedVariables false
namespace Go.TFnWorldNew
open Go Go.RowKit Go.Vs Go.Tv
theorem impl_BoxValid_le (a0 : Bx) : Tv.Le
  ((bif (decide (1 ≤ a0.room)) then
  (bif (decide (a0.room ≤ 4)) then
  (bif (decide ((a0.items.length : Int) ≤ a0.room)) then
  bnd (impl_areWords a0.items) fun r1 =>
  some r1
  else
  some false)
  else
  some false)
  else
  some false) : Option (Bool))
  (impl_BoxValid a0) := by
  exact fun r h => by
    have e : runC (phi Tb GT sg) Tb GT p17600.code (startAT p17600 (mkST p17600.ins [.agg (rowT .bx a0)] p17600.bins [])) (finT p17600 s17600) = (
      (bif (decide (1 ≤ a0.room)) then
      (bif (decide (a0.room ≤ 4)) then
      (bif (decide ((a0.items.length : Int) ≤ a0.room)) then
      bnd (impl_areWords a0.items) fun r1 =>
      some r1
      else
      some false)
      else
      some false)
      else
      some false) : Option (Bool)) := by kernel_rfl
    exact fn_le' (sig := s17600) (p := p17600) (by kernel_rfl) (by kernel_rfl) rfl rfl rfl rfl rfl (e.trans h)

theorem impl_boxesValid_l1_le (t0 : List Bx) (t5 : List Bx) (t6 : Int) (t7 : Int) : Tv.Le
  ((bif (decide (t7 < t6)) then
  bnd (geti t5 t7) fun e1 =>
  bnd (impl_BoxValid e1) fun r2 =>
  (bif (!r2) then
  some (.inr (t0, false))
  else
  impl_boxesValid_l1 t0 t5 t6 (wrap64 (t7 + 1)))
  else
  some (.inl t0)) : Option (List Bx ⊕ (List Bx × Bool)))
  (impl_boxesValid_l1 t0 t5 t6 t7) := by
  rewrite [← wrapC_eq]
  exact fun r h => by
    have e : runC (phi Tb GT sg) Tb GT p23901.code ((mkST p23901.ins [.sl .share .bx t0, .sl .share .bx t5, .int .i64 t6, .int .i64 t7] p23901.bins [])) (finL Tb GT 23901 p23901 s23901) = (
      (bif (decide (t7 < t6)) then
      bnd (geti t5 t7) fun e1 =>
      bnd (impl_BoxValid e1) fun r2 =>
      (bif (!r2) then
      some (.inr (t0, false))
      else
      impl_boxesValid_l1 t0 t5 t6 (wrapC (t7 + 1)))
      else
      some (.inl t0)) : Option (List Bx ⊕ (List Bx × Bool))) := by kernel_rfl
    exact loop_le' (sig := s23901) (p := p23901) (by kernel_rfl) (by kernel_rfl) rfl rfl rfl (e.trans h)

theorem impl_taskValid_l1_le (t1 : Int) (t18 : Int) (t19 : Int) (b100_0 : List Int) (b100_1 : List Stm) : Tv.Le
  ((bif (decide (t19 < t18)) then
  bnd (cutL b100_1 t19 (wrap64 (t19 + 1))) fun l1 =>
  bnd (impl_stmtsValid l1 t1) fun r2 =>
  (bif (!r2) then
  some (.inr false)
  else
  impl_taskValid_l1 t1 t18 (wrap64 (t19 + 1)) b100_0 b100_1)
  else
  some (.inl ())) : Option (Unit ⊕ Bool))
  (impl_taskValid_l1 t1 t18 t19 b100_0 b100_1) := by
  rewrite [← wrapC_eq]
  exact fun r h => by
    have e : runC (phi Tb GT sg) Tb GT p5501.code ((mkST p5501.ins [.int .i64 t1, .bp 100 0, .int .i64 t18, .int .i64 t19] p5501.bins [.var [.sl .share .int b100_0, .sl .share .stm b100_1]])) (finL Tb GT 5501 p5501 s5501) = (
      (bif (decide (t19 < t18)) then
      bnd (cutL b100_1 t19 (wrapC (t19 + 1))) fun l1 =>
      bnd (impl_stmtsValid l1 t1) fun r2 =>
      (bif (!r2) then
      some (.inr false)
      else
      impl_taskValid_l1 t1 t18 (wrapC (t19 + 1)) b100_0 b100_1)
      else
      some (.inl ())) : Option (Unit ⊕ Bool)) := by kernel_rfl
    exact loop_le' (sig := s5501) (p := p5501) (by kernel_rfl) (by kernel_rfl) rfl rfl rfl (e.trans h)

theorem spec_l92Rooms_p_le (a0b : List Int) (a0p : Int) (A : List Ent) : Tv.Le
  (bnd (spec_l6Rd_pick 6 a0b a0p) fun r1 =>
  bnd (geti ([0, 1, 1, 2, 2, 3] : List Int) r1.1) fun e2 =>
  bnd (spec_l92Rooms_p_l1 (⟨(some (List.length A)), 0⟩ : Hd) e2 0 r1.2.1 r1.2.2 (arPush A .int ([] : List Int))) fun r3 =>
  some (r3.1, r3.2.1, r3.2.2.1, r3.2.2.2) : Option (Hd × List Int × Int × List Ent))
  (spec_l92Rooms_p a0b a0p A) := by
  exact fun r h => by
    have e : runC (phi Tb GT sg) Tb GT p40200.code (startAT p40200 (mkST p40200.ins [.bp 0 0] p40200.bins [.var [.sl .share .u8 a0b, .int .i64 a0p], .ar A])) (finT p40200 s40200) = (
      bnd (spec_l6Rd_pick 6 a0b a0p) fun r1 =>
      bnd (geti ([0, 1, 1, 2, 2, 3] : List Int) r1.1) fun e2 =>
      bnd (spec_l92Rooms_p_l1 (⟨(some (List.length A)), 0⟩ : Hd) e2 0 r1.2.1 r1.2.2 (arPush A .int ([] : List Int))) fun r3 =>
      some (r3.1, r3.2.1, r3.2.2.1, r3.2.2.2) : Option (Hd × List Int × Int × List Ent)) := by kernel_rfl
    exact fn_le' (sig := s40200) (p := p40200) (by kernel_rfl) (by kernel_rfl) rfl rfl rfl rfl rfl (e.trans h)

theorem spec_l92Stmts_p_le (a1 : Int) (a0b : List Int) (a0p : Int) (A : List Ent) : Tv.Le
  (bnd (spec_l6Rd_pick 6 a0b a0p) fun r1 =>
  bnd (spec_l92Block_p a1 3 (wrap64 (1 + r1.1)) true r1.2.1 r1.2.2 A) fun r2 =>
  bnd (spec_l92Stmts_p_l1 r2.1 r2.2.1 r2.2.2.1 r2.2.2.2) fun r3 =>
  some (r3.1, r3.2.1, r3.2.2.1, r3.2.2.2) : Option (Hd × List Int × Int × List Ent))
  (spec_l92Stmts_p a1 a0b a0p A) := by
  rewrite [← wrapC_eq]
  exact fun r h => by
    have e : runC (phi Tb GT sg) Tb GT p38000.code (startAT p38000 (mkST p38000.ins [.bp 0 0, .int .i64 a1] p38000.bins [.var [.sl .share .u8 a0b, .int .i64 a0p], .ar A])) (finT p38000 s38000) = (
      bnd (spec_l6Rd_pick 6 a0b a0p) fun r1 =>
      bnd (spec_l92Block_p a1 3 (wrapC (1 + r1.1)) true r1.2.1 r1.2.2 A) fun r2 =>
      bnd (spec_l92Stmts_p_l1 r2.1 r2.2.1 r2.2.2.1 r2.2.2.2) fun r3 =>
      some (r3.1, r3.2.1, r3.2.2.1, r3.2.2.2) : Option (Hd × List Int × Int × List Ent)) := by kernel_rfl
    exact fn_le' (sig := s38000) (p := p38000) (by kernel_rfl) (by kernel_rfl) rfl rfl rfl rfl rfl (e.trans h)

theorem spec_l92Program_p_l1_le (t4 : Int) (t5 : Int) (b0_0 : List Int) (b0_1 : Int) (b100_0 : Hd) (b100_1 : Hd) (b101_0 : Hd) (b101_1 : Hd) (b99 : List Ent) : Tv.Le
  ((bif (decide (t5 < t4)) then
  bnd (spec_l92Stmts_p ((b101_0.n : Nat) : Int) b0_0 b0_1 b99) fun r1 =>
  bnd (arApp r1.2.2.2 .stmsH b101_1.id b101_1.n ([r1.1] : List Hd)) fun B2 =>
  spec_l92Program_p_l1 t4 (wrap64 (t5 + 1)) r1.2.1 r1.2.2.1 b100_0 b100_1 b101_0 (⟨(some (List.length r1.2.2.2)), (b101_1.n + List.length ([r1.1] : List Hd))⟩ : Hd) B2
  else
  some (b0_0, b0_1, b100_0, b100_1, b101_0, b101_1, b99)) : Option (List Int × Int × Hd × Hd × Hd × Hd × List Ent))
  (spec_l92Program_p_l1 t4 t5 b0_0 b0_1 b100_0 b100_1 b101_0 b101_1 b99) := by
  rewrite [← wrapC_eq]
  exact fun r h => by
    have e : runC (phi Tb GT sg) Tb GT p39901.code ((mkST p39901.ins [.bp 0 0, .bp 100 0, .bp 101 0, .int .i64 t4, .int .i64 t5] p39901.bins [.var [.sl .share .u8 b0_0, .int .i64 b0_1], .var [.tr .int b100_0.id b100_0.n, .tr .stmsH b100_1.id b100_1.n], .var [.tr .int b101_0.id b101_0.n, .tr .stmsH b101_1.id b101_1.n], .ar b99])) (finL Tb GT 39901 p39901 s39901) = (
      (bif (decide (t5 < t4)) then
      bnd (spec_l92Stmts_p ((b101_0.n : Nat) : Int) b0_0 b0_1 b99) fun r1 =>
      bnd (arApp r1.2.2.2 .stmsH b101_1.id b101_1.n ([r1.1] : List Hd)) fun B2 =>
      spec_l92Program_p_l1 t4 (wrapC (t5 + 1)) r1.2.1 r1.2.2.1 b100_0 b100_1 b101_0 (⟨(some (List.length r1.2.2.2)), (b101_1.n + List.length ([r1.1] : List Hd))⟩ : Hd) B2
      else
      some (b0_0, b0_1, b100_0, b100_1, b101_0, b101_1, b99)) : Option (List Int × Int × Hd × Hd × Hd × Hd × List Ent)) := by kernel_rfl
    exact loop_le' (sig := s39901) (p := p39901) (by kernel_rfl) (by kernel_rfl) rfl rfl rfl (e.trans h)

theorem spec_l92Endless_le (a0b : List Int) (a0p : Int) : Tv.Le
  (bnd (spec_l4Leaf 0 1) fun r1 =>
  bnd (spec_l6Rd_pick 2 a0b a0p) fun r2 =>
  bnd (spec_l92Block 0 1 r2.1 false r2.2.1 r2.2.2) fun r3 =>
  some (⟨3, 0, 0, ⟨r1.1, r1.2.1, r1.2.2.2⟩, r3.1, []⟩, r3.2.1, r3.2.2) : Option (Stm × List Int × Int))
  (spec_l92Endless a0b a0p) := by
  exact fun r h => by
    have e : runC (phi Tb GT sg) Tb GT p8700.code (startAT p8700 (mkST p8700.ins [.bp 0 0] p8700.bins [.var [.sl .share .u8 a0b, .int .i64 a0p]])) (finT p8700 s8700) = (
      bnd (spec_l4Leaf 0 1) fun r1 =>
      bnd (spec_l6Rd_pick 2 a0b a0p) fun r2 =>
      bnd (spec_l92Block 0 1 r2.1 false r2.2.1 r2.2.2) fun r3 =>
      some (⟨3, 0, 0, ⟨r1.1, r1.2.1, r1.2.2.2⟩, r3.1, []⟩, r3.2.1, r3.2.2) : Option (Stm × List Int × Int)) := by kernel_rfl
    exact fn_le' (sig := s8700) (p := p8700) (by kernel_rfl) (by kernel_rfl) rfl rfl rfl rfl rfl (e.trans h)

theorem spec_l4Leaf_le (a0 : Int) (a1 : Int) : Tv.Le
  (some (a0, a1, ((.own false), ([] : List Exp))) : Option (Int × Int × (Md × List Exp)))
  (spec_l4Leaf a0 a1) := by
  exact fun r h => by
    have e : runC (phi Tb GT sg) Tb GT p300.code (startAT p300 (mkST p300.ins [.int .i64 a0, .int .i64 a1] p300.bins [])) (finT p300 s300) = (
      some (a0, a1, ((.own false), ([] : List Exp))) : Option (Int × Int × (Md × List Exp))) := by kernel_rfl
    exact fn_le' (sig := s300) (p := p300) (by kernel_rfl) (by kernel_rfl) rfl rfl rfl rfl rfl (e.trans h)

theorem impl_roomsValid_l1_le (t0 : List Int) (t5 : List Int) (t6 : Int) (t7 : Int) : Tv.Le
  ((bif (decide (t7 < t6)) then
  bnd (geti t5 t7) fun e1 =>
  (bif (decide (e1 < 1)) then
  some (.inr (t0, false))
  else
  (bif (decide (4 < e1)) then
  some (.inr (t0, false))
  else
  impl_roomsValid_l1 t0 t5 t6 (wrap64 (t7 + 1))))
  else
  some (.inl t0)) : Option (List Int ⊕ (List Int × Bool)))
  (impl_roomsValid_l1 t0 t5 t6 t7) := by
  rewrite [← wrapC_eq]
  exact fun r h => by
    have e : runC (phi Tb GT sg) Tb GT p22701.code ((mkST p22701.ins [.sl .share .int t0, .sl .share .int t5, .int .i64 t6, .int .i64 t7] p22701.bins [])) (finL Tb GT 22701 p22701 s22701) = (
      (bif (decide (t7 < t6)) then
      bnd (geti t5 t7) fun e1 =>
      (bif (decide (e1 < 1)) then
      some (.inr (t0, false))
      else
      (bif (decide (4 < e1)) then
      some (.inr (t0, false))
      else
      impl_roomsValid_l1 t0 t5 t6 (wrapC (t7 + 1))))
      else
      some (.inl t0)) : Option (List Int ⊕ (List Int × Bool))) := by kernel_rfl
    exact loop_le' (sig := s22701) (p := p22701) (by kernel_rfl) (by kernel_rfl) rfl rfl rfl (e.trans h)

theorem impl_blockValid_le (a0 : List Stm) (a1 : Int) (a2 : Int) (a3 : Int) : Tv.Le
  ((bif (decide (16 < (wrap64 (a3 + (a0.length : Int))))) then
  some (false, (wrap64 (a3 + (a0.length : Int))))
  else
  bnd (impl_blockValid_l1 a0 a1 a2 (a0.length : Int) 0 (wrap64 (a3 + (a0.length : Int)))) fun r1 =>
  selm r1 (fun y2 =>
  some (true, y2)) (fun z3 =>
  some (z3.1, z3.2))) : Option (Bool × Int))
  (impl_blockValid a0 a1 a2 a3) := by
  rewrite [← wrapC_eq]
  exact fun r h => by
    have e : runC (phi Tb GT sg) Tb GT p5300.code (startAT p5300 (mkST p5300.ins [.sl .share .stm a0, .int .i64 a1, .int .i64 a2, .bp 0 0] p5300.bins [.var [.int .i64 a3]])) (finT p5300 s5300) = (
      (bif (decide (16 < (wrapC (a3 + (a0.length : Int))))) then
      some (false, (wrapC (a3 + (a0.length : Int))))
      else
      bnd (impl_blockValid_l1 a0 a1 a2 (a0.length : Int) 0 (wrapC (a3 + (a0.length : Int)))) fun r1 =>
      selm r1 (fun y2 =>
      some (true, y2)) (fun z3 =>
      some (z3.1, z3.2))) : Option (Bool × Int)) := by kernel_rfl
    exact fn_le' (sig := s5300) (p := p5300) (by kernel_rfl) (by kernel_rfl) rfl rfl rfl rfl rfl (e.trans h)

theorem spec_l12Rooms_l1_le (t0 : List Int) (t3 : Int) : Tv.Le
  ((bif (decide (t3 < (t0.length : Int))) then
  bnd (geti t0 t3) fun e1 =>
  bnd (spec_l6In e1 1 4) fun r2 =>
  (bif (!r2) then
  some (.inr (t0, false))
  else
  spec_l12Rooms_l1 t0 (wrap64 (t3 + 1)))
  else
  some (.inl t0)) : Option (List Int ⊕ (List Int × Bool)))
  (spec_l12Rooms_l1 t0 t3) := by
  rewrite [← wrapC_eq]
  exact fun r h => by
    have e : runC (phi Tb GT sg) Tb GT p23201.code ((mkST p23201.ins [.sl .share .int t0, .int .i64 t3] p23201.bins [])) (finL Tb GT 23201 p23201 s23201) = (
      (bif (decide (t3 < (t0.length : Int))) then
      bnd (geti t0 t3) fun e1 =>
      bnd (spec_l6In e1 1 4) fun r2 =>
      (bif (!r2) then
      some (.inr (t0, false))
      else
      spec_l12Rooms_l1 t0 (wrapC (t3 + 1)))
      else
      some (.inl t0)) : Option (List Int ⊕ (List Int × Bool))) := by kernel_rfl
    exact loop_le' (sig := s23201) (p := p23201) (by kernel_rfl) (by kernel_rfl) rfl rfl rfl (e.trans h)

theorem spec_l11Blocks_le (a0 : List Stm) (a1 : Int) : Tv.Le
  (bnd (spec_l11Blocks_l1 a0 a1 0) fun r1 =>
  selm r1 (fun y2 =>
  some true) (fun z3 =>
  some z3) : Option (Bool))
  (spec_l11Blocks a0 a1) := by
  exact fun r h => by
    have e : runC (phi Tb GT sg) Tb GT p6200.code (startAT p6200 (mkST p6200.ins [.sl .share .stm a0, .int .i64 a1] p6200.bins [])) (finT p6200 s6200) = (
      bnd (spec_l11Blocks_l1 a0 a1 0) fun r1 =>
      selm r1 (fun y2 =>
      some true) (fun z3 =>
      some z3) : Option (Bool)) := by kernel_rfl
    exact fn_le' (sig := s6200) (p := p6200) (by kernel_rfl) (by kernel_rfl) rfl rfl rfl rfl rfl (e.trans h)

theorem spec_l11Count_le (a0 : List Stm) : Tv.Le
  (bnd (spec_l11Count_l1 a0 0 0) fun r1 =>
  some r1 : Option (Int))
  (spec_l11Count a0) := by
  exact fun r h => by
    have e : runC (phi Tb GT sg) Tb GT p4000.code (startAT p4000 (mkST p4000.ins [.sl .share .stm a0] p4000.bins [])) (finT p4000 s4000) = (
      bnd (spec_l11Count_l1 a0 0 0) fun r1 =>
      some r1 : Option (Int)) := by kernel_rfl
    exact fn_le' (sig := s4000) (p := p4000) (by kernel_rfl) (by kernel_rfl) rfl rfl rfl rfl rfl (e.trans h)

theorem spec_l12Boxes_l1_le (t0 : List Stm) (t1 : Int) (t5 : Int) : Tv.Le
  ((bif (decide (t5 < (t0.length : Int))) then
  bnd (geti t0 t5) fun e1 =>
  (bif (decide (e1.kind = 4)) then
  (bif (decide (t1 ≤ e1.box)) then
  some (.inr false)
  else
  bnd (spec_l12Boxes e1.body t1) fun r2 =>
  (bif (!r2) then
  some (.inr false)
  else
  bnd (spec_l12Boxes e1.els t1) fun r3 =>
  (bif (!r3) then
  some (.inr false)
  else
  spec_l12Boxes_l1 t0 t1 (wrap64 (t5 + 1)))))
  else
  (bif (decide (e1.kind = 5)) then
  (bif (decide (t1 ≤ e1.box)) then
  some (.inr false)
  else
  bnd (spec_l12Boxes e1.body t1) fun r4 =>
  (bif (!r4) then
  some (.inr false)
  else
  bnd (spec_l12Boxes e1.els t1) fun r5 =>
  (bif (!r5) then
  some (.inr false)
  else
  spec_l12Boxes_l1 t0 t1 (wrap64 (t5 + 1)))))
  else
  bnd (spec_l12Boxes e1.body t1) fun r6 =>
  (bif (!r6) then
  some (.inr false)
  else
  bnd (spec_l12Boxes e1.els t1) fun r7 =>
  (bif (!r7) then
  some (.inr false)
  else
  spec_l12Boxes_l1 t0 t1 (wrap64 (t5 + 1))))))
  else
  some (.inl ())) : Option (Unit ⊕ Bool))
  (spec_l12Boxes_l1 t0 t1 t5) := by
  rewrite [← wrapC_eq]
  exact fun r h => by
    have e : runC (phi Tb GT sg) Tb GT p23101.code ((mkST p23101.ins [.sl .share .stm t0, .int .i64 t1, .int .i64 t5] p23101.bins [])) (finL Tb GT 23101 p23101 s23101) = (
      (bif (decide (t5 < (t0.length : Int))) then
      bnd (geti t0 t5) fun e1 =>
      (bif (decide (e1.kind = 4)) then
      (bif (decide (t1 ≤ e1.box)) then
      some (.inr false)
      else
      bnd (spec_l12Boxes e1.body t1) fun r2 =>
      (bif (!r2) then
      some (.inr false)
      else
      bnd (spec_l12Boxes e1.els t1) fun r3 =>
      (bif (!r3) then
      some (.inr false)
      else
      spec_l12Boxes_l1 t0 t1 (wrapC (t5 + 1)))))
      else
      (bif (decide (e1.kind = 5)) then
      (bif (decide (t1 ≤ e1.box)) then
      some (.inr false)
      else
      bnd (spec_l12Boxes e1.body t1) fun r4 =>
      (bif (!r4) then
      some (.inr false)
      else
      bnd (spec_l12Boxes e1.els t1) fun r5 =>
      (bif (!r5) then
      some (.inr false)
      else
      spec_l12Boxes_l1 t0 t1 (wrapC (t5 + 1)))))
      else
      bnd (spec_l12Boxes e1.body t1) fun r6 =>
      (bif (!r6) then
      some (.inr false)
      else
      bnd (spec_l12Boxes e1.els t1) fun r7 =>
      (bif (!r7) then
      some (.inr false)
      else
      spec_l12Boxes_l1 t0 t1 (wrapC (t5 + 1))))))
      else
      some (.inl ())) : Option (Unit ⊕ Bool)) := by kernel_rfl
    exact loop_le' (sig := s23101) (p := p23101) (by kernel_rfl) (by kernel_rfl) rfl rfl rfl (e.trans h)

theorem spec_l4Copy_le (a0 : Exp) : Tv.Le
  ((bif (decide ((a0.args.length : Int) = 0)) then
  bnd (spec_l4Leaf a0.op a0.n) fun r1 =>
  some (⟨r1.1, r1.2.1, r1.2.2.2⟩)
  else
  bnd (geti a0.args 0) fun e2 =>
  bnd (spec_l4Copy (⟨e2.op, e2.n, e2.args⟩ : Exp)) fun r3 =>
  bnd (geti a0.args 1) fun e4 =>
  bnd (spec_l4Copy (⟨e4.op, e4.n, e4.args⟩ : Exp)) fun r5 =>
  bnd (spec_l4Both a0.op (⟨r3.op, r3.n, r3.args⟩ : Exp) (⟨r5.op, r5.n, r5.args⟩ : Exp)) fun r6 =>
  some (⟨r6.1, r6.2.1, r6.2.2.2⟩)) : Option (Exp))
  (spec_l4Copy a0) := by
  exact fun r h => by
    have e : runC (phi Tb GT sg) Tb GT p9400.code (startAT p9400 (mkST p9400.ins [.agg (rowT .exp a0)] p9400.bins [])) (finT p9400 s9400) = (
      (bif (decide ((a0.args.length : Int) = 0)) then
      bnd (spec_l4Leaf a0.op a0.n) fun r1 =>
      some (⟨r1.1, r1.2.1, r1.2.2.2⟩)
      else
      bnd (geti a0.args 0) fun e2 =>
      bnd (spec_l4Copy (⟨e2.op, e2.n, e2.args⟩ : Exp)) fun r3 =>
      bnd (geti a0.args 1) fun e4 =>
      bnd (spec_l4Copy (⟨e4.op, e4.n, e4.args⟩ : Exp)) fun r5 =>
      bnd (spec_l4Both a0.op (⟨r3.op, r3.n, r3.args⟩ : Exp) (⟨r5.op, r5.n, r5.args⟩ : Exp)) fun r6 =>
      some (⟨r6.1, r6.2.1, r6.2.2.2⟩)) : Option (Exp)) := by kernel_rfl
    exact fn_le' (sig := s9400) (p := p9400) (by kernel_rfl) (by kernel_rfl) rfl rfl rfl rfl rfl (e.trans h)

theorem spec_l11Copy_l1_le (t0 : List Stm) (t3b : Bool) (t3 : List Stm) (t4 : Int) : Tv.Le
  ((bif (decide (t4 < (t0.length : Int))) then
  bnd (geti t0 t4) fun e1 =>
  bnd (spec_l4Copy (⟨e1.e.op, e1.e.n, e1.e.args⟩ : Exp)) fun r2 =>
  bnd (spec_l11Copy e1.body) fun r3 =>
  bnd (spec_l11Copy e1.els) fun r4 =>
  bnd (appL t3 ([⟨e1.kind, e1.var, e1.box, ⟨r2.op, r2.n, r2.args⟩, r3, r4⟩] : List Stm)) fun l5 =>
  spec_l11Copy_l1 t0 true l5 (wrap64 (t4 + 1))
  else
  some (t3b, t3)) : Option ((Bool × List Stm)))
  (spec_l11Copy_l1 t0 t3b t3 t4) := by
  rewrite [← wrapC_eq]
  exact fun r h => by
    have e : runC (phi Tb GT sg) Tb GT p9501.code ((mkST p9501.ins [.sl .share .stm t0, .sl (.own t3b) .stm t3, .int .i64 t4] p9501.bins [])) (finL Tb GT 9501 p9501 s9501) = (
      (bif (decide (t4 < (t0.length : Int))) then
      bnd (geti t0 t4) fun e1 =>
      bnd (spec_l4Copy (⟨e1.e.op, e1.e.n, e1.e.args⟩ : Exp)) fun r2 =>
      bnd (spec_l11Copy e1.body) fun r3 =>
      bnd (spec_l11Copy e1.els) fun r4 =>
      bnd (appL t3 ([⟨e1.kind, e1.var, e1.box, ⟨r2.op, r2.n, r2.args⟩, r3, r4⟩] : List Stm)) fun l5 =>
      spec_l11Copy_l1 t0 true l5 (wrapC (t4 + 1))
      else
      some (t3b, t3)) : Option ((Bool × List Stm))) := by kernel_rfl
    exact loop_le' (sig := s9501) (p := p9501) (by kernel_rfl) (by kernel_rfl) rfl rfl rfl (e.trans h)

theorem impl_exprCopy_l1_le (t12 : List Exp) (t13 : Int) (t14 : Int) (b101_0 : Int) (b101_1 : Int) (b101_2b : Bool) (b101_2 : List Exp) (b102_0 : Int) (b102_1 : Int) (b102_2b : Bool) (b102_2 : List Exp) : Tv.Le
  ((bif (decide (t14 < t13)) then
  bnd (geti t12 t14) fun e1 =>
  bnd (impl_exprCopy (⟨e1.op, e1.n, e1.args⟩ : Exp)) fun r2 =>
  bnd (appL b102_2 ([⟨r2.op, r2.n, r2.args⟩] : List Exp)) fun l3 =>
  impl_exprCopy_l1 t12 t13 (wrap64 (t14 + 1)) b101_0 b101_1 b101_2b b101_2 b102_0 b102_1 true l3
  else
  some (b101_0, b101_1, (b101_2b, b101_2), b102_0, b102_1, (b102_2b, b102_2))) : Option (Int × Int × (Bool × List Exp) × Int × Int × (Bool × List Exp)))
  (impl_exprCopy_l1 t12 t13 t14 b101_0 b101_1 b101_2b b101_2 b102_0 b102_1 b102_2b b102_2) := by
  rewrite [← wrapC_eq]
  exact fun r h => by
    have e : runC (phi Tb GT sg) Tb GT p9101.code ((mkST p9101.ins [.bp 101 0, .bp 102 0, .sl .share .exp t12, .int .i64 t13, .int .i64 t14] p9101.bins [.var [.int .i64 b101_0, .int .i64 b101_1, .sl (.own b101_2b) .exp b101_2], .var [.int .i64 b102_0, .int .i64 b102_1, .sl (.own b102_2b) .exp b102_2]])) (finL Tb GT 9101 p9101 s9101) = (
      (bif (decide (t14 < t13)) then
      bnd (geti t12 t14) fun e1 =>
      bnd (impl_exprCopy (⟨e1.op, e1.n, e1.args⟩ : Exp)) fun r2 =>
      bnd (appL b102_2 ([⟨r2.op, r2.n, r2.args⟩] : List Exp)) fun l3 =>
      impl_exprCopy_l1 t12 t13 (wrapC (t14 + 1)) b101_0 b101_1 b101_2b b101_2 b102_0 b102_1 true l3
      else
      some (b101_0, b101_1, (b101_2b, b101_2), b102_0, b102_1, (b102_2b, b102_2))) : Option (Int × Int × (Bool × List Exp) × Int × Int × (Bool × List Exp))) := by kernel_rfl
    exact loop_le' (sig := s9101) (p := p9101) (by kernel_rfl) (by kernel_rfl) rfl rfl rfl (e.trans h)

theorem laws_sameExpr_l1_le (t5 : Int) (b100_0 : Int) (b100_1 : Int) (b100_2 : List Exp) (b101_0 : Int) (b101_1 : Int) (b101_2 : List Exp) : Tv.Le
  ((bif (decide (t5 < (b100_2.length : Int))) then
  bnd (geti b100_2 t5) fun e1 =>
  bnd (geti b101_2 t5) fun e2 =>
  bnd (laws_sameExpr (⟨e1.op, e1.n, e1.args⟩ : Exp) (⟨e2.op, e2.n, e2.args⟩ : Exp)) fun r3 =>
  (bif (!r3) then
  some (.inr false)
  else
  laws_sameExpr_l1 (wrap64 (t5 + 1)) b100_0 b100_1 b100_2 b101_0 b101_1 b101_2)
  else
  some (.inl ())) : Option (Unit ⊕ Bool))
  (laws_sameExpr_l1 t5 b100_0 b100_1 b100_2 b101_0 b101_1 b101_2) := by
  rewrite [← wrapC_eq]
  exact fun r h => by
    have e : runC (phi Tb GT sg) Tb GT p9801.code ((mkST p9801.ins [.bp 100 0, .bp 101 0, .int .i64 t5] p9801.bins [.var [.int .i64 b100_0, .int .i64 b100_1, .sl .share .exp b100_2], .var [.int .i64 b101_0, .int .i64 b101_1, .sl .share .exp b101_2]])) (finL Tb GT 9801 p9801 s9801) = (
      (bif (decide (t5 < (b100_2.length : Int))) then
      bnd (geti b100_2 t5) fun e1 =>
      bnd (geti b101_2 t5) fun e2 =>
      bnd (laws_sameExpr (⟨e1.op, e1.n, e1.args⟩ : Exp) (⟨e2.op, e2.n, e2.args⟩ : Exp)) fun r3 =>
      (bif (!r3) then
      some (.inr false)
      else
      laws_sameExpr_l1 (wrapC (t5 + 1)) b100_0 b100_1 b100_2 b101_0 b101_1 b101_2)
      else
      some (.inl ())) : Option (Unit ⊕ Bool)) := by kernel_rfl
    exact loop_le' (sig := s9801) (p := p9801) (by kernel_rfl) (by kernel_rfl) rfl rfl rfl (e.trans h)

theorem impl_WordValid_le (a0 : Int) : Tv.Le
  ((bif (decide ((-2147483648) ≤ a0)) then
  some (decide (a0 ≤ 2147483647))
  else
  some false) : Option (Bool))
  (impl_WordValid a0) := by
  exact fun r h => by
    have e : runC (phi Tb GT sg) Tb GT p5000.code (startAT p5000 (mkST p5000.ins [.int .i64 a0] p5000.bins [])) (finT p5000 s5000) = (
      (bif (decide ((-2147483648) ≤ a0)) then
      some (decide (a0 ≤ 2147483647))
      else
      some false) : Option (Bool)) := by kernel_rfl
    exact fn_le' (sig := s5000) (p := p5000) (by kernel_rfl) (by kernel_rfl) rfl rfl rfl rfl rfl (e.trans h)

theorem impl_areWords_l1_le (t5 : List Int) (t6 : Int) (t7 : Int) : Tv.Le
  ((bif (decide (t7 < t6)) then
  bnd (geti t5 t7) fun e1 =>
  bnd (impl_WordValid e1) fun r2 =>
  (bif (!r2) then
  some (.inr false)
  else
  impl_areWords_l1 t5 t6 (wrap64 (t7 + 1)))
  else
  some (.inl ())) : Option (Unit ⊕ Bool))
  (impl_areWords_l1 t5 t6 t7) := by
  rewrite [← wrapC_eq]
  exact fun r h => by
    have e : runC (phi Tb GT sg) Tb GT p5101.code ((mkST p5101.ins [.sl .share .int t5, .int .i64 t6, .int .i64 t7] p5101.bins [])) (finL Tb GT 5101 p5101 s5101) = (
      (bif (decide (t7 < t6)) then
      bnd (geti t5 t7) fun e1 =>
      bnd (impl_WordValid e1) fun r2 =>
      (bif (!r2) then
      some (.inr false)
      else
      impl_areWords_l1 t5 t6 (wrapC (t7 + 1)))
      else
      some (.inl ())) : Option (Unit ⊕ Bool)) := by kernel_rfl
    exact loop_le' (sig := s5101) (p := p5101) (by kernel_rfl) (by kernel_rfl) rfl rfl rfl (e.trans h)

theorem spec_l92Rooms_p_l1_le (t3 : Hd) (t4 : Int) (t5 : Int) (b0_0 : List Int) (b0_1 : Int) (b99 : List Ent) : Tv.Le
  ((bif (decide (t5 < t4)) then
  bnd (spec_l6Rd_pick 5 b0_0 b0_1) fun r1 =>
  bnd (geti ([1, 1, 2, 3, 4] : List Int) r1.1) fun e2 =>
  bnd (arApp b99 .int t3.id t3.n ([e2] : List Int)) fun B3 =>
  spec_l92Rooms_p_l1 (⟨(some (List.length b99)), (t3.n + List.length ([e2] : List Int))⟩ : Hd) t4 (wrap64 (t5 + 1)) r1.2.1 r1.2.2 B3
  else
  some (t3, b0_0, b0_1, b99)) : Option (Hd × List Int × Int × List Ent))
  (spec_l92Rooms_p_l1 t3 t4 t5 b0_0 b0_1 b99) := by
  rewrite [← wrapC_eq]
  exact fun r h => by
    have e : runC (phi Tb GT sg) Tb GT p40201.code ((mkST p40201.ins [.bp 0 0, .tr .int t3.id t3.n, .int .i64 t4, .int .i64 t5] p40201.bins [.var [.sl .share .u8 b0_0, .int .i64 b0_1], .ar b99])) (finL Tb GT 40201 p40201 s40201) = (
      (bif (decide (t5 < t4)) then
      bnd (spec_l6Rd_pick 5 b0_0 b0_1) fun r1 =>
      bnd (geti ([1, 1, 2, 3, 4] : List Int) r1.1) fun e2 =>
      bnd (arApp b99 .int t3.id t3.n ([e2] : List Int)) fun B3 =>
      spec_l92Rooms_p_l1 (⟨(some (List.length b99)), (t3.n + List.length ([e2] : List Int))⟩ : Hd) t4 (wrapC (t5 + 1)) r1.2.1 r1.2.2 B3
      else
      some (t3, b0_0, b0_1, b99)) : Option (Hd × List Int × Int × List Ent)) := by kernel_rfl
    exact loop_le' (sig := s40201) (p := p40201) (by kernel_rfl) (by kernel_rfl) rfl rfl rfl (e.trans h)

theorem spec_l92Block_p_le (a1 : Int) (a2 : Int) (a3 : Int) (a4 : Bool) (a0b : List Int) (a0p : Int) (A : List Ent) : Tv.Le
  (bnd (spec_l92Block_p_l1 a1 a2 a3 a4 (⟨(some (List.length A)), 0⟩ : Hd) 0 a0b a0p (arPush A .stm ([] : List Stm))) fun r1 =>
  some (r1.1, r1.2.1, r1.2.2.1, r1.2.2.2) : Option (Hd × List Int × Int × List Ent))
  (spec_l92Block_p a1 a2 a3 a4 a0b a0p A) := by
  exact fun r h => by
    have e : runC (phi Tb GT sg) Tb GT p38100.code (startAT p38100 (mkST p38100.ins [.bp 0 0, .int .i64 a1, .int .i64 a2, .int .i64 a3, .bool a4] p38100.bins [.var [.sl .share .u8 a0b, .int .i64 a0p], .ar A])) (finT p38100 s38100) = (
      bnd (spec_l92Block_p_l1 a1 a2 a3 a4 (⟨(some (List.length A)), 0⟩ : Hd) 0 a0b a0p (arPush A .stm ([] : List Stm))) fun r1 =>
      some (r1.1, r1.2.1, r1.2.2.1, r1.2.2.2) : Option (Hd × List Int × Int × List Ent)) := by kernel_rfl
    exact fn_le' (sig := s38100) (p := p38100) (by kernel_rfl) (by kernel_rfl) rfl rfl rfl rfl rfl (e.trans h)

theorem spec_l92Stmts_p_l1_le (t5 : Hd) (b0_0 : List Int) (b0_1 : Int) (b99 : List Ent) : Tv.Le
  (bnd (arView b99 .stm t5.id) fun l1 =>
  bnd (spec_l11Count l1) fun r2 =>
  (bif (decide (16 < r2)) then
  bnd (arCut b99 .stm t5.id t5.n (wrap64 (((t5.n : Nat) : Int) - 1))) fun q3 =>
  spec_l92Stmts_p_l1 (⟨(some (List.length b99)), q3.1⟩ : Hd) b0_0 b0_1 q3.2
  else
  some (t5, b0_0, b0_1, b99)) : Option (Hd × List Int × Int × List Ent))
  (spec_l92Stmts_p_l1 t5 b0_0 b0_1 b99) := by
  rewrite [← wrapC_eq]
  exact fun r h => by
    have e : runC (phi Tb GT sg) Tb GT p38001.code ((mkST p38001.ins [.bp 0 0, .tr .stm t5.id t5.n] p38001.bins [.var [.sl .share .u8 b0_0, .int .i64 b0_1], .ar b99])) (finL Tb GT 38001 p38001 s38001) = (
      bnd (arView b99 .stm t5.id) fun l1 =>
      bnd (spec_l11Count l1) fun r2 =>
      (bif (decide (16 < r2)) then
      bnd (arCut b99 .stm t5.id t5.n (wrapC (((t5.n : Nat) : Int) - 1))) fun q3 =>
      spec_l92Stmts_p_l1 (⟨(some (List.length b99)), q3.1⟩ : Hd) b0_0 b0_1 q3.2
      else
      some (t5, b0_0, b0_1, b99)) : Option (Hd × List Int × Int × List Ent)) := by kernel_rfl
    exact loop_le' (sig := s38001) (p := p38001) (by kernel_rfl) (by kernel_rfl) rfl rfl rfl (e.trans h)

theorem spec_l92Block_le (a1 : Int) (a2 : Int) (a3 : Int) (a4 : Bool) (a0b : List Int) (a0p : Int) : Tv.Le
  (bnd (spec_l92Block_l1 a1 a2 a3 a4 true ([] : List Stm) 0 a0b a0p) fun r1 =>
  some (r1.1.2, r1.2.1, r1.2.2) : Option (List Stm × List Int × Int))
  (spec_l92Block a1 a2 a3 a4 a0b a0p) := by
  exact fun r h => by
    have e : runC (phi Tb GT sg) Tb GT p4600.code (startAT p4600 (mkST p4600.ins [.bp 0 0, .int .i64 a1, .int .i64 a2, .int .i64 a3, .bool a4] p4600.bins [.var [.sl .share .u8 a0b, .int .i64 a0p]])) (finT p4600 s4600) = (
      bnd (spec_l92Block_l1 a1 a2 a3 a4 true ([] : List Stm) 0 a0b a0p) fun r1 =>
      some (r1.1.2, r1.2.1, r1.2.2) : Option (List Stm × List Int × Int)) := by kernel_rfl
    exact fn_le' (sig := s4600) (p := p4600) (by kernel_rfl) (by kernel_rfl) rfl rfl rfl rfl rfl (e.trans h)

theorem impl_stmtValid_le (a0 : Stm) (a1 : Int) : Tv.Le
  ((bif (decide (a0.kind = 1)) then
  bnd (impl_stmtValid_1 a0.var 4 true) fun r1 =>
  (bif (!r1) then
  some false
  else
  bnd (impl_stmtValid_1 a0.box a1 false) fun r2 =>
  (bif (!r2) then
  some false
  else
  bnd (impl_ExprValid (⟨a0.e.op, a0.e.n, a0.e.args⟩ : Exp)) fun r3 =>
  (bif (!r3) then
  some false
  else
  (bif (decide ((a0.body.length : Int) = 0)) then
  some (decide ((a0.els.length : Int) = 0))
  else
  some false))))
  else
  (bif (decide (a0.kind = 2)) then
  bnd (impl_stmtValid_1 a0.var 4 false) fun r4 =>
  (bif (!r4) then
  some false
  else
  bnd (impl_stmtValid_1 a0.box a1 false) fun r5 =>
  (bif (!r5) then
  some false
  else
  bnd (impl_ExprValid (⟨a0.e.op, a0.e.n, a0.e.args⟩ : Exp)) fun r6 =>
  (bif (!r6) then
  some false
  else
  some true)))
  else
  (bif (decide (a0.kind = 3)) then
  bnd (impl_stmtValid_1 a0.var 4 false) fun r7 =>
  (bif (!r7) then
  some false
  else
  bnd (impl_stmtValid_1 a0.box a1 false) fun r8 =>
  (bif (!r8) then
  some false
  else
  bnd (impl_ExprValid (⟨a0.e.op, a0.e.n, a0.e.args⟩ : Exp)) fun r9 =>
  (bif (!r9) then
  some false
  else
  some (decide ((a0.els.length : Int) = 0)))))
  else
  (bif (decide (a0.kind = 4)) then
  bnd (impl_stmtValid_1 a0.var 4 false) fun r10 =>
  (bif (!r10) then
  some false
  else
  bnd (impl_stmtValid_1 a0.box a1 true) fun r11 =>
  (bif (!r11) then
  some false
  else
  (bif (decide (a1 ≤ a0.box)) then
  some false
  else
  bnd (impl_ExprValid (⟨a0.e.op, a0.e.n, a0.e.args⟩ : Exp)) fun r12 =>
  (bif (!r12) then
  some false
  else
  (bif (decide ((a0.body.length : Int) = 0)) then
  some (decide ((a0.els.length : Int) = 0))
  else
  some false)))))
  else
  (bif (decide (a0.kind = 5)) then
  bnd (impl_stmtValid_1 a0.var 4 true) fun r13 =>
  (bif (!r13) then
  some false
  else
  bnd (impl_stmtValid_1 a0.box a1 true) fun r14 =>
  (bif (!r14) then
  some false
  else
  (bif (decide (a1 ≤ a0.box)) then
  some false
  else
  (bif (!decide (a0.e.op = 0)) then
  some false
  else
  (bif (!decide (a0.e.n = 0)) then
  some false
  else
  (bif (decide (0 < (a0.e.args.length : Int))) then
  some false
  else
  (bif (decide ((a0.body.length : Int) = 0)) then
  some (decide ((a0.els.length : Int) = 0))
  else
  some false)))))))
  else
  (bif (decide (a0.kind = 7)) then
  bnd (impl_stmtValid_1 a0.var 4 false) fun r15 =>
  (bif (!r15) then
  some false
  else
  bnd (impl_stmtValid_1 a0.box a1 false) fun r16 =>
  (bif (!r16) then
  some false
  else
  bnd (impl_ExprValid (⟨a0.e.op, a0.e.n, a0.e.args⟩ : Exp)) fun r17 =>
  (bif (!r17) then
  some false
  else
  (bif (decide ((a0.body.length : Int) = 0)) then
  some (decide ((a0.els.length : Int) = 0))
  else
  some false))))
  else
  (bif (decide (a0.kind = 6)) then
  bnd (impl_stmtValid_1 a0.var 4 false) fun r18 =>
  (bif (!r18) then
  some false
  else
  bnd (impl_stmtValid_1 a0.box a1 false) fun r19 =>
  (bif (!r19) then
  some false
  else
  (bif (!decide (a0.e.op = 0)) then
  some false
  else
  (bif (!decide (a0.e.n = 0)) then
  some false
  else
  (bif (decide (0 < (a0.e.args.length : Int))) then
  some false
  else
  (bif (decide ((a0.body.length : Int) = 0)) then
  some (decide ((a0.els.length : Int) = 0))
  else
  some false))))))
  else
  some false))))))) : Option (Bool))
  (impl_stmtValid a0 a1) := by
  exact fun r h => by
    have e : runC (phi Tb GT sg) Tb GT p5200.code (startAT p5200 (mkST p5200.ins [.rp (rowT .stm a0) 0, .int .i64 a1] p5200.bins [])) (finT p5200 s5200) = (
      (bif (decide (a0.kind = 1)) then
      bnd (impl_stmtValid_1 a0.var 4 true) fun r1 =>
      (bif (!r1) then
      some false
      else
      bnd (impl_stmtValid_1 a0.box a1 false) fun r2 =>
      (bif (!r2) then
      some false
      else
      bnd (impl_ExprValid (⟨a0.e.op, a0.e.n, a0.e.args⟩ : Exp)) fun r3 =>
      (bif (!r3) then
      some false
      else
      (bif (decide ((a0.body.length : Int) = 0)) then
      some (decide ((a0.els.length : Int) = 0))
      else
      some false))))
      else
      (bif (decide (a0.kind = 2)) then
      bnd (impl_stmtValid_1 a0.var 4 false) fun r4 =>
      (bif (!r4) then
      some false
      else
      bnd (impl_stmtValid_1 a0.box a1 false) fun r5 =>
      (bif (!r5) then
      some false
      else
      bnd (impl_ExprValid (⟨a0.e.op, a0.e.n, a0.e.args⟩ : Exp)) fun r6 =>
      (bif (!r6) then
      some false
      else
      some true)))
      else
      (bif (decide (a0.kind = 3)) then
      bnd (impl_stmtValid_1 a0.var 4 false) fun r7 =>
      (bif (!r7) then
      some false
      else
      bnd (impl_stmtValid_1 a0.box a1 false) fun r8 =>
      (bif (!r8) then
      some false
      else
      bnd (impl_ExprValid (⟨a0.e.op, a0.e.n, a0.e.args⟩ : Exp)) fun r9 =>
      (bif (!r9) then
      some false
      else
      some (decide ((a0.els.length : Int) = 0)))))
      else
      (bif (decide (a0.kind = 4)) then
      bnd (impl_stmtValid_1 a0.var 4 false) fun r10 =>
      (bif (!r10) then
      some false
      else
      bnd (impl_stmtValid_1 a0.box a1 true) fun r11 =>
      (bif (!r11) then
      some false
      else
      (bif (decide (a1 ≤ a0.box)) then
      some false
      else
      bnd (impl_ExprValid (⟨a0.e.op, a0.e.n, a0.e.args⟩ : Exp)) fun r12 =>
      (bif (!r12) then
      some false
      else
      (bif (decide ((a0.body.length : Int) = 0)) then
      some (decide ((a0.els.length : Int) = 0))
      else
      some false)))))
      else
      (bif (decide (a0.kind = 5)) then
      bnd (impl_stmtValid_1 a0.var 4 true) fun r13 =>
      (bif (!r13) then
      some false
      else
      bnd (impl_stmtValid_1 a0.box a1 true) fun r14 =>
      (bif (!r14) then
      some false
      else
      (bif (decide (a1 ≤ a0.box)) then
      some false
      else
      (bif (!decide (a0.e.op = 0)) then
      some false
      else
      (bif (!decide (a0.e.n = 0)) then
      some false
      else
      (bif (decide (0 < (a0.e.args.length : Int))) then
      some false
      else
      (bif (decide ((a0.body.length : Int) = 0)) then
      some (decide ((a0.els.length : Int) = 0))
      else
      some false)))))))
      else
      (bif (decide (a0.kind = 7)) then
      bnd (impl_stmtValid_1 a0.var 4 false) fun r15 =>
      (bif (!r15) then
      some false
      else
      bnd (impl_stmtValid_1 a0.box a1 false) fun r16 =>
      (bif (!r16) then
      some false
      else
      bnd (impl_ExprValid (⟨a0.e.op, a0.e.n, a0.e.args⟩ : Exp)) fun r17 =>
      (bif (!r17) then
      some false
      else
      (bif (decide ((a0.body.length : Int) = 0)) then
      some (decide ((a0.els.length : Int) = 0))
      else
      some false))))
      else
      (bif (decide (a0.kind = 6)) then
      bnd (impl_stmtValid_1 a0.var 4 false) fun r18 =>
      (bif (!r18) then
      some false
      else
      bnd (impl_stmtValid_1 a0.box a1 false) fun r19 =>
      (bif (!r19) then
      some false
      else
      (bif (!decide (a0.e.op = 0)) then
      some false
      else
      (bif (!decide (a0.e.n = 0)) then
      some false
      else
      (bif (decide (0 < (a0.e.args.length : Int))) then
      some false
      else
      (bif (decide ((a0.body.length : Int) = 0)) then
      some (decide ((a0.els.length : Int) = 0))
      else
      some false))))))
      else
      some false))))))) : Option (Bool)) := by kernel_rfl
    exact fn_le' (sig := s5200) (p := p5200) (by kernel_rfl) (by kernel_rfl) rfl rfl rfl rfl rfl (e.trans h)

theorem impl_blockValid_l1_le (t0 : List Stm) (t1 : Int) (t2 : Int) (t23 : Int) (t24 : Int) (b0_0 : Int) : Tv.Le
  ((bif (decide (t24 < t23)) then
  bnd (geti t0 t24) fun e1 =>
  bnd (impl_stmtValid (⟨e1.kind, e1.var, e1.box, ⟨e1.e.op, e1.e.n, e1.e.args⟩, e1.body, e1.els⟩ : Stm) t1) fun r2 =>
  (bif (!r2) then
  some (.inr (false, b0_0))
  else
  (bif (decide (3 < t2)) then
  some (.inr (false, b0_0))
  else
  (bif (!decide (e1.kind = 2)) then
  (bif (!decide (e1.kind = 3)) then
  impl_blockValid_l1 t0 t1 t2 t23 (wrap64 (t24 + 1)) b0_0
  else
  (bif (decide (3 ≤ t2)) then
  some (.inr (false, b0_0))
  else
  bnd (impl_blockValid e1.body t1 (wrap64 (t2 + 1)) b0_0) fun r3 =>
  (bif (!r3.1) then
  some (.inr (false, r3.2))
  else
  bnd (impl_blockValid e1.els t1 (wrap64 (t2 + 1)) r3.2) fun r4 =>
  (bif (!r4.1) then
  some (.inr (false, r4.2))
  else
  impl_blockValid_l1 t0 t1 t2 t23 (wrap64 (t24 + 1)) r4.2))))
  else
  (bif (decide (3 ≤ t2)) then
  some (.inr (false, b0_0))
  else
  bnd (impl_blockValid e1.body t1 (wrap64 (t2 + 1)) b0_0) fun r5 =>
  (bif (!r5.1) then
  some (.inr (false, r5.2))
  else
  bnd (impl_blockValid e1.els t1 (wrap64 (t2 + 1)) r5.2) fun r6 =>
  (bif (!r6.1) then
  some (.inr (false, r6.2))
  else
  impl_blockValid_l1 t0 t1 t2 t23 (wrap64 (t24 + 1)) r6.2))))))
  else
  some (.inl b0_0)) : Option (Int ⊕ (Bool × Int)))
  (impl_blockValid_l1 t0 t1 t2 t23 t24 b0_0) := by
  rewrite [← wrapC_eq]
  exact fun r h => by
    have e : runC (phi Tb GT sg) Tb GT p5301.code ((mkST p5301.ins [.sl .share .stm t0, .int .i64 t1, .int .i64 t2, .bp 0 0, .int .i64 t23, .int .i64 t24] p5301.bins [.var [.int .i64 b0_0]])) (finL Tb GT 5301 p5301 s5301) = (
      (bif (decide (t24 < t23)) then
      bnd (geti t0 t24) fun e1 =>
      bnd (impl_stmtValid (⟨e1.kind, e1.var, e1.box, ⟨e1.e.op, e1.e.n, e1.e.args⟩, e1.body, e1.els⟩ : Stm) t1) fun r2 =>
      (bif (!r2) then
      some (.inr (false, b0_0))
      else
      (bif (decide (3 < t2)) then
      some (.inr (false, b0_0))
      else
      (bif (!decide (e1.kind = 2)) then
      (bif (!decide (e1.kind = 3)) then
      impl_blockValid_l1 t0 t1 t2 t23 (wrapC (t24 + 1)) b0_0
      else
      (bif (decide (3 ≤ t2)) then
      some (.inr (false, b0_0))
      else
      bnd (impl_blockValid e1.body t1 (wrapC (t2 + 1)) b0_0) fun r3 =>
      (bif (!r3.1) then
      some (.inr (false, r3.2))
      else
      bnd (impl_blockValid e1.els t1 (wrapC (t2 + 1)) r3.2) fun r4 =>
      (bif (!r4.1) then
      some (.inr (false, r4.2))
      else
      impl_blockValid_l1 t0 t1 t2 t23 (wrapC (t24 + 1)) r4.2))))
      else
      (bif (decide (3 ≤ t2)) then
      some (.inr (false, b0_0))
      else
      bnd (impl_blockValid e1.body t1 (wrapC (t2 + 1)) b0_0) fun r5 =>
      (bif (!r5.1) then
      some (.inr (false, r5.2))
      else
      bnd (impl_blockValid e1.els t1 (wrapC (t2 + 1)) r5.2) fun r6 =>
      (bif (!r6.1) then
      some (.inr (false, r6.2))
      else
      impl_blockValid_l1 t0 t1 t2 t23 (wrapC (t24 + 1)) r6.2))))))
      else
      some (.inl b0_0)) : Option (Int ⊕ (Bool × Int))) := by kernel_rfl
    exact loop_le' (sig := s5301) (p := p5301) (by kernel_rfl) (by kernel_rfl) rfl rfl rfl (e.trans h)

theorem spec_l11Ok_le (a0 : Stm) (a1 : Int) : Tv.Le
  ((bif (!decide (a0.kind = 2)) then
  (bif (!decide (a0.kind = 3)) then
  bnd (spec_l11Simple (⟨a0.kind, a0.var, a0.box, ⟨a0.e.op, a0.e.n, a0.e.args⟩, a0.body, a0.els⟩ : Stm)) fun r1 =>
  some r1
  else
  (bif (decide (a1 < 1)) then
  some false
  else
  (bif (decide (a0.kind = 3)) then
  (bif (decide (0 < (a0.els.length : Int))) then
  some false
  else
  bnd (spec_l11Var (⟨a0.kind, a0.var, a0.box, ⟨a0.e.op, a0.e.n, a0.e.args⟩, a0.body, a0.els⟩ : Stm) false) fun r2 =>
  (bif r2 then
  bnd (spec_l11Box (⟨a0.kind, a0.var, a0.box, ⟨a0.e.op, a0.e.n, a0.e.args⟩, a0.body, a0.els⟩ : Stm) false) fun r3 =>
  (bif r3 then
  bnd (spec_ExprValid (⟨a0.e.op, a0.e.n, a0.e.args⟩ : Exp)) fun r4 =>
  (bif r4 then
  bnd (spec_l11Blocks a0.body (wrap64 (a1 - 1))) fun r5 =>
  (bif r5 then
  bnd (spec_l11Blocks a0.els (wrap64 (a1 - 1))) fun r6 =>
  some r6
  else
  some false)
  else
  some false)
  else
  some false)
  else
  some false))
  else
  bnd (spec_l11Var (⟨a0.kind, a0.var, a0.box, ⟨a0.e.op, a0.e.n, a0.e.args⟩, a0.body, a0.els⟩ : Stm) false) fun r7 =>
  (bif r7 then
  bnd (spec_l11Box (⟨a0.kind, a0.var, a0.box, ⟨a0.e.op, a0.e.n, a0.e.args⟩, a0.body, a0.els⟩ : Stm) false) fun r8 =>
  (bif r8 then
  bnd (spec_ExprValid (⟨a0.e.op, a0.e.n, a0.e.args⟩ : Exp)) fun r9 =>
  (bif r9 then
  bnd (spec_l11Blocks a0.body (wrap64 (a1 - 1))) fun r10 =>
  (bif r10 then
  bnd (spec_l11Blocks a0.els (wrap64 (a1 - 1))) fun r11 =>
  some r11
  else
  some false)
  else
  some false)
  else
  some false)
  else
  some false))))
  else
  (bif (decide (a1 < 1)) then
  some false
  else
  (bif (decide (a0.kind = 3)) then
  (bif (decide (0 < (a0.els.length : Int))) then
  some false
  else
  bnd (spec_l11Var (⟨a0.kind, a0.var, a0.box, ⟨a0.e.op, a0.e.n, a0.e.args⟩, a0.body, a0.els⟩ : Stm) false) fun r12 =>
  (bif r12 then
  bnd (spec_l11Box (⟨a0.kind, a0.var, a0.box, ⟨a0.e.op, a0.e.n, a0.e.args⟩, a0.body, a0.els⟩ : Stm) false) fun r13 =>
  (bif r13 then
  bnd (spec_ExprValid (⟨a0.e.op, a0.e.n, a0.e.args⟩ : Exp)) fun r14 =>
  (bif r14 then
  bnd (spec_l11Blocks a0.body (wrap64 (a1 - 1))) fun r15 =>
  (bif r15 then
  bnd (spec_l11Blocks a0.els (wrap64 (a1 - 1))) fun r16 =>
  some r16
  else
  some false)
  else
  some false)
  else
  some false)
  else
  some false))
  else
  bnd (spec_l11Var (⟨a0.kind, a0.var, a0.box, ⟨a0.e.op, a0.e.n, a0.e.args⟩, a0.body, a0.els⟩ : Stm) false) fun r17 =>
  (bif r17 then
  bnd (spec_l11Box (⟨a0.kind, a0.var, a0.box, ⟨a0.e.op, a0.e.n, a0.e.args⟩, a0.body, a0.els⟩ : Stm) false) fun r18 =>
  (bif r18 then
  bnd (spec_ExprValid (⟨a0.e.op, a0.e.n, a0.e.args⟩ : Exp)) fun r19 =>
  (bif r19 then
  bnd (spec_l11Blocks a0.body (wrap64 (a1 - 1))) fun r20 =>
  (bif r20 then
  bnd (spec_l11Blocks a0.els (wrap64 (a1 - 1))) fun r21 =>
  some r21
  else
  some false)
  else
  some false)
  else
  some false)
  else
  some false)))) : Option (Bool))
  (spec_l11Ok a0 a1) := by
  rewrite [← wrapC_eq]
  exact fun r h => by
    have e : runC (phi Tb GT sg) Tb GT p6100.code (startAT p6100 (mkST p6100.ins [.agg (rowT .stm a0), .int .i64 a1] p6100.bins [])) (finT p6100 s6100) = (
      (bif (!decide (a0.kind = 2)) then
      (bif (!decide (a0.kind = 3)) then
      bnd (spec_l11Simple (⟨a0.kind, a0.var, a0.box, ⟨a0.e.op, a0.e.n, a0.e.args⟩, a0.body, a0.els⟩ : Stm)) fun r1 =>
      some r1
      else
      (bif (decide (a1 < 1)) then
      some false
      else
      (bif (decide (a0.kind = 3)) then
      (bif (decide (0 < (a0.els.length : Int))) then
      some false
      else
      bnd (spec_l11Var (⟨a0.kind, a0.var, a0.box, ⟨a0.e.op, a0.e.n, a0.e.args⟩, a0.body, a0.els⟩ : Stm) false) fun r2 =>
      (bif r2 then
      bnd (spec_l11Box (⟨a0.kind, a0.var, a0.box, ⟨a0.e.op, a0.e.n, a0.e.args⟩, a0.body, a0.els⟩ : Stm) false) fun r3 =>
      (bif r3 then
      bnd (spec_ExprValid (⟨a0.e.op, a0.e.n, a0.e.args⟩ : Exp)) fun r4 =>
      (bif r4 then
      bnd (spec_l11Blocks a0.body (wrapC (a1 - 1))) fun r5 =>
      (bif r5 then
      bnd (spec_l11Blocks a0.els (wrapC (a1 - 1))) fun r6 =>
      some r6
      else
      some false)
      else
      some false)
      else
      some false)
      else
      some false))
      else
      bnd (spec_l11Var (⟨a0.kind, a0.var, a0.box, ⟨a0.e.op, a0.e.n, a0.e.args⟩, a0.body, a0.els⟩ : Stm) false) fun r7 =>
      (bif r7 then
      bnd (spec_l11Box (⟨a0.kind, a0.var, a0.box, ⟨a0.e.op, a0.e.n, a0.e.args⟩, a0.body, a0.els⟩ : Stm) false) fun r8 =>
      (bif r8 then
      bnd (spec_ExprValid (⟨a0.e.op, a0.e.n, a0.e.args⟩ : Exp)) fun r9 =>
      (bif r9 then
      bnd (spec_l11Blocks a0.body (wrapC (a1 - 1))) fun r10 =>
      (bif r10 then
      bnd (spec_l11Blocks a0.els (wrapC (a1 - 1))) fun r11 =>
      some r11
      else
      some false)
      else
      some false)
      else
      some false)
      else
      some false))))
      else
      (bif (decide (a1 < 1)) then
      some false
      else
      (bif (decide (a0.kind = 3)) then
      (bif (decide (0 < (a0.els.length : Int))) then
      some false
      else
      bnd (spec_l11Var (⟨a0.kind, a0.var, a0.box, ⟨a0.e.op, a0.e.n, a0.e.args⟩, a0.body, a0.els⟩ : Stm) false) fun r12 =>
      (bif r12 then
      bnd (spec_l11Box (⟨a0.kind, a0.var, a0.box, ⟨a0.e.op, a0.e.n, a0.e.args⟩, a0.body, a0.els⟩ : Stm) false) fun r13 =>
      (bif r13 then
      bnd (spec_ExprValid (⟨a0.e.op, a0.e.n, a0.e.args⟩ : Exp)) fun r14 =>
      (bif r14 then
      bnd (spec_l11Blocks a0.body (wrapC (a1 - 1))) fun r15 =>
      (bif r15 then
      bnd (spec_l11Blocks a0.els (wrapC (a1 - 1))) fun r16 =>
      some r16
      else
      some false)
      else
      some false)
      else
      some false)
      else
      some false))
      else
      bnd (spec_l11Var (⟨a0.kind, a0.var, a0.box, ⟨a0.e.op, a0.e.n, a0.e.args⟩, a0.body, a0.els⟩ : Stm) false) fun r17 =>
      (bif r17 then
      bnd (spec_l11Box (⟨a0.kind, a0.var, a0.box, ⟨a0.e.op, a0.e.n, a0.e.args⟩, a0.body, a0.els⟩ : Stm) false) fun r18 =>
      (bif r18 then
      bnd (spec_ExprValid (⟨a0.e.op, a0.e.n, a0.e.args⟩ : Exp)) fun r19 =>
      (bif r19 then
      bnd (spec_l11Blocks a0.body (wrapC (a1 - 1))) fun r20 =>
      (bif r20 then
      bnd (spec_l11Blocks a0.els (wrapC (a1 - 1))) fun r21 =>
      some r21
      else
      some false)
      else
      some false)
      else
      some false)
      else
      some false)))) : Option (Bool)) := by kernel_rfl
    exact fn_le' (sig := s6100) (p := p6100) (by kernel_rfl) (by kernel_rfl) rfl rfl rfl rfl rfl (e.trans h)

theorem spec_l11Blocks_l1_le (t0 : List Stm) (t1 : Int) (t5 : Int) : Tv.Le
  ((bif (decide (t5 < (t0.length : Int))) then
  bnd (geti t0 t5) fun e1 =>
  bnd (spec_l11Ok (⟨e1.kind, e1.var, e1.box, ⟨e1.e.op, e1.e.n, e1.e.args⟩, e1.body, e1.els⟩ : Stm) t1) fun r2 =>
  (bif (!r2) then
  some (.inr false)
  else
  spec_l11Blocks_l1 t0 t1 (wrap64 (t5 + 1)))
  else
  some (.inl ())) : Option (Unit ⊕ Bool))
  (spec_l11Blocks_l1 t0 t1 t5) := by
  rewrite [← wrapC_eq]
  exact fun r h => by
    have e : runC (phi Tb GT sg) Tb GT p6201.code ((mkST p6201.ins [.sl .share .stm t0, .int .i64 t1, .int .i64 t5] p6201.bins [])) (finL Tb GT 6201 p6201 s6201) = (
      (bif (decide (t5 < (t0.length : Int))) then
      bnd (geti t0 t5) fun e1 =>
      bnd (spec_l11Ok (⟨e1.kind, e1.var, e1.box, ⟨e1.e.op, e1.e.n, e1.e.args⟩, e1.body, e1.els⟩ : Stm) t1) fun r2 =>
      (bif (!r2) then
      some (.inr false)
      else
      spec_l11Blocks_l1 t0 t1 (wrapC (t5 + 1)))
      else
      some (.inl ())) : Option (Unit ⊕ Bool)) := by kernel_rfl
    exact loop_le' (sig := s6201) (p := p6201) (by kernel_rfl) (by kernel_rfl) rfl rfl rfl (e.trans h)

theorem spec_l11Count_l1_le (t0 : List Stm) (t3 : Int) (t4 : Int) : Tv.Le
  ((bif (decide (t4 < (t0.length : Int))) then
  bnd (geti t0 t4) fun e1 =>
  bnd (spec_l11Count e1.body) fun r2 =>
  bnd (geti t0 t4) fun e3 =>
  bnd (spec_l11Count e3.els) fun r4 =>
  spec_l11Count_l1 t0 (wrap64 ((wrap64 ((wrap64 (t3 + 1)) + r2)) + r4)) (wrap64 (t4 + 1))
  else
  some t3) : Option (Int))
  (spec_l11Count_l1 t0 t3 t4) := by
  rewrite [← wrapC_eq]
  exact fun r h => by
    have e : runC (phi Tb GT sg) Tb GT p4001.code ((mkST p4001.ins [.sl .share .stm t0, .int .i64 t3, .int .i64 t4] p4001.bins [])) (finL Tb GT 4001 p4001 s4001) = (
      (bif (decide (t4 < (t0.length : Int))) then
      bnd (geti t0 t4) fun e1 =>
      bnd (spec_l11Count e1.body) fun r2 =>
      bnd (geti t0 t4) fun e3 =>
      bnd (spec_l11Count e3.els) fun r4 =>
      spec_l11Count_l1 t0 (wrapC ((wrapC ((wrapC (t3 + 1)) + r2)) + r4)) (wrapC (t4 + 1))
      else
      some t3) : Option (Int)) := by kernel_rfl
    exact loop_le' (sig := s4001) (p := p4001) (by kernel_rfl) (by kernel_rfl) rfl rfl rfl (e.trans h)

theorem spec_l4Both_le (a0 : Int) (a1 : Exp) (a2 : Exp) : Tv.Le
  (some (a0, 0, (.full, ([⟨a1.op, a1.n, a1.args⟩, ⟨a2.op, a2.n, a2.args⟩] : List Exp))) : Option (Int × Int × (Md × List Exp)))
  (spec_l4Both a0 a1 a2) := by
  exact fun r h => by
    have e : runC (phi Tb GT sg) Tb GT p500.code (startAT p500 (mkST p500.ins [.int .i64 a0, .agg (rowT .exp a1), .agg (rowT .exp a2)] p500.bins [])) (finT p500 s500) = (
      some (a0, 0, (.full, ([⟨a1.op, a1.n, a1.args⟩, ⟨a2.op, a2.n, a2.args⟩] : List Exp))) : Option (Int × Int × (Md × List Exp))) := by kernel_rfl
    exact fn_le' (sig := s500) (p := p500) (by kernel_rfl) (by kernel_rfl) rfl rfl rfl rfl rfl (e.trans h)

theorem spec_l92Stmt_le (a1 : Int) (a2 : Int) (a3 : Bool) (a0b : List Int) (a0p : Int) : Tv.Le
  (bnd (spec_l6Rd_pick 10 a0b a0p) fun r1 =>
  (bif (decide (r1.1 = 0)) then
  bnd (spec_l92Set r1.2.1 r1.2.2) fun r2 =>
  some (([⟨r2.1.kind, r2.1.var, r2.1.box, ⟨r2.1.e.op, r2.1.e.n, r2.1.e.args⟩, r2.1.body, r2.1.els⟩] : List Stm), r2.2.1, r2.2.2)
  else
  (bif (decide (r1.1 = 1)) then
  bnd (spec_l92Set r1.2.1 r1.2.2) fun r3 =>
  some (([⟨r3.1.kind, r3.1.var, r3.1.box, ⟨r3.1.e.op, r3.1.e.n, r3.1.e.args⟩, r3.1.body, r3.1.els⟩] : List Stm), r3.2.1, r3.2.2)
  else
  (bif (decide (r1.1 = 2)) then
  (bif (decide (0 < a2)) then
  bnd (spec_l92If a1 a2 a3 r1.2.1 r1.2.2) fun r4 =>
  some (([⟨r4.1.kind, r4.1.var, r4.1.box, ⟨r4.1.e.op, r4.1.e.n, r4.1.e.args⟩, r4.1.body, r4.1.els⟩] : List Stm), r4.2.1, r4.2.2)
  else
  bnd (spec_l6Rd_pick 3 r1.2.1 r1.2.2) fun r5 =>
  bnd (spec_l91Expr (wrap64 (1 + r5.1)) r5.2.1 r5.2.2) fun r6 =>
  some (([⟨7, 0, 0, ⟨r6.1, r6.2.1, r6.2.2.1.2⟩, [], []⟩] : List Stm), r6.2.2.2.1, r6.2.2.2.2))
  else
  (bif (decide (r1.1 = 3)) then
  (bif (decide (0 < a2)) then
  (bif a3 then
  bnd (spec_l92Loop a1 a2 r1.2.1 r1.2.2) fun r7 =>
  some (r7.1, r7.2.1, r7.2.2)
  else
  bnd (spec_l6Rd_pick 3 r1.2.1 r1.2.2) fun r8 =>
  bnd (spec_l91Expr (wrap64 (1 + r8.1)) r8.2.1 r8.2.2) fun r9 =>
  some (([⟨7, 0, 0, ⟨r9.1, r9.2.1, r9.2.2.1.2⟩, [], []⟩] : List Stm), r9.2.2.2.1, r9.2.2.2.2))
  else
  bnd (spec_l6Rd_pick 3 r1.2.1 r1.2.2) fun r10 =>
  bnd (spec_l91Expr (wrap64 (1 + r10.1)) r10.2.1 r10.2.2) fun r11 =>
  some (([⟨7, 0, 0, ⟨r11.1, r11.2.1, r11.2.2.1.2⟩, [], []⟩] : List Stm), r11.2.2.2.1, r11.2.2.2.2))
  else
  (bif (decide (r1.1 = 4)) then
  bnd (spec_l92Talk a1 r1.2.1 r1.2.2) fun r12 =>
  some (([⟨r12.1.kind, r12.1.var, r12.1.box, ⟨r12.1.e.op, r12.1.e.n, r12.1.e.args⟩, r12.1.body, r12.1.els⟩] : List Stm), r12.2.1, r12.2.2)
  else
  (bif (decide (r1.1 = 5)) then
  bnd (spec_l92Talk a1 r1.2.1 r1.2.2) fun r13 =>
  some (([⟨r13.1.kind, r13.1.var, r13.1.box, ⟨r13.1.e.op, r13.1.e.n, r13.1.e.args⟩, r13.1.body, r13.1.els⟩] : List Stm), r13.2.1, r13.2.2)
  else
  (bif (decide (r1.1 = 6)) then
  bnd (spec_l92Talk a1 r1.2.1 r1.2.2) fun r14 =>
  some (([⟨r14.1.kind, r14.1.var, r14.1.box, ⟨r14.1.e.op, r14.1.e.n, r14.1.e.args⟩, r14.1.body, r14.1.els⟩] : List Stm), r14.2.1, r14.2.2)
  else
  (bif (decide (r1.1 = 7)) then
  some (([⟨6, 0, 0, ⟨0, 0, []⟩, [], []⟩] : List Stm), r1.2.1, r1.2.2)
  else
  bnd (spec_l6Rd_pick 3 r1.2.1 r1.2.2) fun r15 =>
  bnd (spec_l91Expr (wrap64 (1 + r15.1)) r15.2.1 r15.2.2) fun r16 =>
  some (([⟨7, 0, 0, ⟨r16.1, r16.2.1, r16.2.2.1.2⟩, [], []⟩] : List Stm), r16.2.2.2.1, r16.2.2.2.2))))))))) : Option (List Stm × List Int × Int))
  (spec_l92Stmt a1 a2 a3 a0b a0p) := by
  rewrite [← wrapC_eq]
  exact fun r h => by
    have e : runC (phi Tb GT sg) Tb GT p4500.code (startAT p4500 (mkST p4500.ins [.bp 0 0, .int .i64 a1, .int .i64 a2, .bool a3] p4500.bins [.var [.sl .share .u8 a0b, .int .i64 a0p]])) (finT p4500 s4500) = (
      bnd (spec_l6Rd_pick 10 a0b a0p) fun r1 =>
      (bif (decide (r1.1 = 0)) then
      bnd (spec_l92Set r1.2.1 r1.2.2) fun r2 =>
      some (([⟨r2.1.kind, r2.1.var, r2.1.box, ⟨r2.1.e.op, r2.1.e.n, r2.1.e.args⟩, r2.1.body, r2.1.els⟩] : List Stm), r2.2.1, r2.2.2)
      else
      (bif (decide (r1.1 = 1)) then
      bnd (spec_l92Set r1.2.1 r1.2.2) fun r3 =>
      some (([⟨r3.1.kind, r3.1.var, r3.1.box, ⟨r3.1.e.op, r3.1.e.n, r3.1.e.args⟩, r3.1.body, r3.1.els⟩] : List Stm), r3.2.1, r3.2.2)
      else
      (bif (decide (r1.1 = 2)) then
      (bif (decide (0 < a2)) then
      bnd (spec_l92If a1 a2 a3 r1.2.1 r1.2.2) fun r4 =>
      some (([⟨r4.1.kind, r4.1.var, r4.1.box, ⟨r4.1.e.op, r4.1.e.n, r4.1.e.args⟩, r4.1.body, r4.1.els⟩] : List Stm), r4.2.1, r4.2.2)
      else
      bnd (spec_l6Rd_pick 3 r1.2.1 r1.2.2) fun r5 =>
      bnd (spec_l91Expr (wrapC (1 + r5.1)) r5.2.1 r5.2.2) fun r6 =>
      some (([⟨7, 0, 0, ⟨r6.1, r6.2.1, r6.2.2.1.2⟩, [], []⟩] : List Stm), r6.2.2.2.1, r6.2.2.2.2))
      else
      (bif (decide (r1.1 = 3)) then
      (bif (decide (0 < a2)) then
      (bif a3 then
      bnd (spec_l92Loop a1 a2 r1.2.1 r1.2.2) fun r7 =>
      some (r7.1, r7.2.1, r7.2.2)
      else
      bnd (spec_l6Rd_pick 3 r1.2.1 r1.2.2) fun r8 =>
      bnd (spec_l91Expr (wrapC (1 + r8.1)) r8.2.1 r8.2.2) fun r9 =>
      some (([⟨7, 0, 0, ⟨r9.1, r9.2.1, r9.2.2.1.2⟩, [], []⟩] : List Stm), r9.2.2.2.1, r9.2.2.2.2))
      else
      bnd (spec_l6Rd_pick 3 r1.2.1 r1.2.2) fun r10 =>
      bnd (spec_l91Expr (wrapC (1 + r10.1)) r10.2.1 r10.2.2) fun r11 =>
      some (([⟨7, 0, 0, ⟨r11.1, r11.2.1, r11.2.2.1.2⟩, [], []⟩] : List Stm), r11.2.2.2.1, r11.2.2.2.2))
      else
      (bif (decide (r1.1 = 4)) then
      bnd (spec_l92Talk a1 r1.2.1 r1.2.2) fun r12 =>
      some (([⟨r12.1.kind, r12.1.var, r12.1.box, ⟨r12.1.e.op, r12.1.e.n, r12.1.e.args⟩, r12.1.body, r12.1.els⟩] : List Stm), r12.2.1, r12.2.2)
      else
      (bif (decide (r1.1 = 5)) then
      bnd (spec_l92Talk a1 r1.2.1 r1.2.2) fun r13 =>
      some (([⟨r13.1.kind, r13.1.var, r13.1.box, ⟨r13.1.e.op, r13.1.e.n, r13.1.e.args⟩, r13.1.body, r13.1.els⟩] : List Stm), r13.2.1, r13.2.2)
      else
      (bif (decide (r1.1 = 6)) then
      bnd (spec_l92Talk a1 r1.2.1 r1.2.2) fun r14 =>
      some (([⟨r14.1.kind, r14.1.var, r14.1.box, ⟨r14.1.e.op, r14.1.e.n, r14.1.e.args⟩, r14.1.body, r14.1.els⟩] : List Stm), r14.2.1, r14.2.2)
      else
      (bif (decide (r1.1 = 7)) then
      some (([⟨6, 0, 0, ⟨0, 0, []⟩, [], []⟩] : List Stm), r1.2.1, r1.2.2)
      else
      bnd (spec_l6Rd_pick 3 r1.2.1 r1.2.2) fun r15 =>
      bnd (spec_l91Expr (wrapC (1 + r15.1)) r15.2.1 r15.2.2) fun r16 =>
      some (([⟨7, 0, 0, ⟨r16.1, r16.2.1, r16.2.2.1.2⟩, [], []⟩] : List Stm), r16.2.2.2.1, r16.2.2.2.2))))))))) : Option (List Stm × List Int × Int)) := by kernel_rfl
    exact fn_le' (sig := s4500) (p := p4500) (by kernel_rfl) (by kernel_rfl) rfl rfl rfl rfl rfl (e.trans h)

theorem spec_l92Block_p_l1_le (t1 : Int) (t2 : Int) (t3 : Int) (t4 : Bool) (t11 : Hd) (t12 : Int) (b0_0 : List Int) (b0_1 : Int) (b99 : List Ent) : Tv.Le
  ((bif (decide (t12 < t3)) then
  bnd (spec_l92Stmt t1 t2 t4 b0_0 b0_1) fun r1 =>
  bnd (arApp b99 .stm t11.id t11.n r1.1) fun B2 =>
  spec_l92Block_p_l1 t1 t2 t3 t4 (⟨(some (List.length b99)), (t11.n + List.length r1.1)⟩ : Hd) (wrap64 (t12 + 1)) r1.2.1 r1.2.2 B2
  else
  some (t11, b0_0, b0_1, b99)) : Option (Hd × List Int × Int × List Ent))
  (spec_l92Block_p_l1 t1 t2 t3 t4 t11 t12 b0_0 b0_1 b99) := by
  rewrite [← wrapC_eq]
  exact fun r h => by
    have e : runC (phi Tb GT sg) Tb GT p38101.code ((mkST p38101.ins [.bp 0 0, .int .i64 t1, .int .i64 t2, .int .i64 t3, .bool t4, .tr .stm t11.id t11.n, .int .i64 t12] p38101.bins [.var [.sl .share .u8 b0_0, .int .i64 b0_1], .ar b99])) (finL Tb GT 38101 p38101 s38101) = (
      (bif (decide (t12 < t3)) then
      bnd (spec_l92Stmt t1 t2 t4 b0_0 b0_1) fun r1 =>
      bnd (arApp b99 .stm t11.id t11.n r1.1) fun B2 =>
      spec_l92Block_p_l1 t1 t2 t3 t4 (⟨(some (List.length b99)), (t11.n + List.length r1.1)⟩ : Hd) (wrapC (t12 + 1)) r1.2.1 r1.2.2 B2
      else
      some (t11, b0_0, b0_1, b99)) : Option (Hd × List Int × Int × List Ent)) := by kernel_rfl
    exact loop_le' (sig := s38101) (p := p38101) (by kernel_rfl) (by kernel_rfl) rfl rfl rfl (e.trans h)

theorem spec_l92Block_l1_le (t1 : Int) (t2 : Int) (t3 : Int) (t4 : Bool) (t11b : Bool) (t11 : List Stm) (t12 : Int) (b0_0 : List Int) (b0_1 : Int) : Tv.Le
  ((bif (decide (t12 < t3)) then
  bnd (spec_l92Stmt t1 t2 t4 b0_0 b0_1) fun r1 =>
  bnd (appL t11 r1.1) fun l2 =>
  spec_l92Block_l1 t1 t2 t3 t4 true l2 (wrap64 (t12 + 1)) r1.2.1 r1.2.2
  else
  some ((t11b, t11), b0_0, b0_1)) : Option ((Bool × List Stm) × List Int × Int))
  (spec_l92Block_l1 t1 t2 t3 t4 t11b t11 t12 b0_0 b0_1) := by
  rewrite [← wrapC_eq]
  exact fun r h => by
    have e : runC (phi Tb GT sg) Tb GT p4601.code ((mkST p4601.ins [.bp 0 0, .int .i64 t1, .int .i64 t2, .int .i64 t3, .bool t4, .sl (.own t11b) .stm t11, .int .i64 t12] p4601.bins [.var [.sl .share .u8 b0_0, .int .i64 b0_1]])) (finL Tb GT 4601 p4601 s4601) = (
      (bif (decide (t12 < t3)) then
      bnd (spec_l92Stmt t1 t2 t4 b0_0 b0_1) fun r1 =>
      bnd (appL t11 r1.1) fun l2 =>
      spec_l92Block_l1 t1 t2 t3 t4 true l2 (wrapC (t12 + 1)) r1.2.1 r1.2.2
      else
      some ((t11b, t11), b0_0, b0_1)) : Option ((Bool × List Stm) × List Int × Int)) := by kernel_rfl
    exact loop_le' (sig := s4601) (p := p4601) (by kernel_rfl) (by kernel_rfl) rfl rfl rfl (e.trans h)

theorem impl_stmtValid_1_le (a0 : Int) (a1 : Int) (a2 : Bool) : Tv.Le
  ((bif (decide (a0 = 0)) then
  some true
  else
  (bif a2 then
  (bif (decide (0 < a0)) then
  some (decide (a0 < a1))
  else
  some false)
  else
  some false)) : Option (Bool))
  (impl_stmtValid_1 a0 a1 a2) := by
  exact fun r h => by
    have e : runC (phi Tb GT sg) Tb GT p11100.code (startAT p11100 (mkST p11100.ins [.int .i64 a0, .int .i64 a1, .bool a2] p11100.bins [])) (finT p11100 s11100) = (
      (bif (decide (a0 = 0)) then
      some true
      else
      (bif a2 then
      (bif (decide (0 < a0)) then
      some (decide (a0 < a1))
      else
      some false)
      else
      some false)) : Option (Bool)) := by kernel_rfl
    exact fn_le' (sig := s11100) (p := p11100) (by kernel_rfl) (by kernel_rfl) rfl rfl rfl rfl rfl (e.trans h)

theorem impl_ExprValid_le (a0 : Exp) : Tv.Le
  (bnd (impl_exprValid (⟨a0.op, a0.n, a0.args⟩ : Exp) 5) fun r1 =>
  some r1 : Option (Bool))
  (impl_ExprValid a0) := by
  exact fun r h => by
    have e : runC (phi Tb GT sg) Tb GT p1200.code (startAT p1200 (mkST p1200.ins [.agg (rowT .exp a0)] p1200.bins [])) (finT p1200 s1200) = (
      bnd (impl_exprValid (⟨a0.op, a0.n, a0.args⟩ : Exp) 5) fun r1 =>
      some r1 : Option (Bool)) := by kernel_rfl
    exact fn_le' (sig := s1200) (p := p1200) (by kernel_rfl) (by kernel_rfl) rfl rfl rfl rfl rfl (e.trans h)

theorem spec_l11Simple_le (a0 : Stm) : Tv.Le
  ((bif (decide (0 < (a0.body.length : Int))) then
  some false
  else
  (bif (decide (0 < (a0.els.length : Int))) then
  some false
  else
  (bif (decide (a0.kind = 1)) then
  bnd (spec_l11Var (⟨a0.kind, a0.var, a0.box, ⟨a0.e.op, a0.e.n, a0.e.args⟩, a0.body, a0.els⟩ : Stm) true) fun r1 =>
  (bif r1 then
  bnd (spec_l11Box (⟨a0.kind, a0.var, a0.box, ⟨a0.e.op, a0.e.n, a0.e.args⟩, a0.body, a0.els⟩ : Stm) false) fun r2 =>
  (bif r2 then
  bnd (spec_ExprValid (⟨a0.e.op, a0.e.n, a0.e.args⟩ : Exp)) fun r3 =>
  some r3
  else
  some false)
  else
  some false)
  else
  (bif (decide (a0.kind = 4)) then
  bnd (spec_l11Var (⟨a0.kind, a0.var, a0.box, ⟨a0.e.op, a0.e.n, a0.e.args⟩, a0.body, a0.els⟩ : Stm) false) fun r4 =>
  (bif r4 then
  bnd (spec_l11Box (⟨a0.kind, a0.var, a0.box, ⟨a0.e.op, a0.e.n, a0.e.args⟩, a0.body, a0.els⟩ : Stm) true) fun r5 =>
  (bif r5 then
  bnd (spec_ExprValid (⟨a0.e.op, a0.e.n, a0.e.args⟩ : Exp)) fun r6 =>
  some r6
  else
  some false)
  else
  some false)
  else
  (bif (decide (a0.kind = 5)) then
  bnd (spec_l11Var (⟨a0.kind, a0.var, a0.box, ⟨a0.e.op, a0.e.n, a0.e.args⟩, a0.body, a0.els⟩ : Stm) true) fun r7 =>
  (bif r7 then
  bnd (spec_l11Box (⟨a0.kind, a0.var, a0.box, ⟨a0.e.op, a0.e.n, a0.e.args⟩, a0.body, a0.els⟩ : Stm) true) fun r8 =>
  (bif r8 then
  bnd (spec_l11Plain (⟨a0.e.op, a0.e.n, a0.e.args⟩ : Exp)) fun r9 =>
  some r9
  else
  some false)
  else
  some false)
  else
  (bif (decide (a0.kind = 6)) then
  bnd (spec_l11Var (⟨a0.kind, a0.var, a0.box, ⟨a0.e.op, a0.e.n, a0.e.args⟩, a0.body, a0.els⟩ : Stm) false) fun r10 =>
  (bif r10 then
  bnd (spec_l11Box (⟨a0.kind, a0.var, a0.box, ⟨a0.e.op, a0.e.n, a0.e.args⟩, a0.body, a0.els⟩ : Stm) false) fun r11 =>
  (bif r11 then
  bnd (spec_l11Plain (⟨a0.e.op, a0.e.n, a0.e.args⟩ : Exp)) fun r12 =>
  some r12
  else
  some false)
  else
  some false)
  else
  (bif (decide (a0.kind = 7)) then
  bnd (spec_l11Var (⟨a0.kind, a0.var, a0.box, ⟨a0.e.op, a0.e.n, a0.e.args⟩, a0.body, a0.els⟩ : Stm) false) fun r13 =>
  (bif r13 then
  bnd (spec_l11Box (⟨a0.kind, a0.var, a0.box, ⟨a0.e.op, a0.e.n, a0.e.args⟩, a0.body, a0.els⟩ : Stm) false) fun r14 =>
  (bif r14 then
  bnd (spec_ExprValid (⟨a0.e.op, a0.e.n, a0.e.args⟩ : Exp)) fun r15 =>
  some r15
  else
  some false)
  else
  some false)
  else
  some false))))))) : Option (Bool))
  (spec_l11Simple a0) := by
  exact fun r h => by
    have e : runC (phi Tb GT sg) Tb GT p6000.code (startAT p6000 (mkST p6000.ins [.agg (rowT .stm a0)] p6000.bins [])) (finT p6000 s6000) = (
      (bif (decide (0 < (a0.body.length : Int))) then
      some false
      else
      (bif (decide (0 < (a0.els.length : Int))) then
      some false
      else
      (bif (decide (a0.kind = 1)) then
      bnd (spec_l11Var (⟨a0.kind, a0.var, a0.box, ⟨a0.e.op, a0.e.n, a0.e.args⟩, a0.body, a0.els⟩ : Stm) true) fun r1 =>
      (bif r1 then
      bnd (spec_l11Box (⟨a0.kind, a0.var, a0.box, ⟨a0.e.op, a0.e.n, a0.e.args⟩, a0.body, a0.els⟩ : Stm) false) fun r2 =>
      (bif r2 then
      bnd (spec_ExprValid (⟨a0.e.op, a0.e.n, a0.e.args⟩ : Exp)) fun r3 =>
      some r3
      else
      some false)
      else
      some false)
      else
      (bif (decide (a0.kind = 4)) then
      bnd (spec_l11Var (⟨a0.kind, a0.var, a0.box, ⟨a0.e.op, a0.e.n, a0.e.args⟩, a0.body, a0.els⟩ : Stm) false) fun r4 =>
      (bif r4 then
      bnd (spec_l11Box (⟨a0.kind, a0.var, a0.box, ⟨a0.e.op, a0.e.n, a0.e.args⟩, a0.body, a0.els⟩ : Stm) true) fun r5 =>
      (bif r5 then
      bnd (spec_ExprValid (⟨a0.e.op, a0.e.n, a0.e.args⟩ : Exp)) fun r6 =>
      some r6
      else
      some false)
      else
      some false)
      else
      (bif (decide (a0.kind = 5)) then
      bnd (spec_l11Var (⟨a0.kind, a0.var, a0.box, ⟨a0.e.op, a0.e.n, a0.e.args⟩, a0.body, a0.els⟩ : Stm) true) fun r7 =>
      (bif r7 then
      bnd (spec_l11Box (⟨a0.kind, a0.var, a0.box, ⟨a0.e.op, a0.e.n, a0.e.args⟩, a0.body, a0.els⟩ : Stm) true) fun r8 =>
      (bif r8 then
      bnd (spec_l11Plain (⟨a0.e.op, a0.e.n, a0.e.args⟩ : Exp)) fun r9 =>
      some r9
      else
      some false)
      else
      some false)
      else
      (bif (decide (a0.kind = 6)) then
      bnd (spec_l11Var (⟨a0.kind, a0.var, a0.box, ⟨a0.e.op, a0.e.n, a0.e.args⟩, a0.body, a0.els⟩ : Stm) false) fun r10 =>
      (bif r10 then
      bnd (spec_l11Box (⟨a0.kind, a0.var, a0.box, ⟨a0.e.op, a0.e.n, a0.e.args⟩, a0.body, a0.els⟩ : Stm) false) fun r11 =>
      (bif r11 then
      bnd (spec_l11Plain (⟨a0.e.op, a0.e.n, a0.e.args⟩ : Exp)) fun r12 =>
      some r12
      else
      some false)
      else
      some false)
      else
      (bif (decide (a0.kind = 7)) then
      bnd (spec_l11Var (⟨a0.kind, a0.var, a0.box, ⟨a0.e.op, a0.e.n, a0.e.args⟩, a0.body, a0.els⟩ : Stm) false) fun r13 =>
      (bif r13 then
      bnd (spec_l11Box (⟨a0.kind, a0.var, a0.box, ⟨a0.e.op, a0.e.n, a0.e.args⟩, a0.body, a0.els⟩ : Stm) false) fun r14 =>
      (bif r14 then
      bnd (spec_ExprValid (⟨a0.e.op, a0.e.n, a0.e.args⟩ : Exp)) fun r15 =>
      some r15
      else
      some false)
      else
      some false)
      else
      some false))))))) : Option (Bool)) := by kernel_rfl
    exact fn_le' (sig := s6000) (p := p6000) (by kernel_rfl) (by kernel_rfl) rfl rfl rfl rfl rfl (e.trans h)

theorem spec_l11Var_le (a0 : Stm) (a1 : Bool) : Tv.Le
  ((bif a1 then
  bnd (spec_l6In a0.var 0 3) fun r1 =>
  some r1
  else
  some (decide (a0.var = 0))) : Option (Bool))
  (spec_l11Var a0 a1) := by
  exact fun r h => by
    have e : runC (phi Tb GT sg) Tb GT p5700.code (startAT p5700 (mkST p5700.ins [.agg (rowT .stm a0), .bool a1] p5700.bins [])) (finT p5700 s5700) = (
      (bif a1 then
      bnd (spec_l6In a0.var 0 3) fun r1 =>
      some r1
      else
      some (decide (a0.var = 0))) : Option (Bool)) := by kernel_rfl
    exact fn_le' (sig := s5700) (p := p5700) (by kernel_rfl) (by kernel_rfl) rfl rfl rfl rfl rfl (e.trans h)

theorem spec_l11Box_le (a0 : Stm) (a1 : Bool) : Tv.Le
  ((bif a1 then
  bnd (spec_l6In a0.box 0 2) fun r1 =>
  some r1
  else
  some (decide (a0.box = 0))) : Option (Bool))
  (spec_l11Box a0 a1) := by
  exact fun r h => by
    have e : runC (phi Tb GT sg) Tb GT p5800.code (startAT p5800 (mkST p5800.ins [.agg (rowT .stm a0), .bool a1] p5800.bins [])) (finT p5800 s5800) = (
      (bif a1 then
      bnd (spec_l6In a0.box 0 2) fun r1 =>
      some r1
      else
      some (decide (a0.box = 0))) : Option (Bool)) := by kernel_rfl
    exact fn_le' (sig := s5800) (p := p5800) (by kernel_rfl) (by kernel_rfl) rfl rfl rfl rfl rfl (e.trans h)

theorem spec_ExprValid_le (a0 : Exp) : Tv.Le
  (bnd (spec_l4Ok (⟨a0.op, a0.n, a0.args⟩ : Exp) 5) fun r1 =>
  some r1 : Option (Bool))
  (spec_ExprValid a0) := by
  exact fun r h => by
    have e : runC (phi Tb GT sg) Tb GT p1900.code (startAT p1900 (mkST p1900.ins [.agg (rowT .exp a0)] p1900.bins [])) (finT p1900 s1900) = (
      bnd (spec_l4Ok (⟨a0.op, a0.n, a0.args⟩ : Exp) 5) fun r1 =>
      some r1 : Option (Bool)) := by kernel_rfl
    exact fn_le' (sig := s1900) (p := p1900) (by kernel_rfl) (by kernel_rfl) rfl rfl rfl rfl rfl (e.trans h)

theorem spec_l92Set_le (a0b : List Int) (a0p : Int) : Tv.Le
  (bnd (spec_l6Rd_pick 3 a0b a0p) fun r1 =>
  bnd (spec_l6Rd_pick 3 r1.2.1 r1.2.2) fun r2 =>
  bnd (spec_l91Expr (wrap64 (1 + r2.1)) r2.2.1 r2.2.2) fun r3 =>
  some (⟨1, r1.1, 0, ⟨r3.1, r3.2.1, r3.2.2.1.2⟩, [], []⟩, r3.2.2.2.1, r3.2.2.2.2) : Option (Stm × List Int × Int))
  (spec_l92Set a0b a0p) := by
  rewrite [← wrapC_eq]
  exact fun r h => by
    have e : runC (phi Tb GT sg) Tb GT p4200.code (startAT p4200 (mkST p4200.ins [.bp 0 0] p4200.bins [.var [.sl .share .u8 a0b, .int .i64 a0p]])) (finT p4200 s4200) = (
      bnd (spec_l6Rd_pick 3 a0b a0p) fun r1 =>
      bnd (spec_l6Rd_pick 3 r1.2.1 r1.2.2) fun r2 =>
      bnd (spec_l91Expr (wrapC (1 + r2.1)) r2.2.1 r2.2.2) fun r3 =>
      some (⟨1, r1.1, 0, ⟨r3.1, r3.2.1, r3.2.2.1.2⟩, [], []⟩, r3.2.2.2.1, r3.2.2.2.2) : Option (Stm × List Int × Int)) := by kernel_rfl
    exact fn_le' (sig := s4200) (p := p4200) (by kernel_rfl) (by kernel_rfl) rfl rfl rfl rfl rfl (e.trans h)

theorem spec_l92If_le (a1 : Int) (a2 : Int) (a3 : Bool) (a0b : List Int) (a0p : Int) : Tv.Le
  (bnd (spec_l6Rd_pick 2 a0b a0p) fun r1 =>
  bnd (spec_l91Expr (wrap64 (1 + r1.1)) r1.2.1 r1.2.2) fun r2 =>
  bnd (spec_l6Rd_pick 3 r2.2.2.2.1 r2.2.2.2.2) fun r3 =>
  bnd (spec_l92Block a1 (wrap64 (a2 - 1)) r3.1 a3 r3.2.1 r3.2.2) fun r4 =>
  bnd (spec_l6Rd_pick 3 r4.2.1 r4.2.2) fun r5 =>
  bnd (spec_l92Block a1 (wrap64 (a2 - 1)) r5.1 a3 r5.2.1 r5.2.2) fun r6 =>
  some (⟨2, 0, 0, ⟨r2.1, r2.2.1, r2.2.2.1.2⟩, r4.1, r6.1⟩, r6.2.1, r6.2.2) : Option (Stm × List Int × Int))
  (spec_l92If a1 a2 a3 a0b a0p) := by
  rewrite [← wrapC_eq]
  exact fun r h => by
    have e : runC (phi Tb GT sg) Tb GT p4100.code (startAT p4100 (mkST p4100.ins [.bp 0 0, .int .i64 a1, .int .i64 a2, .bool a3] p4100.bins [.var [.sl .share .u8 a0b, .int .i64 a0p]])) (finT p4100 s4100) = (
      bnd (spec_l6Rd_pick 2 a0b a0p) fun r1 =>
      bnd (spec_l91Expr (wrapC (1 + r1.1)) r1.2.1 r1.2.2) fun r2 =>
      bnd (spec_l6Rd_pick 3 r2.2.2.2.1 r2.2.2.2.2) fun r3 =>
      bnd (spec_l92Block a1 (wrapC (a2 - 1)) r3.1 a3 r3.2.1 r3.2.2) fun r4 =>
      bnd (spec_l6Rd_pick 3 r4.2.1 r4.2.2) fun r5 =>
      bnd (spec_l92Block a1 (wrapC (a2 - 1)) r5.1 a3 r5.2.1 r5.2.2) fun r6 =>
      some (⟨2, 0, 0, ⟨r2.1, r2.2.1, r2.2.2.1.2⟩, r4.1, r6.1⟩, r6.2.1, r6.2.2) : Option (Stm × List Int × Int)) := by kernel_rfl
    exact fn_le' (sig := s4100) (p := p4100) (by kernel_rfl) (by kernel_rfl) rfl rfl rfl rfl rfl (e.trans h)

theorem spec_l91Expr_le (a1 : Int) (a0b : List Int) (a0p : Int) : Tv.Le
  ((bif (decide (a1 < 2)) then
  bnd (spec_l91Leaf a0b a0p) fun r1 =>
  some (r1.1, r1.2.1, ((Md.dem (Md.dem (Md.dem r1.2.2.1.1))), r1.2.2.1.2), r1.2.2.2.1, r1.2.2.2.2)
  else
  bnd (spec_l6Rd_pick 3 a0b a0p) fun r2 =>
  (bif (decide (r2.1 = 0)) then
  bnd (spec_l91Leaf r2.2.1 r2.2.2) fun r3 =>
  some (r3.1, r3.2.1, ((Md.dem (Md.dem (Md.dem r3.2.2.1.1))), r3.2.2.1.2), r3.2.2.2.1, r3.2.2.2.2)
  else
  bnd (spec_l91Op r2.2.1 r2.2.2) fun r4 =>
  bnd (spec_l91Expr (wrap64 (a1 - 1)) r4.2.1 r4.2.2) fun r5 =>
  bnd (spec_l91Expr (wrap64 (a1 - 1)) r5.2.2.2.1 r5.2.2.2.2) fun r6 =>
  bnd (spec_l4Both r4.1 (⟨r5.1, r5.2.1, r5.2.2.1.2⟩ : Exp) (⟨r6.1, r6.2.1, r6.2.2.1.2⟩ : Exp)) fun r7 =>
  some (r7.1, r7.2.1, ((Md.dem (Md.dem (Md.dem r7.2.2.1))), r7.2.2.2), r6.2.2.2.1, r6.2.2.2.2))) : Option (Int × Int × (Md × List Exp) × List Int × Int))
  (spec_l91Expr a1 a0b a0p) := by
  rewrite [← wrapC_eq]
  exact fun r h => by
    have e : runC (phi Tb GT sg) Tb GT p700.code (startAT p700 (mkST p700.ins [.bp 0 0, .int .i64 a1] p700.bins [.var [.sl .share .u8 a0b, .int .i64 a0p]])) (finT p700 s700) = (
      (bif (decide (a1 < 2)) then
      bnd (spec_l91Leaf a0b a0p) fun r1 =>
      some (r1.1, r1.2.1, ((Md.dem (Md.dem (Md.dem r1.2.2.1.1))), r1.2.2.1.2), r1.2.2.2.1, r1.2.2.2.2)
      else
      bnd (spec_l6Rd_pick 3 a0b a0p) fun r2 =>
      (bif (decide (r2.1 = 0)) then
      bnd (spec_l91Leaf r2.2.1 r2.2.2) fun r3 =>
      some (r3.1, r3.2.1, ((Md.dem (Md.dem (Md.dem r3.2.2.1.1))), r3.2.2.1.2), r3.2.2.2.1, r3.2.2.2.2)
      else
      bnd (spec_l91Op r2.2.1 r2.2.2) fun r4 =>
      bnd (spec_l91Expr (wrapC (a1 - 1)) r4.2.1 r4.2.2) fun r5 =>
      bnd (spec_l91Expr (wrapC (a1 - 1)) r5.2.2.2.1 r5.2.2.2.2) fun r6 =>
      bnd (spec_l4Both r4.1 (⟨r5.1, r5.2.1, r5.2.2.1.2⟩ : Exp) (⟨r6.1, r6.2.1, r6.2.2.1.2⟩ : Exp)) fun r7 =>
      some (r7.1, r7.2.1, ((Md.dem (Md.dem (Md.dem r7.2.2.1))), r7.2.2.2), r6.2.2.2.1, r6.2.2.2.2))) : Option (Int × Int × (Md × List Exp) × List Int × Int)) := by kernel_rfl
    exact fn_le' (sig := s700) (p := p700) (by kernel_rfl) (by kernel_rfl) rfl rfl rfl rfl rfl (e.trans h)

theorem spec_l92Loop_le (a1 : Int) (a2 : Int) (a0b : List Int) (a0p : Int) : Tv.Le
  (bnd (spec_l6Rd_pick 3 a0b a0p) fun r1 =>
  bnd (spec_l92Block a1 (wrap64 (a2 - 1)) r1.1 false r1.2.1 r1.2.2) fun r2 =>
  bnd (spec_l4Leaf 13 3) fun r3 =>
  bnd (spec_l4Leaf 0 1) fun r4 =>
  bnd (spec_l4Both 8 (⟨r3.1, r3.2.1, r3.2.2.2⟩ : Exp) (⟨r4.1, r4.2.1, r4.2.2.2⟩ : Exp)) fun r5 =>
  bnd (spec_l4Leaf 13 3) fun r6 =>
  bnd (spec_l6Rd_pick 3 r2.2.1 r2.2.2) fun r7 =>
  bnd (spec_l4Leaf 0 (wrap64 (1 + r7.1))) fun r8 =>
  bnd (spec_l4Both 5 (⟨r6.1, r6.2.1, r6.2.2.2⟩ : Exp) (⟨r8.1, r8.2.1, r8.2.2.2⟩ : Exp)) fun r9 =>
  bnd (appL r2.1 ([⟨1, 3, 0, ⟨r5.1, r5.2.1, r5.2.2.2⟩, [], []⟩] : List Stm)) fun l10 =>
  bnd (spec_l4Leaf 0 0) fun r11 =>
  some (([⟨1, 3, 0, ⟨r11.1, r11.2.1, r11.2.2.2⟩, [], []⟩, ⟨3, 0, 0, ⟨r9.1, r9.2.1, r9.2.2.2⟩, l10, []⟩] : List Stm), r7.2.1, r7.2.2) : Option (List Stm × List Int × Int))
  (spec_l92Loop a1 a2 a0b a0p) := by
  rewrite [← wrapC_eq]
  exact fun r h => by
    have e : runC (phi Tb GT sg) Tb GT p4300.code (startAT p4300 (mkST p4300.ins [.bp 0 0, .int .i64 a1, .int .i64 a2] p4300.bins [.var [.sl .share .u8 a0b, .int .i64 a0p]])) (finT p4300 s4300) = (
      bnd (spec_l6Rd_pick 3 a0b a0p) fun r1 =>
      bnd (spec_l92Block a1 (wrapC (a2 - 1)) r1.1 false r1.2.1 r1.2.2) fun r2 =>
      bnd (spec_l4Leaf 13 3) fun r3 =>
      bnd (spec_l4Leaf 0 1) fun r4 =>
      bnd (spec_l4Both 8 (⟨r3.1, r3.2.1, r3.2.2.2⟩ : Exp) (⟨r4.1, r4.2.1, r4.2.2.2⟩ : Exp)) fun r5 =>
      bnd (spec_l4Leaf 13 3) fun r6 =>
      bnd (spec_l6Rd_pick 3 r2.2.1 r2.2.2) fun r7 =>
      bnd (spec_l4Leaf 0 (wrapC (1 + r7.1))) fun r8 =>
      bnd (spec_l4Both 5 (⟨r6.1, r6.2.1, r6.2.2.2⟩ : Exp) (⟨r8.1, r8.2.1, r8.2.2.2⟩ : Exp)) fun r9 =>
      bnd (appL r2.1 ([⟨1, 3, 0, ⟨r5.1, r5.2.1, r5.2.2.2⟩, [], []⟩] : List Stm)) fun l10 =>
      bnd (spec_l4Leaf 0 0) fun r11 =>
      some (([⟨1, 3, 0, ⟨r11.1, r11.2.1, r11.2.2.2⟩, [], []⟩, ⟨3, 0, 0, ⟨r9.1, r9.2.1, r9.2.2.2⟩, l10, []⟩] : List Stm), r7.2.1, r7.2.2) : Option (List Stm × List Int × Int)) := by kernel_rfl
    exact fn_le' (sig := s4300) (p := p4300) (by kernel_rfl) (by kernel_rfl) rfl rfl rfl rfl rfl (e.trans h)

theorem spec_l92Talk_le (a1 : Int) (a0b : List Int) (a0p : Int) : Tv.Le
  ((bif (decide (a1 < 1)) then
  bnd (spec_l92Set a0b a0p) fun r1 =>
  some (⟨r1.1.kind, r1.1.var, r1.1.box, ⟨r1.1.e.op, r1.1.e.n, r1.1.e.args⟩, r1.1.body, r1.1.els⟩, r1.2.1, r1.2.2)
  else
  bnd (spec_l6Rd_pick a1 a0b a0p) fun r2 =>
  bnd (spec_l6Rd_pick 2 r2.2.1 r2.2.2) fun r3 =>
  (bif (decide (r3.1 = 0)) then
  bnd (spec_l6Rd_pick 3 r3.2.1 r3.2.2) fun r4 =>
  bnd (spec_l91Expr (wrap64 (1 + r4.1)) r4.2.1 r4.2.2) fun r5 =>
  some (⟨4, 0, r2.1, ⟨r5.1, r5.2.1, r5.2.2.1.2⟩, [], []⟩, r5.2.2.2.1, r5.2.2.2.2)
  else
  bnd (spec_l6Rd_pick 3 r3.2.1 r3.2.2) fun r6 =>
  some (⟨5, r6.1, r2.1, ⟨0, 0, []⟩, [], []⟩, r6.2.1, r6.2.2))) : Option (Stm × List Int × Int))
  (spec_l92Talk a1 a0b a0p) := by
  rewrite [← wrapC_eq]
  exact fun r h => by
    have e : runC (phi Tb GT sg) Tb GT p4400.code (startAT p4400 (mkST p4400.ins [.bp 0 0, .int .i64 a1] p4400.bins [.var [.sl .share .u8 a0b, .int .i64 a0p]])) (finT p4400 s4400) = (
      (bif (decide (a1 < 1)) then
      bnd (spec_l92Set a0b a0p) fun r1 =>
      some (⟨r1.1.kind, r1.1.var, r1.1.box, ⟨r1.1.e.op, r1.1.e.n, r1.1.e.args⟩, r1.1.body, r1.1.els⟩, r1.2.1, r1.2.2)
      else
      bnd (spec_l6Rd_pick a1 a0b a0p) fun r2 =>
      bnd (spec_l6Rd_pick 2 r2.2.1 r2.2.2) fun r3 =>
      (bif (decide (r3.1 = 0)) then
      bnd (spec_l6Rd_pick 3 r3.2.1 r3.2.2) fun r4 =>
      bnd (spec_l91Expr (wrapC (1 + r4.1)) r4.2.1 r4.2.2) fun r5 =>
      some (⟨4, 0, r2.1, ⟨r5.1, r5.2.1, r5.2.2.1.2⟩, [], []⟩, r5.2.2.2.1, r5.2.2.2.2)
      else
      bnd (spec_l6Rd_pick 3 r3.2.1 r3.2.2) fun r6 =>
      some (⟨5, r6.1, r2.1, ⟨0, 0, []⟩, [], []⟩, r6.2.1, r6.2.2))) : Option (Stm × List Int × Int)) := by kernel_rfl
    exact fn_le' (sig := s4400) (p := p4400) (by kernel_rfl) (by kernel_rfl) rfl rfl rfl rfl rfl (e.trans h)

theorem impl_exprValid_le (a0 : Exp) (a1 : Int) : Tv.Le
  ((bif (decide (a0.op = 0)) then
  (bif (decide (0 ≤ a0.n)) then
  (bif (decide (a0.n ≤ 99999)) then
  (bif (decide ((a0.args.length : Int) = 0)) then
  some (decide (0 < a1))
  else
  some false)
  else
  some false)
  else
  some false)
  else
  (bif (decide (a0.op = 13)) then
  (bif (decide (0 ≤ a0.n)) then
  (bif (decide (a0.n < 4)) then
  (bif (decide ((a0.args.length : Int) = 0)) then
  some (decide (0 < a1))
  else
  some false)
  else
  some false)
  else
  some false)
  else
  bnd (impl_OpValid a0.op) fun r1 =>
  (bif r1 then
  (bif (decide (a0.n = 0)) then
  (bif (decide ((a0.args.length : Int) = 2)) then
  (bif (decide (1 < a1)) then
  bnd (geti a0.args 0) fun e2 =>
  bnd (impl_exprValid (⟨e2.op, e2.n, e2.args⟩ : Exp) (wrap64 (a1 - 1))) fun r3 =>
  (bif r3 then
  bnd (geti a0.args 1) fun e4 =>
  bnd (impl_exprValid (⟨e4.op, e4.n, e4.args⟩ : Exp) (wrap64 (a1 - 1))) fun r5 =>
  some r5
  else
  some false)
  else
  some false)
  else
  some false)
  else
  some false)
  else
  some false))) : Option (Bool))
  (impl_exprValid a0 a1) := by
  rewrite [← wrapC_eq]
  exact fun r h => by
    have e : runC (phi Tb GT sg) Tb GT p1100.code (startAT p1100 (mkST p1100.ins [.agg (rowT .exp a0), .int .i64 a1] p1100.bins [])) (finT p1100 s1100) = (
      (bif (decide (a0.op = 0)) then
      (bif (decide (0 ≤ a0.n)) then
      (bif (decide (a0.n ≤ 99999)) then
      (bif (decide ((a0.args.length : Int) = 0)) then
      some (decide (0 < a1))
      else
      some false)
      else
      some false)
      else
      some false)
      else
      (bif (decide (a0.op = 13)) then
      (bif (decide (0 ≤ a0.n)) then
      (bif (decide (a0.n < 4)) then
      (bif (decide ((a0.args.length : Int) = 0)) then
      some (decide (0 < a1))
      else
      some false)
      else
      some false)
      else
      some false)
      else
      bnd (impl_OpValid a0.op) fun r1 =>
      (bif r1 then
      (bif (decide (a0.n = 0)) then
      (bif (decide ((a0.args.length : Int) = 2)) then
      (bif (decide (1 < a1)) then
      bnd (geti a0.args 0) fun e2 =>
      bnd (impl_exprValid (⟨e2.op, e2.n, e2.args⟩ : Exp) (wrapC (a1 - 1))) fun r3 =>
      (bif r3 then
      bnd (geti a0.args 1) fun e4 =>
      bnd (impl_exprValid (⟨e4.op, e4.n, e4.args⟩ : Exp) (wrapC (a1 - 1))) fun r5 =>
      some r5
      else
      some false)
      else
      some false)
      else
      some false)
      else
      some false)
      else
      some false))) : Option (Bool)) := by kernel_rfl
    exact fn_le' (sig := s1100) (p := p1100) (by kernel_rfl) (by kernel_rfl) rfl rfl rfl rfl rfl (e.trans h)

theorem spec_l11Plain_le (a0 : Exp) : Tv.Le
  ((bif (decide (a0.op = 0)) then
  (bif (decide (a0.n = 0)) then
  some (decide ((a0.args.length : Int) = 0))
  else
  some false)
  else
  some false) : Option (Bool))
  (spec_l11Plain a0) := by
  exact fun r h => by
    have e : runC (phi Tb GT sg) Tb GT p5900.code (startAT p5900 (mkST p5900.ins [.agg (rowT .exp a0)] p5900.bins [])) (finT p5900 s5900) = (
      (bif (decide (a0.op = 0)) then
      (bif (decide (a0.n = 0)) then
      some (decide ((a0.args.length : Int) = 0))
      else
      some false)
      else
      some false) : Option (Bool)) := by kernel_rfl
    exact fn_le' (sig := s5900) (p := p5900) (by kernel_rfl) (by kernel_rfl) rfl rfl rfl rfl rfl (e.trans h)

theorem spec_l4Ok_le (a0 : Exp) (a1 : Int) : Tv.Le
  ((bif (decide (a1 < 1)) then
  some false
  else
  (bif (decide (a0.op = 0)) then
  bnd (spec_l6In a0.n 0 99999) fun r1 =>
  (bif r1 then
  some (decide ((a0.args.length : Int) = 0))
  else
  some false)
  else
  (bif (decide (a0.op = 13)) then
  bnd (spec_l6In a0.n 0 3) fun r2 =>
  (bif r2 then
  some (decide ((a0.args.length : Int) = 0))
  else
  some false)
  else
  bnd (spec_OpValid a0.op) fun r3 =>
  (bif r3 then
  (bif (decide (a0.n = 0)) then
  (bif (decide ((a0.args.length : Int) = 2)) then
  bnd (geti a0.args 0) fun e4 =>
  bnd (spec_l4Ok (⟨e4.op, e4.n, e4.args⟩ : Exp) (wrap64 (a1 - 1))) fun r5 =>
  (bif r5 then
  bnd (geti a0.args 1) fun e6 =>
  bnd (spec_l4Ok (⟨e6.op, e6.n, e6.args⟩ : Exp) (wrap64 (a1 - 1))) fun r7 =>
  some r7
  else
  some false)
  else
  some false)
  else
  some false)
  else
  some false)))) : Option (Bool))
  (spec_l4Ok a0 a1) := by
  rewrite [← wrapC_eq]
  exact fun r h => by
    have e : runC (phi Tb GT sg) Tb GT p1800.code (startAT p1800 (mkST p1800.ins [.agg (rowT .exp a0), .int .i64 a1] p1800.bins [])) (finT p1800 s1800) = (
      (bif (decide (a1 < 1)) then
      some false
      else
      (bif (decide (a0.op = 0)) then
      bnd (spec_l6In a0.n 0 99999) fun r1 =>
      (bif r1 then
      some (decide ((a0.args.length : Int) = 0))
      else
      some false)
      else
      (bif (decide (a0.op = 13)) then
      bnd (spec_l6In a0.n 0 3) fun r2 =>
      (bif r2 then
      some (decide ((a0.args.length : Int) = 0))
      else
      some false)
      else
      bnd (spec_OpValid a0.op) fun r3 =>
      (bif r3 then
      (bif (decide (a0.n = 0)) then
      (bif (decide ((a0.args.length : Int) = 2)) then
      bnd (geti a0.args 0) fun e4 =>
      bnd (spec_l4Ok (⟨e4.op, e4.n, e4.args⟩ : Exp) (wrapC (a1 - 1))) fun r5 =>
      (bif r5 then
      bnd (geti a0.args 1) fun e6 =>
      bnd (spec_l4Ok (⟨e6.op, e6.n, e6.args⟩ : Exp) (wrapC (a1 - 1))) fun r7 =>
      some r7
      else
      some false)
      else
      some false)
      else
      some false)
      else
      some false)))) : Option (Bool)) := by kernel_rfl
    exact fn_le' (sig := s1800) (p := p1800) (by kernel_rfl) (by kernel_rfl) rfl rfl rfl rfl rfl (e.trans h)

theorem spec_l91Op_le (a0b : List Int) (a0p : Int) : Tv.Le
  (bnd (spec_l6Rd_pick 12 a0b a0p) fun r1 =>
  some ((wrap64 (1 + r1.1)), r1.2.1, r1.2.2) : Option (Int × List Int × Int))
  (spec_l91Op a0b a0p) := by
  rewrite [← wrapC_eq]
  exact fun r h => by
    have e : runC (phi Tb GT sg) Tb GT p600.code (startAT p600 (mkST p600.ins [.bp 0 0] p600.bins [.var [.sl .share .u8 a0b, .int .i64 a0p]])) (finT p600 s600) = (
      bnd (spec_l6Rd_pick 12 a0b a0p) fun r1 =>
      some ((wrapC (1 + r1.1)), r1.2.1, r1.2.2) : Option (Int × List Int × Int)) := by kernel_rfl
    exact fn_le' (sig := s600) (p := p600) (by kernel_rfl) (by kernel_rfl) rfl rfl rfl rfl rfl (e.trans h)

theorem impl_OpValid_le (a0 : Int) : Tv.Le
  ((bif (decide (1 ≤ a0)) then
  some (decide (a0 ≤ 12))
  else
  some false) : Option (Bool))
  (impl_OpValid a0) := by
  exact fun r h => by
    have e : runC (phi Tb GT sg) Tb GT p1000.code (startAT p1000 (mkST p1000.ins [.int .i64 a0] p1000.bins [])) (finT p1000 s1000) = (
      (bif (decide (1 ≤ a0)) then
      some (decide (a0 ≤ 12))
      else
      some false) : Option (Bool)) := by kernel_rfl
    exact fn_le' (sig := s1000) (p := p1000) (by kernel_rfl) (by kernel_rfl) rfl rfl rfl rfl rfl (e.trans h)

theorem spec_OpValid_le (a0 : Int) : Tv.Le
  (bnd (spec_l6In a0 1 12) fun r1 =>
  some r1 : Option (Bool))
  (spec_OpValid a0) := by
  exact fun r h => by
    have e : runC (phi Tb GT sg) Tb GT p1700.code (startAT p1700 (mkST p1700.ins [.int .i64 a0] p1700.bins [])) (finT p1700 s1700) = (
      bnd (spec_l6In a0 1 12) fun r1 =>
      some r1 : Option (Bool)) := by kernel_rfl
    exact fn_le' (sig := s1700) (p := p1700) (by kernel_rfl) (by kernel_rfl) rfl rfl rfl rfl rfl (e.trans h)

end Go.TFnWorldNew
