import Derived.Test.YtpkgdoapdijmeaaDFnExactWorldOutcomeP
import Derived.KernelRfl
set_option linter.unusedVariables false
namespace Go.TFnExactWorldOutcome
open Go Go.RowKit Go.Vs Go.Tv
theorem laws_toBoxS_l1_le (t0 : List Bx) (t4 : Int) (b100 : List Bx) : Tv.Le
 ((bif (decide (t4 < (t0.length : Int))) then
bnd (geti t0 t4) fun e1 =>
bnd (laws_toBox e1) fun r2 =>
bnd (geti b100 t4) fun _ =>
bnd (b100[(Int.toNat t4)]?) fun e4 =>
laws_toBoxS_l1 t0 (wrap64 (t4 + 1)) (b100.set (Int.toNat t4) r2)
else
some b100) : Option (List Bx))
 (laws_toBoxS_l1 t0 t4 b100) := by
 rewrite [← wrapC_eq]
 exact fun r h => loop_le' (F := Tb) (G := GT) (sg := sg) (sig := s25001) (p := p25001) (by kernel_rfl) (by kernel_rfl) rfl rfl rfl ((show runC (phi Tb GT sg) Tb GT p25001.code ((mkST p25001.ins [.sl .share .bx t0, .bs 100, .int .i64 t4] p25001.bins [.rows .bx b100])) (finL Tb GT 25001 p25001 s25001) = _ by kernel_rfl).trans h)

theorem laws_toIntS_l1_le (t0 : List Int) (t4 : Int) (b100 : List Int) : Tv.Le
 ((bif (decide (t4 < (t0.length : Int))) then
bnd (geti t0 t4) fun e1 =>
bnd (geti b100 t4) fun _ =>
bnd (b100[(Int.toNat t4)]?) fun e3 =>
laws_toIntS_l1 t0 (wrap64 (t4 + 1)) (b100.set (Int.toNat t4) e1)
else
some b100) : Option (List Int))
 (laws_toIntS_l1 t0 t4 b100) := by
 rewrite [← wrapC_eq]
 exact fun r h => loop_le' (F := Tb) (G := GT) (sg := sg) (sig := s7801) (p := p7801) (by kernel_rfl) (by kernel_rfl) rfl rfl rfl ((show runC (phi Tb GT sg) Tb GT p7801.code ((mkST p7801.ins [.sl .share .int t0, .bs 100, .int .i64 t4] p7801.bins [.rows .int b100])) (finL Tb GT 7801 p7801 s7801) = _ by kernel_rfl).trans h)

theorem spec_l6In_le (a0 : Int) (a1 : Int) (a2 : Int) : Tv.Le
 ((bif (decide (a1 ≤ a0)) then
some (decide (a0 ≤ a2))
else
some false) : Option (Bool))
 (spec_l6In a0 a1 a2) := by
 exact fun r h => fn_le' (F := Tb) (G := GT) (sg := sg) (sig := s1600) (p := p1600) (by kernel_rfl) (by kernel_rfl) rfl rfl rfl rfl rfl ((show runC (phi Tb GT sg) Tb GT p1600.code (startAT p1600 (mkST p1600.ins [.int .i64 a0, .int .i64 a1, .int .i64 a2] p1600.bins [])) (finT p1600 s1600) = _ by kernel_rfl).trans h)

theorem spec_l15Boxes_le (a0 : List Bx) : Tv.Le
 (bnd (spec_l15Boxes_l1 a0 0) fun r1 =>
selm r1 (fun y2 =>
some (decide ((y2.length : Int) ≤ 3))) (fun z3 =>
some z3.2) : Option (Bool))
 (spec_l15Boxes a0) := by
 exact fun r h => fn_le' (F := Tb) (G := GT) (sg := sg) (sig := s24600) (p := p24600) (by kernel_rfl) (by kernel_rfl) rfl rfl rfl rfl rfl ((show runC (phi Tb GT sg) Tb GT p24600.code (startAT p24600 (mkST p24600.ins [.sl .share .bx a0] p24600.bins [])) (finT p24600 s24600) = _ by kernel_rfl).trans h)

theorem spec_TaskValid_le (a0 : Tk) : Tv.Le
 (bnd (spec_TaskValid_l1 0 a0.vars a0.rest) fun r1 =>
selm r1 (fun y2 =>
bnd (spec_l4Words y2.1 4) fun r4 =>
some r4) (fun z3 =>
some z3.1) : Option (Bool))
 (spec_TaskValid a0) := by
 exact fun r h => fn_le' (F := Tb) (G := GT) (sg := sg) (sig := s6600) (p := p6600) (by kernel_rfl) (by kernel_rfl) rfl rfl rfl rfl rfl ((show runC (phi Tb GT sg) Tb GT p6600.code (startAT p6600 (mkST p6600.ins [.agg (rowT .tk a0)] p6600.bins [])) (finT p6600 s6600) = _ by kernel_rfl).trans h)

theorem spec_l12Boxes_le (a0 : List Stm) (a1 : Int) : Tv.Le
 (bnd (spec_l12Boxes_l1 a0 a1 0) fun r1 =>
selm r1 (fun y2 =>
some true) (fun z3 =>
some z3) : Option (Bool))
 (spec_l12Boxes a0 a1) := by
 exact fun r h => fn_le' (F := Tb) (G := GT) (sg := sg) (sig := s23100) (p := p23100) (by kernel_rfl) (by kernel_rfl) rfl rfl rfl rfl rfl ((show runC (phi Tb GT sg) Tb GT p23100.code (startAT p23100 (mkST p23100.ins [.sl .share .stm a0, .int .i64 a1] p23100.bins [])) (finT p23100 s23100) = _ by kernel_rfl).trans h)

theorem spec_WorldValid_l1_le (t3 : Int) (t4 : Int) (b100_0 : List Tk) (b100_1 : List Bx) (b100_2 : Int) (b100_3 : Int) (b100_4 : List Int) : Tv.Le
 ((bif (decide (t4 < t3)) then
bnd (geti b100_0 t4) fun e1 =>
bnd (spec_TaskValid e1) fun r2 =>
(bif (!r2) then
some (.inr (false, b100_0, b100_1, b100_2, b100_3, b100_4))
else
bnd (geti b100_0 t4) fun e3 =>
bnd (spec_l12Boxes e3.rest (b100_1.length : Int)) fun r4 =>
(bif (!r4) then
some (.inr (false, b100_0, b100_1, b100_2, b100_3, b100_4))
else
spec_WorldValid_l1 t3 (wrap64 (t4 + 1)) b100_0 b100_1 b100_2 b100_3 b100_4))
else
some (.inl (b100_0, b100_1, b100_2, b100_3, b100_4))) : Option ((List Tk × List Bx × Int × Int × List Int) ⊕ (Bool × List Tk × List Bx × Int × Int × List Int)))
 (spec_WorldValid_l1 t3 t4 b100_0 b100_1 b100_2 b100_3 b100_4) := by
 rewrite [← wrapC_eq]
 exact fun r h => loop_le' (F := Tb) (G := GT) (sg := sg) (sig := s24701) (p := p24701) (by kernel_rfl) (by kernel_rfl) rfl rfl rfl ((show runC (phi Tb GT sg) Tb GT p24701.code ((mkST p24701.ins [.bp 100 0, .int .i64 t3, .int .i64 t4] p24701.bins [.var [.sl .share .tk b100_0, .sl .share .bx b100_1, .int .i64 b100_2, .int .i64 b100_3, .sl .share .int b100_4]])) (finL Tb GT 24701 p24701 s24701) = _ by kernel_rfl).trans h)

theorem spec_l4Words_le (a0 : List Int) (a1 : Int) : Tv.Le
 ((bif (!decide ((a0.length : Int) = a1)) then
some false
else
bnd (spec_l4Words_l1 a0 0) fun r1 =>
selm r1 (fun y2 =>
some true) (fun z3 =>
some z3)) : Option (Bool))
 (spec_l4Words a0 a1) := by
 exact fun r h => fn_le' (F := Tb) (G := GT) (sg := sg) (sig := s6500) (p := p6500) (by kernel_rfl) (by kernel_rfl) rfl rfl rfl rfl rfl ((show runC (phi Tb GT sg) Tb GT p6500.code (startAT p6500 (mkST p6500.ins [.sl .share .int a0, .int .i64 a1] p6500.bins [])) (finT p6500 s6500) = _ by kernel_rfl).trans h)

theorem spec_l16Items_l1_le (t0 : List Bx) (t3b : Bool) (t3 : List (List Int)) (t4 : Int) : Tv.Le
 ((bif (decide (t4 < (t0.length : Int))) then
bnd (geti t0 t4) fun e1 =>
bnd (appL ([] : List Int) e1.items) fun l2 =>
bnd (appL t3 ([l2] : List (List Int))) fun l3 =>
spec_l16Items_l1 t0 true l3 (wrap64 (t4 + 1))
else
some (t3b, t3)) : Option ((Bool × List (List Int))))
 (spec_l16Items_l1 t0 t3b t3 t4) := by
 rewrite [← wrapC_eq]
 exact fun r h => loop_le' (F := Tb) (G := GT) (sg := sg) (sig := s30201) (p := p30201) (by kernel_rfl) (by kernel_rfl) rfl rfl rfl ((show runC (phi Tb GT sg) Tb GT p30201.code ((mkST p30201.ins [.sl .share .bx t0, .sl (.own t3b) .ints t3, .int .i64 t4] p30201.bins [])) (finL Tb GT 30201 p30201 s30201) = _ by kernel_rfl).trans h)

theorem laws_toTask_p_le (a0 : Tk) (A : List Ent) : Tv.Le
 (bnd (laws_toIntS_p a0.vars A) fun r1 =>
bnd (laws_toStmtS_p a0.rest r1.2) fun r2 =>
some (⟨r1.1, r2.1⟩, r2.2) : Option (TkH × List Ent))
 (laws_toTask_p a0 A) := by
 exact fun r h => fn_le' (F := Tb) (G := GT) (sg := sg) (sig := s41700) (p := p41700) (by kernel_rfl) (by kernel_rfl) rfl rfl rfl rfl rfl ((show runC (phi Tb GT sg) Tb GT p41700.code (startAT p41700 (mkST p41700.ins [.agg (rowT .tk a0)] p41700.bins [.ar A])) (finT p41700 s41700) = _ by kernel_rfl).trans h)

theorem laws_toTaskS_p_l1_le (t0 : List Tk) (t3 : Hd) (t4 : Int) (b99 : List Ent) : Tv.Le
 ((bif (decide (t4 < (t0.length : Int))) then
bnd (geti t0 t4) fun e1 =>
bnd (laws_toTask_p e1 b99) fun r2 =>
bnd (idxN t3.n t4) fun i3 =>
bnd (arRow r2.2 .tkH t3.id i3) fun e4 =>
laws_toTaskS_p_l1 t0 t3 (wrap64 (t4 + 1)) (arSet r2.2 .tkH t3.id i3 r2.1)
else
some (t3, b99)) : Option (Hd × List Ent))
 (laws_toTaskS_p_l1 t0 t3 t4 b99) := by
 rewrite [← wrapC_eq]
 exact fun r h => loop_le' (F := Tb) (G := GT) (sg := sg) (sig := s42601) (p := p42601) (by kernel_rfl) (by kernel_rfl) rfl rfl rfl ((show runC (phi Tb GT sg) Tb GT p42601.code ((mkST p42601.ins [.sl .share .tk t0, .tr .tkH t3.id t3.n, .int .i64 t4] p42601.bins [.ar b99])) (finL Tb GT 42601 p42601 s42601) = _ by kernel_rfl).trans h)

theorem laws_toBox_p_le (a0 : Bx) (A : List Ent) : Tv.Le
 (bnd (laws_toIntS_p a0.items A) fun r1 =>
some (⟨a0.room, r1.1⟩, r1.2) : Option (BxH × List Ent))
 (laws_toBox_p a0 A) := by
 exact fun r h => fn_le' (F := Tb) (G := GT) (sg := sg) (sig := s43500) (p := p43500) (by kernel_rfl) (by kernel_rfl) rfl rfl rfl rfl rfl ((show runC (phi Tb GT sg) Tb GT p43500.code (startAT p43500 (mkST p43500.ins [.agg (rowT .bx a0)] p43500.bins [.ar A])) (finT p43500 s43500) = _ by kernel_rfl).trans h)

theorem laws_toBoxS_p_l1_le (t0 : List Bx) (t3 : Hd) (t4 : Int) (b99 : List Ent) : Tv.Le
 ((bif (decide (t4 < (t0.length : Int))) then
bnd (geti t0 t4) fun e1 =>
bnd (laws_toBox_p e1 b99) fun r2 =>
bnd (idxN t3.n t4) fun i3 =>
bnd (arRow r2.2 .bxH t3.id i3) fun e4 =>
laws_toBoxS_p_l1 t0 t3 (wrap64 (t4 + 1)) (arSet r2.2 .bxH t3.id i3 r2.1)
else
some (t3, b99)) : Option (Hd × List Ent))
 (laws_toBoxS_p_l1 t0 t3 t4 b99) := by
 rewrite [← wrapC_eq]
 exact fun r h => loop_le' (F := Tb) (G := GT) (sg := sg) (sig := s42701) (p := p42701) (by kernel_rfl) (by kernel_rfl) rfl rfl rfl ((show runC (phi Tb GT sg) Tb GT p42701.code ((mkST p42701.ins [.sl .share .bx t0, .tr .bxH t3.id t3.n, .int .i64 t4] p42701.bins [.ar b99])) (finL Tb GT 42701 p42701 s42701) = _ by kernel_rfl).trans h)

theorem laws_toIntS_p_l1_le (t0 : List Int) (t3 : Hd) (t4 : Int) (b99 : List Ent) : Tv.Le
 ((bif (decide (t4 < (t0.length : Int))) then
bnd (geti t0 t4) fun e1 =>
bnd (idxN t3.n t4) fun i2 =>
bnd (arRow b99 .int t3.id i2) fun e3 =>
laws_toIntS_p_l1 t0 t3 (wrap64 (t4 + 1)) (arSet b99 .int t3.id i2 e1)
else
some (t3, b99)) : Option (Hd × List Ent))
 (laws_toIntS_p_l1 t0 t3 t4 b99) := by
 rewrite [← wrapC_eq]
 exact fun r h => loop_le' (F := Tb) (G := GT) (sg := sg) (sig := s39601) (p := p39601) (by kernel_rfl) (by kernel_rfl) rfl rfl rfl ((show runC (phi Tb GT sg) Tb GT p39601.code ((mkST p39601.ins [.sl .share .int t0, .tr .int t3.id t3.n, .int .i64 t4] p39601.bins [.ar b99])) (finL Tb GT 39601 p39601 s39601) = _ by kernel_rfl).trans h)

theorem impl_turnsValid_le (a0 : Int) (a1 : Int) (a2 : Int) (a3 : List Int) : Tv.Le
 ((bif (decide (1 ≤ a0)) then
(bif (decide (a0 ≤ 3)) then
(bif (decide (0 ≤ a1)) then
(bif (decide (a1 < a0)) then
(bif (decide (0 ≤ a2)) then
(bif (decide (a2 ≤ a0)) then
bnd (impl_areWords a3) fun r1 =>
some r1
else
some false)
else
some false)
else
some false)
else
some false)
else
some false)
else
some false) : Option (Bool))
 (impl_turnsValid a0 a1 a2 a3) := by
 exact fun r h => fn_le' (F := Tb) (G := GT) (sg := sg) (sig := s23800) (p := p23800) (by kernel_rfl) (by kernel_rfl) rfl rfl rfl rfl rfl ((show runC (phi Tb GT sg) Tb GT p23800.code (startAT p23800 (mkST p23800.ins [.int .i64 a0, .int .i64 a1, .int .i64 a2, .sl .share .int a3] p23800.bins [])) (finT p23800 s23800) = _ by kernel_rfl).trans h)

theorem impl_boxesValid_le (a0 : List Bx) : Tv.Le
 (bnd (impl_boxesValid_l1 a0 a0 (a0.length : Int) 0) fun r1 =>
selm r1 (fun y2 =>
some (decide ((y2.length : Int) ≤ 3))) (fun z3 =>
some z3.2) : Option (Bool))
 (impl_boxesValid a0) := by
 exact fun r h => fn_le' (F := Tb) (G := GT) (sg := sg) (sig := s23900) (p := p23900) (by kernel_rfl) (by kernel_rfl) rfl rfl rfl rfl rfl ((show runC (phi Tb GT sg) Tb GT p23900.code (startAT p23900 (mkST p23900.ins [.sl .share .bx a0] p23900.bins [])) (finT p23900 s23900) = _ by kernel_rfl).trans h)

theorem impl_taskValid_le (a0 : Tk) (a1 : Int) : Tv.Le
 ((bif (!decide ((a0.vars.length : Int) = 4)) then
some false
else
bnd (impl_areWords a0.vars) fun r1 =>
(bif (!r1) then
some false
else
bnd (impl_taskValid_l1 a1 (a0.rest.length : Int) 0 a0.vars a0.rest) fun r2 =>
selm r2 (fun y3 =>
some true) (fun z4 =>
some z4))) : Option (Bool))
 (impl_taskValid a0 a1) := by
 exact fun r h => fn_le' (F := Tb) (G := GT) (sg := sg) (sig := s5500) (p := p5500) (by kernel_rfl) (by kernel_rfl) rfl rfl rfl rfl rfl ((show runC (phi Tb GT sg) Tb GT p5500.code (startAT p5500 (mkST p5500.ins [.agg (rowT .tk a0), .int .i64 a1] p5500.bins [])) (finT p5500 s5500) = _ by kernel_rfl).trans h)

theorem impl_WorldValid_l1_le (t23 : List Tk) (t24 : Int) (t25 : Int) (b100_0 : List Tk) (b100_1 : List Bx) (b100_2 : Int) (b100_3 : Int) (b100_4 : List Int) : Tv.Le
 ((bif (decide (t25 < t24)) then
bnd (geti t23 t25) fun e1 =>
bnd (impl_taskValid e1 (b100_1.length : Int)) fun r2 =>
(bif (!r2) then
some (.inr false)
else
impl_WorldValid_l1 t23 t24 (wrap64 (t25 + 1)) b100_0 b100_1 b100_2 b100_3 b100_4)
else
some (.inl ())) : Option (Unit ⊕ Bool))
 (impl_WorldValid_l1 t23 t24 t25 b100_0 b100_1 b100_2 b100_3 b100_4) := by
 rewrite [← wrapC_eq]
 exact fun r h => loop_le' (F := Tb) (G := GT) (sg := sg) (sig := s24001) (p := p24001) (by kernel_rfl) (by kernel_rfl) rfl rfl rfl ((show runC (phi Tb GT sg) Tb GT p24001.code ((mkST p24001.ins [.bp 100 0, .sl .share .tk t23, .int .i64 t24, .int .i64 t25] p24001.bins [.var [.sl .share .tk b100_0, .sl .share .bx b100_1, .int .i64 b100_2, .int .i64 b100_3, .sl .share .int b100_4]])) (finL Tb GT 24001 p24001 s24001) = _ by kernel_rfl).trans h)

theorem slices_Clone___int_int__p_le (a0 : List Int) (A : List Ent) : Tv.Le (if a0.length ≤ 4294967296 then some (⟨some A.length, a0.length⟩, arPush A .int a0) else none : Option (Hd × List Ent)) (slices_Clone___int_int__p a0 A) := fun r h => by
  split at h
  · injection h with h
    subst h
    exact primA_le (F := Tb) (G := GT) (sg := fun _ => s38200) (g := 38200) (p := p38200) (x := (⟨some A.length, a0.length⟩, arPush A .int a0)) (tv := [.sl .share .int a0]) (es := A) (es' := arPush A .int a0) (v := .tr .int (some A.length) a0.length) (by kernel_rfl) rfl (clone_pa ‹_›) rfl
  · cases h

theorem impl_outcomeOf_p_l1_le (t14 : List Bx) (t15 : Int) (t16 : Int) (b100_0 : Hd) (b100_1 : Hd) (b100_2 : Hd) (b100_3 : Bool) (b101_0 : Hd) (b101_1 : Hd) (b101_2 : Hd) (b101_3 : Bool) (b99 : List Ent) : Tv.Le
 ((bif (decide (t16 < t15)) then
bnd (geti t14 t16) fun e1 =>
bnd (slices_Clone___int_int__p e1.items b99) fun r2 =>
bnd (arApp r2.2 .intsH b101_1.id b101_1.n ([r2.1] : List Hd)) fun B3 =>
impl_outcomeOf_p_l1 t14 t15 (wrap64 (t16 + 1)) b100_0 b100_1 b100_2 b100_3 b101_0 (⟨(some (List.length r2.2)), (b101_1.n + List.length ([r2.1] : List Hd))⟩ : Hd) b101_2 b101_3 B3
else
some (b100_0, b100_1, b100_2, b100_3, b101_0, b101_1, b101_2, b101_3, b99)) : Option (Hd × Hd × Hd × Bool × Hd × Hd × Hd × Bool × List Ent))
 (impl_outcomeOf_p_l1 t14 t15 t16 b100_0 b100_1 b100_2 b100_3 b101_0 b101_1 b101_2 b101_3 b99) := by
 rewrite [← wrapC_eq]
 exact fun r h => loop_le' (F := Tb) (G := GT) (sg := sg) (sig := s43201) (p := p43201) (by kernel_rfl) (by kernel_rfl) rfl rfl rfl ((show runC (phi Tb GT sg) Tb GT p43201.code ((mkST p43201.ins [.bp 100 0, .bp 101 0, .sl .share .bx t14, .int .i64 t15, .int .i64 t16] p43201.bins [.var [.tr .int b100_0.id b100_0.n, .tr .intsH b100_1.id b100_1.n, .tr .bool b100_2.id b100_2.n, .bool b100_3], .var [.tr .int b101_0.id b101_0.n, .tr .intsH b101_1.id b101_1.n, .tr .bool b101_2.id b101_2.n, .bool b101_3], .ar b99])) (finL Tb GT 43201 p43201 s43201) = _ by kernel_rfl).trans h)

theorem laws_eqIntS_l1_le (t0 : List Int) (t1 : List Int) (t5 : Int) : Tv.Le
 ((bif (decide (t5 < (t0.length : Int))) then
bnd (geti t0 t5) fun e1 =>
bnd (geti t1 t5) fun e2 =>
(bif (!decide (e1 = e2)) then
some (.inr false)
else
laws_eqIntS_l1 t0 t1 (wrap64 (t5 + 1)))
else
some (.inl ())) : Option (Unit ⊕ Bool))
 (laws_eqIntS_l1 t0 t1 t5) := by
 rewrite [← wrapC_eq]
 exact fun r h => loop_le' (F := Tb) (G := GT) (sg := sg) (sig := s8401) (p := p8401) (by kernel_rfl) (by kernel_rfl) rfl rfl rfl ((show runC (phi Tb GT sg) Tb GT p8401.code ((mkST p8401.ins [.sl .share .int t0, .sl .share .int t1, .int .i64 t5] p8401.bins [])) (finL Tb GT 8401 p8401 s8401) = _ by kernel_rfl).trans h)

theorem laws_eqIntSS_l1_le (t0 : List (List Int)) (t1 : List (List Int)) (t5 : Int) : Tv.Le
 ((bif (decide (t5 < (t0.length : Int))) then
bnd (geti t0 t5) fun e1 =>
bnd (geti t1 t5) fun e2 =>
bnd (laws_eqIntS e1 e2) fun r3 =>
(bif (!r3) then
some (.inr false)
else
laws_eqIntSS_l1 t0 t1 (wrap64 (t5 + 1)))
else
some (.inl ())) : Option (Unit ⊕ Bool))
 (laws_eqIntSS_l1 t0 t1 t5) := by
 rewrite [← wrapC_eq]
 exact fun r h => loop_le' (F := Tb) (G := GT) (sg := sg) (sig := s30801) (p := p30801) (by kernel_rfl) (by kernel_rfl) rfl rfl rfl ((show runC (phi Tb GT sg) Tb GT p30801.code ((mkST p30801.ins [.sl .share .ints t0, .sl .share .ints t1, .int .i64 t5] p30801.bins [])) (finL Tb GT 30801 p30801 s30801) = _ by kernel_rfl).trans h)

theorem laws_eqBoolS_l1_le (t0 : List Bool) (t1 : List Bool) (t5 : Int) : Tv.Le
 ((bif (decide (t5 < (t0.length : Int))) then
bnd (geti t0 t5) fun e1 =>
bnd (geti t1 t5) fun e2 =>
(bif (!(e1 == e2)) then
some (.inr false)
else
laws_eqBoolS_l1 t0 t1 (wrap64 (t5 + 1)))
else
some (.inl ())) : Option (Unit ⊕ Bool))
 (laws_eqBoolS_l1 t0 t1 t5) := by
 rewrite [← wrapC_eq]
 exact fun r h => loop_le' (F := Tb) (G := GT) (sg := sg) (sig := s30901) (p := p30901) (by kernel_rfl) (by kernel_rfl) rfl rfl rfl ((show runC (phi Tb GT sg) Tb GT p30901.code ((mkST p30901.ins [.sl .share .bool t0, .sl .share .bool t1, .int .i64 t5] p30901.bins [])) (finL Tb GT 30901 p30901 s30901) = _ by kernel_rfl).trans h)

theorem laws_eqTask_le (a0 : Tk) (a1 : Tk) : Tv.Le
 (bnd (laws_eqIntS a0.vars a1.vars) fun r1 =>
(bif (!r1) then
some false
else
bnd (laws_eqStmtS a0.rest a1.rest) fun r2 =>
(bif (!r2) then
some false
else
some true)) : Option (Bool))
 (laws_eqTask a0 a1) := by
 exact fun r h => fn_le' (F := Tb) (G := GT) (sg := sg) (sig := s8500) (p := p8500) (by kernel_rfl) (by kernel_rfl) rfl rfl rfl rfl rfl ((show runC (phi Tb GT sg) Tb GT p8500.code (startAT p8500 (mkST p8500.ins [.agg (rowT .tk a0), .agg (rowT .tk a1)] p8500.bins [])) (finT p8500 s8500) = _ by kernel_rfl).trans h)

theorem laws_eqTaskS_l1_le (t0 : List Tk) (t1 : List Tk) (t5 : Int) : Tv.Le
 ((bif (decide (t5 < (t0.length : Int))) then
bnd (geti t0 t5) fun e1 =>
bnd (geti t1 t5) fun e2 =>
bnd (laws_eqTask e1 e2) fun r3 =>
(bif (!r3) then
some (.inr false)
else
laws_eqTaskS_l1 t0 t1 (wrap64 (t5 + 1)))
else
some (.inl ())) : Option (Unit ⊕ Bool))
 (laws_eqTaskS_l1 t0 t1 t5) := by
 rewrite [← wrapC_eq]
 exact fun r h => loop_le' (F := Tb) (G := GT) (sg := sg) (sig := s25201) (p := p25201) (by kernel_rfl) (by kernel_rfl) rfl rfl rfl ((show runC (phi Tb GT sg) Tb GT p25201.code ((mkST p25201.ins [.sl .share .tk t0, .sl .share .tk t1, .int .i64 t5] p25201.bins [])) (finL Tb GT 25201 p25201 s25201) = _ by kernel_rfl).trans h)

theorem laws_eqBox_le (a0 : Bx) (a1 : Bx) : Tv.Le
 ((bif (!decide (a0.room = a1.room)) then
some false
else
bnd (laws_eqIntS a0.items a1.items) fun r1 =>
(bif (!r1) then
some false
else
some true)) : Option (Bool))
 (laws_eqBox a0 a1) := by
 exact fun r h => fn_le' (F := Tb) (G := GT) (sg := sg) (sig := s19000) (p := p19000) (by kernel_rfl) (by kernel_rfl) rfl rfl rfl rfl rfl ((show runC (phi Tb GT sg) Tb GT p19000.code (startAT p19000 (mkST p19000.ins [.agg (rowT .bx a0), .agg (rowT .bx a1)] p19000.bins [])) (finT p19000 s19000) = _ by kernel_rfl).trans h)

theorem laws_eqBoxS_l1_le (t0 : List Bx) (t1 : List Bx) (t5 : Int) : Tv.Le
 ((bif (decide (t5 < (t0.length : Int))) then
bnd (geti t0 t5) fun e1 =>
bnd (geti t1 t5) fun e2 =>
bnd (laws_eqBox e1 e2) fun r3 =>
(bif (!r3) then
some (.inr false)
else
laws_eqBoxS_l1 t0 t1 (wrap64 (t5 + 1)))
else
some (.inl ())) : Option (Unit ⊕ Bool))
 (laws_eqBoxS_l1 t0 t1 t5) := by
 rewrite [← wrapC_eq]
 exact fun r h => loop_le' (F := Tb) (G := GT) (sg := sg) (sig := s25301) (p := p25301) (by kernel_rfl) (by kernel_rfl) rfl rfl rfl ((show runC (phi Tb GT sg) Tb GT p25301.code ((mkST p25301.ins [.sl .share .bx t0, .sl .share .bx t1, .int .i64 t5] p25301.bins [])) (finL Tb GT 25301 p25301 s25301) = _ by kernel_rfl).trans h)

theorem laws_markStmtS_p_le (a0 : Hd) (a1 : Int) (A : List Ent) : Tv.Le
 (bnd (laws_markStmtS_p_l1 a0 a1 0 A) fun r1 =>
some (r1.1, r1.2) : Option (Int × List Ent))
 (laws_markStmtS_p a0 a1 A) := by
 exact fun r h => fn_le' (F := Tb) (G := GT) (sg := sg) (sig := s40900) (p := p40900) (by kernel_rfl) (by kernel_rfl) rfl rfl rfl rfl rfl ((show runC (phi Tb GT sg) Tb GT p40900.code (startAT p40900 (mkST p40900.ins [.tr .stmH a0.id a0.n, .int .i64 a1] p40900.bins [.ar A])) (finT p40900 s40900) = _ by kernel_rfl).trans h)

theorem laws_markTaskS_p_l1_le (t0 : Hd) (t1 : Int) (t5 : Int) (b99 : List Ent) : Tv.Le
 ((bif (decide (t5 < ((t0.n : Nat) : Int))) then
bnd (idxN t0.n t5) fun i1 =>
bnd (arRow b99 .tkH t0.id i1) fun e2 =>
bnd (laws_markIntS_p e2.vars t1 b99) fun r3 =>
bnd (idxN t0.n t5) fun i4 =>
bnd (arRow r3.2 .tkH t0.id i4) fun e5 =>
bnd (laws_markStmtS_p e5.rest r3.1 r3.2) fun r6 =>
laws_markTaskS_p_l1 t0 r6.1 (wrap64 (t5 + 1)) r6.2
else
some (t1, b99)) : Option (Int × List Ent))
 (laws_markTaskS_p_l1 t0 t1 t5 b99) := by
 rewrite [← wrapC_eq]
 exact fun r h => loop_le' (F := Tb) (G := GT) (sg := sg) (sig := s43001) (p := p43001) (by kernel_rfl) (by kernel_rfl) rfl rfl rfl ((show runC (phi Tb GT sg) Tb GT p43001.code ((mkST p43001.ins [.tr .tkH t0.id t0.n, .int .i64 t1, .int .i64 t5] p43001.bins [.ar b99])) (finL Tb GT 43001 p43001 s43001) = _ by kernel_rfl).trans h)

theorem laws_markBoxS_p_l1_le (t0 : Hd) (t1 : Int) (t5 : Int) (b99 : List Ent) : Tv.Le
 ((bif (decide (t5 < ((t0.n : Nat) : Int))) then
bnd (idxN t0.n t5) fun i1 =>
bnd (arRow b99 .bxH t0.id i1) fun e2 =>
bnd (idxN t0.n t5) fun i3 =>
bnd (arRow (arSet b99 .bxH t0.id i1 (⟨t1, e2.items⟩ : BxH)) .bxH t0.id i3) fun e4 =>
bnd (laws_markIntS_p e4.items (wrap64 (t1 + 1)) (arSet b99 .bxH t0.id i1 (⟨t1, e2.items⟩ : BxH))) fun r5 =>
laws_markBoxS_p_l1 t0 r5.1 (wrap64 (t5 + 1)) r5.2
else
some (t1, b99)) : Option (Int × List Ent))
 (laws_markBoxS_p_l1 t0 t1 t5 b99) := by
 rewrite [← wrapC_eq]
 exact fun r h => loop_le' (F := Tb) (G := GT) (sg := sg) (sig := s43101) (p := p43101) (by kernel_rfl) (by kernel_rfl) rfl rfl rfl ((show runC (phi Tb GT sg) Tb GT p43101.code ((mkST p43101.ins [.tr .bxH t0.id t0.n, .int .i64 t1, .int .i64 t5] p43101.bins [.ar b99])) (finL Tb GT 43101 p43101 s43101) = _ by kernel_rfl).trans h)

theorem laws_markIntS_p_l1_le (t0 : Hd) (t1 : Int) (t5 : Int) (b99 : List Ent) : Tv.Le
 ((bif (decide (t5 < ((t0.n : Nat) : Int))) then
bnd (idxN t0.n t5) fun i1 =>
bnd (arRow b99 .int t0.id i1) fun e2 =>
laws_markIntS_p_l1 t0 (wrap64 (t1 + 1)) (wrap64 (t5 + 1)) (arSet b99 .int t0.id i1 t1)
else
some (t1, b99)) : Option (Int × List Ent))
 (laws_markIntS_p_l1 t0 t1 t5 b99) := by
 rewrite [← wrapC_eq]
 exact fun r h => loop_le' (F := Tb) (G := GT) (sg := sg) (sig := s38701) (p := p38701) (by kernel_rfl) (by kernel_rfl) rfl rfl rfl ((show runC (phi Tb GT sg) Tb GT p38701.code ((mkST p38701.ins [.tr .int t0.id t0.n, .int .i64 t1, .int .i64 t5] p38701.bins [.ar b99])) (finL Tb GT 38701 p38701 s38701) = _ by kernel_rfl).trans h)

theorem laws_markIntSS_p_l1_le (t0 : Hd) (t1 : Int) (t5 : Int) (b99 : List Ent) : Tv.Le
 ((bif (decide (t5 < ((t0.n : Nat) : Int))) then
bnd (idxN t0.n t5) fun i1 =>
bnd (arRow b99 .intsH t0.id i1) fun e2 =>
bnd (laws_markIntS_p e2 t1 b99) fun r3 =>
laws_markIntSS_p_l1 t0 r3.1 (wrap64 (t5 + 1)) r3.2
else
some (t1, b99)) : Option (Int × List Ent))
 (laws_markIntSS_p_l1 t0 t1 t5 b99) := by
 rewrite [← wrapC_eq]
 exact fun r h => loop_le' (F := Tb) (G := GT) (sg := sg) (sig := s43301) (p := p43301) (by kernel_rfl) (by kernel_rfl) rfl rfl rfl ((show runC (phi Tb GT sg) Tb GT p43301.code ((mkST p43301.ins [.tr .intsH t0.id t0.n, .int .i64 t1, .int .i64 t5] p43301.bins [.ar b99])) (finL Tb GT 43301 p43301 s43301) = _ by kernel_rfl).trans h)

theorem laws_markBoolS_p_l1_le (t0 : Hd) (t1 : Int) (t5 : Int) (b99 : List Ent) : Tv.Le
 ((bif (decide (t5 < ((t0.n : Nat) : Int))) then
bnd (idxN t0.n t5) fun i1 =>
bnd (arRow b99 .bool t0.id i1) fun e2 =>
laws_markBoolS_p_l1 t0 (wrap64 (t1 + 1)) (wrap64 (t5 + 1)) (arSet b99 .bool t0.id i1 (decide ((Int.tmod t1 3) = 0)))
else
some (t1, b99)) : Option (Int × List Ent))
 (laws_markBoolS_p_l1 t0 t1 t5 b99) := by
 rewrite [← wrapC_eq]
 exact fun r h => loop_le' (F := Tb) (G := GT) (sg := sg) (sig := s43401) (p := p43401) (by kernel_rfl) (by kernel_rfl) rfl rfl rfl ((show runC (phi Tb GT sg) Tb GT p43401.code ((mkST p43401.ins [.tr .bool t0.id t0.n, .int .i64 t1, .int .i64 t5] p43401.bins [.ar b99])) (finL Tb GT 43401 p43401 s43401) = _ by kernel_rfl).trans h)

theorem laws_heldIntS_l1_le (t0 : List Int) (t1 : Int) (t5 : Int) : Tv.Le
 ((bif (decide (t5 < (t0.length : Int))) then
bnd (geti t0 t5) fun e1 =>
(bif (!decide (e1 = t1)) then
some (.inr (t1, (-1)))
else
laws_heldIntS_l1 t0 (wrap64 (t1 + 1)) (wrap64 (t5 + 1)))
else
some (.inl t1)) : Option (Int ⊕ (Int × Int)))
 (laws_heldIntS_l1 t0 t1 t5) := by
 rewrite [← wrapC_eq]
 exact fun r h => loop_le' (F := Tb) (G := GT) (sg := sg) (sig := s10601) (p := p10601) (by kernel_rfl) (by kernel_rfl) rfl rfl rfl ((show runC (phi Tb GT sg) Tb GT p10601.code ((mkST p10601.ins [.sl .share .int t0, .int .i64 t1, .int .i64 t5] p10601.bins [])) (finL Tb GT 10601 p10601 s10601) = _ by kernel_rfl).trans h)

theorem laws_heldIntSS_l1_le (t0 : List (List Int)) (t1 : Int) (t5 : Int) : Tv.Le
 ((bif (decide (t5 < (t0.length : Int))) then
bnd (geti t0 t5) fun e1 =>
bnd (laws_heldIntS e1 t1) fun r2 =>
(bif (decide (r2 < 0)) then
some (.inr (r2, (-1)))
else
laws_heldIntSS_l1 t0 r2 (wrap64 (t5 + 1)))
else
some (.inl t1)) : Option (Int ⊕ (Int × Int)))
 (laws_heldIntSS_l1 t0 t1 t5) := by
 rewrite [← wrapC_eq]
 exact fun r h => loop_le' (F := Tb) (G := GT) (sg := sg) (sig := s31401) (p := p31401) (by kernel_rfl) (by kernel_rfl) rfl rfl rfl ((show runC (phi Tb GT sg) Tb GT p31401.code ((mkST p31401.ins [.sl .share .ints t0, .int .i64 t1, .int .i64 t5] p31401.bins [])) (finL Tb GT 31401 p31401 s31401) = _ by kernel_rfl).trans h)

theorem laws_heldBoolS_l1_le (t0 : List Bool) (t1 : Int) (t5 : Int) : Tv.Le
 ((bif (decide (t5 < (t0.length : Int))) then
bnd (geti t0 t5) fun e1 =>
(bif (!(e1 == (decide ((Int.tmod t1 3) = 0)))) then
some (.inr (t1, (-1)))
else
laws_heldBoolS_l1 t0 (wrap64 (t1 + 1)) (wrap64 (t5 + 1)))
else
some (.inl t1)) : Option (Int ⊕ (Int × Int)))
 (laws_heldBoolS_l1 t0 t1 t5) := by
 rewrite [← wrapC_eq]
 exact fun r h => loop_le' (F := Tb) (G := GT) (sg := sg) (sig := s31501) (p := p31501) (by kernel_rfl) (by kernel_rfl) rfl rfl rfl ((show runC (phi Tb GT sg) Tb GT p31501.code ((mkST p31501.ins [.sl .share .bool t0, .int .i64 t1, .int .i64 t5] p31501.bins [])) (finL Tb GT 31501 p31501 s31501) = _ by kernel_rfl).trans h)

theorem slices_Clone___int_int__le (a0 : List Int) : Tv.Le (if a0.length ≤ 4294967296 then some a0 else none : Option (List Int)) (slices_Clone___int_int_ a0) := fun r h => by
  split at h
  · injection h with h
    subst h
    exact prim_le (F := Tb) (G := GT) (sg := fun _ => s16700) (g := 16700) (p := p16700) (x := a0) (tv := [.sl .share .int a0]) (v := .sl (.own true) .int a0) (by kernel_rfl) rfl (clone_pf ‹_›) rfl
  · cases h

theorem impl_outcomeOf_o_l1_le (t14 : List Bx) (t15 : Int) (t16 : Int) (b100_0b : Bool) (b100_0 : List Int) (b100_1b : Bool) (b100_1 : List (List Int)) (b100_2 : Hd) (b100_3 : Bool) (b101_0 : List Int) (b101_1b : Bool) (b101_1 : List (List Int)) (b101_2 : Hd) (b101_3 : Bool) (b99 : List Ent) : Tv.Le
 ((bif (decide (t16 < t15)) then
bnd (geti t14 t16) fun e1 =>
bnd (slices_Clone___int_int_ e1.items) fun r2 =>
bnd (appL b101_1 ([r2] : List (List Int))) fun l3 =>
impl_outcomeOf_o_l1 t14 t15 (wrap64 (t16 + 1)) b100_0b b100_0 b100_1b b100_1 b100_2 b100_3 b101_0 true l3 b101_2 b101_3 b99
else
some ((b100_0b, b100_0), (b100_1b, b100_1), b100_2, b100_3, b101_0, (b101_1b, b101_1), b101_2, b101_3, b99)) : Option ((Bool × List Int) × (Bool × List (List Int)) × Hd × Bool × List Int × (Bool × List (List Int)) × Hd × Bool × List Ent))
 (impl_outcomeOf_o_l1 t14 t15 t16 b100_0b b100_0 b100_1b b100_1 b100_2 b100_3 b101_0 b101_1b b101_1 b101_2 b101_3 b99) := by
 rewrite [← wrapC_eq]
 exact fun r h => loop_le' (F := Tb) (G := GT) (sg := sg) (sig := s39801) (p := p39801) (by kernel_rfl) (by kernel_rfl) rfl rfl rfl ((show runC (phi Tb GT sg) Tb GT p39801.code ((mkST p39801.ins [.bp 100 0, .bp 101 0, .sl .share .bx t14, .int .i64 t15, .int .i64 t16] p39801.bins [.var [.sl (.own b100_0b) .int b100_0, .sl (.own b100_1b) .ints b100_1, .tr .bool b100_2.id b100_2.n, .bool b100_3], .var [.sl .share .int b101_0, .sl (.own b101_1b) .ints b101_1, .tr .bool b101_2.id b101_2.n, .bool b101_3], .ar b99])) (finL Tb GT 39801 p39801 s39801) = _ by kernel_rfl).trans h)

theorem laws_szStmtS_le (a0 : List Stm) (a1 : Int) : Tv.Le
 ((bif (decide ((wrap64 (a1 - (a0.length : Int))) < 0)) then
some (-1)
else
bnd (laws_szStmtS_l1 a0 (wrap64 (a1 - (a0.length : Int))) 0) fun r1 =>
selm r1 (fun y2 =>
some y2) (fun z3 =>
some z3.2)) : Option (Int))
 (laws_szStmtS a0 a1) := by
 rewrite [← wrapC_eq]
 exact fun r h => fn_le' (F := Tb) (G := GT) (sg := sg) (sig := s7100) (p := p7100) (by kernel_rfl) (by kernel_rfl) rfl rfl rfl rfl rfl ((show runC (phi Tb GT sg) Tb GT p7100.code (startAT p7100 (mkST p7100.ins [.sl .share .stm a0, .int .i64 a1] p7100.bins [])) (finT p7100 s7100) = _ by kernel_rfl).trans h)

theorem laws_toStmtS_le (a0 : List Stm) : Tv.Le
 (bnd (made (a0.length : Int)) fun n1 =>
bnd (laws_toStmtS_l1 a0 0 (List.replicate n1 (zeroD .stm))) fun r2 =>
some r2 : Option (List Stm))
 (laws_toStmtS a0) := by
 exact fun r h => fn_le' (F := Tb) (G := GT) (sg := sg) (sig := s7700) (p := p7700) (by kernel_rfl) (by kernel_rfl) rfl rfl rfl rfl rfl ((show runC (phi Tb GT sg) Tb GT p7700.code (startAT p7700 (mkST p7700.ins [.sl .share .stm a0] p7700.bins [])) (finT p7700 s7700) = _ by kernel_rfl).trans h)

theorem spec_BoxValid_le (a0 : Bx) : Tv.Le
 (bnd (spec_l6In a0.room 1 4) fun r1 =>
(bif r1 then
(bif (decide ((a0.items.length : Int) ≤ a0.room)) then
bnd (spec_l4Words a0.items (a0.items.length : Int)) fun r2 =>
some r2
else
some false)
else
some false) : Option (Bool))
 (spec_BoxValid a0) := by
 exact fun r h => fn_le' (F := Tb) (G := GT) (sg := sg) (sig := s17800) (p := p17800) (by kernel_rfl) (by kernel_rfl) rfl rfl rfl rfl rfl ((show runC (phi Tb GT sg) Tb GT p17800.code (startAT p17800 (mkST p17800.ins [.agg (rowT .bx a0)] p17800.bins [])) (finT p17800 s17800) = _ by kernel_rfl).trans h)

theorem spec_l15Boxes_l1_le (t0 : List Bx) (t3 : Int) : Tv.Le
 ((bif (decide (t3 < (t0.length : Int))) then
bnd (geti t0 t3) fun e1 =>
bnd (spec_BoxValid e1) fun r2 =>
(bif (!r2) then
some (.inr (t0, false))
else
spec_l15Boxes_l1 t0 (wrap64 (t3 + 1)))
else
some (.inl t0)) : Option (List Bx ⊕ (List Bx × Bool)))
 (spec_l15Boxes_l1 t0 t3) := by
 rewrite [← wrapC_eq]
 exact fun r h => loop_le' (F := Tb) (G := GT) (sg := sg) (sig := s24601) (p := p24601) (by kernel_rfl) (by kernel_rfl) rfl rfl rfl ((show runC (phi Tb GT sg) Tb GT p24601.code ((mkST p24601.ins [.sl .share .bx t0, .int .i64 t3] p24601.bins [])) (finL Tb GT 24601 p24601 s24601) = _ by kernel_rfl).trans h)

theorem spec_StmtsValid_le (a0 : List Stm) : Tv.Le
 (bnd (spec_l11Blocks a0 3) fun r1 =>
(bif r1 then
bnd (spec_l11Count a0) fun r2 =>
some (decide (r2 ≤ 16))
else
some false) : Option (Bool))
 (spec_StmtsValid a0) := by
 exact fun r h => fn_le' (F := Tb) (G := GT) (sg := sg) (sig := s6300) (p := p6300) (by kernel_rfl) (by kernel_rfl) rfl rfl rfl rfl rfl ((show runC (phi Tb GT sg) Tb GT p6300.code (startAT p6300 (mkST p6300.ins [.sl .share .stm a0] p6300.bins [])) (finT p6300 s6300) = _ by kernel_rfl).trans h)

theorem spec_TaskValid_l1_le (t3 : Int) (b100_0 : List Int) (b100_1 : List Stm) : Tv.Le
 ((bif (decide (t3 < (b100_1.length : Int))) then
bnd (cutL b100_1 t3 (wrap64 (t3 + 1))) fun l1 =>
bnd (spec_StmtsValid l1) fun r2 =>
(bif (!r2) then
some (.inr (false, b100_0, b100_1))
else
spec_TaskValid_l1 (wrap64 (t3 + 1)) b100_0 b100_1)
else
some (.inl (b100_0, b100_1))) : Option ((List Int × List Stm) ⊕ (Bool × List Int × List Stm)))
 (spec_TaskValid_l1 t3 b100_0 b100_1) := by
 rewrite [← wrapC_eq]
 exact fun r h => loop_le' (F := Tb) (G := GT) (sg := sg) (sig := s6601) (p := p6601) (by kernel_rfl) (by kernel_rfl) rfl rfl rfl ((show runC (phi Tb GT sg) Tb GT p6601.code ((mkST p6601.ins [.bp 100 0, .int .i64 t3] p6601.bins [.var [.sl .share .int b100_0, .sl .share .stm b100_1]])) (finL Tb GT 6601 p6601 s6601) = _ by kernel_rfl).trans h)

theorem spec_l12Boxes_l1_le (t0 : List Stm) (t1 : Int) (t5 : Int) : Tv.Le
 ((bif (decide (t5 < (t0.length : Int))) then
bnd (geti t0 t5) fun e1 =>
(bif (decide (e1.kind = 4)) then
(bif (decide (t1 ≤ e1.box)) then
some (.inr false)
else
bnd (spec_l12Boxes e1.body t1) fun r2 =>
(bif (!r2) then
some (.inr false)
else
bnd (spec_l12Boxes e1.els t1) fun r3 =>
(bif (!r3) then
some (.inr false)
else
spec_l12Boxes_l1 t0 t1 (wrap64 (t5 + 1)))))
else
(bif (decide (e1.kind = 5)) then
(bif (decide (t1 ≤ e1.box)) then
some (.inr false)
else
bnd (spec_l12Boxes e1.body t1) fun r4 =>
(bif (!r4) then
some (.inr false)
else
bnd (spec_l12Boxes e1.els t1) fun r5 =>
(bif (!r5) then
some (.inr false)
else
spec_l12Boxes_l1 t0 t1 (wrap64 (t5 + 1)))))
else
bnd (spec_l12Boxes e1.body t1) fun r6 =>
(bif (!r6) then
some (.inr false)
else
bnd (spec_l12Boxes e1.els t1) fun r7 =>
(bif (!r7) then
some (.inr false)
else
spec_l12Boxes_l1 t0 t1 (wrap64 (t5 + 1))))))
else
some (.inl ())) : Option (Unit ⊕ Bool))
 (spec_l12Boxes_l1 t0 t1 t5) := by
 rewrite [← wrapC_eq]
 exact fun r h => loop_le' (F := Tb) (G := GT) (sg := sg) (sig := s23101) (p := p23101) (by kernel_rfl) (by kernel_rfl) rfl rfl rfl ((show runC (phi Tb GT sg) Tb GT p23101.code ((mkST p23101.ins [.sl .share .stm t0, .int .i64 t1, .int .i64 t5] p23101.bins [])) (finL Tb GT 23101 p23101 s23101) = _ by kernel_rfl).trans h)

theorem spec_WordValid_le (a0 : Int) : Tv.Le
 (bnd (spec_l6In a0 (-2147483648) 2147483647) fun r1 =>
some r1 : Option (Bool))
 (spec_WordValid a0) := by
 exact fun r h => fn_le' (F := Tb) (G := GT) (sg := sg) (sig := s6400) (p := p6400) (by kernel_rfl) (by kernel_rfl) rfl rfl rfl rfl rfl ((show runC (phi Tb GT sg) Tb GT p6400.code (startAT p6400 (mkST p6400.ins [.int .i64 a0] p6400.bins [])) (finT p6400 s6400) = _ by kernel_rfl).trans h)

theorem spec_l4Words_l1_le (t0 : List Int) (t5 : Int) : Tv.Le
 ((bif (decide (t5 < (t0.length : Int))) then
bnd (geti t0 t5) fun e1 =>
bnd (spec_WordValid e1) fun r2 =>
(bif (!r2) then
some (.inr false)
else
spec_l4Words_l1 t0 (wrap64 (t5 + 1)))
else
some (.inl ())) : Option (Unit ⊕ Bool))
 (spec_l4Words_l1 t0 t5) := by
 rewrite [← wrapC_eq]
 exact fun r h => loop_le' (F := Tb) (G := GT) (sg := sg) (sig := s6501) (p := p6501) (by kernel_rfl) (by kernel_rfl) rfl rfl rfl ((show runC (phi Tb GT sg) Tb GT p6501.code ((mkST p6501.ins [.sl .share .int t0, .int .i64 t5] p6501.bins [])) (finL Tb GT 6501 p6501 s6501) = _ by kernel_rfl).trans h)

theorem laws_toStmtS_p_le (a0 : List Stm) (A : List Ent) : Tv.Le
 (bnd (made (a0.length : Int)) fun n1 =>
bnd (laws_toStmtS_p_l1 a0 (⟨(some (List.length A)), n1⟩ : Hd) 0 (arPush A .stmH (List.replicate n1 (zeroD .stmH)))) fun r2 =>
some (r2.1, r2.2) : Option (Hd × List Ent))
 (laws_toStmtS_p a0 A) := by
 exact fun r h => fn_le' (F := Tb) (G := GT) (sg := sg) (sig := s40800) (p := p40800) (by kernel_rfl) (by kernel_rfl) rfl rfl rfl rfl rfl ((show runC (phi Tb GT sg) Tb GT p40800.code (startAT p40800 (mkST p40800.ins [.sl .share .stm a0] p40800.bins [.ar A])) (finT p40800 s40800) = _ by kernel_rfl).trans h)

theorem impl_areWords_le (a0 : List Int) : Tv.Le
 (bnd (impl_areWords_l1 a0 (a0.length : Int) 0) fun r1 =>
selm r1 (fun y2 =>
some true) (fun z3 =>
some z3) : Option (Bool))
 (impl_areWords a0) := by
 exact fun r h => fn_le' (F := Tb) (G := GT) (sg := sg) (sig := s5100) (p := p5100) (by kernel_rfl) (by kernel_rfl) rfl rfl rfl rfl rfl ((show runC (phi Tb GT sg) Tb GT p5100.code (startAT p5100 (mkST p5100.ins [.sl .share .int a0] p5100.bins [])) (finT p5100 s5100) = _ by kernel_rfl).trans h)

end Go.TFnExactWorldOutcome
