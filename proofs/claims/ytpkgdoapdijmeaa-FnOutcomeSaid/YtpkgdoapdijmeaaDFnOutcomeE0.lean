import Derived.Test.YtpkgdoapdijmeaaDFnOutcomeP
import Derived.KernelRfl
set_option linter.unusedVariables false
namespace Go.TFnOutcome
open Go Go.RowKit Go.Vs Go.Tv
theorem laws_FnOutcome_le (a0 : List Int) : Tv.Le
 ((bif (decide (1048576 < (a0.length : Int))) then
some true
else
bnd (spec_DrawWorldOutcome a0) fun r1 =>
bnd (impl_WorldOutcome r1) fun r2 =>
bnd (spec_WorldOutcome r1) fun r3 =>
bnd (laws_sameOutcome r2 r3) fun r4 =>
(bif (!r4) then
bnd (laws_sameOutcome r2 r3) fun r5 =>
some r5
else
(bif (decide ((r2.ended.length : Int) = 0)) then
bnd (laws_sameOutcome r2 r3) fun r6 =>
some r6
else
bnd (laws_FnOutcome_l1 0 r1.tasks r1.boxes r1.turn r1.idle r1.out r2.out r2.items r2.ended r2.rest) fun r7 =>
selm r7 (fun y8 =>
bnd (laws_FnOutcome_l2 0 y8.1 y8.2.1 y8.2.2.1 y8.2.2.2.1 y8.2.2.2.2.1 y8.2.2.2.2.2.1 y8.2.2.2.2.2.2.1 y8.2.2.2.2.2.2.2.1 y8.2.2.2.2.2.2.2.2) fun r10 =>
selm r10 (fun y11 =>
bnd (laws_sameInts y11.2.2.2.2.2.1 y11.2.2.2.2.1) fun r13 =>
(bif r13 then
(bif (decide ((y11.2.2.2.2.2.2.1.length : Int) = (y11.2.1.length : Int))) then
(bif (decide ((y11.2.2.2.2.2.2.2.1.length : Int) = (y11.1.length : Int))) then
some (y11.2.2.2.2.2.2.2.2 == (decide (y11.2.2.2.1 = (y11.1.length : Int))))
else
some false)
else
some false)
else
some false)) (fun z12 =>
some z12.1)) (fun z9 =>
some z9.1)))) : Option (Bool))
 (laws_FnOutcome a0) := by
 exact fun r h => fn_le' (F := Tb) (G := GT) (sg := sg) (sig := s30700) (p := p30700) (by kernel_rfl) (by kernel_rfl) rfl rfl rfl rfl rfl ((show runC (phi Tb GT sg) Tb GT p30700.code (startAT p30700 (mkST p30700.ins [.sl .share .u8 a0] p30700.bins [])) (finT p30700 s30700) = _ by kernel_rfl).trans h)

theorem spec_DrawWorldOutcome_le (a0 : List Int) : Tv.Le
 (bnd (spec_l6Open a0) fun r1 =>
bnd (spec_l92World r1.1 r1.2) fun r2 =>
some r2.1 : Option (Wld))
 (spec_DrawWorldOutcome a0) := by
 exact fun r h => fn_le' (F := Tb) (G := GT) (sg := sg) (sig := s29900) (p := p29900) (by kernel_rfl) (by kernel_rfl) rfl rfl rfl rfl rfl ((show runC (phi Tb GT sg) Tb GT p29900.code (startAT p29900 (mkST p29900.ins [.sl .share .u8 a0] p29900.bins [])) (finT p29900 s29900) = _ by kernel_rfl).trans h)

theorem impl_WorldOutcome_le (a0 : Wld) : Tv.Le
 (bnd (impl_WorldValid a0) fun r1 =>
(bif (!r1) then
bnd (arView ([] : List Ent) .bool none) fun l2 =>
some (⟨[], [], l2, false⟩)
else
bnd (impl_outcomeOf_o a0.out a0.boxes (decide (a0.idle = (a0.tasks.length : Int))) ([] : List Ent)) fun r3 =>
bnd (impl_WorldOutcome_l1 a0.tasks (a0.tasks.length : Int) 0 false [] false [] (⟨none, 0⟩ : Hd) false r3.1 r3.2.1 r3.2.2.1 r3.2.2.2.1 r3.2.2.2.2) fun r4 =>
bnd (arView r4.2.2.2.2.2.2.2.2 .bool r4.2.2.2.2.2.2.1.id) fun l5 =>
some (⟨r4.2.2.2.2.1, r4.2.2.2.2.2.1, l5, r4.2.2.2.2.2.2.2.1⟩)) : Option (Otc))
 (impl_WorldOutcome a0) := by
 exact fun r h => fn_le' (F := Tb) (G := GT) (sg := sg) (sig := s30100) (p := p30100) (by kernel_rfl) (by kernel_rfl) rfl rfl rfl rfl rfl ((show runC (phi Tb GT sg) Tb GT p30100.code (startAT p30100 (mkST p30100.ins [.agg (rowT .wld a0)] p30100.bins [])) (finT p30100 s30100) = _ by kernel_rfl).trans h)

theorem spec_WorldOutcome_le (a0 : Wld) : Tv.Le
 (bnd (spec_WorldValid a0) fun r1 =>
(bif (!r1) then
some (⟨[], [], [], false⟩)
else
bnd (appL ([] : List Int) a0.out) fun l2 =>
bnd (spec_l16Items a0.boxes) fun r3 =>
bnd (spec_WorldOutcome_l1 0 a0.tasks a0.boxes a0.turn a0.idle a0.out false [] false [] false [] false l2 r3 false ([] : List Bool) (decide (a0.idle = (a0.tasks.length : Int)))) fun r4 =>
some (⟨r4.2.2.2.2.1, r4.2.2.2.2.2.1, r4.2.2.2.2.2.2.1.2, r4.2.2.2.2.2.2.2⟩)) : Option (Otc))
 (spec_WorldOutcome a0) := by
 exact fun r h => fn_le' (F := Tb) (G := GT) (sg := sg) (sig := s30300) (p := p30300) (by kernel_rfl) (by kernel_rfl) rfl rfl rfl rfl rfl ((show runC (phi Tb GT sg) Tb GT p30300.code (startAT p30300 (mkST p30300.ins [.agg (rowT .wld a0)] p30300.bins [])) (finT p30300 s30300) = _ by kernel_rfl).trans h)

theorem laws_sameOutcome_le (a0 : Otc) (a1 : Otc) : Tv.Le
 (bnd (laws_sameInts a0.out a1.out) fun r1 =>
(bif r1 then
bnd (laws_sameLists a0.items a1.items) fun r2 =>
(bif r2 then
bnd (laws_sameFlags a0.ended a1.ended) fun r3 =>
(bif r3 then
some (a0.rest == a1.rest)
else
some false)
else
some false)
else
some false) : Option (Bool))
 (laws_sameOutcome a0 a1) := by
 exact fun r h => fn_le' (F := Tb) (G := GT) (sg := sg) (sig := s30600) (p := p30600) (by kernel_rfl) (by kernel_rfl) rfl rfl rfl rfl rfl ((show runC (phi Tb GT sg) Tb GT p30600.code (startAT p30600 (mkST p30600.ins [.agg (rowT .otc a0), .agg (rowT .otc a1)] p30600.bins [])) (finT p30600 s30600) = _ by kernel_rfl).trans h)

theorem laws_FnOutcome_l1_le (t6 : Int) (b100_0 : List Tk) (b100_1 : List Bx) (b100_2 : Int) (b100_3 : Int) (b100_4 : List Int) (b101_0 : List Int) (b101_1 : List (List Int)) (b101_2 : List Bool) (b101_3 : Bool) : Tv.Le
 ((bif (decide (t6 < (b100_0.length : Int))) then
bnd (geti b101_2 t6) fun e1 =>
bnd (geti b100_0 t6) fun e2 =>
(bif (!(e1 == (decide ((e2.rest.length : Int) = 0)))) then
some (.inr (false, b100_0, b100_1, b100_2, b100_3, b100_4, b101_0, b101_1, b101_2, b101_3))
else
laws_FnOutcome_l1 (wrap64 (t6 + 1)) b100_0 b100_1 b100_2 b100_3 b100_4 b101_0 b101_1 b101_2 b101_3)
else
some (.inl (b100_0, b100_1, b100_2, b100_3, b100_4, b101_0, b101_1, b101_2, b101_3))) : Option ((List Tk × List Bx × Int × Int × List Int × List Int × List (List Int) × List Bool × Bool) ⊕ (Bool × List Tk × List Bx × Int × Int × List Int × List Int × List (List Int) × List Bool × Bool)))
 (laws_FnOutcome_l1 t6 b100_0 b100_1 b100_2 b100_3 b100_4 b101_0 b101_1 b101_2 b101_3) := by
 rewrite [← wrapC_eq]
 exact fun r h => loop_le' (F := Tb) (G := GT) (sg := sg) (sig := s30701) (p := p30701) (by kernel_rfl) (by kernel_rfl) rfl rfl rfl ((show runC (phi Tb GT sg) Tb GT p30701.code ((mkST p30701.ins [.bp 100 0, .bp 101 0, .int .i64 t6] p30701.bins [.var [.sl .share .tk b100_0, .sl .share .bx b100_1, .int .i64 b100_2, .int .i64 b100_3, .sl .share .int b100_4], .var [.sl .share .int b101_0, .sl .share .ints b101_1, .sl .share .bool b101_2, .bool b101_3]])) (finL Tb GT 30701 p30701 s30701) = _ by kernel_rfl).trans h)

theorem laws_sameInts_le (a0 : List Int) (a1 : List Int) : Tv.Le
 ((bif (!decide ((a0.length : Int) = (a1.length : Int))) then
some false
else
bnd (laws_sameInts_l1 a0 a1 0) fun r1 =>
selm r1 (fun y2 =>
some true) (fun z3 =>
some z3)) : Option (Bool))
 (laws_sameInts a0 a1) := by
 exact fun r h => fn_le' (F := Tb) (G := GT) (sg := sg) (sig := s9700) (p := p9700) (by kernel_rfl) (by kernel_rfl) rfl rfl rfl rfl rfl ((show runC (phi Tb GT sg) Tb GT p9700.code (startAT p9700 (mkST p9700.ins [.sl .share .int a0, .sl .share .int a1] p9700.bins [])) (finT p9700 s9700) = _ by kernel_rfl).trans h)

theorem laws_FnOutcome_l2_le (t7 : Int) (b100_0 : List Tk) (b100_1 : List Bx) (b100_2 : Int) (b100_3 : Int) (b100_4 : List Int) (b101_0 : List Int) (b101_1 : List (List Int)) (b101_2 : List Bool) (b101_3 : Bool) : Tv.Le
 ((bif (decide (t7 < (b100_1.length : Int))) then
bnd (geti b101_1 t7) fun e1 =>
bnd (geti b100_1 t7) fun e2 =>
bnd (laws_sameInts e1 e2.items) fun r3 =>
(bif (!r3) then
some (.inr (false, b100_0, b100_1, b100_2, b100_3, b100_4, b101_0, b101_1, b101_2, b101_3))
else
laws_FnOutcome_l2 (wrap64 (t7 + 1)) b100_0 b100_1 b100_2 b100_3 b100_4 b101_0 b101_1 b101_2 b101_3)
else
some (.inl (b100_0, b100_1, b100_2, b100_3, b100_4, b101_0, b101_1, b101_2, b101_3))) : Option ((List Tk × List Bx × Int × Int × List Int × List Int × List (List Int) × List Bool × Bool) ⊕ (Bool × List Tk × List Bx × Int × Int × List Int × List Int × List (List Int) × List Bool × Bool)))
 (laws_FnOutcome_l2 t7 b100_0 b100_1 b100_2 b100_3 b100_4 b101_0 b101_1 b101_2 b101_3) := by
 rewrite [← wrapC_eq]
 exact fun r h => loop_le' (F := Tb) (G := GT) (sg := sg) (sig := s30702) (p := p30702) (by kernel_rfl) (by kernel_rfl) rfl rfl rfl ((show runC (phi Tb GT sg) Tb GT p30702.code ((mkST p30702.ins [.bp 100 0, .bp 101 0, .int .i64 t7] p30702.bins [.var [.sl .share .tk b100_0, .sl .share .bx b100_1, .int .i64 b100_2, .int .i64 b100_3, .sl .share .int b100_4], .var [.sl .share .int b101_0, .sl .share .ints b101_1, .sl .share .bool b101_2, .bool b101_3]])) (finL Tb GT 30702 p30702 s30702) = _ by kernel_rfl).trans h)

theorem spec_l6Open_le (a0 : List Int) : Tv.Le
 ((bif (decide (2000 < (a0.length : Int))) then
bnd (cutL a0 0 2000) fun l1 =>
some (l1, 0)
else
some (a0, 0)) : Option (List Int × Int))
 (spec_l6Open a0) := by
 exact fun r h => fn_le' (F := Tb) (G := GT) (sg := sg) (sig := s100) (p := p100) (by kernel_rfl) (by kernel_rfl) rfl rfl rfl rfl rfl ((show runC (phi Tb GT sg) Tb GT p100.code (startAT p100 (mkST p100.ins [.sl .share .u8 a0] p100.bins [])) (finT p100 s100) = _ by kernel_rfl).trans h)

theorem spec_l92World_le (a0b : List Int) (a0p : Int) : Tv.Le
 (bnd (spec_l92Program a0b a0p) fun r1 =>
bnd (spec_WorldNew r1.1) fun r2 =>
bnd (spec_l6Rd_pick 30 r1.2.1 r1.2.2) fun r3 =>
bnd (spec_WorldRun_o r2.1 r3.1 ([] : List Ent)) fun r4 =>
bnd (spec_l6Rd_pick 40 r3.2.1 r3.2.2) fun r5 =>
(bif (decide (r5.1 = 0)) then
bnd (arView r4.2.2 .int r4.1.out.id) fun l6 =>
some (⟨r4.1.tasks, r4.1.boxes, (r4.1.tasks.length : Int), r4.1.idle, l6⟩, r5.2.1, r5.2.2)
else
(bif (decide (r5.1 = 1)) then
bnd (spec_l6Rd_pick 2 r5.2.1 r5.2.2) fun r7 =>
bnd (geti ([(-1), (wrap64 ((r4.1.tasks.length : Int) + 1))] : List Int) r7.1) fun e8 =>
bnd (arView r4.2.2 .int r4.1.out.id) fun l9 =>
some (⟨r4.1.tasks, r4.1.boxes, r4.1.turn, e8, l9⟩, r7.2.1, r7.2.2)
else
(bif (decide (r5.1 = 2)) then
bnd (arView r4.2.2 .int r4.1.out.id) fun l10 =>
some (⟨r4.1.tasks, ([] : List Bx), r4.1.turn, r4.1.idle, l10⟩, r5.2.1, r5.2.2)
else
(bif (decide (r5.1 = 3)) then
bnd (arApp r4.2.2 .int r4.1.out.id r4.1.out.n ([(-2147483649)] : List Int)) fun B11 =>
bnd (arView B11 .int (some (List.length r4.2.2))) fun l12 =>
some (⟨r4.1.tasks, r4.1.boxes, r4.1.turn, r4.1.idle, l12⟩, r5.2.1, r5.2.2)
else
bnd (arView r4.2.2 .int r4.1.out.id) fun l13 =>
some (⟨r4.1.tasks, r4.1.boxes, r4.1.turn, r4.1.idle, l13⟩, r5.2.1, r5.2.2))))) : Option (Wld × List Int × Int))
 (spec_l92World a0b a0p) := by
 rewrite [← wrapC_eq]
 exact fun r h => fn_le' (F := Tb) (G := GT) (sg := sg) (sig := s28100) (p := p28100) (by kernel_rfl) (by kernel_rfl) rfl rfl rfl rfl rfl ((show runC (phi Tb GT sg) Tb GT p28100.code (startAT p28100 (mkST p28100.ins [.bp 0 0] p28100.bins [.var [.sl .share .u8 a0b, .int .i64 a0p]])) (finT p28100 s28100) = _ by kernel_rfl).trans h)

theorem impl_WorldValid_le (a0 : Wld) : Tv.Le
 (bnd (impl_turnsValid (a0.tasks.length : Int) a0.turn a0.idle a0.out) fun r1 =>
(bif (!r1) then
some false
else
bnd (impl_boxesValid a0.boxes) fun r2 =>
(bif (!r2) then
some false
else
bnd (impl_WorldValid_l1 a0.tasks (a0.tasks.length : Int) 0 a0.tasks a0.boxes a0.turn a0.idle a0.out) fun r3 =>
selm r3 (fun y4 =>
some true) (fun z5 =>
some z5))) : Option (Bool))
 (impl_WorldValid a0) := by
 exact fun r h => fn_le' (F := Tb) (G := GT) (sg := sg) (sig := s24000) (p := p24000) (by kernel_rfl) (by kernel_rfl) rfl rfl rfl rfl rfl ((show runC (phi Tb GT sg) Tb GT p24000.code (startAT p24000 (mkST p24000.ins [.agg (rowT .wld a0)] p24000.bins [])) (finT p24000 s24000) = _ by kernel_rfl).trans h)

theorem impl_outcomeOf_o_le (a0 : List Int) (a1 : List Bx) (a2 : Bool) (A : List Ent) : Tv.Le
 (bnd (slices_Clone___int_int_ a0) fun r1 =>
bnd (impl_outcomeOf_o_l1 a1 (a1.length : Int) 0 false [] false [] (⟨none, 0⟩ : Hd) false r1 false [] (⟨none, 0⟩ : Hd) a2 A) fun r2 =>
some (r2.2.2.2.2.1, r2.2.2.2.2.2.1.2, r2.2.2.2.2.2.2.1, r2.2.2.2.2.2.2.2.1, r2.2.2.2.2.2.2.2.2) : Option (List Int × List (List Int) × Hd × Bool × List Ent))
 (impl_outcomeOf_o a0 a1 a2 A) := by
 exact fun r h => fn_le' (F := Tb) (G := GT) (sg := sg) (sig := s39800) (p := p39800) (by kernel_rfl) (by kernel_rfl) rfl rfl rfl rfl rfl ((show runC (phi Tb GT sg) Tb GT p39800.code (startAT p39800 (mkST p39800.ins [.sl .share .int a0, .sl .share .bx a1, .bool a2] p39800.bins [.ar A])) (finT p39800 s39800) = _ by kernel_rfl).trans h)

theorem impl_WorldOutcome_l1_le (t22 : List Tk) (t23 : Int) (t24 : Int) (b101_0b : Bool) (b101_0 : List Int) (b101_1b : Bool) (b101_1 : List (List Int)) (b101_2 : Hd) (b101_3 : Bool) (b102_0 : List Int) (b102_1 : List (List Int)) (b102_2 : Hd) (b102_3 : Bool) (b99 : List Ent) : Tv.Le
 ((bif (decide (t24 < t23)) then
bnd (geti t22 t24) fun e1 =>
bnd (arApp b99 .bool b102_2.id b102_2.n ([(decide ((e1.rest.length : Int) = 0))] : List Bool)) fun B2 =>
impl_WorldOutcome_l1 t22 t23 (wrap64 (t24 + 1)) b101_0b b101_0 b101_1b b101_1 b101_2 b101_3 b102_0 b102_1 (⟨(some (List.length b99)), (b102_2.n + List.length ([(decide ((e1.rest.length : Int) = 0))] : List Bool))⟩ : Hd) b102_3 B2
else
some ((b101_0b, b101_0), (b101_1b, b101_1), b101_2, b101_3, b102_0, b102_1, b102_2, b102_3, b99)) : Option ((Bool × List Int) × (Bool × List (List Int)) × Hd × Bool × List Int × List (List Int) × Hd × Bool × List Ent))
 (impl_WorldOutcome_l1 t22 t23 t24 b101_0b b101_0 b101_1b b101_1 b101_2 b101_3 b102_0 b102_1 b102_2 b102_3 b99) := by
 rewrite [← wrapC_eq]
 exact fun r h => loop_le' (F := Tb) (G := GT) (sg := sg) (sig := s30101) (p := p30101) (by kernel_rfl) (by kernel_rfl) rfl rfl rfl ((show runC (phi Tb GT sg) Tb GT p30101.code ((mkST p30101.ins [.bp 101 0, .bp 102 0, .sl .share .tk t22, .int .i64 t23, .int .i64 t24] p30101.bins [.var [.sl (.own b101_0b) .int b101_0, .sl (.own b101_1b) .ints b101_1, .tr .bool b101_2.id b101_2.n, .bool b101_3], .var [.sl .share .int b102_0, .sl .share .ints b102_1, .tr .bool b102_2.id b102_2.n, .bool b102_3], .ar b99])) (finL Tb GT 30101 p30101 s30101) = _ by kernel_rfl).trans h)

theorem spec_WorldValid_le (a0 : Wld) : Tv.Le
 (bnd (spec_l6In (a0.tasks.length : Int) 1 3) fun r1 =>
(bif (!r1) then
some false
else
bnd (spec_l15Boxes a0.boxes) fun r2 =>
(bif (!r2) then
some false
else
bnd (spec_l6In a0.turn 0 (wrap64 ((a0.tasks.length : Int) - 1))) fun r3 =>
(bif (!r3) then
some false
else
bnd (spec_l6In a0.idle 0 (a0.tasks.length : Int)) fun r4 =>
(bif (!r4) then
some false
else
bnd (spec_WorldValid_l1 (a0.tasks.length : Int) 0 a0.tasks a0.boxes a0.turn a0.idle a0.out) fun r5 =>
selm r5 (fun y6 =>
bnd (spec_l4Words y6.2.2.2.2 (y6.2.2.2.2.length : Int)) fun r8 =>
some r8) (fun z7 =>
some z7.1))))) : Option (Bool))
 (spec_WorldValid a0) := by
 rewrite [← wrapC_eq]
 exact fun r h => fn_le' (F := Tb) (G := GT) (sg := sg) (sig := s24700) (p := p24700) (by kernel_rfl) (by kernel_rfl) rfl rfl rfl rfl rfl ((show runC (phi Tb GT sg) Tb GT p24700.code (startAT p24700 (mkST p24700.ins [.agg (rowT .wld a0)] p24700.bins [])) (finT p24700 s24700) = _ by kernel_rfl).trans h)

theorem spec_l16Items_le (a0 : List Bx) : Tv.Le
 (bnd (spec_l16Items_l1 a0 true ([] : List (List Int)) 0) fun r1 =>
some r1.2 : Option (List (List Int)))
 (spec_l16Items a0) := by
 exact fun r h => fn_le' (F := Tb) (G := GT) (sg := sg) (sig := s30200) (p := p30200) (by kernel_rfl) (by kernel_rfl) rfl rfl rfl rfl rfl ((show runC (phi Tb GT sg) Tb GT p30200.code (startAT p30200 (mkST p30200.ins [.sl .share .bx a0] p30200.bins [])) (finT p30200 s30200) = _ by kernel_rfl).trans h)

theorem spec_WorldOutcome_l1_le (t4 : Int) (b100_0 : List Tk) (b100_1 : List Bx) (b100_2 : Int) (b100_3 : Int) (b100_4 : List Int) (b101_0b : Bool) (b101_0 : List Int) (b101_1b : Bool) (b101_1 : List (List Int)) (b101_2b : Bool) (b101_2 : List Bool) (b101_3 : Bool) (b102_0 : List Int) (b102_1 : List (List Int)) (b102_2b : Bool) (b102_2 : List Bool) (b102_3 : Bool) : Tv.Le
 ((bif (decide (t4 < (b100_0.length : Int))) then
bnd (geti b100_0 t4) fun e1 =>
bnd (appL b102_2 ([(decide ((e1.rest.length : Int) = 0))] : List Bool)) fun l2 =>
spec_WorldOutcome_l1 (wrap64 (t4 + 1)) b100_0 b100_1 b100_2 b100_3 b100_4 b101_0b b101_0 b101_1b b101_1 b101_2b b101_2 b101_3 b102_0 b102_1 true l2 b102_3
else
some ((b101_0b, b101_0), (b101_1b, b101_1), (b101_2b, b101_2), b101_3, b102_0, b102_1, (b102_2b, b102_2), b102_3)) : Option ((Bool × List Int) × (Bool × List (List Int)) × (Bool × List Bool) × Bool × List Int × List (List Int) × (Bool × List Bool) × Bool))
 (spec_WorldOutcome_l1 t4 b100_0 b100_1 b100_2 b100_3 b100_4 b101_0b b101_0 b101_1b b101_1 b101_2b b101_2 b101_3 b102_0 b102_1 b102_2b b102_2 b102_3) := by
 rewrite [← wrapC_eq]
 exact fun r h => loop_le' (F := Tb) (G := GT) (sg := sg) (sig := s30301) (p := p30301) (by kernel_rfl) (by kernel_rfl) rfl rfl rfl ((show runC (phi Tb GT sg) Tb GT p30301.code ((mkST p30301.ins [.bp 100 0, .bp 101 0, .bp 102 0, .int .i64 t4] p30301.bins [.var [.sl .share .tk b100_0, .sl .share .bx b100_1, .int .i64 b100_2, .int .i64 b100_3, .sl .share .int b100_4], .var [.sl (.own b101_0b) .int b101_0, .sl (.own b101_1b) .ints b101_1, .sl (.own b101_2b) .bool b101_2, .bool b101_3], .var [.sl .share .int b102_0, .sl .share .ints b102_1, .sl (.own b102_2b) .bool b102_2, .bool b102_3]])) (finL Tb GT 30301 p30301 s30301) = _ by kernel_rfl).trans h)

theorem laws_sameLists_le (a0 : List (List Int)) (a1 : List (List Int)) : Tv.Le
 ((bif (!decide ((a0.length : Int) = (a1.length : Int))) then
some false
else
bnd (laws_sameLists_l1 a0 a1 0) fun r1 =>
selm r1 (fun y2 =>
some true) (fun z3 =>
some z3)) : Option (Bool))
 (laws_sameLists a0 a1) := by
 exact fun r h => fn_le' (F := Tb) (G := GT) (sg := sg) (sig := s30400) (p := p30400) (by kernel_rfl) (by kernel_rfl) rfl rfl rfl rfl rfl ((show runC (phi Tb GT sg) Tb GT p30400.code (startAT p30400 (mkST p30400.ins [.sl .share .ints a0, .sl .share .ints a1] p30400.bins [])) (finT p30400 s30400) = _ by kernel_rfl).trans h)

theorem laws_sameFlags_le (a0 : List Bool) (a1 : List Bool) : Tv.Le
 ((bif (!decide ((a0.length : Int) = (a1.length : Int))) then
some false
else
bnd (laws_sameFlags_l1 a0 a1 0) fun r1 =>
selm r1 (fun y2 =>
some true) (fun z3 =>
some z3)) : Option (Bool))
 (laws_sameFlags a0 a1) := by
 exact fun r h => fn_le' (F := Tb) (G := GT) (sg := sg) (sig := s30500) (p := p30500) (by kernel_rfl) (by kernel_rfl) rfl rfl rfl rfl rfl ((show runC (phi Tb GT sg) Tb GT p30500.code (startAT p30500 (mkST p30500.ins [.sl .share .bool a0, .sl .share .bool a1] p30500.bins [])) (finT p30500 s30500) = _ by kernel_rfl).trans h)

theorem laws_sameInts_l1_le (t0 : List Int) (t1 : List Int) (t5 : Int) : Tv.Le
 ((bif (decide (t5 < (t0.length : Int))) then
bnd (geti t0 t5) fun e1 =>
bnd (geti t1 t5) fun e2 =>
(bif (!decide (e1 = e2)) then
some (.inr false)
else
laws_sameInts_l1 t0 t1 (wrap64 (t5 + 1)))
else
some (.inl ())) : Option (Unit ⊕ Bool))
 (laws_sameInts_l1 t0 t1 t5) := by
 rewrite [← wrapC_eq]
 exact fun r h => loop_le' (F := Tb) (G := GT) (sg := sg) (sig := s9701) (p := p9701) (by kernel_rfl) (by kernel_rfl) rfl rfl rfl ((show runC (phi Tb GT sg) Tb GT p9701.code ((mkST p9701.ins [.sl .share .int t0, .sl .share .int t1, .int .i64 t5] p9701.bins [])) (finL Tb GT 9701 p9701 s9701) = _ by kernel_rfl).trans h)

theorem spec_l92Program_le (a0b : List Int) (a0p : Int) : Tv.Le
 (bnd (spec_l92Rooms a0b a0p) fun r1 =>
bnd (spec_l6Rd_pick 3 r1.2.1 r1.2.2) fun r2 =>
bnd (spec_l92Program_l1 (wrap64 (1 + r2.1)) 0 r2.2.1 r2.2.2 false [] (⟨none, 0⟩ : Hd) r1.1 (⟨(some (List.length ([] : List Ent))), 0⟩ : Hd) (arPush ([] : List Ent) .stms ([] : List (List Stm)))) fun r3 =>
bnd (spec_l6Rd_pick 16 r3.1 r3.2.1) fun r4 =>
(bif (decide (r4.1 = 0)) then
bnd (spec_l92Endless r4.2.1 r4.2.2) fun r5 =>
bnd (idxN r3.2.2.2.2.2.1.n 0) fun i6 =>
bnd (arRow r3.2.2.2.2.2.2 .stms r3.2.2.2.2.2.1.id i6) fun e7 =>
bnd (arView (arSet r3.2.2.2.2.2.2 .stms r3.2.2.2.2.2.1.id i6 ([⟨r5.1.kind, r5.1.var, r5.1.box, ⟨r5.1.e.op, r5.1.e.n, r5.1.e.args⟩, r5.1.body, r5.1.els⟩] : List Stm)) .stms r3.2.2.2.2.2.1.id) fun l8 =>
some (⟨r3.2.2.2.2.1, l8⟩, r5.2.1, r5.2.2)
else
bnd (arView r3.2.2.2.2.2.2 .stms r3.2.2.2.2.2.1.id) fun l9 =>
some (⟨r3.2.2.2.2.1, l9⟩, r4.2.1, r4.2.2)) : Option (Prg × List Int × Int))
 (spec_l92Program a0b a0p) := by
 rewrite [← wrapC_eq]
 exact fun r h => fn_le' (F := Tb) (G := GT) (sg := sg) (sig := s22400) (p := p22400) (by kernel_rfl) (by kernel_rfl) rfl rfl rfl rfl rfl ((show runC (phi Tb GT sg) Tb GT p22400.code (startAT p22400 (mkST p22400.ins [.bp 0 0] p22400.bins [.var [.sl .share .u8 a0b, .int .i64 a0p]])) (finT p22400 s22400) = _ by kernel_rfl).trans h)

theorem spec_WorldNew_le (a0 : Prg) : Tv.Le
 (bnd (spec_ProgramValid a0) fun r1 =>
(bif (!r1) then
some (⟨[], [], 0, 0, []⟩, false)
else
bnd (spec_l16Empty a0.rooms) fun r2 =>
bnd (spec_WorldNew_l1 0 a0.rooms a0.tasks false [] false [] 0 0 false [] false ([] : List Tk) r2 0 0 false ([] : List Int)) fun r3 =>
some (⟨r3.2.2.2.2.2.1.2, r3.2.2.2.2.2.2.1, r3.2.2.2.2.2.2.2.1, r3.2.2.2.2.2.2.2.2.1, r3.2.2.2.2.2.2.2.2.2.2⟩, true)) : Option (Wld × Bool))
 (spec_WorldNew a0) := by
 exact fun r h => fn_le' (F := Tb) (G := GT) (sg := sg) (sig := s23500) (p := p23500) (by kernel_rfl) (by kernel_rfl) rfl rfl rfl rfl rfl ((show runC (phi Tb GT sg) Tb GT p23500.code (startAT p23500 (mkST p23500.ins [.agg (rowT .prg a0)] p23500.bins [])) (finT p23500 s23500) = _ by kernel_rfl).trans h)

theorem spec_l6Rd_pick_le (a1 : Int) (a0b : List Int) (a0p : Int) : Tv.Le
 ((bif (decide (a1 < 1)) then
some (0, a0b, (wrap64 (a0p + 1)))
else
(bif (decide ((a0b.length : Int) = 0)) then
some (0, a0b, (wrap64 (a0p + 1)))
else
(bif (decide ((wrap64 ((wrap64 (a0p + 1)) - 1)) < (a0b.length : Int))) then
bnd (geti a0b (wrap64 ((wrap64 (a0p + 1)) - 1))) fun e1 =>
bnd (remI (wrap64 (e1)) a1) fun n2 =>
some (n2, a0b, (wrap64 (a0p + 1)))
else
bnd (remI (wrap64 ((wrap64 (a0p + 1)) - 1)) (a0b.length : Int)) fun n3 =>
bnd (geti a0b n3) fun e4 =>
bnd (remI (wrap64 ((wrap64 ((wrap64 ((wrap64 (a0p + 1)) - 1)) * 7)) + 3)) (a0b.length : Int)) fun n5 =>
bnd (geti a0b n5) fun e6 =>
bnd (quoI .i64 (wrap64 ((wrap64 (a0p + 1)) - 1)) (a0b.length : Int)) fun n7 =>
bnd (remI (bits .xor .i64 (wrap64 ((wrap64 ((wrap64 ((wrap64 ((wrap64 (e4)) * 131)) + (wrap64 ((wrap64 (e6)) * 1117)))) + (wrap64 ((wrap64 ((wrap64 (a0p + 1)) - 1)) * 29)))) + (wrap64 (n7 * 53)))) (wrap64 (Int.tdiv (wrap64 ((wrap64 ((wrap64 ((wrap64 ((wrap64 (e4)) * 131)) + (wrap64 ((wrap64 (e6)) * 1117)))) + (wrap64 ((wrap64 ((wrap64 (a0p + 1)) - 1)) * 29)))) + (wrap64 (n7 * 53)))) 64))) a1) fun n8 =>
some (n8, a0b, (wrap64 (a0p + 1)))))) : Option (Int × List Int × Int))
 (spec_l6Rd_pick a1 a0b a0p) := by
 rewrite [← wrapC_eq]
 exact fun r h => fn_le' (F := Tb) (G := GT) (sg := sg) (sig := s200) (p := p200) (by kernel_rfl) (by kernel_rfl) rfl rfl rfl rfl rfl ((show runC (phi Tb GT sg) Tb GT p200.code (startAT p200 (mkST p200.ins [.bp 0 0, .int .i64 a1] p200.bins [.var [.sl .share .u8 a0b, .int .i64 a0p]])) (finT p200 s200) = _ by kernel_rfl).trans h)

theorem spec_WorldRun_o_le (a0 : Wld) (a1 : Int) (A : List Ent) : Tv.Le
 (bnd (spec_WorldValid a0) fun r1 =>
(bif (!r1) then
some (⟨[], [], 0, 0, ⟨none, 0⟩⟩, false, A)
else
bnd (spec_l6In a1 0 100000) fun r2 =>
(bif (!r2) then
some (⟨[], [], 0, 0, ⟨none, 0⟩⟩, false, A)
else
bnd (spec_l16Copy_o a0 A) fun r3 =>
bnd (spec_WorldRun_o_l1 a1 0 false [] false [] 0 0 (⟨none, 0⟩ : Hd) r3.1.tasks r3.1.boxes r3.1.turn r3.1.idle r3.1.out r3.2) fun r4 =>
some (⟨r4.2.2.2.2.2.1, r4.2.2.2.2.2.2.1, r4.2.2.2.2.2.2.2.1, r4.2.2.2.2.2.2.2.2.1, r4.2.2.2.2.2.2.2.2.2.1⟩, true, r4.2.2.2.2.2.2.2.2.2.2))) : Option (WldO × Bool × List Ent))
 (spec_WorldRun_o a0 a1 A) := by
 exact fun r h => fn_le' (F := Tb) (G := GT) (sg := sg) (sig := s40100) (p := p40100) (by kernel_rfl) (by kernel_rfl) rfl rfl rfl rfl rfl ((show runC (phi Tb GT sg) Tb GT p40100.code (startAT p40100 (mkST p40100.ins [.agg (rowT .wld a0), .int .i64 a1] p40100.bins [.ar A])) (finT p40100 s40100) = _ by kernel_rfl).trans h)

theorem impl_turnsValid_le (a0 : Int) (a1 : Int) (a2 : Int) (a3 : List Int) : Tv.Le
 ((bif (decide (1 ≤ a0)) then
(bif (decide (a0 ≤ 3)) then
(bif (decide (0 ≤ a1)) then
(bif (decide (a1 < a0)) then
(bif (decide (0 ≤ a2)) then
(bif (decide (a2 ≤ a0)) then
bnd (impl_areWords a3) fun r1 =>
some r1
else
some false)
else
some false)
else
some false)
else
some false)
else
some false)
else
some false) : Option (Bool))
 (impl_turnsValid a0 a1 a2 a3) := by
 exact fun r h => fn_le' (F := Tb) (G := GT) (sg := sg) (sig := s23800) (p := p23800) (by kernel_rfl) (by kernel_rfl) rfl rfl rfl rfl rfl ((show runC (phi Tb GT sg) Tb GT p23800.code (startAT p23800 (mkST p23800.ins [.int .i64 a0, .int .i64 a1, .int .i64 a2, .sl .share .int a3] p23800.bins [])) (finT p23800 s23800) = _ by kernel_rfl).trans h)

theorem impl_boxesValid_le (a0 : List Bx) : Tv.Le
 (bnd (impl_boxesValid_l1 a0 a0 (a0.length : Int) 0) fun r1 =>
selm r1 (fun y2 =>
some (decide ((y2.length : Int) ≤ 3))) (fun z3 =>
some z3.2) : Option (Bool))
 (impl_boxesValid a0) := by
 exact fun r h => fn_le' (F := Tb) (G := GT) (sg := sg) (sig := s23900) (p := p23900) (by kernel_rfl) (by kernel_rfl) rfl rfl rfl rfl rfl ((show runC (phi Tb GT sg) Tb GT p23900.code (startAT p23900 (mkST p23900.ins [.sl .share .bx a0] p23900.bins [])) (finT p23900 s23900) = _ by kernel_rfl).trans h)

theorem impl_taskValid_le (a0 : Tk) (a1 : Int) : Tv.Le
 ((bif (!decide ((a0.vars.length : Int) = 4)) then
some false
else
bnd (impl_areWords a0.vars) fun r1 =>
(bif (!r1) then
some false
else
bnd (impl_taskValid_l1 a1 (a0.rest.length : Int) 0 a0.vars a0.rest) fun r2 =>
selm r2 (fun y3 =>
some true) (fun z4 =>
some z4))) : Option (Bool))
 (impl_taskValid a0 a1) := by
 exact fun r h => fn_le' (F := Tb) (G := GT) (sg := sg) (sig := s5500) (p := p5500) (by kernel_rfl) (by kernel_rfl) rfl rfl rfl rfl rfl ((show runC (phi Tb GT sg) Tb GT p5500.code (startAT p5500 (mkST p5500.ins [.agg (rowT .tk a0), .int .i64 a1] p5500.bins [])) (finT p5500 s5500) = _ by kernel_rfl).trans h)

theorem impl_WorldValid_l1_le (t23 : List Tk) (t24 : Int) (t25 : Int) (b100_0 : List Tk) (b100_1 : List Bx) (b100_2 : Int) (b100_3 : Int) (b100_4 : List Int) : Tv.Le
 ((bif (decide (t25 < t24)) then
bnd (geti t23 t25) fun e1 =>
bnd (impl_taskValid e1 (b100_1.length : Int)) fun r2 =>
(bif (!r2) then
some (.inr false)
else
impl_WorldValid_l1 t23 t24 (wrap64 (t25 + 1)) b100_0 b100_1 b100_2 b100_3 b100_4)
else
some (.inl ())) : Option (Unit ⊕ Bool))
 (impl_WorldValid_l1 t23 t24 t25 b100_0 b100_1 b100_2 b100_3 b100_4) := by
 rewrite [← wrapC_eq]
 exact fun r h => loop_le' (F := Tb) (G := GT) (sg := sg) (sig := s24001) (p := p24001) (by kernel_rfl) (by kernel_rfl) rfl rfl rfl ((show runC (phi Tb GT sg) Tb GT p24001.code ((mkST p24001.ins [.bp 100 0, .sl .share .tk t23, .int .i64 t24, .int .i64 t25] p24001.bins [.var [.sl .share .tk b100_0, .sl .share .bx b100_1, .int .i64 b100_2, .int .i64 b100_3, .sl .share .int b100_4]])) (finL Tb GT 24001 p24001 s24001) = _ by kernel_rfl).trans h)

theorem slices_Clone___int_int__le (a0 : List Int) : Tv.Le (if a0.length ≤ 4294967296 then some a0 else none : Option (List Int)) (slices_Clone___int_int_ a0) := fun r h => by
  split at h
  · injection h with h
    subst h
    exact prim_le (F := Tb) (G := GT) (sg := fun _ => s16700) (g := 16700) (p := p16700) (x := a0) (tv := [.sl .share .int a0]) (v := .sl (.own true) .int a0) (by kernel_rfl) rfl (clone_pf ‹_›) rfl
  · cases h

theorem impl_outcomeOf_o_l1_le (t14 : List Bx) (t15 : Int) (t16 : Int) (b100_0b : Bool) (b100_0 : List Int) (b100_1b : Bool) (b100_1 : List (List Int)) (b100_2 : Hd) (b100_3 : Bool) (b101_0 : List Int) (b101_1b : Bool) (b101_1 : List (List Int)) (b101_2 : Hd) (b101_3 : Bool) (b99 : List Ent) : Tv.Le
 ((bif (decide (t16 < t15)) then
bnd (geti t14 t16) fun e1 =>
bnd (slices_Clone___int_int_ e1.items) fun r2 =>
bnd (appL b101_1 ([r2] : List (List Int))) fun l3 =>
impl_outcomeOf_o_l1 t14 t15 (wrap64 (t16 + 1)) b100_0b b100_0 b100_1b b100_1 b100_2 b100_3 b101_0 true l3 b101_2 b101_3 b99
else
some ((b100_0b, b100_0), (b100_1b, b100_1), b100_2, b100_3, b101_0, (b101_1b, b101_1), b101_2, b101_3, b99)) : Option ((Bool × List Int) × (Bool × List (List Int)) × Hd × Bool × List Int × (Bool × List (List Int)) × Hd × Bool × List Ent))
 (impl_outcomeOf_o_l1 t14 t15 t16 b100_0b b100_0 b100_1b b100_1 b100_2 b100_3 b101_0 b101_1b b101_1 b101_2 b101_3 b99) := by
 rewrite [← wrapC_eq]
 exact fun r h => loop_le' (F := Tb) (G := GT) (sg := sg) (sig := s39801) (p := p39801) (by kernel_rfl) (by kernel_rfl) rfl rfl rfl ((show runC (phi Tb GT sg) Tb GT p39801.code ((mkST p39801.ins [.bp 100 0, .bp 101 0, .sl .share .bx t14, .int .i64 t15, .int .i64 t16] p39801.bins [.var [.sl (.own b100_0b) .int b100_0, .sl (.own b100_1b) .ints b100_1, .tr .bool b100_2.id b100_2.n, .bool b100_3], .var [.sl .share .int b101_0, .sl (.own b101_1b) .ints b101_1, .tr .bool b101_2.id b101_2.n, .bool b101_3], .ar b99])) (finL Tb GT 39801 p39801 s39801) = _ by kernel_rfl).trans h)

theorem spec_l6In_le (a0 : Int) (a1 : Int) (a2 : Int) : Tv.Le
 ((bif (decide (a1 ≤ a0)) then
some (decide (a0 ≤ a2))
else
some false) : Option (Bool))
 (spec_l6In a0 a1 a2) := by
 exact fun r h => fn_le' (F := Tb) (G := GT) (sg := sg) (sig := s1600) (p := p1600) (by kernel_rfl) (by kernel_rfl) rfl rfl rfl rfl rfl ((show runC (phi Tb GT sg) Tb GT p1600.code (startAT p1600 (mkST p1600.ins [.int .i64 a0, .int .i64 a1, .int .i64 a2] p1600.bins [])) (finT p1600 s1600) = _ by kernel_rfl).trans h)

theorem spec_l15Boxes_le (a0 : List Bx) : Tv.Le
 (bnd (spec_l15Boxes_l1 a0 0) fun r1 =>
selm r1 (fun y2 =>
some (decide ((y2.length : Int) ≤ 3))) (fun z3 =>
some z3.2) : Option (Bool))
 (spec_l15Boxes a0) := by
 exact fun r h => fn_le' (F := Tb) (G := GT) (sg := sg) (sig := s24600) (p := p24600) (by kernel_rfl) (by kernel_rfl) rfl rfl rfl rfl rfl ((show runC (phi Tb GT sg) Tb GT p24600.code (startAT p24600 (mkST p24600.ins [.sl .share .bx a0] p24600.bins [])) (finT p24600 s24600) = _ by kernel_rfl).trans h)

theorem spec_TaskValid_le (a0 : Tk) : Tv.Le
 (bnd (spec_TaskValid_l1 0 a0.vars a0.rest) fun r1 =>
selm r1 (fun y2 =>
bnd (spec_l4Words y2.1 4) fun r4 =>
some r4) (fun z3 =>
some z3.1) : Option (Bool))
 (spec_TaskValid a0) := by
 exact fun r h => fn_le' (F := Tb) (G := GT) (sg := sg) (sig := s6600) (p := p6600) (by kernel_rfl) (by kernel_rfl) rfl rfl rfl rfl rfl ((show runC (phi Tb GT sg) Tb GT p6600.code (startAT p6600 (mkST p6600.ins [.agg (rowT .tk a0)] p6600.bins [])) (finT p6600 s6600) = _ by kernel_rfl).trans h)

theorem spec_l12Boxes_le (a0 : List Stm) (a1 : Int) : Tv.Le
 (bnd (spec_l12Boxes_l1 a0 a1 0) fun r1 =>
selm r1 (fun y2 =>
some true) (fun z3 =>
some z3) : Option (Bool))
 (spec_l12Boxes a0 a1) := by
 exact fun r h => fn_le' (F := Tb) (G := GT) (sg := sg) (sig := s23100) (p := p23100) (by kernel_rfl) (by kernel_rfl) rfl rfl rfl rfl rfl ((show runC (phi Tb GT sg) Tb GT p23100.code (startAT p23100 (mkST p23100.ins [.sl .share .stm a0, .int .i64 a1] p23100.bins [])) (finT p23100 s23100) = _ by kernel_rfl).trans h)

theorem spec_WorldValid_l1_le (t3 : Int) (t4 : Int) (b100_0 : List Tk) (b100_1 : List Bx) (b100_2 : Int) (b100_3 : Int) (b100_4 : List Int) : Tv.Le
 ((bif (decide (t4 < t3)) then
bnd (geti b100_0 t4) fun e1 =>
bnd (spec_TaskValid e1) fun r2 =>
(bif (!r2) then
some (.inr (false, b100_0, b100_1, b100_2, b100_3, b100_4))
else
bnd (geti b100_0 t4) fun e3 =>
bnd (spec_l12Boxes e3.rest (b100_1.length : Int)) fun r4 =>
(bif (!r4) then
some (.inr (false, b100_0, b100_1, b100_2, b100_3, b100_4))
else
spec_WorldValid_l1 t3 (wrap64 (t4 + 1)) b100_0 b100_1 b100_2 b100_3 b100_4))
else
some (.inl (b100_0, b100_1, b100_2, b100_3, b100_4))) : Option ((List Tk × List Bx × Int × Int × List Int) ⊕ (Bool × List Tk × List Bx × Int × Int × List Int)))
 (spec_WorldValid_l1 t3 t4 b100_0 b100_1 b100_2 b100_3 b100_4) := by
 rewrite [← wrapC_eq]
 exact fun r h => loop_le' (F := Tb) (G := GT) (sg := sg) (sig := s24701) (p := p24701) (by kernel_rfl) (by kernel_rfl) rfl rfl rfl ((show runC (phi Tb GT sg) Tb GT p24701.code ((mkST p24701.ins [.bp 100 0, .int .i64 t3, .int .i64 t4] p24701.bins [.var [.sl .share .tk b100_0, .sl .share .bx b100_1, .int .i64 b100_2, .int .i64 b100_3, .sl .share .int b100_4]])) (finL Tb GT 24701 p24701 s24701) = _ by kernel_rfl).trans h)

theorem spec_l4Words_le (a0 : List Int) (a1 : Int) : Tv.Le
 ((bif (!decide ((a0.length : Int) = a1)) then
some false
else
bnd (spec_l4Words_l1 a0 0) fun r1 =>
selm r1 (fun y2 =>
some true) (fun z3 =>
some z3)) : Option (Bool))
 (spec_l4Words a0 a1) := by
 exact fun r h => fn_le' (F := Tb) (G := GT) (sg := sg) (sig := s6500) (p := p6500) (by kernel_rfl) (by kernel_rfl) rfl rfl rfl rfl rfl ((show runC (phi Tb GT sg) Tb GT p6500.code (startAT p6500 (mkST p6500.ins [.sl .share .int a0, .int .i64 a1] p6500.bins [])) (finT p6500 s6500) = _ by kernel_rfl).trans h)

theorem spec_l16Items_l1_le (t0 : List Bx) (t3b : Bool) (t3 : List (List Int)) (t4 : Int) : Tv.Le
 ((bif (decide (t4 < (t0.length : Int))) then
bnd (geti t0 t4) fun e1 =>
bnd (appL ([] : List Int) e1.items) fun l2 =>
bnd (appL t3 ([l2] : List (List Int))) fun l3 =>
spec_l16Items_l1 t0 true l3 (wrap64 (t4 + 1))
else
some (t3b, t3)) : Option ((Bool × List (List Int))))
 (spec_l16Items_l1 t0 t3b t3 t4) := by
 rewrite [← wrapC_eq]
 exact fun r h => loop_le' (F := Tb) (G := GT) (sg := sg) (sig := s30201) (p := p30201) (by kernel_rfl) (by kernel_rfl) rfl rfl rfl ((show runC (phi Tb GT sg) Tb GT p30201.code ((mkST p30201.ins [.sl .share .bx t0, .sl (.own t3b) .ints t3, .int .i64 t4] p30201.bins [])) (finL Tb GT 30201 p30201 s30201) = _ by kernel_rfl).trans h)

theorem laws_sameLists_l1_le (t0 : List (List Int)) (t1 : List (List Int)) (t5 : Int) : Tv.Le
 ((bif (decide (t5 < (t0.length : Int))) then
bnd (geti t0 t5) fun e1 =>
bnd (geti t1 t5) fun e2 =>
bnd (laws_sameInts e1 e2) fun r3 =>
(bif (!r3) then
some (.inr false)
else
laws_sameLists_l1 t0 t1 (wrap64 (t5 + 1)))
else
some (.inl ())) : Option (Unit ⊕ Bool))
 (laws_sameLists_l1 t0 t1 t5) := by
 rewrite [← wrapC_eq]
 exact fun r h => loop_le' (F := Tb) (G := GT) (sg := sg) (sig := s30401) (p := p30401) (by kernel_rfl) (by kernel_rfl) rfl rfl rfl ((show runC (phi Tb GT sg) Tb GT p30401.code ((mkST p30401.ins [.sl .share .ints t0, .sl .share .ints t1, .int .i64 t5] p30401.bins [])) (finL Tb GT 30401 p30401 s30401) = _ by kernel_rfl).trans h)

theorem laws_sameFlags_l1_le (t0 : List Bool) (t1 : List Bool) (t5 : Int) : Tv.Le
 ((bif (decide (t5 < (t0.length : Int))) then
bnd (geti t0 t5) fun e1 =>
bnd (geti t1 t5) fun e2 =>
(bif (!(e1 == e2)) then
some (.inr false)
else
laws_sameFlags_l1 t0 t1 (wrap64 (t5 + 1)))
else
some (.inl ())) : Option (Unit ⊕ Bool))
 (laws_sameFlags_l1 t0 t1 t5) := by
 rewrite [← wrapC_eq]
 exact fun r h => loop_le' (F := Tb) (G := GT) (sg := sg) (sig := s30501) (p := p30501) (by kernel_rfl) (by kernel_rfl) rfl rfl rfl ((show runC (phi Tb GT sg) Tb GT p30501.code ((mkST p30501.ins [.sl .share .bool t0, .sl .share .bool t1, .int .i64 t5] p30501.bins [])) (finL Tb GT 30501 p30501 s30501) = _ by kernel_rfl).trans h)

theorem spec_l92Rooms_le (a0b : List Int) (a0p : Int) : Tv.Le
 (bnd (spec_l6Rd_pick 6 a0b a0p) fun r1 =>
bnd (geti ([0, 1, 1, 2, 2, 3] : List Int) r1.1) fun e2 =>
bnd (spec_l92Rooms_l1 true ([] : List Int) e2 0 r1.2.1 r1.2.2) fun r3 =>
some (r3.1.2, r3.2.1, r3.2.2) : Option (List Int × List Int × Int))
 (spec_l92Rooms a0b a0p) := by
 exact fun r h => fn_le' (F := Tb) (G := GT) (sg := sg) (sig := s22300) (p := p22300) (by kernel_rfl) (by kernel_rfl) rfl rfl rfl rfl rfl ((show runC (phi Tb GT sg) Tb GT p22300.code (startAT p22300 (mkST p22300.ins [.bp 0 0] p22300.bins [.var [.sl .share .u8 a0b, .int .i64 a0p]])) (finT p22300 s22300) = _ by kernel_rfl).trans h)

theorem spec_l92Stmts_le (a1 : Int) (a0b : List Int) (a0p : Int) : Tv.Le
 (bnd (spec_l6Rd_pick 6 a0b a0p) fun r1 =>
bnd (spec_l92Block a1 3 (wrap64 (1 + r1.1)) true r1.2.1 r1.2.2) fun r2 =>
bnd (spec_l92Stmts_l1 (.own true) r2.1 r2.2.1 r2.2.2) fun r3 =>
some (((Md.res r3.1.1), r3.1.2), r3.2.1, r3.2.2) : Option ((Md × List Stm) × List Int × Int))
 (spec_l92Stmts a1 a0b a0p) := by
 rewrite [← wrapC_eq]
 exact fun r h => fn_le' (F := Tb) (G := GT) (sg := sg) (sig := s4700) (p := p4700) (by kernel_rfl) (by kernel_rfl) rfl rfl rfl rfl rfl ((show runC (phi Tb GT sg) Tb GT p4700.code (startAT p4700 (mkST p4700.ins [.bp 0 0, .int .i64 a1] p4700.bins [.var [.sl .share .u8 a0b, .int .i64 a0p]])) (finT p4700 s4700) = _ by kernel_rfl).trans h)

theorem spec_l92Program_l1_le (t4 : Int) (t5 : Int) (b0_0 : List Int) (b0_1 : Int) (b100_0b : Bool) (b100_0 : List Int) (b100_1 : Hd) (b101_0 : List Int) (b101_1 : Hd) (b99 : List Ent) : Tv.Le
 ((bif (decide (t5 < t4)) then
bnd (spec_l92Stmts (b101_0.length : Int) b0_0 b0_1) fun r1 =>
bnd (arApp b99 .stms b101_1.id b101_1.n ([r1.1.2] : List (List Stm))) fun B2 =>
spec_l92Program_l1 t4 (wrap64 (t5 + 1)) r1.2.1 r1.2.2 b100_0b b100_0 b100_1 b101_0 (⟨(some (List.length b99)), (b101_1.n + List.length ([r1.1.2] : List (List Stm)))⟩ : Hd) B2
else
some (b0_0, b0_1, (b100_0b, b100_0), b100_1, b101_0, b101_1, b99)) : Option (List Int × Int × (Bool × List Int) × Hd × List Int × Hd × List Ent))
 (spec_l92Program_l1 t4 t5 b0_0 b0_1 b100_0b b100_0 b100_1 b101_0 b101_1 b99) := by
 rewrite [← wrapC_eq]
 exact fun r h => loop_le' (F := Tb) (G := GT) (sg := sg) (sig := s22401) (p := p22401) (by kernel_rfl) (by kernel_rfl) rfl rfl rfl ((show runC (phi Tb GT sg) Tb GT p22401.code ((mkST p22401.ins [.bp 0 0, .bp 100 0, .bp 101 0, .int .i64 t4, .int .i64 t5] p22401.bins [.var [.sl .share .u8 b0_0, .int .i64 b0_1], .var [.sl (.own b100_0b) .int b100_0, .tr .stms b100_1.id b100_1.n], .var [.sl .share .int b101_0, .tr .stms b101_1.id b101_1.n], .ar b99])) (finL Tb GT 22401 p22401 s22401) = _ by kernel_rfl).trans h)

theorem spec_l92Endless_le (a0b : List Int) (a0p : Int) : Tv.Le
 (bnd (spec_l4Leaf 0 1) fun r1 =>
bnd (spec_l6Rd_pick 2 a0b a0p) fun r2 =>
bnd (spec_l92Block 0 1 r2.1 false r2.2.1 r2.2.2) fun r3 =>
some (⟨3, 0, 0, ⟨r1.1, r1.2.1, r1.2.2.2⟩, r3.1, []⟩, r3.2.1, r3.2.2) : Option (Stm × List Int × Int))
 (spec_l92Endless a0b a0p) := by
 exact fun r h => fn_le' (F := Tb) (G := GT) (sg := sg) (sig := s8700) (p := p8700) (by kernel_rfl) (by kernel_rfl) rfl rfl rfl rfl rfl ((show runC (phi Tb GT sg) Tb GT p8700.code (startAT p8700 (mkST p8700.ins [.bp 0 0] p8700.bins [.var [.sl .share .u8 a0b, .int .i64 a0p]])) (finT p8700 s8700) = _ by kernel_rfl).trans h)

theorem spec_ProgramValid_le (a0 : Prg) : Tv.Le
 (bnd (spec_l12Rooms a0.rooms) fun r1 =>
(bif (!r1) then
some false
else
bnd (spec_l6In (a0.tasks.length : Int) 1 3) fun r2 =>
(bif (!r2) then
some false
else
bnd (spec_ProgramValid_l1 0 a0.rooms a0.tasks) fun r3 =>
selm r3 (fun y4 =>
some true) (fun z5 =>
some z5))) : Option (Bool))
 (spec_ProgramValid a0) := by
 exact fun r h => fn_le' (F := Tb) (G := GT) (sg := sg) (sig := s23300) (p := p23300) (by kernel_rfl) (by kernel_rfl) rfl rfl rfl rfl rfl ((show runC (phi Tb GT sg) Tb GT p23300.code (startAT p23300 (mkST p23300.ins [.agg (rowT .prg a0)] p23300.bins [])) (finT p23300 s23300) = _ by kernel_rfl).trans h)

end Go.TFnOutcome
