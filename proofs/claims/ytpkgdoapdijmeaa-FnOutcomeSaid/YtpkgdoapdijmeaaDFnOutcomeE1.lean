import Derived.Test.YtpkgdoapdijmeaaDFnOutcomeP
import Derived.KernelRfl
set_option linter.unusedVariables false
namespace Go.TFnOutcome
open Go Go.RowKit Go.Vs Go.Tv
theorem spec_l16Empty_le (a0 : List Int) : Tv.Le
 (bnd (spec_l16Empty_l1 a0 true ([] : List Bx) 0) fun r1 =>
some r1.2 : Option (List Bx))
 (spec_l16Empty a0) := by
 exact fun r h => fn_le' (F := Tb) (G := GT) (sg := sg) (sig := s23400) (p := p23400) (by kernel_rfl) (by kernel_rfl) rfl rfl rfl rfl rfl ((show runC (phi Tb GT sg) Tb GT p23400.code (startAT p23400 (mkST p23400.ins [.sl .share .int a0] p23400.bins [])) (finT p23400 s23400) = _ by kernel_rfl).trans h)

theorem spec_TaskNew_le (a0 : List Stm) : Tv.Le
 (bnd (spec_StmtsValid a0) fun r1 =>
(bif (!r1) then
some (⟨[], []⟩, false)
else
bnd (spec_l11Copy a0) fun r3 =>
some (⟨(List.replicate 4 (zeroD .int)), r3⟩, true)) : Option (Tk × Bool))
 (spec_TaskNew a0) := by
 exact fun r h => fn_le' (F := Tb) (G := GT) (sg := sg) (sig := s9600) (p := p9600) (by kernel_rfl) (by kernel_rfl) rfl rfl rfl rfl rfl ((show runC (phi Tb GT sg) Tb GT p9600.code (startAT p9600 (mkST p9600.ins [.sl .share .stm a0] p9600.bins [])) (finT p9600 s9600) = _ by kernel_rfl).trans h)

theorem spec_WorldNew_l1_le (t5 : Int) (b100_0 : List Int) (b100_1 : List (List Stm)) (b101_0b : Bool) (b101_0 : List Tk) (b101_1b : Bool) (b101_1 : List Bx) (b101_2 : Int) (b101_3 : Int) (b101_4b : Bool) (b101_4 : List Int) (b102_0b : Bool) (b102_0 : List Tk) (b102_1 : List Bx) (b102_2 : Int) (b102_3 : Int) (b102_4b : Bool) (b102_4 : List Int) : Tv.Le
 ((bif (decide (t5 < (b100_1.length : Int))) then
bnd (geti b100_1 t5) fun e1 =>
bnd (spec_TaskNew e1) fun r2 =>
bnd (appL b102_0 ([r2.1] : List Tk)) fun l3 =>
spec_WorldNew_l1 (wrap64 (t5 + 1)) b100_0 b100_1 b101_0b b101_0 b101_1b b101_1 b101_2 b101_3 b101_4b b101_4 true l3 b102_1 b102_2 b102_3 b102_4b b102_4
else
some ((b101_0b, b101_0), (b101_1b, b101_1), b101_2, b101_3, (b101_4b, b101_4), (b102_0b, b102_0), b102_1, b102_2, b102_3, (b102_4b, b102_4))) : Option ((Bool × List Tk) × (Bool × List Bx) × Int × Int × (Bool × List Int) × (Bool × List Tk) × List Bx × Int × Int × (Bool × List Int)))
 (spec_WorldNew_l1 t5 b100_0 b100_1 b101_0b b101_0 b101_1b b101_1 b101_2 b101_3 b101_4b b101_4 b102_0b b102_0 b102_1 b102_2 b102_3 b102_4b b102_4) := by
 rewrite [← wrapC_eq]
 exact fun r h => loop_le' (F := Tb) (G := GT) (sg := sg) (sig := s23501) (p := p23501) (by kernel_rfl) (by kernel_rfl) rfl rfl rfl ((show runC (phi Tb GT sg) Tb GT p23501.code ((mkST p23501.ins [.bp 100 0, .bp 101 0, .bp 102 0, .int .i64 t5] p23501.bins [.var [.sl .share .int b100_0, .sl .share .stms b100_1], .var [.sl (.own b101_0b) .tk b101_0, .sl (.own b101_1b) .bx b101_1, .int .i64 b101_2, .int .i64 b101_3, .sl (.own b101_4b) .int b101_4], .var [.sl (.own b102_0b) .tk b102_0, .sl .share .bx b102_1, .int .i64 b102_2, .int .i64 b102_3, .sl (.own b102_4b) .int b102_4]])) (finL Tb GT 23501 p23501 s23501) = _ by kernel_rfl).trans h)

theorem spec_l16Copy_o_le (a0 : Wld) (A : List Ent) : Tv.Le
 (bnd (spec_l15BoxesCopy a0.boxes) fun r1 =>
bnd (arApp (arPush A .int ([] : List Int)) .int (some (List.length A)) 0 a0.out) fun B2 =>
bnd (spec_l16Copy_o_l1 0 a0.tasks a0.boxes a0.turn a0.idle a0.out false [] false [] 0 0 (⟨none, 0⟩ : Hd) false ([] : List Tk) r1 a0.turn a0.idle (⟨(some (List.length (arPush A .int ([] : List Int)))), (0 + List.length a0.out)⟩ : Hd) B2) fun r3 =>
some (⟨r3.2.2.2.2.2.1.2, r3.2.2.2.2.2.2.1, r3.2.2.2.2.2.2.2.1, r3.2.2.2.2.2.2.2.2.1, r3.2.2.2.2.2.2.2.2.2.1⟩, r3.2.2.2.2.2.2.2.2.2.2) : Option (WldO × List Ent))
 (spec_l16Copy_o a0 A) := by
 exact fun r h => fn_le' (F := Tb) (G := GT) (sg := sg) (sig := s40400) (p := p40400) (by kernel_rfl) (by kernel_rfl) rfl rfl rfl rfl rfl ((show runC (phi Tb GT sg) Tb GT p40400.code (startAT p40400 (mkST p40400.ins [.agg (rowT .wld a0)] p40400.bins [.ar A])) (finT p40400 s40400) = _ by kernel_rfl).trans h)

theorem spec_l16Step_o_le (a0 : Wld) (A : List Ent) : Tv.Le
 (bnd (spec_l16Copy_t a0 A) fun r1 =>
bnd (geti a0.tasks a0.turn) fun e2 =>
bnd (spec_TaskStep e2 a0.boxes) fun r3 =>
bnd (idxN r1.1.n a0.turn) fun i4 =>
bnd (arRow r1.2.2.2.2.2 .tk r1.1.id i4) fun e5 =>
bnd (arApp (arSet r1.2.2.2.2.2 .tk r1.1.id i4 r3.1) .int r1.2.2.2.2.1.id r1.2.2.2.2.1.n r3.2.2.1) fun B6 =>
bnd (spec_NextTurn (a0.tasks.length : Int) a0.turn a0.idle r3.2.2.2) fun r7 =>
bnd (arView B6 .tk r1.1.id) fun l8 =>
some (⟨l8, r3.2.1, r7.1, r7.2.1, ⟨(some (List.length (arSet r1.2.2.2.2.2 .tk r1.1.id i4 r3.1))), (r1.2.2.2.2.1.n + List.length r3.2.2.1)⟩⟩, (killL B6 ((Option.toList r1.1.id) ++ []))) : Option (WldO × List Ent))
 (spec_l16Step_o a0 A) := by
 exact fun r h => fn_le' (F := Tb) (G := GT) (sg := sg) (sig := s40500) (p := p40500) (by kernel_rfl) (by kernel_rfl) rfl rfl rfl rfl rfl ((show runC (phi Tb GT sg) Tb GT p40500.code (startAT p40500 (mkST p40500.ins [.agg (rowT .wld a0)] p40500.bins [.ar A])) (finT p40500 s40500) = _ by kernel_rfl).trans h)

theorem spec_WorldRun_o_l1_le (t1 : Int) (t7 : Int) (b101_0b : Bool) (b101_0 : List Tk) (b101_1b : Bool) (b101_1 : List Bx) (b101_2 : Int) (b101_3 : Int) (b101_4 : Hd) (b102_0 : List Tk) (b102_1 : List Bx) (b102_2 : Int) (b102_3 : Int) (b102_4 : Hd) (b99 : List Ent) : Tv.Le
 ((bif (decide (t7 < t1)) then
(bif (decide (b102_3 < (b102_0.length : Int))) then
bnd (arView b99 .int b102_4.id) fun l1 =>
bnd (spec_l16Step_o (⟨b102_0, b102_1, b102_2, b102_3, l1⟩ : Wld) (killL b99 (((Option.toList b102_4.id) ++ []) ++ []))) fun r2 =>
spec_WorldRun_o_l1 t1 (wrap64 (t7 + 1)) b101_0b b101_0 b101_1b b101_1 b101_2 b101_3 b101_4 r2.1.tasks r2.1.boxes r2.1.turn r2.1.idle r2.1.out r2.2
else
some ((b101_0b, b101_0), (b101_1b, b101_1), b101_2, b101_3, b101_4, b102_0, b102_1, b102_2, b102_3, b102_4, b99))
else
some ((b101_0b, b101_0), (b101_1b, b101_1), b101_2, b101_3, b101_4, b102_0, b102_1, b102_2, b102_3, b102_4, b99)) : Option ((Bool × List Tk) × (Bool × List Bx) × Int × Int × Hd × List Tk × List Bx × Int × Int × Hd × List Ent))
 (spec_WorldRun_o_l1 t1 t7 b101_0b b101_0 b101_1b b101_1 b101_2 b101_3 b101_4 b102_0 b102_1 b102_2 b102_3 b102_4 b99) := by
 rewrite [← wrapC_eq]
 exact fun r h => loop_le' (F := Tb) (G := GT) (sg := sg) (sig := s40101) (p := p40101) (by kernel_rfl) (by kernel_rfl) rfl rfl rfl ((show runC (phi Tb GT sg) Tb GT p40101.code ((mkST p40101.ins [.int .i64 t1, .bp 101 0, .bp 102 0, .int .i64 t7] p40101.bins [.var [.sl (.own b101_0b) .tk b101_0, .sl (.own b101_1b) .bx b101_1, .int .i64 b101_2, .int .i64 b101_3, .tr .int b101_4.id b101_4.n], .var [.sl .share .tk b102_0, .sl .share .bx b102_1, .int .i64 b102_2, .int .i64 b102_3, .tr .int b102_4.id b102_4.n], .ar b99])) (finL Tb GT 40101 p40101 s40101) = _ by kernel_rfl).trans h)

theorem impl_areWords_le (a0 : List Int) : Tv.Le
 (bnd (impl_areWords_l1 a0 (a0.length : Int) 0) fun r1 =>
selm r1 (fun y2 =>
some true) (fun z3 =>
some z3) : Option (Bool))
 (impl_areWords a0) := by
 exact fun r h => fn_le' (F := Tb) (G := GT) (sg := sg) (sig := s5100) (p := p5100) (by kernel_rfl) (by kernel_rfl) rfl rfl rfl rfl rfl ((show runC (phi Tb GT sg) Tb GT p5100.code (startAT p5100 (mkST p5100.ins [.sl .share .int a0] p5100.bins [])) (finT p5100 s5100) = _ by kernel_rfl).trans h)

theorem impl_BoxValid_le (a0 : Bx) : Tv.Le
 ((bif (decide (1 ≤ a0.room)) then
(bif (decide (a0.room ≤ 4)) then
(bif (decide ((a0.items.length : Int) ≤ a0.room)) then
bnd (impl_areWords a0.items) fun r1 =>
some r1
else
some false)
else
some false)
else
some false) : Option (Bool))
 (impl_BoxValid a0) := by
 exact fun r h => fn_le' (F := Tb) (G := GT) (sg := sg) (sig := s17600) (p := p17600) (by kernel_rfl) (by kernel_rfl) rfl rfl rfl rfl rfl ((show runC (phi Tb GT sg) Tb GT p17600.code (startAT p17600 (mkST p17600.ins [.agg (rowT .bx a0)] p17600.bins [])) (finT p17600 s17600) = _ by kernel_rfl).trans h)

theorem impl_boxesValid_l1_le (t0 : List Bx) (t5 : List Bx) (t6 : Int) (t7 : Int) : Tv.Le
 ((bif (decide (t7 < t6)) then
bnd (geti t5 t7) fun e1 =>
bnd (impl_BoxValid e1) fun r2 =>
(bif (!r2) then
some (.inr (t0, false))
else
impl_boxesValid_l1 t0 t5 t6 (wrap64 (t7 + 1)))
else
some (.inl t0)) : Option (List Bx ⊕ (List Bx × Bool)))
 (impl_boxesValid_l1 t0 t5 t6 t7) := by
 rewrite [← wrapC_eq]
 exact fun r h => loop_le' (F := Tb) (G := GT) (sg := sg) (sig := s23901) (p := p23901) (by kernel_rfl) (by kernel_rfl) rfl rfl rfl ((show runC (phi Tb GT sg) Tb GT p23901.code ((mkST p23901.ins [.sl .share .bx t0, .sl .share .bx t5, .int .i64 t6, .int .i64 t7] p23901.bins [])) (finL Tb GT 23901 p23901 s23901) = _ by kernel_rfl).trans h)

theorem impl_stmtsValid_le (a0 : List Stm) (a1 : Int) : Tv.Le
 (bnd (impl_blockValid a0 a1 0 0) fun r1 =>
some r1.1 : Option (Bool))
 (impl_stmtsValid a0 a1) := by
 exact fun r h => fn_le' (F := Tb) (G := GT) (sg := sg) (sig := s5400) (p := p5400) (by kernel_rfl) (by kernel_rfl) rfl rfl rfl rfl rfl ((show runC (phi Tb GT sg) Tb GT p5400.code (startAT p5400 (mkST p5400.ins [.sl .share .stm a0, .int .i64 a1] p5400.bins [])) (finT p5400 s5400) = _ by kernel_rfl).trans h)

theorem impl_taskValid_l1_le (t1 : Int) (t18 : Int) (t19 : Int) (b100_0 : List Int) (b100_1 : List Stm) : Tv.Le
 ((bif (decide (t19 < t18)) then
bnd (cutL b100_1 t19 (wrap64 (t19 + 1))) fun l1 =>
bnd (impl_stmtsValid l1 t1) fun r2 =>
(bif (!r2) then
some (.inr false)
else
impl_taskValid_l1 t1 t18 (wrap64 (t19 + 1)) b100_0 b100_1)
else
some (.inl ())) : Option (Unit ⊕ Bool))
 (impl_taskValid_l1 t1 t18 t19 b100_0 b100_1) := by
 rewrite [← wrapC_eq]
 exact fun r h => loop_le' (F := Tb) (G := GT) (sg := sg) (sig := s5501) (p := p5501) (by kernel_rfl) (by kernel_rfl) rfl rfl rfl ((show runC (phi Tb GT sg) Tb GT p5501.code ((mkST p5501.ins [.int .i64 t1, .bp 100 0, .int .i64 t18, .int .i64 t19] p5501.bins [.var [.sl .share .int b100_0, .sl .share .stm b100_1]])) (finL Tb GT 5501 p5501 s5501) = _ by kernel_rfl).trans h)

theorem spec_BoxValid_le (a0 : Bx) : Tv.Le
 (bnd (spec_l6In a0.room 1 4) fun r1 =>
(bif r1 then
(bif (decide ((a0.items.length : Int) ≤ a0.room)) then
bnd (spec_l4Words a0.items (a0.items.length : Int)) fun r2 =>
some r2
else
some false)
else
some false) : Option (Bool))
 (spec_BoxValid a0) := by
 exact fun r h => fn_le' (F := Tb) (G := GT) (sg := sg) (sig := s17800) (p := p17800) (by kernel_rfl) (by kernel_rfl) rfl rfl rfl rfl rfl ((show runC (phi Tb GT sg) Tb GT p17800.code (startAT p17800 (mkST p17800.ins [.agg (rowT .bx a0)] p17800.bins [])) (finT p17800 s17800) = _ by kernel_rfl).trans h)

theorem spec_l15Boxes_l1_le (t0 : List Bx) (t3 : Int) : Tv.Le
 ((bif (decide (t3 < (t0.length : Int))) then
bnd (geti t0 t3) fun e1 =>
bnd (spec_BoxValid e1) fun r2 =>
(bif (!r2) then
some (.inr (t0, false))
else
spec_l15Boxes_l1 t0 (wrap64 (t3 + 1)))
else
some (.inl t0)) : Option (List Bx ⊕ (List Bx × Bool)))
 (spec_l15Boxes_l1 t0 t3) := by
 rewrite [← wrapC_eq]
 exact fun r h => loop_le' (F := Tb) (G := GT) (sg := sg) (sig := s24601) (p := p24601) (by kernel_rfl) (by kernel_rfl) rfl rfl rfl ((show runC (phi Tb GT sg) Tb GT p24601.code ((mkST p24601.ins [.sl .share .bx t0, .int .i64 t3] p24601.bins [])) (finL Tb GT 24601 p24601 s24601) = _ by kernel_rfl).trans h)

theorem spec_StmtsValid_le (a0 : List Stm) : Tv.Le
 (bnd (spec_l11Blocks a0 3) fun r1 =>
(bif r1 then
bnd (spec_l11Count a0) fun r2 =>
some (decide (r2 ≤ 16))
else
some false) : Option (Bool))
 (spec_StmtsValid a0) := by
 exact fun r h => fn_le' (F := Tb) (G := GT) (sg := sg) (sig := s6300) (p := p6300) (by kernel_rfl) (by kernel_rfl) rfl rfl rfl rfl rfl ((show runC (phi Tb GT sg) Tb GT p6300.code (startAT p6300 (mkST p6300.ins [.sl .share .stm a0] p6300.bins [])) (finT p6300 s6300) = _ by kernel_rfl).trans h)

theorem spec_TaskValid_l1_le (t3 : Int) (b100_0 : List Int) (b100_1 : List Stm) : Tv.Le
 ((bif (decide (t3 < (b100_1.length : Int))) then
bnd (cutL b100_1 t3 (wrap64 (t3 + 1))) fun l1 =>
bnd (spec_StmtsValid l1) fun r2 =>
(bif (!r2) then
some (.inr (false, b100_0, b100_1))
else
spec_TaskValid_l1 (wrap64 (t3 + 1)) b100_0 b100_1)
else
some (.inl (b100_0, b100_1))) : Option ((List Int × List Stm) ⊕ (Bool × List Int × List Stm)))
 (spec_TaskValid_l1 t3 b100_0 b100_1) := by
 rewrite [← wrapC_eq]
 exact fun r h => loop_le' (F := Tb) (G := GT) (sg := sg) (sig := s6601) (p := p6601) (by kernel_rfl) (by kernel_rfl) rfl rfl rfl ((show runC (phi Tb GT sg) Tb GT p6601.code ((mkST p6601.ins [.bp 100 0, .int .i64 t3] p6601.bins [.var [.sl .share .int b100_0, .sl .share .stm b100_1]])) (finL Tb GT 6601 p6601 s6601) = _ by kernel_rfl).trans h)

theorem spec_l12Boxes_l1_le (t0 : List Stm) (t1 : Int) (t5 : Int) : Tv.Le
 ((bif (decide (t5 < (t0.length : Int))) then
bnd (geti t0 t5) fun e1 =>
(bif (decide (e1.kind = 4)) then
(bif (decide (t1 ≤ e1.box)) then
some (.inr false)
else
bnd (spec_l12Boxes e1.body t1) fun r2 =>
(bif (!r2) then
some (.inr false)
else
bnd (spec_l12Boxes e1.els t1) fun r3 =>
(bif (!r3) then
some (.inr false)
else
spec_l12Boxes_l1 t0 t1 (wrap64 (t5 + 1)))))
else
(bif (decide (e1.kind = 5)) then
(bif (decide (t1 ≤ e1.box)) then
some (.inr false)
else
bnd (spec_l12Boxes e1.body t1) fun r4 =>
(bif (!r4) then
some (.inr false)
else
bnd (spec_l12Boxes e1.els t1) fun r5 =>
(bif (!r5) then
some (.inr false)
else
spec_l12Boxes_l1 t0 t1 (wrap64 (t5 + 1)))))
else
bnd (spec_l12Boxes e1.body t1) fun r6 =>
(bif (!r6) then
some (.inr false)
else
bnd (spec_l12Boxes e1.els t1) fun r7 =>
(bif (!r7) then
some (.inr false)
else
spec_l12Boxes_l1 t0 t1 (wrap64 (t5 + 1))))))
else
some (.inl ())) : Option (Unit ⊕ Bool))
 (spec_l12Boxes_l1 t0 t1 t5) := by
 rewrite [← wrapC_eq]
 exact fun r h => loop_le' (F := Tb) (G := GT) (sg := sg) (sig := s23101) (p := p23101) (by kernel_rfl) (by kernel_rfl) rfl rfl rfl ((show runC (phi Tb GT sg) Tb GT p23101.code ((mkST p23101.ins [.sl .share .stm t0, .int .i64 t1, .int .i64 t5] p23101.bins [])) (finL Tb GT 23101 p23101 s23101) = _ by kernel_rfl).trans h)

theorem spec_WordValid_le (a0 : Int) : Tv.Le
 (bnd (spec_l6In a0 (-2147483648) 2147483647) fun r1 =>
some r1 : Option (Bool))
 (spec_WordValid a0) := by
 exact fun r h => fn_le' (F := Tb) (G := GT) (sg := sg) (sig := s6400) (p := p6400) (by kernel_rfl) (by kernel_rfl) rfl rfl rfl rfl rfl ((show runC (phi Tb GT sg) Tb GT p6400.code (startAT p6400 (mkST p6400.ins [.int .i64 a0] p6400.bins [])) (finT p6400 s6400) = _ by kernel_rfl).trans h)

theorem spec_l4Words_l1_le (t0 : List Int) (t5 : Int) : Tv.Le
 ((bif (decide (t5 < (t0.length : Int))) then
bnd (geti t0 t5) fun e1 =>
bnd (spec_WordValid e1) fun r2 =>
(bif (!r2) then
some (.inr false)
else
spec_l4Words_l1 t0 (wrap64 (t5 + 1)))
else
some (.inl ())) : Option (Unit ⊕ Bool))
 (spec_l4Words_l1 t0 t5) := by
 rewrite [← wrapC_eq]
 exact fun r h => loop_le' (F := Tb) (G := GT) (sg := sg) (sig := s6501) (p := p6501) (by kernel_rfl) (by kernel_rfl) rfl rfl rfl ((show runC (phi Tb GT sg) Tb GT p6501.code ((mkST p6501.ins [.sl .share .int t0, .int .i64 t5] p6501.bins [])) (finL Tb GT 6501 p6501 s6501) = _ by kernel_rfl).trans h)

theorem spec_l92Rooms_l1_le (t3b : Bool) (t3 : List Int) (t4 : Int) (t5 : Int) (b0_0 : List Int) (b0_1 : Int) : Tv.Le
 ((bif (decide (t5 < t4)) then
bnd (spec_l6Rd_pick 5 b0_0 b0_1) fun r1 =>
bnd (geti ([1, 1, 2, 3, 4] : List Int) r1.1) fun e2 =>
bnd (appL t3 ([e2] : List Int)) fun l3 =>
spec_l92Rooms_l1 true l3 t4 (wrap64 (t5 + 1)) r1.2.1 r1.2.2
else
some ((t3b, t3), b0_0, b0_1)) : Option ((Bool × List Int) × List Int × Int))
 (spec_l92Rooms_l1 t3b t3 t4 t5 b0_0 b0_1) := by
 rewrite [← wrapC_eq]
 exact fun r h => loop_le' (F := Tb) (G := GT) (sg := sg) (sig := s22301) (p := p22301) (by kernel_rfl) (by kernel_rfl) rfl rfl rfl ((show runC (phi Tb GT sg) Tb GT p22301.code ((mkST p22301.ins [.bp 0 0, .sl (.own t3b) .int t3, .int .i64 t4, .int .i64 t5] p22301.bins [.var [.sl .share .u8 b0_0, .int .i64 b0_1]])) (finL Tb GT 22301 p22301 s22301) = _ by kernel_rfl).trans h)

theorem spec_l92Block_le (a1 : Int) (a2 : Int) (a3 : Int) (a4 : Bool) (a0b : List Int) (a0p : Int) : Tv.Le
 (bnd (spec_l92Block_l1 a1 a2 a3 a4 true ([] : List Stm) 0 a0b a0p) fun r1 =>
some (r1.1.2, r1.2.1, r1.2.2) : Option (List Stm × List Int × Int))
 (spec_l92Block a1 a2 a3 a4 a0b a0p) := by
 exact fun r h => fn_le' (F := Tb) (G := GT) (sg := sg) (sig := s4600) (p := p4600) (by kernel_rfl) (by kernel_rfl) rfl rfl rfl rfl rfl ((show runC (phi Tb GT sg) Tb GT p4600.code (startAT p4600 (mkST p4600.ins [.bp 0 0, .int .i64 a1, .int .i64 a2, .int .i64 a3, .bool a4] p4600.bins [.var [.sl .share .u8 a0b, .int .i64 a0p]])) (finT p4600 s4600) = _ by kernel_rfl).trans h)

theorem spec_l11Count_le (a0 : List Stm) : Tv.Le
 (bnd (spec_l11Count_l1 a0 0 0) fun r1 =>
some r1 : Option (Int))
 (spec_l11Count a0) := by
 exact fun r h => fn_le' (F := Tb) (G := GT) (sg := sg) (sig := s4000) (p := p4000) (by kernel_rfl) (by kernel_rfl) rfl rfl rfl rfl rfl ((show runC (phi Tb GT sg) Tb GT p4000.code (startAT p4000 (mkST p4000.ins [.sl .share .stm a0] p4000.bins [])) (finT p4000 s4000) = _ by kernel_rfl).trans h)

theorem spec_l92Stmts_l1_le (t5m : Md) (t5 : List Stm) (b0_0 : List Int) (b0_1 : Int) : Tv.Le
 (bnd (spec_l11Count t5) fun r1 =>
(bif (decide (16 < r1)) then
bnd (cutL t5 0 (wrap64 ((t5.length : Int) - 1))) fun l2 =>
spec_l92Stmts_l1 .share l2 b0_0 b0_1
else
some ((t5m, t5), b0_0, b0_1)) : Option ((Md × List Stm) × List Int × Int))
 (spec_l92Stmts_l1 t5m t5 b0_0 b0_1) := by
 rewrite [← wrapC_eq]
 exact fun r h => loop_le' (F := Tb) (G := GT) (sg := sg) (sig := s4701) (p := p4701) (by kernel_rfl) (by kernel_rfl) rfl rfl rfl ((show runC (phi Tb GT sg) Tb GT p4701.code ((mkST p4701.ins [.bp 0 0, .sl t5m .stm t5] p4701.bins [.var [.sl .share .u8 b0_0, .int .i64 b0_1]])) (finL Tb GT 4701 p4701 s4701) = _ by kernel_rfl).trans h)

theorem spec_l4Leaf_le (a0 : Int) (a1 : Int) : Tv.Le
 (some (a0, a1, ((.own false), ([] : List Exp))) : Option (Int × Int × (Md × List Exp)))
 (spec_l4Leaf a0 a1) := by
 exact fun r h => fn_le' (F := Tb) (G := GT) (sg := sg) (sig := s300) (p := p300) (by kernel_rfl) (by kernel_rfl) rfl rfl rfl rfl rfl ((show runC (phi Tb GT sg) Tb GT p300.code (startAT p300 (mkST p300.ins [.int .i64 a0, .int .i64 a1] p300.bins [])) (finT p300 s300) = _ by kernel_rfl).trans h)

theorem spec_l12Rooms_le (a0 : List Int) : Tv.Le
 (bnd (spec_l12Rooms_l1 a0 0) fun r1 =>
selm r1 (fun y2 =>
some (decide ((y2.length : Int) ≤ 3))) (fun z3 =>
some z3.2) : Option (Bool))
 (spec_l12Rooms a0) := by
 exact fun r h => fn_le' (F := Tb) (G := GT) (sg := sg) (sig := s23200) (p := p23200) (by kernel_rfl) (by kernel_rfl) rfl rfl rfl rfl rfl ((show runC (phi Tb GT sg) Tb GT p23200.code (startAT p23200 (mkST p23200.ins [.sl .share .int a0] p23200.bins [])) (finT p23200 s23200) = _ by kernel_rfl).trans h)

theorem spec_ProgramValid_l1_le (t3 : Int) (b100_0 : List Int) (b100_1 : List (List Stm)) : Tv.Le
 ((bif (decide (t3 < (b100_1.length : Int))) then
bnd (geti b100_1 t3) fun e1 =>
bnd (spec_StmtsValid e1) fun r2 =>
(bif (!r2) then
some (.inr false)
else
bnd (geti b100_1 t3) fun e3 =>
bnd (spec_l12Boxes e3 (b100_0.length : Int)) fun r4 =>
(bif (!r4) then
some (.inr false)
else
spec_ProgramValid_l1 (wrap64 (t3 + 1)) b100_0 b100_1))
else
some (.inl ())) : Option (Unit ⊕ Bool))
 (spec_ProgramValid_l1 t3 b100_0 b100_1) := by
 rewrite [← wrapC_eq]
 exact fun r h => loop_le' (F := Tb) (G := GT) (sg := sg) (sig := s23301) (p := p23301) (by kernel_rfl) (by kernel_rfl) rfl rfl rfl ((show runC (phi Tb GT sg) Tb GT p23301.code ((mkST p23301.ins [.bp 100 0, .int .i64 t3] p23301.bins [.var [.sl .share .int b100_0, .sl .share .stms b100_1]])) (finL Tb GT 23301 p23301 s23301) = _ by kernel_rfl).trans h)

theorem spec_l16Empty_l1_le (t0 : List Int) (t3b : Bool) (t3 : List Bx) (t4 : Int) : Tv.Le
 ((bif (decide (t4 < (t0.length : Int))) then
bnd (geti t0 t4) fun e1 =>
bnd (appL t3 ([⟨e1, ([] : List Int)⟩] : List Bx)) fun l2 =>
spec_l16Empty_l1 t0 true l2 (wrap64 (t4 + 1))
else
some (t3b, t3)) : Option ((Bool × List Bx)))
 (spec_l16Empty_l1 t0 t3b t3 t4) := by
 rewrite [← wrapC_eq]
 exact fun r h => loop_le' (F := Tb) (G := GT) (sg := sg) (sig := s23401) (p := p23401) (by kernel_rfl) (by kernel_rfl) rfl rfl rfl ((show runC (phi Tb GT sg) Tb GT p23401.code ((mkST p23401.ins [.sl .share .int t0, .sl (.own t3b) .bx t3, .int .i64 t4] p23401.bins [])) (finL Tb GT 23401 p23401 s23401) = _ by kernel_rfl).trans h)

theorem spec_l11Copy_le (a0 : List Stm) : Tv.Le
 (bnd (spec_l11Copy_l1 a0 true ([] : List Stm) 0) fun r1 =>
some r1.2 : Option (List Stm))
 (spec_l11Copy a0) := by
 exact fun r h => fn_le' (F := Tb) (G := GT) (sg := sg) (sig := s9500) (p := p9500) (by kernel_rfl) (by kernel_rfl) rfl rfl rfl rfl rfl ((show runC (phi Tb GT sg) Tb GT p9500.code (startAT p9500 (mkST p9500.ins [.sl .share .stm a0] p9500.bins [])) (finT p9500 s9500) = _ by kernel_rfl).trans h)

theorem spec_l15BoxesCopy_le (a0 : List Bx) : Tv.Le
 (bnd (spec_l15BoxesCopy_l1 a0 true ([] : List Bx) 0) fun r1 =>
some r1.2 : Option (List Bx))
 (spec_l15BoxesCopy a0) := by
 exact fun r h => fn_le' (F := Tb) (G := GT) (sg := sg) (sig := s25600) (p := p25600) (by kernel_rfl) (by kernel_rfl) rfl rfl rfl rfl rfl ((show runC (phi Tb GT sg) Tb GT p25600.code (startAT p25600 (mkST p25600.ins [.sl .share .bx a0] p25600.bins [])) (finT p25600 s25600) = _ by kernel_rfl).trans h)

theorem spec_l15Copy_le (a0 : Tk) : Tv.Le
 (bnd (appL ([] : List Int) a0.vars) fun l1 =>
bnd (spec_l11Copy a0.rest) fun r2 =>
some (⟨l1, r2⟩) : Option (Tk))
 (spec_l15Copy a0) := by
 exact fun r h => fn_le' (F := Tb) (G := GT) (sg := sg) (sig := s25700) (p := p25700) (by kernel_rfl) (by kernel_rfl) rfl rfl rfl rfl rfl ((show runC (phi Tb GT sg) Tb GT p25700.code (startAT p25700 (mkST p25700.ins [.agg (rowT .tk a0)] p25700.bins [])) (finT p25700 s25700) = _ by kernel_rfl).trans h)

theorem spec_l16Copy_o_l1_le (t4 : Int) (b100_0 : List Tk) (b100_1 : List Bx) (b100_2 : Int) (b100_3 : Int) (b100_4 : List Int) (b101_0b : Bool) (b101_0 : List Tk) (b101_1b : Bool) (b101_1 : List Bx) (b101_2 : Int) (b101_3 : Int) (b101_4 : Hd) (b102_0b : Bool) (b102_0 : List Tk) (b102_1 : List Bx) (b102_2 : Int) (b102_3 : Int) (b102_4 : Hd) (b99 : List Ent) : Tv.Le
 ((bif (decide (t4 < (b100_0.length : Int))) then
bnd (geti b100_0 t4) fun e1 =>
bnd (spec_l15Copy e1) fun r2 =>
bnd (appL b102_0 ([r2] : List Tk)) fun l3 =>
spec_l16Copy_o_l1 (wrap64 (t4 + 1)) b100_0 b100_1 b100_2 b100_3 b100_4 b101_0b b101_0 b101_1b b101_1 b101_2 b101_3 b101_4 true l3 b102_1 b102_2 b102_3 b102_4 b99
else
some ((b101_0b, b101_0), (b101_1b, b101_1), b101_2, b101_3, b101_4, (b102_0b, b102_0), b102_1, b102_2, b102_3, b102_4, b99)) : Option ((Bool × List Tk) × (Bool × List Bx) × Int × Int × Hd × (Bool × List Tk) × List Bx × Int × Int × Hd × List Ent))
 (spec_l16Copy_o_l1 t4 b100_0 b100_1 b100_2 b100_3 b100_4 b101_0b b101_0 b101_1b b101_1 b101_2 b101_3 b101_4 b102_0b b102_0 b102_1 b102_2 b102_3 b102_4 b99) := by
 rewrite [← wrapC_eq]
 exact fun r h => loop_le' (F := Tb) (G := GT) (sg := sg) (sig := s40401) (p := p40401) (by kernel_rfl) (by kernel_rfl) rfl rfl rfl ((show runC (phi Tb GT sg) Tb GT p40401.code ((mkST p40401.ins [.bp 100 0, .bp 101 0, .bp 102 0, .int .i64 t4] p40401.bins [.var [.sl .share .tk b100_0, .sl .share .bx b100_1, .int .i64 b100_2, .int .i64 b100_3, .sl .share .int b100_4], .var [.sl (.own b101_0b) .tk b101_0, .sl (.own b101_1b) .bx b101_1, .int .i64 b101_2, .int .i64 b101_3, .tr .int b101_4.id b101_4.n], .var [.sl (.own b102_0b) .tk b102_0, .sl .share .bx b102_1, .int .i64 b102_2, .int .i64 b102_3, .tr .int b102_4.id b102_4.n], .ar b99])) (finL Tb GT 40401 p40401 s40401) = _ by kernel_rfl).trans h)

theorem spec_l16Copy_t_le (a0 : Wld) (A : List Ent) : Tv.Le
 (bnd (spec_l15BoxesCopy a0.boxes) fun r1 =>
bnd (arApp A .int none 0 a0.out) fun B2 =>
bnd (spec_l16Copy_t_l1 0 a0.tasks a0.boxes a0.turn a0.idle a0.out (⟨none, 0⟩ : Hd) false [] 0 0 (⟨none, 0⟩ : Hd) (⟨none, 0⟩ : Hd) r1 a0.turn a0.idle (⟨(some (List.length A)), (0 + List.length a0.out)⟩ : Hd) B2) fun r3 =>
some (r3.2.2.2.2.2.1, r3.2.2.2.2.2.2.1, r3.2.2.2.2.2.2.2.1, r3.2.2.2.2.2.2.2.2.1, r3.2.2.2.2.2.2.2.2.2.1, r3.2.2.2.2.2.2.2.2.2.2) : Option (Hd × List Bx × Int × Int × Hd × List Ent))
 (spec_l16Copy_t a0 A) := by
 exact fun r h => fn_le' (F := Tb) (G := GT) (sg := sg) (sig := s40300) (p := p40300) (by kernel_rfl) (by kernel_rfl) rfl rfl rfl rfl rfl ((show runC (phi Tb GT sg) Tb GT p40300.code (startAT p40300 (mkST p40300.ins [.agg (rowT .wld a0)] p40300.bins [.ar A])) (finT p40300 s40300) = _ by kernel_rfl).trans h)

theorem spec_TaskStep_le (a0 : Tk) (a1 : List Bx) : Tv.Le
 (bnd (spec_TaskValid a0) fun r1 =>
(bif (!r1) then
some (⟨[], []⟩, ([] : List Bx), ([] : List Int), 0)
else
bnd (spec_l15Boxes a1) fun r2 =>
(bif (!r2) then
some (⟨[], []⟩, ([] : List Bx), ([] : List Int), 0)
else
bnd (spec_l15Ready a0 a1) fun r3 =>
(bif (!r3) then
some (⟨[], []⟩, ([] : List Bx), ([] : List Int), 0)
else
(bif (decide ((a0.rest.length : Int) = 0)) then
bnd (spec_l15Copy a0) fun r4 =>
bnd (spec_l15BoxesCopy a1) fun r5 =>
some (r4, r5, ([] : List Int), 4)
else
bnd (geti a0.rest 0) fun e6 =>
(bif (decide (e6.kind = 4)) then
bnd (spec_l15Talk a0 a1) fun r7 =>
some (r7.1, r7.2.1, ([] : List Int), r7.2.2)
else
(bif (decide (e6.kind = 5)) then
bnd (spec_l15Talk a0 a1) fun r8 =>
some (r8.1, r8.2.1, ([] : List Int), r8.2.2)
else
(bif (decide (e6.kind = 2)) then
bnd (spec_l15Block a0) fun r9 =>
bnd (spec_l15BoxesCopy a1) fun r10 =>
some (r9, r10, ([] : List Int), 1)
else
(bif (decide (e6.kind = 3)) then
bnd (spec_l15Block a0) fun r11 =>
bnd (spec_l15BoxesCopy a1) fun r12 =>
some (r11, r12, ([] : List Int), 1)
else
(bif (decide (e6.kind = 1)) then
bnd (spec_l4Eval (⟨e6.e.op, e6.e.n, e6.e.args⟩ : Exp) a0.vars) fun r13 =>
bnd (spec_l15Set a0 e6.var r13) fun r14 =>
bnd (spec_l15BoxesCopy a1) fun r15 =>
some (r14, r15, ([] : List Int), 1)
else
bnd (appL ([] : List Int) a0.vars) fun l16 =>
bnd (cutL a0.rest 1 (a0.rest.length : Int)) fun l17 =>
bnd (spec_l11Copy l17) fun r18 =>
(bif (decide (e6.kind = 6)) then
bnd (spec_l15BoxesCopy a1) fun r19 =>
some (⟨l16, r18⟩, r19, ([] : List Int), 2)
else
bnd (spec_l15BoxesCopy a1) fun r20 =>
bnd (spec_l4Eval (⟨e6.e.op, e6.e.n, e6.e.args⟩ : Exp) a0.vars) fun r21 =>
some (⟨l16, r18⟩, r20, ([r21] : List Int), 1))))))))))) : Option (Tk × List Bx × List Int × Int))
 (spec_TaskStep a0 a1) := by
 exact fun r h => fn_le' (F := Tb) (G := GT) (sg := sg) (sig := s27000) (p := p27000) (by kernel_rfl) (by kernel_rfl) rfl rfl rfl rfl rfl ((show runC (phi Tb GT sg) Tb GT p27000.code (startAT p27000 (mkST p27000.ins [.agg (rowT .tk a0), .sl .share .bx a1] p27000.bins [])) (finT p27000 s27000) = _ by kernel_rfl).trans h)

theorem spec_NextTurn_le (a0 : Int) (a1 : Int) (a2 : Int) (a3 : Int) : Tv.Le
 (bnd (spec_l6In a0 1 3) fun r1 =>
(bif (!r1) then
some (0, 0, false)
else
bnd (spec_l6In a1 0 (wrap64 (a0 - 1))) fun r2 =>
(bif (!r2) then
some (0, 0, false)
else
bnd (spec_l6In a2 0 (wrap64 (a0 - 1))) fun r3 =>
(bif (!r3) then
some (0, 0, false)
else
(bif (decide (a3 = 1)) then
some (a1, 0, true)
else
(bif (decide (a3 = 2)) then
bnd (remI (wrap64 (a1 + 1)) a0) fun n4 =>
some (n4, 0, true)
else
(bif (decide (a3 = 3)) then
bnd (remI (wrap64 (a1 + 1)) a0) fun n5 =>
some (n5, (wrap64 (a2 + 1)), true)
else
(bif (decide (a3 = 4)) then
bnd (remI (wrap64 (a1 + 1)) a0) fun n6 =>
some (n6, (wrap64 (a2 + 1)), true)
else
some (0, 0, false)))))))) : Option (Int × Int × Bool))
 (spec_NextTurn a0 a1 a2 a3) := by
 rewrite [← wrapC_eq]
 exact fun r h => fn_le' (F := Tb) (G := GT) (sg := sg) (sig := s11200) (p := p11200) (by kernel_rfl) (by kernel_rfl) rfl rfl rfl rfl rfl ((show runC (phi Tb GT sg) Tb GT p11200.code (startAT p11200 (mkST p11200.ins [.int .i64 a0, .int .i64 a1, .int .i64 a2, .int .i64 a3] p11200.bins [])) (finT p11200 s11200) = _ by kernel_rfl).trans h)

theorem impl_WordValid_le (a0 : Int) : Tv.Le
 ((bif (decide ((-2147483648) ≤ a0)) then
some (decide (a0 ≤ 2147483647))
else
some false) : Option (Bool))
 (impl_WordValid a0) := by
 exact fun r h => fn_le' (F := Tb) (G := GT) (sg := sg) (sig := s5000) (p := p5000) (by kernel_rfl) (by kernel_rfl) rfl rfl rfl rfl rfl ((show runC (phi Tb GT sg) Tb GT p5000.code (startAT p5000 (mkST p5000.ins [.int .i64 a0] p5000.bins [])) (finT p5000 s5000) = _ by kernel_rfl).trans h)

theorem impl_areWords_l1_le (t5 : List Int) (t6 : Int) (t7 : Int) : Tv.Le
 ((bif (decide (t7 < t6)) then
bnd (geti t5 t7) fun e1 =>
bnd (impl_WordValid e1) fun r2 =>
(bif (!r2) then
some (.inr false)
else
impl_areWords_l1 t5 t6 (wrap64 (t7 + 1)))
else
some (.inl ())) : Option (Unit ⊕ Bool))
 (impl_areWords_l1 t5 t6 t7) := by
 rewrite [← wrapC_eq]
 exact fun r h => loop_le' (F := Tb) (G := GT) (sg := sg) (sig := s5101) (p := p5101) (by kernel_rfl) (by kernel_rfl) rfl rfl rfl ((show runC (phi Tb GT sg) Tb GT p5101.code ((mkST p5101.ins [.sl .share .int t5, .int .i64 t6, .int .i64 t7] p5101.bins [])) (finL Tb GT 5101 p5101 s5101) = _ by kernel_rfl).trans h)

theorem impl_blockValid_le (a0 : List Stm) (a1 : Int) (a2 : Int) (a3 : Int) : Tv.Le
 ((bif (decide (16 < (wrap64 (a3 + (a0.length : Int))))) then
some (false, (wrap64 (a3 + (a0.length : Int))))
else
bnd (impl_blockValid_l1 a0 a1 a2 (a0.length : Int) 0 (wrap64 (a3 + (a0.length : Int)))) fun r1 =>
selm r1 (fun y2 =>
some (true, y2)) (fun z3 =>
some (z3.1, z3.2))) : Option (Bool × Int))
 (impl_blockValid a0 a1 a2 a3) := by
 rewrite [← wrapC_eq]
 exact fun r h => fn_le' (F := Tb) (G := GT) (sg := sg) (sig := s5300) (p := p5300) (by kernel_rfl) (by kernel_rfl) rfl rfl rfl rfl rfl ((show runC (phi Tb GT sg) Tb GT p5300.code (startAT p5300 (mkST p5300.ins [.sl .share .stm a0, .int .i64 a1, .int .i64 a2, .bp 0 0] p5300.bins [.var [.int .i64 a3]])) (finT p5300 s5300) = _ by kernel_rfl).trans h)

theorem spec_l11Blocks_le (a0 : List Stm) (a1 : Int) : Tv.Le
 (bnd (spec_l11Blocks_l1 a0 a1 0) fun r1 =>
selm r1 (fun y2 =>
some true) (fun z3 =>
some z3) : Option (Bool))
 (spec_l11Blocks a0 a1) := by
 exact fun r h => fn_le' (F := Tb) (G := GT) (sg := sg) (sig := s6200) (p := p6200) (by kernel_rfl) (by kernel_rfl) rfl rfl rfl rfl rfl ((show runC (phi Tb GT sg) Tb GT p6200.code (startAT p6200 (mkST p6200.ins [.sl .share .stm a0, .int .i64 a1] p6200.bins [])) (finT p6200 s6200) = _ by kernel_rfl).trans h)

theorem spec_l92Stmt_le (a1 : Int) (a2 : Int) (a3 : Bool) (a0b : List Int) (a0p : Int) : Tv.Le
 (bnd (spec_l6Rd_pick 10 a0b a0p) fun r1 =>
(bif (decide (r1.1 = 0)) then
bnd (spec_l92Set r1.2.1 r1.2.2) fun r2 =>
some (([⟨r2.1.kind, r2.1.var, r2.1.box, ⟨r2.1.e.op, r2.1.e.n, r2.1.e.args⟩, r2.1.body, r2.1.els⟩] : List Stm), r2.2.1, r2.2.2)
else
(bif (decide (r1.1 = 1)) then
bnd (spec_l92Set r1.2.1 r1.2.2) fun r3 =>
some (([⟨r3.1.kind, r3.1.var, r3.1.box, ⟨r3.1.e.op, r3.1.e.n, r3.1.e.args⟩, r3.1.body, r3.1.els⟩] : List Stm), r3.2.1, r3.2.2)
else
(bif (decide (r1.1 = 2)) then
(bif (decide (0 < a2)) then
bnd (spec_l92If a1 a2 a3 r1.2.1 r1.2.2) fun r4 =>
some (([⟨r4.1.kind, r4.1.var, r4.1.box, ⟨r4.1.e.op, r4.1.e.n, r4.1.e.args⟩, r4.1.body, r4.1.els⟩] : List Stm), r4.2.1, r4.2.2)
else
bnd (spec_l6Rd_pick 3 r1.2.1 r1.2.2) fun r5 =>
bnd (spec_l91Expr (wrap64 (1 + r5.1)) r5.2.1 r5.2.2) fun r6 =>
some (([⟨7, 0, 0, ⟨r6.1, r6.2.1, r6.2.2.1.2⟩, [], []⟩] : List Stm), r6.2.2.2.1, r6.2.2.2.2))
else
(bif (decide (r1.1 = 3)) then
(bif (decide (0 < a2)) then
(bif a3 then
bnd (spec_l92Loop a1 a2 r1.2.1 r1.2.2) fun r7 =>
some (r7.1, r7.2.1, r7.2.2)
else
bnd (spec_l6Rd_pick 3 r1.2.1 r1.2.2) fun r8 =>
bnd (spec_l91Expr (wrap64 (1 + r8.1)) r8.2.1 r8.2.2) fun r9 =>
some (([⟨7, 0, 0, ⟨r9.1, r9.2.1, r9.2.2.1.2⟩, [], []⟩] : List Stm), r9.2.2.2.1, r9.2.2.2.2))
else
bnd (spec_l6Rd_pick 3 r1.2.1 r1.2.2) fun r10 =>
bnd (spec_l91Expr (wrap64 (1 + r10.1)) r10.2.1 r10.2.2) fun r11 =>
some (([⟨7, 0, 0, ⟨r11.1, r11.2.1, r11.2.2.1.2⟩, [], []⟩] : List Stm), r11.2.2.2.1, r11.2.2.2.2))
else
(bif (decide (r1.1 = 4)) then
bnd (spec_l92Talk a1 r1.2.1 r1.2.2) fun r12 =>
some (([⟨r12.1.kind, r12.1.var, r12.1.box, ⟨r12.1.e.op, r12.1.e.n, r12.1.e.args⟩, r12.1.body, r12.1.els⟩] : List Stm), r12.2.1, r12.2.2)
else
(bif (decide (r1.1 = 5)) then
bnd (spec_l92Talk a1 r1.2.1 r1.2.2) fun r13 =>
some (([⟨r13.1.kind, r13.1.var, r13.1.box, ⟨r13.1.e.op, r13.1.e.n, r13.1.e.args⟩, r13.1.body, r13.1.els⟩] : List Stm), r13.2.1, r13.2.2)
else
(bif (decide (r1.1 = 6)) then
bnd (spec_l92Talk a1 r1.2.1 r1.2.2) fun r14 =>
some (([⟨r14.1.kind, r14.1.var, r14.1.box, ⟨r14.1.e.op, r14.1.e.n, r14.1.e.args⟩, r14.1.body, r14.1.els⟩] : List Stm), r14.2.1, r14.2.2)
else
(bif (decide (r1.1 = 7)) then
some (([⟨6, 0, 0, ⟨0, 0, []⟩, [], []⟩] : List Stm), r1.2.1, r1.2.2)
else
bnd (spec_l6Rd_pick 3 r1.2.1 r1.2.2) fun r15 =>
bnd (spec_l91Expr (wrap64 (1 + r15.1)) r15.2.1 r15.2.2) fun r16 =>
some (([⟨7, 0, 0, ⟨r16.1, r16.2.1, r16.2.2.1.2⟩, [], []⟩] : List Stm), r16.2.2.2.1, r16.2.2.2.2))))))))) : Option (List Stm × List Int × Int))
 (spec_l92Stmt a1 a2 a3 a0b a0p) := by
 rewrite [← wrapC_eq]
 exact fun r h => fn_le' (F := Tb) (G := GT) (sg := sg) (sig := s4500) (p := p4500) (by kernel_rfl) (by kernel_rfl) rfl rfl rfl rfl rfl ((show runC (phi Tb GT sg) Tb GT p4500.code (startAT p4500 (mkST p4500.ins [.bp 0 0, .int .i64 a1, .int .i64 a2, .bool a3] p4500.bins [.var [.sl .share .u8 a0b, .int .i64 a0p]])) (finT p4500 s4500) = _ by kernel_rfl).trans h)

theorem spec_l92Block_l1_le (t1 : Int) (t2 : Int) (t3 : Int) (t4 : Bool) (t11b : Bool) (t11 : List Stm) (t12 : Int) (b0_0 : List Int) (b0_1 : Int) : Tv.Le
 ((bif (decide (t12 < t3)) then
bnd (spec_l92Stmt t1 t2 t4 b0_0 b0_1) fun r1 =>
bnd (appL t11 r1.1) fun l2 =>
spec_l92Block_l1 t1 t2 t3 t4 true l2 (wrap64 (t12 + 1)) r1.2.1 r1.2.2
else
some ((t11b, t11), b0_0, b0_1)) : Option ((Bool × List Stm) × List Int × Int))
 (spec_l92Block_l1 t1 t2 t3 t4 t11b t11 t12 b0_0 b0_1) := by
 rewrite [← wrapC_eq]
 exact fun r h => loop_le' (F := Tb) (G := GT) (sg := sg) (sig := s4601) (p := p4601) (by kernel_rfl) (by kernel_rfl) rfl rfl rfl ((show runC (phi Tb GT sg) Tb GT p4601.code ((mkST p4601.ins [.bp 0 0, .int .i64 t1, .int .i64 t2, .int .i64 t3, .bool t4, .sl (.own t11b) .stm t11, .int .i64 t12] p4601.bins [.var [.sl .share .u8 b0_0, .int .i64 b0_1]])) (finL Tb GT 4601 p4601 s4601) = _ by kernel_rfl).trans h)

theorem spec_l11Count_l1_le (t0 : List Stm) (t3 : Int) (t4 : Int) : Tv.Le
 ((bif (decide (t4 < (t0.length : Int))) then
bnd (geti t0 t4) fun e1 =>
bnd (spec_l11Count e1.body) fun r2 =>
bnd (geti t0 t4) fun e3 =>
bnd (spec_l11Count e3.els) fun r4 =>
spec_l11Count_l1 t0 (wrap64 ((wrap64 ((wrap64 (t3 + 1)) + r2)) + r4)) (wrap64 (t4 + 1))
else
some t3) : Option (Int))
 (spec_l11Count_l1 t0 t3 t4) := by
 rewrite [← wrapC_eq]
 exact fun r h => loop_le' (F := Tb) (G := GT) (sg := sg) (sig := s4001) (p := p4001) (by kernel_rfl) (by kernel_rfl) rfl rfl rfl ((show runC (phi Tb GT sg) Tb GT p4001.code ((mkST p4001.ins [.sl .share .stm t0, .int .i64 t3, .int .i64 t4] p4001.bins [])) (finL Tb GT 4001 p4001 s4001) = _ by kernel_rfl).trans h)

theorem spec_l12Rooms_l1_le (t0 : List Int) (t3 : Int) : Tv.Le
 ((bif (decide (t3 < (t0.length : Int))) then
bnd (geti t0 t3) fun e1 =>
bnd (spec_l6In e1 1 4) fun r2 =>
(bif (!r2) then
some (.inr (t0, false))
else
spec_l12Rooms_l1 t0 (wrap64 (t3 + 1)))
else
some (.inl t0)) : Option (List Int ⊕ (List Int × Bool)))
 (spec_l12Rooms_l1 t0 t3) := by
 rewrite [← wrapC_eq]
 exact fun r h => loop_le' (F := Tb) (G := GT) (sg := sg) (sig := s23201) (p := p23201) (by kernel_rfl) (by kernel_rfl) rfl rfl rfl ((show runC (phi Tb GT sg) Tb GT p23201.code ((mkST p23201.ins [.sl .share .int t0, .int .i64 t3] p23201.bins [])) (finL Tb GT 23201 p23201 s23201) = _ by kernel_rfl).trans h)

theorem spec_l4Copy_le (a0 : Exp) : Tv.Le
 ((bif (decide ((a0.args.length : Int) = 0)) then
bnd (spec_l4Leaf a0.op a0.n) fun r1 =>
some (⟨r1.1, r1.2.1, r1.2.2.2⟩)
else
bnd (geti a0.args 0) fun e2 =>
bnd (spec_l4Copy (⟨e2.op, e2.n, e2.args⟩ : Exp)) fun r3 =>
bnd (geti a0.args 1) fun e4 =>
bnd (spec_l4Copy (⟨e4.op, e4.n, e4.args⟩ : Exp)) fun r5 =>
bnd (spec_l4Both a0.op (⟨r3.op, r3.n, r3.args⟩ : Exp) (⟨r5.op, r5.n, r5.args⟩ : Exp)) fun r6 =>
some (⟨r6.1, r6.2.1, r6.2.2.2⟩)) : Option (Exp))
 (spec_l4Copy a0) := by
 exact fun r h => fn_le' (F := Tb) (G := GT) (sg := sg) (sig := s9400) (p := p9400) (by kernel_rfl) (by kernel_rfl) rfl rfl rfl rfl rfl ((show runC (phi Tb GT sg) Tb GT p9400.code (startAT p9400 (mkST p9400.ins [.agg (rowT .exp a0)] p9400.bins [])) (finT p9400 s9400) = _ by kernel_rfl).trans h)

theorem spec_l11Copy_l1_le (t0 : List Stm) (t3b : Bool) (t3 : List Stm) (t4 : Int) : Tv.Le
 ((bif (decide (t4 < (t0.length : Int))) then
bnd (geti t0 t4) fun e1 =>
bnd (spec_l4Copy (⟨e1.e.op, e1.e.n, e1.e.args⟩ : Exp)) fun r2 =>
bnd (spec_l11Copy e1.body) fun r3 =>
bnd (spec_l11Copy e1.els) fun r4 =>
bnd (appL t3 ([⟨e1.kind, e1.var, e1.box, ⟨r2.op, r2.n, r2.args⟩, r3, r4⟩] : List Stm)) fun l5 =>
spec_l11Copy_l1 t0 true l5 (wrap64 (t4 + 1))
else
some (t3b, t3)) : Option ((Bool × List Stm)))
 (spec_l11Copy_l1 t0 t3b t3 t4) := by
 rewrite [← wrapC_eq]
 exact fun r h => loop_le' (F := Tb) (G := GT) (sg := sg) (sig := s9501) (p := p9501) (by kernel_rfl) (by kernel_rfl) rfl rfl rfl ((show runC (phi Tb GT sg) Tb GT p9501.code ((mkST p9501.ins [.sl .share .stm t0, .sl (.own t3b) .stm t3, .int .i64 t4] p9501.bins [])) (finL Tb GT 9501 p9501 s9501) = _ by kernel_rfl).trans h)

end Go.TFnOutcome
