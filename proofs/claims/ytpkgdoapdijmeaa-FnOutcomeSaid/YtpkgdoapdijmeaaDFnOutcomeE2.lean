import Derived.Test.YtpkgdoapdijmeaaDFnOutcomeP
import Derived.KernelRfl
set_option linter.unusedVariables false
namespace Go.TFnOutcome
open Go Go.RowKit Go.Vs Go.Tv
theorem spec_l15BoxesCopy_l1_le (t0 : List Bx) (t3b : Bool) (t3 : List Bx) (t4 : Int) : Tv.Le
 ((bif (decide (t4 < (t0.length : Int))) then
bnd (geti t0 t4) fun e1 =>
bnd (geti t0 t4) fun e2 =>
bnd (appL ([] : List Int) e2.items) fun l3 =>
bnd (appL t3 ([⟨e1.room, l3⟩] : List Bx)) fun l4 =>
spec_l15BoxesCopy_l1 t0 true l4 (wrap64 (t4 + 1))
else
some (t3b, t3)) : Option ((Bool × List Bx)))
 (spec_l15BoxesCopy_l1 t0 t3b t3 t4) := by
 rewrite [← wrapC_eq]
 exact fun r h => loop_le' (F := Tb) (G := GT) (sg := sg) (sig := s25601) (p := p25601) (by kernel_rfl) (by kernel_rfl) rfl rfl rfl ((show runC (phi Tb GT sg) Tb GT p25601.code ((mkST p25601.ins [.sl .share .bx t0, .sl (.own t3b) .bx t3, .int .i64 t4] p25601.bins [])) (finL Tb GT 25601 p25601 s25601) = _ by kernel_rfl).trans h)

theorem spec_l16Copy_t_l1_le (t4 : Int) (b100_0 : List Tk) (b100_1 : List Bx) (b100_2 : Int) (b100_3 : Int) (b100_4 : List Int) (b101_0 : Hd) (b101_1b : Bool) (b101_1 : List Bx) (b101_2 : Int) (b101_3 : Int) (b101_4 : Hd) (b102_0 : Hd) (b102_1 : List Bx) (b102_2 : Int) (b102_3 : Int) (b102_4 : Hd) (b99 : List Ent) : Tv.Le
 ((bif (decide (t4 < (b100_0.length : Int))) then
bnd (geti b100_0 t4) fun e1 =>
bnd (spec_l15Copy e1) fun r2 =>
bnd (arApp b99 .tk b102_0.id b102_0.n ([r2] : List Tk)) fun B3 =>
spec_l16Copy_t_l1 (wrap64 (t4 + 1)) b100_0 b100_1 b100_2 b100_3 b100_4 b101_0 b101_1b b101_1 b101_2 b101_3 b101_4 (⟨(some (List.length b99)), (b102_0.n + List.length ([r2] : List Tk))⟩ : Hd) b102_1 b102_2 b102_3 b102_4 B3
else
some (b101_0, (b101_1b, b101_1), b101_2, b101_3, b101_4, b102_0, b102_1, b102_2, b102_3, b102_4, b99)) : Option (Hd × (Bool × List Bx) × Int × Int × Hd × Hd × List Bx × Int × Int × Hd × List Ent))
 (spec_l16Copy_t_l1 t4 b100_0 b100_1 b100_2 b100_3 b100_4 b101_0 b101_1b b101_1 b101_2 b101_3 b101_4 b102_0 b102_1 b102_2 b102_3 b102_4 b99) := by
 rewrite [← wrapC_eq]
 exact fun r h => loop_le' (F := Tb) (G := GT) (sg := sg) (sig := s40301) (p := p40301) (by kernel_rfl) (by kernel_rfl) rfl rfl rfl ((show runC (phi Tb GT sg) Tb GT p40301.code ((mkST p40301.ins [.bp 100 0, .bp 101 0, .bp 102 0, .int .i64 t4] p40301.bins [.var [.sl .share .tk b100_0, .sl .share .bx b100_1, .int .i64 b100_2, .int .i64 b100_3, .sl .share .int b100_4], .var [.tr .tk b101_0.id b101_0.n, .sl (.own b101_1b) .bx b101_1, .int .i64 b101_2, .int .i64 b101_3, .tr .int b101_4.id b101_4.n], .var [.tr .tk b102_0.id b102_0.n, .sl .share .bx b102_1, .int .i64 b102_2, .int .i64 b102_3, .tr .int b102_4.id b102_4.n], .ar b99])) (finL Tb GT 40301 p40301 s40301) = _ by kernel_rfl).trans h)

theorem spec_l15Ready_le (a0 : Tk) (a1 : List Bx) : Tv.Le
 ((bif (decide ((a0.rest.length : Int) = 0)) then
some true
else
bnd (geti a0.rest 0) fun e1 =>
(bif (!decide (e1.kind = 4)) then
(bif (!decide (e1.kind = 5)) then
some true
else
some (decide (e1.box < (a1.length : Int))))
else
some (decide (e1.box < (a1.length : Int))))) : Option (Bool))
 (spec_l15Ready a0 a1) := by
 exact fun r h => fn_le' (F := Tb) (G := GT) (sg := sg) (sig := s26500) (p := p26500) (by kernel_rfl) (by kernel_rfl) rfl rfl rfl rfl rfl ((show runC (phi Tb GT sg) Tb GT p26500.code (startAT p26500 (mkST p26500.ins [.agg (rowT .tk a0), .sl .share .bx a1] p26500.bins [])) (finT p26500 s26500) = _ by kernel_rfl).trans h)

theorem spec_l15Talk_le (a0 : Tk) (a1 : List Bx) : Tv.Le
 (bnd (geti a0.rest 0) fun e1 =>
bnd (spec_l15BoxesCopy_p a1 ([] : List Ent)) fun r2 =>
(bif (decide (e1.kind = 4)) then
bnd (geti a1 e1.box) fun e3 =>
bnd (spec_l4Eval (⟨e1.e.op, e1.e.n, e1.e.args⟩ : Exp) a0.vars) fun r4 =>
bnd (spec_BoxPut e3 r4) fun r5 =>
(bif (!r5.2) then
bnd (spec_l15Copy a0) fun r6 =>
bnd (arView r2.2 .bx r2.1.id) fun l7 =>
some (r6, l7, 3)
else
bnd (idxN r2.1.n e1.box) fun i8 =>
bnd (arRow r2.2 .bx r2.1.id i8) fun e9 =>
bnd (appL ([] : List Int) a0.vars) fun l10 =>
bnd (cutL a0.rest 1 (a0.rest.length : Int)) fun l11 =>
bnd (spec_l11Copy l11) fun r12 =>
bnd (arView (arSet r2.2 .bx r2.1.id i8 r5.1) .bx r2.1.id) fun l13 =>
some (⟨l10, r12⟩, l13, 1))
else
bnd (geti a1 e1.box) fun e14 =>
bnd (spec_BoxTake e14) fun r15 =>
(bif (!r15.2.2) then
bnd (spec_l15Copy a0) fun r16 =>
bnd (arView r2.2 .bx r2.1.id) fun l17 =>
some (r16, l17, 3)
else
bnd (idxN r2.1.n e1.box) fun i18 =>
bnd (arRow r2.2 .bx r2.1.id i18) fun e19 =>
bnd (spec_l15Set a0 e1.var r15.2.1) fun r20 =>
bnd (arView (arSet r2.2 .bx r2.1.id i18 r15.1) .bx r2.1.id) fun l21 =>
some (r20, l21, 1))) : Option (Tk × List Bx × Int))
 (spec_l15Talk a0 a1) := by
 exact fun r h => fn_le' (F := Tb) (G := GT) (sg := sg) (sig := s26700) (p := p26700) (by kernel_rfl) (by kernel_rfl) rfl rfl rfl rfl rfl ((show runC (phi Tb GT sg) Tb GT p26700.code (startAT p26700 (mkST p26700.ins [.agg (rowT .tk a0), .sl .share .bx a1] p26700.bins [])) (finT p26700 s26700) = _ by kernel_rfl).trans h)

theorem spec_l15Block_le (a0 : Tk) : Tv.Le
 (bnd (geti a0.rest 0) fun e1 =>
bnd (appL ([] : List Int) a0.vars) fun l2 =>
bnd (spec_l4Eval (⟨e1.e.op, e1.e.n, e1.e.args⟩ : Exp) a0.vars) fun r3 =>
(bif (decide (e1.kind = 2)) then
(bif (!decide (r3 = 0)) then
bnd (cutL a0.rest 1 (a0.rest.length : Int)) fun l4 =>
bnd (spec_l15Ahead e1.body l4) fun r5 =>
some (⟨l2, r5⟩)
else
(bif (decide (e1.kind = 2)) then
bnd (cutL a0.rest 1 (a0.rest.length : Int)) fun l6 =>
bnd (spec_l15Ahead e1.els l6) fun r7 =>
some (⟨l2, r7⟩)
else
(bif (!decide (r3 = 0)) then
bnd (spec_l15Ahead e1.body a0.rest) fun r8 =>
some (⟨l2, r8⟩)
else
bnd (cutL a0.rest 1 (a0.rest.length : Int)) fun l9 =>
bnd (spec_l11Copy l9) fun r10 =>
some (⟨l2, r10⟩))))
else
(bif (decide (e1.kind = 2)) then
bnd (cutL a0.rest 1 (a0.rest.length : Int)) fun l11 =>
bnd (spec_l15Ahead e1.els l11) fun r12 =>
some (⟨l2, r12⟩)
else
(bif (!decide (r3 = 0)) then
bnd (spec_l15Ahead e1.body a0.rest) fun r13 =>
some (⟨l2, r13⟩)
else
bnd (cutL a0.rest 1 (a0.rest.length : Int)) fun l14 =>
bnd (spec_l11Copy l14) fun r15 =>
some (⟨l2, r15⟩)))) : Option (Tk))
 (spec_l15Block a0) := by
 exact fun r h => fn_le' (F := Tb) (G := GT) (sg := sg) (sig := s26900) (p := p26900) (by kernel_rfl) (by kernel_rfl) rfl rfl rfl rfl rfl ((show runC (phi Tb GT sg) Tb GT p26900.code (startAT p26900 (mkST p26900.ins [.agg (rowT .tk a0)] p26900.bins [])) (finT p26900 s26900) = _ by kernel_rfl).trans h)

theorem spec_l4Eval_le (a0 : Exp) (a1 : List Int) : Tv.Le
 ((bif (decide (a0.op = 0)) then
some a0.n
else
(bif (decide (a0.op = 13)) then
bnd (geti a1 a0.n) fun e1 =>
some e1
else
bnd (geti a0.args 0) fun e2 =>
bnd (spec_l4Eval (⟨e2.op, e2.n, e2.args⟩ : Exp) a1) fun r3 =>
bnd (geti a0.args 1) fun e4 =>
bnd (spec_l4Eval (⟨e4.op, e4.n, e4.args⟩ : Exp) a1) fun r5 =>
bnd (spec_Apply a0.op r3 r5) fun r6 =>
some r6.1)) : Option (Int))
 (spec_l4Eval a0 a1) := by
 exact fun r h => fn_le' (F := Tb) (G := GT) (sg := sg) (sig := s26400) (p := p26400) (by kernel_rfl) (by kernel_rfl) rfl rfl rfl rfl rfl ((show runC (phi Tb GT sg) Tb GT p26400.code (startAT p26400 (mkST p26400.ins [.agg (rowT .exp a0), .sl .share .int a1] p26400.bins [])) (finT p26400 s26400) = _ by kernel_rfl).trans h)

theorem spec_l15Set_le (a0 : Tk) (a1 : Int) (a2 : Int) : Tv.Le
 (bnd (arApp (arPush ([] : List Ent) .int ([] : List Int)) .int (some (List.length ([] : List Ent))) 0 a0.vars) fun B1 =>
bnd (cutL a0.rest 1 (a0.rest.length : Int)) fun l2 =>
bnd (spec_l11Copy l2) fun r3 =>
bnd (idxN (0 + List.length a0.vars) a1) fun i4 =>
bnd (arRow B1 .int (some (List.length (arPush ([] : List Ent) .int ([] : List Int)))) i4) fun e5 =>
bnd (arView (arSet B1 .int (some (List.length (arPush ([] : List Ent) .int ([] : List Int)))) i4 a2) .int (some (List.length (arPush ([] : List Ent) .int ([] : List Int))))) fun l6 =>
some (⟨l6, r3⟩) : Option (Tk))
 (spec_l15Set a0 a1 a2) := by
 exact fun r h => fn_le' (F := Tb) (G := GT) (sg := sg) (sig := s26600) (p := p26600) (by kernel_rfl) (by kernel_rfl) rfl rfl rfl rfl rfl ((show runC (phi Tb GT sg) Tb GT p26600.code (startAT p26600 (mkST p26600.ins [.agg (rowT .tk a0), .int .i64 a1, .int .i64 a2] p26600.bins [])) (finT p26600 s26600) = _ by kernel_rfl).trans h)

theorem impl_stmtValid_le (a0 : Stm) (a1 : Int) : Tv.Le
 ((bif (decide (a0.kind = 1)) then
bnd (impl_stmtValid_1 a0.var 4 true) fun r1 =>
(bif (!r1) then
some false
else
bnd (impl_stmtValid_1 a0.box a1 false) fun r2 =>
(bif (!r2) then
some false
else
bnd (impl_ExprValid (⟨a0.e.op, a0.e.n, a0.e.args⟩ : Exp)) fun r3 =>
(bif (!r3) then
some false
else
(bif (decide ((a0.body.length : Int) = 0)) then
some (decide ((a0.els.length : Int) = 0))
else
some false))))
else
(bif (decide (a0.kind = 2)) then
bnd (impl_stmtValid_1 a0.var 4 false) fun r4 =>
(bif (!r4) then
some false
else
bnd (impl_stmtValid_1 a0.box a1 false) fun r5 =>
(bif (!r5) then
some false
else
bnd (impl_ExprValid (⟨a0.e.op, a0.e.n, a0.e.args⟩ : Exp)) fun r6 =>
(bif (!r6) then
some false
else
some true)))
else
(bif (decide (a0.kind = 3)) then
bnd (impl_stmtValid_1 a0.var 4 false) fun r7 =>
(bif (!r7) then
some false
else
bnd (impl_stmtValid_1 a0.box a1 false) fun r8 =>
(bif (!r8) then
some false
else
bnd (impl_ExprValid (⟨a0.e.op, a0.e.n, a0.e.args⟩ : Exp)) fun r9 =>
(bif (!r9) then
some false
else
some (decide ((a0.els.length : Int) = 0)))))
else
(bif (decide (a0.kind = 4)) then
bnd (impl_stmtValid_1 a0.var 4 false) fun r10 =>
(bif (!r10) then
some false
else
bnd (impl_stmtValid_1 a0.box a1 true) fun r11 =>
(bif (!r11) then
some false
else
(bif (decide (a1 ≤ a0.box)) then
some false
else
bnd (impl_ExprValid (⟨a0.e.op, a0.e.n, a0.e.args⟩ : Exp)) fun r12 =>
(bif (!r12) then
some false
else
(bif (decide ((a0.body.length : Int) = 0)) then
some (decide ((a0.els.length : Int) = 0))
else
some false)))))
else
(bif (decide (a0.kind = 5)) then
bnd (impl_stmtValid_1 a0.var 4 true) fun r13 =>
(bif (!r13) then
some false
else
bnd (impl_stmtValid_1 a0.box a1 true) fun r14 =>
(bif (!r14) then
some false
else
(bif (decide (a1 ≤ a0.box)) then
some false
else
(bif (!decide (a0.e.op = 0)) then
some false
else
(bif (!decide (a0.e.n = 0)) then
some false
else
(bif (decide (0 < (a0.e.args.length : Int))) then
some false
else
(bif (decide ((a0.body.length : Int) = 0)) then
some (decide ((a0.els.length : Int) = 0))
else
some false)))))))
else
(bif (decide (a0.kind = 7)) then
bnd (impl_stmtValid_1 a0.var 4 false) fun r15 =>
(bif (!r15) then
some false
else
bnd (impl_stmtValid_1 a0.box a1 false) fun r16 =>
(bif (!r16) then
some false
else
bnd (impl_ExprValid (⟨a0.e.op, a0.e.n, a0.e.args⟩ : Exp)) fun r17 =>
(bif (!r17) then
some false
else
(bif (decide ((a0.body.length : Int) = 0)) then
some (decide ((a0.els.length : Int) = 0))
else
some false))))
else
(bif (decide (a0.kind = 6)) then
bnd (impl_stmtValid_1 a0.var 4 false) fun r18 =>
(bif (!r18) then
some false
else
bnd (impl_stmtValid_1 a0.box a1 false) fun r19 =>
(bif (!r19) then
some false
else
(bif (!decide (a0.e.op = 0)) then
some false
else
(bif (!decide (a0.e.n = 0)) then
some false
else
(bif (decide (0 < (a0.e.args.length : Int))) then
some false
else
(bif (decide ((a0.body.length : Int) = 0)) then
some (decide ((a0.els.length : Int) = 0))
else
some false))))))
else
some false))))))) : Option (Bool))
 (impl_stmtValid a0 a1) := by
 exact fun r h => fn_le' (F := Tb) (G := GT) (sg := sg) (sig := s5200) (p := p5200) (by kernel_rfl) (by kernel_rfl) rfl rfl rfl rfl rfl ((show runC (phi Tb GT sg) Tb GT p5200.code (startAT p5200 (mkST p5200.ins [.rp (rowT .stm a0) 0, .int .i64 a1] p5200.bins [])) (finT p5200 s5200) = _ by kernel_rfl).trans h)

theorem impl_blockValid_l1_le (t0 : List Stm) (t1 : Int) (t2 : Int) (t23 : Int) (t24 : Int) (b0_0 : Int) : Tv.Le
 ((bif (decide (t24 < t23)) then
bnd (geti t0 t24) fun e1 =>
bnd (impl_stmtValid (⟨e1.kind, e1.var, e1.box, ⟨e1.e.op, e1.e.n, e1.e.args⟩, e1.body, e1.els⟩ : Stm) t1) fun r2 =>
(bif (!r2) then
some (.inr (false, b0_0))
else
(bif (decide (3 < t2)) then
some (.inr (false, b0_0))
else
(bif (!decide (e1.kind = 2)) then
(bif (!decide (e1.kind = 3)) then
impl_blockValid_l1 t0 t1 t2 t23 (wrap64 (t24 + 1)) b0_0
else
(bif (decide (3 ≤ t2)) then
some (.inr (false, b0_0))
else
bnd (impl_blockValid e1.body t1 (wrap64 (t2 + 1)) b0_0) fun r3 =>
(bif (!r3.1) then
some (.inr (false, r3.2))
else
bnd (impl_blockValid e1.els t1 (wrap64 (t2 + 1)) r3.2) fun r4 =>
(bif (!r4.1) then
some (.inr (false, r4.2))
else
impl_blockValid_l1 t0 t1 t2 t23 (wrap64 (t24 + 1)) r4.2))))
else
(bif (decide (3 ≤ t2)) then
some (.inr (false, b0_0))
else
bnd (impl_blockValid e1.body t1 (wrap64 (t2 + 1)) b0_0) fun r5 =>
(bif (!r5.1) then
some (.inr (false, r5.2))
else
bnd (impl_blockValid e1.els t1 (wrap64 (t2 + 1)) r5.2) fun r6 =>
(bif (!r6.1) then
some (.inr (false, r6.2))
else
impl_blockValid_l1 t0 t1 t2 t23 (wrap64 (t24 + 1)) r6.2))))))
else
some (.inl b0_0)) : Option (Int ⊕ (Bool × Int)))
 (impl_blockValid_l1 t0 t1 t2 t23 t24 b0_0) := by
 rewrite [← wrapC_eq]
 exact fun r h => loop_le' (F := Tb) (G := GT) (sg := sg) (sig := s5301) (p := p5301) (by kernel_rfl) (by kernel_rfl) rfl rfl rfl ((show runC (phi Tb GT sg) Tb GT p5301.code ((mkST p5301.ins [.sl .share .stm t0, .int .i64 t1, .int .i64 t2, .bp 0 0, .int .i64 t23, .int .i64 t24] p5301.bins [.var [.int .i64 b0_0]])) (finL Tb GT 5301 p5301 s5301) = _ by kernel_rfl).trans h)

theorem spec_l11Ok_le (a0 : Stm) (a1 : Int) : Tv.Le
 ((bif (!decide (a0.kind = 2)) then
(bif (!decide (a0.kind = 3)) then
bnd (spec_l11Simple (⟨a0.kind, a0.var, a0.box, ⟨a0.e.op, a0.e.n, a0.e.args⟩, a0.body, a0.els⟩ : Stm)) fun r1 =>
some r1
else
(bif (decide (a1 < 1)) then
some false
else
(bif (decide (a0.kind = 3)) then
(bif (decide (0 < (a0.els.length : Int))) then
some false
else
bnd (spec_l11Var (⟨a0.kind, a0.var, a0.box, ⟨a0.e.op, a0.e.n, a0.e.args⟩, a0.body, a0.els⟩ : Stm) false) fun r2 =>
(bif r2 then
bnd (spec_l11Box (⟨a0.kind, a0.var, a0.box, ⟨a0.e.op, a0.e.n, a0.e.args⟩, a0.body, a0.els⟩ : Stm) false) fun r3 =>
(bif r3 then
bnd (spec_ExprValid (⟨a0.e.op, a0.e.n, a0.e.args⟩ : Exp)) fun r4 =>
(bif r4 then
bnd (spec_l11Blocks a0.body (wrap64 (a1 - 1))) fun r5 =>
(bif r5 then
bnd (spec_l11Blocks a0.els (wrap64 (a1 - 1))) fun r6 =>
some r6
else
some false)
else
some false)
else
some false)
else
some false))
else
bnd (spec_l11Var (⟨a0.kind, a0.var, a0.box, ⟨a0.e.op, a0.e.n, a0.e.args⟩, a0.body, a0.els⟩ : Stm) false) fun r7 =>
(bif r7 then
bnd (spec_l11Box (⟨a0.kind, a0.var, a0.box, ⟨a0.e.op, a0.e.n, a0.e.args⟩, a0.body, a0.els⟩ : Stm) false) fun r8 =>
(bif r8 then
bnd (spec_ExprValid (⟨a0.e.op, a0.e.n, a0.e.args⟩ : Exp)) fun r9 =>
(bif r9 then
bnd (spec_l11Blocks a0.body (wrap64 (a1 - 1))) fun r10 =>
(bif r10 then
bnd (spec_l11Blocks a0.els (wrap64 (a1 - 1))) fun r11 =>
some r11
else
some false)
else
some false)
else
some false)
else
some false))))
else
(bif (decide (a1 < 1)) then
some false
else
(bif (decide (a0.kind = 3)) then
(bif (decide (0 < (a0.els.length : Int))) then
some false
else
bnd (spec_l11Var (⟨a0.kind, a0.var, a0.box, ⟨a0.e.op, a0.e.n, a0.e.args⟩, a0.body, a0.els⟩ : Stm) false) fun r12 =>
(bif r12 then
bnd (spec_l11Box (⟨a0.kind, a0.var, a0.box, ⟨a0.e.op, a0.e.n, a0.e.args⟩, a0.body, a0.els⟩ : Stm) false) fun r13 =>
(bif r13 then
bnd (spec_ExprValid (⟨a0.e.op, a0.e.n, a0.e.args⟩ : Exp)) fun r14 =>
(bif r14 then
bnd (spec_l11Blocks a0.body (wrap64 (a1 - 1))) fun r15 =>
(bif r15 then
bnd (spec_l11Blocks a0.els (wrap64 (a1 - 1))) fun r16 =>
some r16
else
some false)
else
some false)
else
some false)
else
some false))
else
bnd (spec_l11Var (⟨a0.kind, a0.var, a0.box, ⟨a0.e.op, a0.e.n, a0.e.args⟩, a0.body, a0.els⟩ : Stm) false) fun r17 =>
(bif r17 then
bnd (spec_l11Box (⟨a0.kind, a0.var, a0.box, ⟨a0.e.op, a0.e.n, a0.e.args⟩, a0.body, a0.els⟩ : Stm) false) fun r18 =>
(bif r18 then
bnd (spec_ExprValid (⟨a0.e.op, a0.e.n, a0.e.args⟩ : Exp)) fun r19 =>
(bif r19 then
bnd (spec_l11Blocks a0.body (wrap64 (a1 - 1))) fun r20 =>
(bif r20 then
bnd (spec_l11Blocks a0.els (wrap64 (a1 - 1))) fun r21 =>
some r21
else
some false)
else
some false)
else
some false)
else
some false)))) : Option (Bool))
 (spec_l11Ok a0 a1) := by
 rewrite [← wrapC_eq]
 exact fun r h => fn_le' (F := Tb) (G := GT) (sg := sg) (sig := s6100) (p := p6100) (by kernel_rfl) (by kernel_rfl) rfl rfl rfl rfl rfl ((show runC (phi Tb GT sg) Tb GT p6100.code (startAT p6100 (mkST p6100.ins [.agg (rowT .stm a0), .int .i64 a1] p6100.bins [])) (finT p6100 s6100) = _ by kernel_rfl).trans h)

theorem spec_l11Blocks_l1_le (t0 : List Stm) (t1 : Int) (t5 : Int) : Tv.Le
 ((bif (decide (t5 < (t0.length : Int))) then
bnd (geti t0 t5) fun e1 =>
bnd (spec_l11Ok (⟨e1.kind, e1.var, e1.box, ⟨e1.e.op, e1.e.n, e1.e.args⟩, e1.body, e1.els⟩ : Stm) t1) fun r2 =>
(bif (!r2) then
some (.inr false)
else
spec_l11Blocks_l1 t0 t1 (wrap64 (t5 + 1)))
else
some (.inl ())) : Option (Unit ⊕ Bool))
 (spec_l11Blocks_l1 t0 t1 t5) := by
 rewrite [← wrapC_eq]
 exact fun r h => loop_le' (F := Tb) (G := GT) (sg := sg) (sig := s6201) (p := p6201) (by kernel_rfl) (by kernel_rfl) rfl rfl rfl ((show runC (phi Tb GT sg) Tb GT p6201.code ((mkST p6201.ins [.sl .share .stm t0, .int .i64 t1, .int .i64 t5] p6201.bins [])) (finL Tb GT 6201 p6201 s6201) = _ by kernel_rfl).trans h)

theorem spec_l92Set_le (a0b : List Int) (a0p : Int) : Tv.Le
 (bnd (spec_l6Rd_pick 3 a0b a0p) fun r1 =>
bnd (spec_l6Rd_pick 3 r1.2.1 r1.2.2) fun r2 =>
bnd (spec_l91Expr (wrap64 (1 + r2.1)) r2.2.1 r2.2.2) fun r3 =>
some (⟨1, r1.1, 0, ⟨r3.1, r3.2.1, r3.2.2.1.2⟩, [], []⟩, r3.2.2.2.1, r3.2.2.2.2) : Option (Stm × List Int × Int))
 (spec_l92Set a0b a0p) := by
 rewrite [← wrapC_eq]
 exact fun r h => fn_le' (F := Tb) (G := GT) (sg := sg) (sig := s4200) (p := p4200) (by kernel_rfl) (by kernel_rfl) rfl rfl rfl rfl rfl ((show runC (phi Tb GT sg) Tb GT p4200.code (startAT p4200 (mkST p4200.ins [.bp 0 0] p4200.bins [.var [.sl .share .u8 a0b, .int .i64 a0p]])) (finT p4200 s4200) = _ by kernel_rfl).trans h)

theorem spec_l92If_le (a1 : Int) (a2 : Int) (a3 : Bool) (a0b : List Int) (a0p : Int) : Tv.Le
 (bnd (spec_l6Rd_pick 2 a0b a0p) fun r1 =>
bnd (spec_l91Expr (wrap64 (1 + r1.1)) r1.2.1 r1.2.2) fun r2 =>
bnd (spec_l6Rd_pick 3 r2.2.2.2.1 r2.2.2.2.2) fun r3 =>
bnd (spec_l92Block a1 (wrap64 (a2 - 1)) r3.1 a3 r3.2.1 r3.2.2) fun r4 =>
bnd (spec_l6Rd_pick 3 r4.2.1 r4.2.2) fun r5 =>
bnd (spec_l92Block a1 (wrap64 (a2 - 1)) r5.1 a3 r5.2.1 r5.2.2) fun r6 =>
some (⟨2, 0, 0, ⟨r2.1, r2.2.1, r2.2.2.1.2⟩, r4.1, r6.1⟩, r6.2.1, r6.2.2) : Option (Stm × List Int × Int))
 (spec_l92If a1 a2 a3 a0b a0p) := by
 rewrite [← wrapC_eq]
 exact fun r h => fn_le' (F := Tb) (G := GT) (sg := sg) (sig := s4100) (p := p4100) (by kernel_rfl) (by kernel_rfl) rfl rfl rfl rfl rfl ((show runC (phi Tb GT sg) Tb GT p4100.code (startAT p4100 (mkST p4100.ins [.bp 0 0, .int .i64 a1, .int .i64 a2, .bool a3] p4100.bins [.var [.sl .share .u8 a0b, .int .i64 a0p]])) (finT p4100 s4100) = _ by kernel_rfl).trans h)

theorem spec_l91Expr_le (a1 : Int) (a0b : List Int) (a0p : Int) : Tv.Le
 ((bif (decide (a1 < 2)) then
bnd (spec_l91Leaf a0b a0p) fun r1 =>
some (r1.1, r1.2.1, ((Md.dem (Md.dem (Md.dem r1.2.2.1.1))), r1.2.2.1.2), r1.2.2.2.1, r1.2.2.2.2)
else
bnd (spec_l6Rd_pick 3 a0b a0p) fun r2 =>
(bif (decide (r2.1 = 0)) then
bnd (spec_l91Leaf r2.2.1 r2.2.2) fun r3 =>
some (r3.1, r3.2.1, ((Md.dem (Md.dem (Md.dem r3.2.2.1.1))), r3.2.2.1.2), r3.2.2.2.1, r3.2.2.2.2)
else
bnd (spec_l91Op r2.2.1 r2.2.2) fun r4 =>
bnd (spec_l91Expr (wrap64 (a1 - 1)) r4.2.1 r4.2.2) fun r5 =>
bnd (spec_l91Expr (wrap64 (a1 - 1)) r5.2.2.2.1 r5.2.2.2.2) fun r6 =>
bnd (spec_l4Both r4.1 (⟨r5.1, r5.2.1, r5.2.2.1.2⟩ : Exp) (⟨r6.1, r6.2.1, r6.2.2.1.2⟩ : Exp)) fun r7 =>
some (r7.1, r7.2.1, ((Md.dem (Md.dem (Md.dem r7.2.2.1))), r7.2.2.2), r6.2.2.2.1, r6.2.2.2.2))) : Option (Int × Int × (Md × List Exp) × List Int × Int))
 (spec_l91Expr a1 a0b a0p) := by
 rewrite [← wrapC_eq]
 exact fun r h => fn_le' (F := Tb) (G := GT) (sg := sg) (sig := s700) (p := p700) (by kernel_rfl) (by kernel_rfl) rfl rfl rfl rfl rfl ((show runC (phi Tb GT sg) Tb GT p700.code (startAT p700 (mkST p700.ins [.bp 0 0, .int .i64 a1] p700.bins [.var [.sl .share .u8 a0b, .int .i64 a0p]])) (finT p700 s700) = _ by kernel_rfl).trans h)

theorem spec_l92Loop_le (a1 : Int) (a2 : Int) (a0b : List Int) (a0p : Int) : Tv.Le
 (bnd (spec_l6Rd_pick 3 a0b a0p) fun r1 =>
bnd (spec_l92Block a1 (wrap64 (a2 - 1)) r1.1 false r1.2.1 r1.2.2) fun r2 =>
bnd (spec_l4Leaf 13 3) fun r3 =>
bnd (spec_l4Leaf 0 1) fun r4 =>
bnd (spec_l4Both 8 (⟨r3.1, r3.2.1, r3.2.2.2⟩ : Exp) (⟨r4.1, r4.2.1, r4.2.2.2⟩ : Exp)) fun r5 =>
bnd (spec_l4Leaf 13 3) fun r6 =>
bnd (spec_l6Rd_pick 3 r2.2.1 r2.2.2) fun r7 =>
bnd (spec_l4Leaf 0 (wrap64 (1 + r7.1))) fun r8 =>
bnd (spec_l4Both 5 (⟨r6.1, r6.2.1, r6.2.2.2⟩ : Exp) (⟨r8.1, r8.2.1, r8.2.2.2⟩ : Exp)) fun r9 =>
bnd (appL r2.1 ([⟨1, 3, 0, ⟨r5.1, r5.2.1, r5.2.2.2⟩, [], []⟩] : List Stm)) fun l10 =>
bnd (spec_l4Leaf 0 0) fun r11 =>
some (([⟨1, 3, 0, ⟨r11.1, r11.2.1, r11.2.2.2⟩, [], []⟩, ⟨3, 0, 0, ⟨r9.1, r9.2.1, r9.2.2.2⟩, l10, []⟩] : List Stm), r7.2.1, r7.2.2) : Option (List Stm × List Int × Int))
 (spec_l92Loop a1 a2 a0b a0p) := by
 rewrite [← wrapC_eq]
 exact fun r h => fn_le' (F := Tb) (G := GT) (sg := sg) (sig := s4300) (p := p4300) (by kernel_rfl) (by kernel_rfl) rfl rfl rfl rfl rfl ((show runC (phi Tb GT sg) Tb GT p4300.code (startAT p4300 (mkST p4300.ins [.bp 0 0, .int .i64 a1, .int .i64 a2] p4300.bins [.var [.sl .share .u8 a0b, .int .i64 a0p]])) (finT p4300 s4300) = _ by kernel_rfl).trans h)

theorem spec_l92Talk_le (a1 : Int) (a0b : List Int) (a0p : Int) : Tv.Le
 ((bif (decide (a1 < 1)) then
bnd (spec_l92Set a0b a0p) fun r1 =>
some (⟨r1.1.kind, r1.1.var, r1.1.box, ⟨r1.1.e.op, r1.1.e.n, r1.1.e.args⟩, r1.1.body, r1.1.els⟩, r1.2.1, r1.2.2)
else
bnd (spec_l6Rd_pick a1 a0b a0p) fun r2 =>
bnd (spec_l6Rd_pick 2 r2.2.1 r2.2.2) fun r3 =>
(bif (decide (r3.1 = 0)) then
bnd (spec_l6Rd_pick 3 r3.2.1 r3.2.2) fun r4 =>
bnd (spec_l91Expr (wrap64 (1 + r4.1)) r4.2.1 r4.2.2) fun r5 =>
some (⟨4, 0, r2.1, ⟨r5.1, r5.2.1, r5.2.2.1.2⟩, [], []⟩, r5.2.2.2.1, r5.2.2.2.2)
else
bnd (spec_l6Rd_pick 3 r3.2.1 r3.2.2) fun r6 =>
some (⟨5, r6.1, r2.1, ⟨0, 0, []⟩, [], []⟩, r6.2.1, r6.2.2))) : Option (Stm × List Int × Int))
 (spec_l92Talk a1 a0b a0p) := by
 rewrite [← wrapC_eq]
 exact fun r h => fn_le' (F := Tb) (G := GT) (sg := sg) (sig := s4400) (p := p4400) (by kernel_rfl) (by kernel_rfl) rfl rfl rfl rfl rfl ((show runC (phi Tb GT sg) Tb GT p4400.code (startAT p4400 (mkST p4400.ins [.bp 0 0, .int .i64 a1] p4400.bins [.var [.sl .share .u8 a0b, .int .i64 a0p]])) (finT p4400 s4400) = _ by kernel_rfl).trans h)

theorem spec_l4Both_le (a0 : Int) (a1 : Exp) (a2 : Exp) : Tv.Le
 (some (a0, 0, (.full, ([⟨a1.op, a1.n, a1.args⟩, ⟨a2.op, a2.n, a2.args⟩] : List Exp))) : Option (Int × Int × (Md × List Exp)))
 (spec_l4Both a0 a1 a2) := by
 exact fun r h => fn_le' (F := Tb) (G := GT) (sg := sg) (sig := s500) (p := p500) (by kernel_rfl) (by kernel_rfl) rfl rfl rfl rfl rfl ((show runC (phi Tb GT sg) Tb GT p500.code (startAT p500 (mkST p500.ins [.int .i64 a0, .agg (rowT .exp a1), .agg (rowT .exp a2)] p500.bins [])) (finT p500 s500) = _ by kernel_rfl).trans h)

theorem spec_l15BoxesCopy_p_le (a0 : List Bx) (A : List Ent) : Tv.Le
 (bnd (spec_l15BoxesCopy_p_l1 a0 (⟨(some (List.length A)), 0⟩ : Hd) 0 (arPush A .bx ([] : List Bx))) fun r1 =>
some (r1.1, r1.2) : Option (Hd × List Ent))
 (spec_l15BoxesCopy_p a0 A) := by
 exact fun r h => fn_le' (F := Tb) (G := GT) (sg := sg) (sig := s40600) (p := p40600) (by kernel_rfl) (by kernel_rfl) rfl rfl rfl rfl rfl ((show runC (phi Tb GT sg) Tb GT p40600.code (startAT p40600 (mkST p40600.ins [.sl .share .bx a0] p40600.bins [.ar A])) (finT p40600 s40600) = _ by kernel_rfl).trans h)

theorem spec_BoxPut_le (a0 : Bx) (a1 : Int) : Tv.Le
 (bnd (spec_BoxValid a0) fun r1 =>
(bif (!r1) then
some (⟨0, []⟩, false)
else
bnd (spec_WordValid a1) fun r2 =>
(bif (!r2) then
some (⟨0, []⟩, false)
else
(bif (decide (a0.room ≤ (a0.items.length : Int))) then
some (⟨0, []⟩, false)
else
bnd (appL ([] : List Int) a0.items) fun l3 =>
bnd (appL l3 ([a1] : List Int)) fun l4 =>
some (⟨a0.room, l4⟩, true)))) : Option (Bx × Bool))
 (spec_BoxPut a0 a1) := by
 exact fun r h => fn_le' (F := Tb) (G := GT) (sg := sg) (sig := s18500) (p := p18500) (by kernel_rfl) (by kernel_rfl) rfl rfl rfl rfl rfl ((show runC (phi Tb GT sg) Tb GT p18500.code (startAT p18500 (mkST p18500.ins [.agg (rowT .bx a0), .int .i64 a1] p18500.bins [])) (finT p18500 s18500) = _ by kernel_rfl).trans h)

theorem spec_BoxTake_le (a0 : Bx) : Tv.Le
 (bnd (spec_BoxValid a0) fun r1 =>
(bif (!r1) then
some (⟨0, []⟩, 0, false)
else
(bif (decide ((a0.items.length : Int) = 0)) then
some (⟨0, []⟩, 0, false)
else
bnd (cutL a0.items 1 (a0.items.length : Int)) fun l2 =>
bnd (appL ([] : List Int) l2) fun l3 =>
bnd (geti a0.items 0) fun e4 =>
some (⟨a0.room, l3⟩, e4, true))) : Option (Bx × Int × Bool))
 (spec_BoxTake a0) := by
 exact fun r h => fn_le' (F := Tb) (G := GT) (sg := sg) (sig := s17900) (p := p17900) (by kernel_rfl) (by kernel_rfl) rfl rfl rfl rfl rfl ((show runC (phi Tb GT sg) Tb GT p17900.code (startAT p17900 (mkST p17900.ins [.agg (rowT .bx a0)] p17900.bins [])) (finT p17900 s17900) = _ by kernel_rfl).trans h)

theorem spec_l15Ahead_le (a0 : List Stm) (a1 : List Stm) : Tv.Le
 (bnd (spec_l11Copy a0) fun r1 =>
bnd (spec_l11Copy a1) fun r2 =>
bnd (appL r1 r2) fun l3 =>
some l3 : Option (List Stm))
 (spec_l15Ahead a0 a1) := by
 exact fun r h => fn_le' (F := Tb) (G := GT) (sg := sg) (sig := s26800) (p := p26800) (by kernel_rfl) (by kernel_rfl) rfl rfl rfl rfl rfl ((show runC (phi Tb GT sg) Tb GT p26800.code (startAT p26800 (mkST p26800.ins [.sl .share .stm a0, .sl .share .stm a1] p26800.bins [])) (finT p26800 s26800) = _ by kernel_rfl).trans h)

theorem spec_Apply_le (a0 : Int) (a1 : Int) (a2 : Int) : Tv.Le
 (bnd (spec_OpValid a0) fun r1 =>
(bif (!r1) then
some (0, false)
else
bnd (spec_WordValid a1) fun r2 =>
(bif (!r2) then
some (0, false)
else
bnd (spec_WordValid a2) fun r3 =>
(bif (!r3) then
some (0, false)
else
(bif (decide (a0 = 1)) then
some ((bits .or .i64 a1 a2), true)
else
(bif (decide (a0 = 2)) then
some ((bits .xor .i64 a1 a2), true)
else
(bif (decide (a0 = 3)) then
some ((bits .and .i64 a1 a2), true)
else
(bif (decide (a0 = 4)) then
bnd (spec_l2Flag (decide (a1 = a2))) fun r4 =>
some (r4, true)
else
(bif (decide (a0 = 5)) then
bnd (spec_l2Flag (decide (a1 < a2))) fun r5 =>
some (r5, true)
else
(bif (decide (a0 = 6)) then
bnd (spec_l2Shift a1 a2 false) fun r6 =>
some (r6, true)
else
(bif (decide (a0 = 7)) then
bnd (spec_l2Shift a1 a2 true) fun r7 =>
some (r7, true)
else
(bif (decide (a0 = 8)) then
bnd (spec_Wrap (wrap64 (a1 + a2))) fun r8 =>
some (r8, true)
else
(bif (decide (a0 = 9)) then
bnd (spec_Wrap (wrap64 (a1 - a2))) fun r9 =>
some (r9, true)
else
(bif (decide (a0 = 10)) then
bnd (spec_Wrap (wrap64 (a1 * a2))) fun r10 =>
some (r10, true)
else
(bif (decide (a0 = 11)) then
bnd (spec_l2Divide a1 a2) fun r11 =>
some (r11, true)
else
bnd (spec_l2Remain a1 a2) fun r12 =>
some (r12, true))))))))))))))) : Option (Int × Bool))
 (spec_Apply a0 a1 a2) := by
 rewrite [← wrapC_eq]
 exact fun r h => fn_le' (F := Tb) (G := GT) (sg := sg) (sig := s26300) (p := p26300) (by kernel_rfl) (by kernel_rfl) rfl rfl rfl rfl rfl ((show runC (phi Tb GT sg) Tb GT p26300.code (startAT p26300 (mkST p26300.ins [.int .i64 a0, .int .i64 a1, .int .i64 a2] p26300.bins [])) (finT p26300 s26300) = _ by kernel_rfl).trans h)

theorem impl_stmtValid_1_le (a0 : Int) (a1 : Int) (a2 : Bool) : Tv.Le
 ((bif (decide (a0 = 0)) then
some true
else
(bif a2 then
(bif (decide (0 < a0)) then
some (decide (a0 < a1))
else
some false)
else
some false)) : Option (Bool))
 (impl_stmtValid_1 a0 a1 a2) := by
 exact fun r h => fn_le' (F := Tb) (G := GT) (sg := sg) (sig := s11100) (p := p11100) (by kernel_rfl) (by kernel_rfl) rfl rfl rfl rfl rfl ((show runC (phi Tb GT sg) Tb GT p11100.code (startAT p11100 (mkST p11100.ins [.int .i64 a0, .int .i64 a1, .bool a2] p11100.bins [])) (finT p11100 s11100) = _ by kernel_rfl).trans h)

theorem impl_ExprValid_le (a0 : Exp) : Tv.Le
 (bnd (impl_exprValid (⟨a0.op, a0.n, a0.args⟩ : Exp) 5) fun r1 =>
some r1 : Option (Bool))
 (impl_ExprValid a0) := by
 exact fun r h => fn_le' (F := Tb) (G := GT) (sg := sg) (sig := s1200) (p := p1200) (by kernel_rfl) (by kernel_rfl) rfl rfl rfl rfl rfl ((show runC (phi Tb GT sg) Tb GT p1200.code (startAT p1200 (mkST p1200.ins [.agg (rowT .exp a0)] p1200.bins [])) (finT p1200 s1200) = _ by kernel_rfl).trans h)

theorem spec_l11Simple_le (a0 : Stm) : Tv.Le
 ((bif (decide (0 < (a0.body.length : Int))) then
some false
else
(bif (decide (0 < (a0.els.length : Int))) then
some false
else
(bif (decide (a0.kind = 1)) then
bnd (spec_l11Var (⟨a0.kind, a0.var, a0.box, ⟨a0.e.op, a0.e.n, a0.e.args⟩, a0.body, a0.els⟩ : Stm) true) fun r1 =>
(bif r1 then
bnd (spec_l11Box (⟨a0.kind, a0.var, a0.box, ⟨a0.e.op, a0.e.n, a0.e.args⟩, a0.body, a0.els⟩ : Stm) false) fun r2 =>
(bif r2 then
bnd (spec_ExprValid (⟨a0.e.op, a0.e.n, a0.e.args⟩ : Exp)) fun r3 =>
some r3
else
some false)
else
some false)
else
(bif (decide (a0.kind = 4)) then
bnd (spec_l11Var (⟨a0.kind, a0.var, a0.box, ⟨a0.e.op, a0.e.n, a0.e.args⟩, a0.body, a0.els⟩ : Stm) false) fun r4 =>
(bif r4 then
bnd (spec_l11Box (⟨a0.kind, a0.var, a0.box, ⟨a0.e.op, a0.e.n, a0.e.args⟩, a0.body, a0.els⟩ : Stm) true) fun r5 =>
(bif r5 then
bnd (spec_ExprValid (⟨a0.e.op, a0.e.n, a0.e.args⟩ : Exp)) fun r6 =>
some r6
else
some false)
else
some false)
else
(bif (decide (a0.kind = 5)) then
bnd (spec_l11Var (⟨a0.kind, a0.var, a0.box, ⟨a0.e.op, a0.e.n, a0.e.args⟩, a0.body, a0.els⟩ : Stm) true) fun r7 =>
(bif r7 then
bnd (spec_l11Box (⟨a0.kind, a0.var, a0.box, ⟨a0.e.op, a0.e.n, a0.e.args⟩, a0.body, a0.els⟩ : Stm) true) fun r8 =>
(bif r8 then
bnd (spec_l11Plain (⟨a0.e.op, a0.e.n, a0.e.args⟩ : Exp)) fun r9 =>
some r9
else
some false)
else
some false)
else
(bif (decide (a0.kind = 6)) then
bnd (spec_l11Var (⟨a0.kind, a0.var, a0.box, ⟨a0.e.op, a0.e.n, a0.e.args⟩, a0.body, a0.els⟩ : Stm) false) fun r10 =>
(bif r10 then
bnd (spec_l11Box (⟨a0.kind, a0.var, a0.box, ⟨a0.e.op, a0.e.n, a0.e.args⟩, a0.body, a0.els⟩ : Stm) false) fun r11 =>
(bif r11 then
bnd (spec_l11Plain (⟨a0.e.op, a0.e.n, a0.e.args⟩ : Exp)) fun r12 =>
some r12
else
some false)
else
some false)
else
(bif (decide (a0.kind = 7)) then
bnd (spec_l11Var (⟨a0.kind, a0.var, a0.box, ⟨a0.e.op, a0.e.n, a0.e.args⟩, a0.body, a0.els⟩ : Stm) false) fun r13 =>
(bif r13 then
bnd (spec_l11Box (⟨a0.kind, a0.var, a0.box, ⟨a0.e.op, a0.e.n, a0.e.args⟩, a0.body, a0.els⟩ : Stm) false) fun r14 =>
(bif r14 then
bnd (spec_ExprValid (⟨a0.e.op, a0.e.n, a0.e.args⟩ : Exp)) fun r15 =>
some r15
else
some false)
else
some false)
else
some false))))))) : Option (Bool))
 (spec_l11Simple a0) := by
 exact fun r h => fn_le' (F := Tb) (G := GT) (sg := sg) (sig := s6000) (p := p6000) (by kernel_rfl) (by kernel_rfl) rfl rfl rfl rfl rfl ((show runC (phi Tb GT sg) Tb GT p6000.code (startAT p6000 (mkST p6000.ins [.agg (rowT .stm a0)] p6000.bins [])) (finT p6000 s6000) = _ by kernel_rfl).trans h)

theorem spec_l11Var_le (a0 : Stm) (a1 : Bool) : Tv.Le
 ((bif a1 then
bnd (spec_l6In a0.var 0 3) fun r1 =>
some r1
else
some (decide (a0.var = 0))) : Option (Bool))
 (spec_l11Var a0 a1) := by
 exact fun r h => fn_le' (F := Tb) (G := GT) (sg := sg) (sig := s5700) (p := p5700) (by kernel_rfl) (by kernel_rfl) rfl rfl rfl rfl rfl ((show runC (phi Tb GT sg) Tb GT p5700.code (startAT p5700 (mkST p5700.ins [.agg (rowT .stm a0), .bool a1] p5700.bins [])) (finT p5700 s5700) = _ by kernel_rfl).trans h)

theorem spec_l11Box_le (a0 : Stm) (a1 : Bool) : Tv.Le
 ((bif a1 then
bnd (spec_l6In a0.box 0 2) fun r1 =>
some r1
else
some (decide (a0.box = 0))) : Option (Bool))
 (spec_l11Box a0 a1) := by
 exact fun r h => fn_le' (F := Tb) (G := GT) (sg := sg) (sig := s5800) (p := p5800) (by kernel_rfl) (by kernel_rfl) rfl rfl rfl rfl rfl ((show runC (phi Tb GT sg) Tb GT p5800.code (startAT p5800 (mkST p5800.ins [.agg (rowT .stm a0), .bool a1] p5800.bins [])) (finT p5800 s5800) = _ by kernel_rfl).trans h)

theorem spec_ExprValid_le (a0 : Exp) : Tv.Le
 (bnd (spec_l4Ok (⟨a0.op, a0.n, a0.args⟩ : Exp) 5) fun r1 =>
some r1 : Option (Bool))
 (spec_ExprValid a0) := by
 exact fun r h => fn_le' (F := Tb) (G := GT) (sg := sg) (sig := s1900) (p := p1900) (by kernel_rfl) (by kernel_rfl) rfl rfl rfl rfl rfl ((show runC (phi Tb GT sg) Tb GT p1900.code (startAT p1900 (mkST p1900.ins [.agg (rowT .exp a0)] p1900.bins [])) (finT p1900 s1900) = _ by kernel_rfl).trans h)

theorem spec_l91Leaf_le (a0b : List Int) (a0p : Int) : Tv.Le
 (bnd (spec_l6Rd_pick 4 a0b a0p) fun r1 =>
(bif (decide (r1.1 = 0)) then
bnd (spec_l6Rd_pick 4 r1.2.1 r1.2.2) fun r2 =>
bnd (spec_l4Leaf 0 r2.1) fun r3 =>
some (r3.1, r3.2.1, ((Md.dem (Md.dem (Md.dem r3.2.2.1))), r3.2.2.2), r2.2.1, r2.2.2)
else
(bif (decide (r1.1 = 1)) then
bnd (spec_l6Rd_pick 8 r1.2.1 r1.2.2) fun r4 =>
bnd (geti ([5, 31, 32, 100, 2047, 2048, 65536, 99999] : List Int) r4.1) fun e5 =>
bnd (spec_l4Leaf 0 e5) fun r6 =>
some (r6.1, r6.2.1, ((Md.dem (Md.dem (Md.dem r6.2.2.1))), r6.2.2.2), r4.2.1, r4.2.2)
else
bnd (spec_l6Rd_pick 4 r1.2.1 r1.2.2) fun r7 =>
bnd (spec_l4Leaf 13 r7.1) fun r8 =>
some (r8.1, r8.2.1, ((Md.dem (Md.dem (Md.dem r8.2.2.1))), r8.2.2.2), r7.2.1, r7.2.2))) : Option (Int × Int × (Md × List Exp) × List Int × Int))
 (spec_l91Leaf a0b a0p) := by
 exact fun r h => fn_le' (F := Tb) (G := GT) (sg := sg) (sig := s400) (p := p400) (by kernel_rfl) (by kernel_rfl) rfl rfl rfl rfl rfl ((show runC (phi Tb GT sg) Tb GT p400.code (startAT p400 (mkST p400.ins [.bp 0 0] p400.bins [.var [.sl .share .u8 a0b, .int .i64 a0p]])) (finT p400 s400) = _ by kernel_rfl).trans h)

theorem spec_l91Op_le (a0b : List Int) (a0p : Int) : Tv.Le
 (bnd (spec_l6Rd_pick 12 a0b a0p) fun r1 =>
some ((wrap64 (1 + r1.1)), r1.2.1, r1.2.2) : Option (Int × List Int × Int))
 (spec_l91Op a0b a0p) := by
 rewrite [← wrapC_eq]
 exact fun r h => fn_le' (F := Tb) (G := GT) (sg := sg) (sig := s600) (p := p600) (by kernel_rfl) (by kernel_rfl) rfl rfl rfl rfl rfl ((show runC (phi Tb GT sg) Tb GT p600.code (startAT p600 (mkST p600.ins [.bp 0 0] p600.bins [.var [.sl .share .u8 a0b, .int .i64 a0p]])) (finT p600 s600) = _ by kernel_rfl).trans h)

theorem spec_l15BoxesCopy_p_l1_le (t0 : List Bx) (t3 : Hd) (t4 : Int) (b99 : List Ent) : Tv.Le
 ((bif (decide (t4 < (t0.length : Int))) then
bnd (geti t0 t4) fun e1 =>
bnd (geti t0 t4) fun e2 =>
bnd (appL ([] : List Int) e2.items) fun l3 =>
bnd (arApp b99 .bx t3.id t3.n ([⟨e1.room, l3⟩] : List Bx)) fun B4 =>
spec_l15BoxesCopy_p_l1 t0 (⟨(some (List.length b99)), (t3.n + List.length ([⟨e1.room, l3⟩] : List Bx))⟩ : Hd) (wrap64 (t4 + 1)) B4
else
some (t3, b99)) : Option (Hd × List Ent))
 (spec_l15BoxesCopy_p_l1 t0 t3 t4 b99) := by
 rewrite [← wrapC_eq]
 exact fun r h => loop_le' (F := Tb) (G := GT) (sg := sg) (sig := s40601) (p := p40601) (by kernel_rfl) (by kernel_rfl) rfl rfl rfl ((show runC (phi Tb GT sg) Tb GT p40601.code ((mkST p40601.ins [.sl .share .bx t0, .tr .bx t3.id t3.n, .int .i64 t4] p40601.bins [.ar b99])) (finL Tb GT 40601 p40601 s40601) = _ by kernel_rfl).trans h)

theorem spec_OpValid_le (a0 : Int) : Tv.Le
 (bnd (spec_l6In a0 1 12) fun r1 =>
some r1 : Option (Bool))
 (spec_OpValid a0) := by
 exact fun r h => fn_le' (F := Tb) (G := GT) (sg := sg) (sig := s1700) (p := p1700) (by kernel_rfl) (by kernel_rfl) rfl rfl rfl rfl rfl ((show runC (phi Tb GT sg) Tb GT p1700.code (startAT p1700 (mkST p1700.ins [.int .i64 a0] p1700.bins [])) (finT p1700 s1700) = _ by kernel_rfl).trans h)

theorem spec_l2Flag_le (a0 : Bool) : Tv.Le
 ((bif a0 then
some 1
else
some 0) : Option (Int))
 (spec_l2Flag a0) := by
 exact fun r h => fn_le' (F := Tb) (G := GT) (sg := sg) (sig := s25900) (p := p25900) (by kernel_rfl) (by kernel_rfl) rfl rfl rfl rfl rfl ((show runC (phi Tb GT sg) Tb GT p25900.code (startAT p25900 (mkST p25900.ins [.bool a0] p25900.bins [])) (finT p25900 s25900) = _ by kernel_rfl).trans h)

theorem spec_l2Shift_le (a0 : Int) (a1 : Int) (a2 : Bool) : Tv.Le
 ((bif a2 then
bnd (shrI .i64 a0 (bits .and .i64 a1 31)) fun n1 =>
some n1
else
bnd (shlI .i64 a0 (bits .and .i64 a1 31)) fun n2 =>
bnd (spec_Wrap n2) fun r3 =>
some r3) : Option (Int))
 (spec_l2Shift a0 a1 a2) := by
 exact fun r h => fn_le' (F := Tb) (G := GT) (sg := sg) (sig := s26000) (p := p26000) (by kernel_rfl) (by kernel_rfl) rfl rfl rfl rfl rfl ((show runC (phi Tb GT sg) Tb GT p26000.code (startAT p26000 (mkST p26000.ins [.int .i64 a0, .int .i64 a1, .bool a2] p26000.bins [])) (finT p26000 s26000) = _ by kernel_rfl).trans h)

theorem spec_Wrap_le (a0 : Int) : Tv.Le
 ((bif (decide (2147483647 < (Int.tmod a0 4294967296))) then
some (wrap64 ((Int.tmod a0 4294967296) - 4294967296))
else
(bif (decide ((Int.tmod a0 4294967296) < (-2147483648))) then
some (wrap64 ((Int.tmod a0 4294967296) + 4294967296))
else
some (Int.tmod a0 4294967296))) : Option (Int))
 (spec_Wrap a0) := by
 rewrite [← wrapC_eq]
 exact fun r h => fn_le' (F := Tb) (G := GT) (sg := sg) (sig := s3700) (p := p3700) (by kernel_rfl) (by kernel_rfl) rfl rfl rfl rfl rfl ((show runC (phi Tb GT sg) Tb GT p3700.code (startAT p3700 (mkST p3700.ins [.int .i64 a0] p3700.bins [])) (finT p3700 s3700) = _ by kernel_rfl).trans h)

theorem spec_l2Divide_le (a0 : Int) (a1 : Int) : Tv.Le
 ((bif (decide (a1 = 0)) then
some (-1)
else
bnd (quoI .i64 a0 a1) fun n1 =>
bnd (spec_Wrap n1) fun r2 =>
some r2) : Option (Int))
 (spec_l2Divide a0 a1) := by
 exact fun r h => fn_le' (F := Tb) (G := GT) (sg := sg) (sig := s26100) (p := p26100) (by kernel_rfl) (by kernel_rfl) rfl rfl rfl rfl rfl ((show runC (phi Tb GT sg) Tb GT p26100.code (startAT p26100 (mkST p26100.ins [.int .i64 a0, .int .i64 a1] p26100.bins [])) (finT p26100 s26100) = _ by kernel_rfl).trans h)

theorem spec_l2Remain_le (a0 : Int) (a1 : Int) : Tv.Le
 ((bif (decide (a1 = 0)) then
some a0
else
bnd (remI a0 a1) fun n1 =>
some n1) : Option (Int))
 (spec_l2Remain a0 a1) := by
 exact fun r h => fn_le' (F := Tb) (G := GT) (sg := sg) (sig := s26200) (p := p26200) (by kernel_rfl) (by kernel_rfl) rfl rfl rfl rfl rfl ((show runC (phi Tb GT sg) Tb GT p26200.code (startAT p26200 (mkST p26200.ins [.int .i64 a0, .int .i64 a1] p26200.bins [])) (finT p26200 s26200) = _ by kernel_rfl).trans h)

theorem impl_exprValid_le (a0 : Exp) (a1 : Int) : Tv.Le
 ((bif (decide (a0.op = 0)) then
(bif (decide (0 ≤ a0.n)) then
(bif (decide (a0.n ≤ 99999)) then
(bif (decide ((a0.args.length : Int) = 0)) then
some (decide (0 < a1))
else
some false)
else
some false)
else
some false)
else
(bif (decide (a0.op = 13)) then
(bif (decide (0 ≤ a0.n)) then
(bif (decide (a0.n < 4)) then
(bif (decide ((a0.args.length : Int) = 0)) then
some (decide (0 < a1))
else
some false)
else
some false)
else
some false)
else
bnd (impl_OpValid a0.op) fun r1 =>
(bif r1 then
(bif (decide (a0.n = 0)) then
(bif (decide ((a0.args.length : Int) = 2)) then
(bif (decide (1 < a1)) then
bnd (geti a0.args 0) fun e2 =>
bnd (impl_exprValid (⟨e2.op, e2.n, e2.args⟩ : Exp) (wrap64 (a1 - 1))) fun r3 =>
(bif r3 then
bnd (geti a0.args 1) fun e4 =>
bnd (impl_exprValid (⟨e4.op, e4.n, e4.args⟩ : Exp) (wrap64 (a1 - 1))) fun r5 =>
some r5
else
some false)
else
some false)
else
some false)
else
some false)
else
some false))) : Option (Bool))
 (impl_exprValid a0 a1) := by
 rewrite [← wrapC_eq]
 exact fun r h => fn_le' (F := Tb) (G := GT) (sg := sg) (sig := s1100) (p := p1100) (by kernel_rfl) (by kernel_rfl) rfl rfl rfl rfl rfl ((show runC (phi Tb GT sg) Tb GT p1100.code (startAT p1100 (mkST p1100.ins [.agg (rowT .exp a0), .int .i64 a1] p1100.bins [])) (finT p1100 s1100) = _ by kernel_rfl).trans h)

theorem spec_l11Plain_le (a0 : Exp) : Tv.Le
 ((bif (decide (a0.op = 0)) then
(bif (decide (a0.n = 0)) then
some (decide ((a0.args.length : Int) = 0))
else
some false)
else
some false) : Option (Bool))
 (spec_l11Plain a0) := by
 exact fun r h => fn_le' (F := Tb) (G := GT) (sg := sg) (sig := s5900) (p := p5900) (by kernel_rfl) (by kernel_rfl) rfl rfl rfl rfl rfl ((show runC (phi Tb GT sg) Tb GT p5900.code (startAT p5900 (mkST p5900.ins [.agg (rowT .exp a0)] p5900.bins [])) (finT p5900 s5900) = _ by kernel_rfl).trans h)

theorem spec_l4Ok_le (a0 : Exp) (a1 : Int) : Tv.Le
 ((bif (decide (a1 < 1)) then
some false
else
(bif (decide (a0.op = 0)) then
bnd (spec_l6In a0.n 0 99999) fun r1 =>
(bif r1 then
some (decide ((a0.args.length : Int) = 0))
else
some false)
else
(bif (decide (a0.op = 13)) then
bnd (spec_l6In a0.n 0 3) fun r2 =>
(bif r2 then
some (decide ((a0.args.length : Int) = 0))
else
some false)
else
bnd (spec_OpValid a0.op) fun r3 =>
(bif r3 then
(bif (decide (a0.n = 0)) then
(bif (decide ((a0.args.length : Int) = 2)) then
bnd (geti a0.args 0) fun e4 =>
bnd (spec_l4Ok (⟨e4.op, e4.n, e4.args⟩ : Exp) (wrap64 (a1 - 1))) fun r5 =>
(bif r5 then
bnd (geti a0.args 1) fun e6 =>
bnd (spec_l4Ok (⟨e6.op, e6.n, e6.args⟩ : Exp) (wrap64 (a1 - 1))) fun r7 =>
some r7
else
some false)
else
some false)
else
some false)
else
some false)))) : Option (Bool))
 (spec_l4Ok a0 a1) := by
 rewrite [← wrapC_eq]
 exact fun r h => fn_le' (F := Tb) (G := GT) (sg := sg) (sig := s1800) (p := p1800) (by kernel_rfl) (by kernel_rfl) rfl rfl rfl rfl rfl ((show runC (phi Tb GT sg) Tb GT p1800.code (startAT p1800 (mkST p1800.ins [.agg (rowT .exp a0), .int .i64 a1] p1800.bins [])) (finT p1800 s1800) = _ by kernel_rfl).trans h)

theorem impl_OpValid_le (a0 : Int) : Tv.Le
 ((bif (decide (1 ≤ a0)) then
some (decide (a0 ≤ 12))
else
some false) : Option (Bool))
 (impl_OpValid a0) := by
 exact fun r h => fn_le' (F := Tb) (G := GT) (sg := sg) (sig := s1000) (p := p1000) (by kernel_rfl) (by kernel_rfl) rfl rfl rfl rfl rfl ((show runC (phi Tb GT sg) Tb GT p1000.code (startAT p1000 (mkST p1000.ins [.int .i64 a0] p1000.bins [])) (finT p1000 s1000) = _ by kernel_rfl).trans h)

end Go.TFnOutcome
