import Derived.Test.YtpkgdoapdijmeaaDFnWorldP
import Derived.KernelRfl
set_option linter.unusedVariables false
namespace Go.TFnWorld
open Go Go.RowKit Go.Vs Go.Tv
theorem laws_FnWorld_le (a0 : List Int) : Tv.Le
  ((bif (decide (1048576 < (a0.length : Int))) then
  some true
  else
  bnd (spec_DrawWorldValid a0) fun r1 =>
  bnd (impl_WorldValid r1) fun r2 =>
  bnd (spec_WorldValid r1) fun r3 =>
  (bif (!(r2 == r3)) then
  some (r2 == r3)
  else
  (bif (!r2) then
  some (r2 == r3)
  else
  bnd (impl_WorldValid (⟨r1.tasks, r1.boxes, r1.turn, r1.idle, ([] : List Int)⟩ : Wld)) fun r4 =>
  (bif r4 then
  bnd (impl_WorldValid (⟨r1.tasks, r1.boxes, (-1), r1.idle, r1.out⟩ : Wld)) fun r5 =>
  (bif (!r5) then
  bnd (impl_WorldValid (⟨r1.tasks, r1.boxes, r1.turn, (wrap64 ((r1.tasks.length : Int) + 1)), r1.out⟩ : Wld)) fun r6 =>
  some (!r6)
  else
  some false)
  else
  some false)))) : Option (Bool))
  (laws_FnWorld a0) := by
  rewrite [← wrapC_eq]
  exact fun r h => by
    have e : runC (phi Tb GT sg) Tb GT p28300.code (startAT p28300 (mkST p28300.ins [.sl .share .u8 a0] p28300.bins [])) (finT p28300 s28300) = (
      (bif (decide (1048576 < (a0.length : Int))) then
      some true
      else
      bnd (spec_DrawWorldValid a0) fun r1 =>
      bnd (impl_WorldValid r1) fun r2 =>
      bnd (spec_WorldValid r1) fun r3 =>
      (bif (!(r2 == r3)) then
      some (r2 == r3)
      else
      (bif (!r2) then
      some (r2 == r3)
      else
      bnd (impl_WorldValid (⟨r1.tasks, r1.boxes, r1.turn, r1.idle, ([] : List Int)⟩ : Wld)) fun r4 =>
      (bif r4 then
      bnd (impl_WorldValid (⟨r1.tasks, r1.boxes, (-1), r1.idle, r1.out⟩ : Wld)) fun r5 =>
      (bif (!r5) then
      bnd (impl_WorldValid (⟨r1.tasks, r1.boxes, r1.turn, (wrapC ((r1.tasks.length : Int) + 1)), r1.out⟩ : Wld)) fun r6 =>
      some (!r6)
      else
      some false)
      else
      some false)))) : Option (Bool)) := by kernel_rfl
    exact fn_le' (sig := s28300) (p := p28300) (by kernel_rfl) (by kernel_rfl) rfl rfl rfl rfl rfl (e.trans h)

theorem spec_DrawWorldValid_le (a0 : List Int) : Tv.Le
  (bnd (spec_l6Open a0) fun r1 =>
  bnd (spec_l92World r1.1 r1.2) fun r2 =>
  some r2.1 : Option (Wld))
  (spec_DrawWorldValid a0) := by
  exact fun r h => by
    have e : runC (phi Tb GT sg) Tb GT p28200.code (startAT p28200 (mkST p28200.ins [.sl .share .u8 a0] p28200.bins [])) (finT p28200 s28200) = (
      bnd (spec_l6Open a0) fun r1 =>
      bnd (spec_l92World r1.1 r1.2) fun r2 =>
      some r2.1 : Option (Wld)) := by kernel_rfl
    exact fn_le' (sig := s28200) (p := p28200) (by kernel_rfl) (by kernel_rfl) rfl rfl rfl rfl rfl (e.trans h)

theorem impl_WorldValid_le (a0 : Wld) : Tv.Le
  (bnd (impl_turnsValid (a0.tasks.length : Int) a0.turn a0.idle a0.out) fun r1 =>
  (bif (!r1) then
  some false
  else
  bnd (impl_boxesValid a0.boxes) fun r2 =>
  (bif (!r2) then
  some false
  else
  bnd (impl_WorldValid_l1 a0.tasks (a0.tasks.length : Int) 0 a0.tasks a0.boxes a0.turn a0.idle a0.out) fun r3 =>
  selm r3 (fun y4 =>
  some true) (fun z5 =>
  some z5))) : Option (Bool))
  (impl_WorldValid a0) := by
  exact fun r h => by
    have e : runC (phi Tb GT sg) Tb GT p24000.code (startAT p24000 (mkST p24000.ins [.agg (rowT .wld a0)] p24000.bins [])) (finT p24000 s24000) = (
      bnd (impl_turnsValid (a0.tasks.length : Int) a0.turn a0.idle a0.out) fun r1 =>
      (bif (!r1) then
      some false
      else
      bnd (impl_boxesValid a0.boxes) fun r2 =>
      (bif (!r2) then
      some false
      else
      bnd (impl_WorldValid_l1 a0.tasks (a0.tasks.length : Int) 0 a0.tasks a0.boxes a0.turn a0.idle a0.out) fun r3 =>
      selm r3 (fun y4 =>
      some true) (fun z5 =>
      some z5))) : Option (Bool)) := by kernel_rfl
    exact fn_le' (sig := s24000) (p := p24000) (by kernel_rfl) (by kernel_rfl) rfl rfl rfl rfl rfl (e.trans h)

theorem spec_WorldValid_le (a0 : Wld) : Tv.Le
  (bnd (spec_l6In (a0.tasks.length : Int) 1 3) fun r1 =>
  (bif (!r1) then
  some false
  else
  bnd (spec_l15Boxes a0.boxes) fun r2 =>
  (bif (!r2) then
  some false
  else
  bnd (spec_l6In a0.turn 0 (wrap64 ((a0.tasks.length : Int) - 1))) fun r3 =>
  (bif (!r3) then
  some false
  else
  bnd (spec_l6In a0.idle 0 (a0.tasks.length : Int)) fun r4 =>
  (bif (!r4) then
  some false
  else
  bnd (spec_WorldValid_l1 (a0.tasks.length : Int) 0 a0.tasks a0.boxes a0.turn a0.idle a0.out) fun r5 =>
  selm r5 (fun y6 =>
  bnd (spec_l4Words y6.2.2.2.2 (y6.2.2.2.2.length : Int)) fun r8 =>
  some r8) (fun z7 =>
  some z7.1))))) : Option (Bool))
  (spec_WorldValid a0) := by
  rewrite [← wrapC_eq]
  exact fun r h => by
    have e : runC (phi Tb GT sg) Tb GT p24700.code (startAT p24700 (mkST p24700.ins [.agg (rowT .wld a0)] p24700.bins [])) (finT p24700 s24700) = (
      bnd (spec_l6In (a0.tasks.length : Int) 1 3) fun r1 =>
      (bif (!r1) then
      some false
      else
      bnd (spec_l15Boxes a0.boxes) fun r2 =>
      (bif (!r2) then
      some false
      else
      bnd (spec_l6In a0.turn 0 (wrapC ((a0.tasks.length : Int) - 1))) fun r3 =>
      (bif (!r3) then
      some false
      else
      bnd (spec_l6In a0.idle 0 (a0.tasks.length : Int)) fun r4 =>
      (bif (!r4) then
      some false
      else
      bnd (spec_WorldValid_l1 (a0.tasks.length : Int) 0 a0.tasks a0.boxes a0.turn a0.idle a0.out) fun r5 =>
      selm r5 (fun y6 =>
      bnd (spec_l4Words y6.2.2.2.2 (y6.2.2.2.2.length : Int)) fun r8 =>
      some r8) (fun z7 =>
      some z7.1))))) : Option (Bool)) := by kernel_rfl
    exact fn_le' (sig := s24700) (p := p24700) (by kernel_rfl) (by kernel_rfl) rfl rfl rfl rfl rfl (e.trans h)

theorem spec_l6Open_le (a0 : List Int) : Tv.Le
  ((bif (decide (2000 < (a0.length : Int))) then
  bnd (cutL a0 0 2000) fun l1 =>
  some (l1, 0)
  else
  some (a0, 0)) : Option (List Int × Int))
  (spec_l6Open a0) := by
  exact fun r h => by
    have e : runC (phi Tb GT sg) Tb GT p100.code (startAT p100 (mkST p100.ins [.sl .share .u8 a0] p100.bins [])) (finT p100 s100) = (
      (bif (decide (2000 < (a0.length : Int))) then
      bnd (cutL a0 0 2000) fun l1 =>
      some (l1, 0)
      else
      some (a0, 0)) : Option (List Int × Int)) := by kernel_rfl
    exact fn_le' (sig := s100) (p := p100) (by kernel_rfl) (by kernel_rfl) rfl rfl rfl rfl rfl (e.trans h)

theorem spec_l92World_le (a0b : List Int) (a0p : Int) : Tv.Le
  (bnd (spec_l92Program a0b a0p) fun r1 =>
  bnd (spec_WorldNew r1.1) fun r2 =>
  bnd (spec_l6Rd_pick 30 r1.2.1 r1.2.2) fun r3 =>
  bnd (spec_WorldRun_o r2.1 r3.1 ([] : List Ent)) fun r4 =>
  bnd (spec_l6Rd_pick 40 r3.2.1 r3.2.2) fun r5 =>
  (bif (decide (r5.1 = 0)) then
  bnd (arView r4.2.2 .int r4.1.out.id) fun l6 =>
  some (⟨r4.1.tasks, r4.1.boxes, (r4.1.tasks.length : Int), r4.1.idle, l6⟩, r5.2.1, r5.2.2)
  else
  (bif (decide (r5.1 = 1)) then
  bnd (spec_l6Rd_pick 2 r5.2.1 r5.2.2) fun r7 =>
  bnd (geti ([(-1), (wrap64 ((r4.1.tasks.length : Int) + 1))] : List Int) r7.1) fun e8 =>
  bnd (arView r4.2.2 .int r4.1.out.id) fun l9 =>
  some (⟨r4.1.tasks, r4.1.boxes, r4.1.turn, e8, l9⟩, r7.2.1, r7.2.2)
  else
  (bif (decide (r5.1 = 2)) then
  bnd (arView r4.2.2 .int r4.1.out.id) fun l10 =>
  some (⟨r4.1.tasks, ([] : List Bx), r4.1.turn, r4.1.idle, l10⟩, r5.2.1, r5.2.2)
  else
  (bif (decide (r5.1 = 3)) then
  bnd (arApp r4.2.2 .int r4.1.out.id r4.1.out.n ([(-2147483649)] : List Int)) fun B11 =>
  bnd (arView B11 .int (some (List.length r4.2.2))) fun l12 =>
  some (⟨r4.1.tasks, r4.1.boxes, r4.1.turn, r4.1.idle, l12⟩, r5.2.1, r5.2.2)
  else
  bnd (arView r4.2.2 .int r4.1.out.id) fun l13 =>
  some (⟨r4.1.tasks, r4.1.boxes, r4.1.turn, r4.1.idle, l13⟩, r5.2.1, r5.2.2))))) : Option (Wld × List Int × Int))
  (spec_l92World a0b a0p) := by
  rewrite [← wrapC_eq]
  exact fun r h => by
    have e : runC (phi Tb GT sg) Tb GT p28100.code (startAT p28100 (mkST p28100.ins [.bp 0 0] p28100.bins [.var [.sl .share .u8 a0b, .int .i64 a0p]])) (finT p28100 s28100) = (
      bnd (spec_l92Program a0b a0p) fun r1 =>
      bnd (spec_WorldNew r1.1) fun r2 =>
      bnd (spec_l6Rd_pick 30 r1.2.1 r1.2.2) fun r3 =>
      bnd (spec_WorldRun_o r2.1 r3.1 ([] : List Ent)) fun r4 =>
      bnd (spec_l6Rd_pick 40 r3.2.1 r3.2.2) fun r5 =>
      (bif (decide (r5.1 = 0)) then
      bnd (arView r4.2.2 .int r4.1.out.id) fun l6 =>
      some (⟨r4.1.tasks, r4.1.boxes, (r4.1.tasks.length : Int), r4.1.idle, l6⟩, r5.2.1, r5.2.2)
      else
      (bif (decide (r5.1 = 1)) then
      bnd (spec_l6Rd_pick 2 r5.2.1 r5.2.2) fun r7 =>
      bnd (geti ([(-1), (wrapC ((r4.1.tasks.length : Int) + 1))] : List Int) r7.1) fun e8 =>
      bnd (arView r4.2.2 .int r4.1.out.id) fun l9 =>
      some (⟨r4.1.tasks, r4.1.boxes, r4.1.turn, e8, l9⟩, r7.2.1, r7.2.2)
      else
      (bif (decide (r5.1 = 2)) then
      bnd (arView r4.2.2 .int r4.1.out.id) fun l10 =>
      some (⟨r4.1.tasks, ([] : List Bx), r4.1.turn, r4.1.idle, l10⟩, r5.2.1, r5.2.2)
      else
      (bif (decide (r5.1 = 3)) then
      bnd (arApp r4.2.2 .int r4.1.out.id r4.1.out.n ([(-2147483649)] : List Int)) fun B11 =>
      bnd (arView B11 .int (some (List.length r4.2.2))) fun l12 =>
      some (⟨r4.1.tasks, r4.1.boxes, r4.1.turn, r4.1.idle, l12⟩, r5.2.1, r5.2.2)
      else
      bnd (arView r4.2.2 .int r4.1.out.id) fun l13 =>
      some (⟨r4.1.tasks, r4.1.boxes, r4.1.turn, r4.1.idle, l13⟩, r5.2.1, r5.2.2))))) : Option (Wld × List Int × Int)) := by kernel_rfl
    exact fn_le' (sig := s28100) (p := p28100) (by kernel_rfl) (by kernel_rfl) rfl rfl rfl rfl rfl (e.trans h)

theorem impl_turnsValid_le (a0 : Int) (a1 : Int) (a2 : Int) (a3 : List Int) : Tv.Le
  ((bif (decide (1 ≤ a0)) then
  (bif (decide (a0 ≤ 3)) then
  (bif (decide (0 ≤ a1)) then
  (bif (decide (a1 < a0)) then
  (bif (decide (0 ≤ a2)) then
  (bif (decide (a2 ≤ a0)) then
  bnd (impl_areWords a3) fun r1 =>
  some r1
  else
  some false)
  else
  some false)
  else
  some false)
  else
  some false)
  else
  some false)
  else
  some false) : Option (Bool))
  (impl_turnsValid a0 a1 a2 a3) := by
  exact fun r h => by
    have e : runC (phi Tb GT sg) Tb GT p23800.code (startAT p23800 (mkST p23800.ins [.int .i64 a0, .int .i64 a1, .int .i64 a2, .sl .share .int a3] p23800.bins [])) (finT p23800 s23800) = (
      (bif (decide (1 ≤ a0)) then
      (bif (decide (a0 ≤ 3)) then
      (bif (decide (0 ≤ a1)) then
      (bif (decide (a1 < a0)) then
      (bif (decide (0 ≤ a2)) then
      (bif (decide (a2 ≤ a0)) then
      bnd (impl_areWords a3) fun r1 =>
      some r1
      else
      some false)
      else
      some false)
      else
      some false)
      else
      some false)
      else
      some false)
      else
      some false) : Option (Bool)) := by kernel_rfl
    exact fn_le' (sig := s23800) (p := p23800) (by kernel_rfl) (by kernel_rfl) rfl rfl rfl rfl rfl (e.trans h)

theorem impl_boxesValid_le (a0 : List Bx) : Tv.Le
  (bnd (impl_boxesValid_l1 a0 a0 (a0.length : Int) 0) fun r1 =>
  selm r1 (fun y2 =>
  some (decide ((y2.length : Int) ≤ 3))) (fun z3 =>
  some z3.2) : Option (Bool))
  (impl_boxesValid a0) := by
  exact fun r h => by
    have e : runC (phi Tb GT sg) Tb GT p23900.code (startAT p23900 (mkST p23900.ins [.sl .share .bx a0] p23900.bins [])) (finT p23900 s23900) = (
      bnd (impl_boxesValid_l1 a0 a0 (a0.length : Int) 0) fun r1 =>
      selm r1 (fun y2 =>
      some (decide ((y2.length : Int) ≤ 3))) (fun z3 =>
      some z3.2) : Option (Bool)) := by kernel_rfl
    exact fn_le' (sig := s23900) (p := p23900) (by kernel_rfl) (by kernel_rfl) rfl rfl rfl rfl rfl (e.trans h)

theorem impl_taskValid_le (a0 : Tk) (a1 : Int) : Tv.Le
  ((bif (!decide ((a0.vars.length : Int) = 4)) then
  some false
  else
  bnd (impl_areWords a0.vars) fun r1 =>
  (bif (!r1) then
  some false
  else
  bnd (impl_taskValid_l1 a1 (a0.rest.length : Int) 0 a0.vars a0.rest) fun r2 =>
  selm r2 (fun y3 =>
  some true) (fun z4 =>
  some z4))) : Option (Bool))
  (impl_taskValid a0 a1) := by
  exact fun r h => by
    have e : runC (phi Tb GT sg) Tb GT p5500.code (startAT p5500 (mkST p5500.ins [.agg (rowT .tk a0), .int .i64 a1] p5500.bins [])) (finT p5500 s5500) = (
      (bif (!decide ((a0.vars.length : Int) = 4)) then
      some false
      else
      bnd (impl_areWords a0.vars) fun r1 =>
      (bif (!r1) then
      some false
      else
      bnd (impl_taskValid_l1 a1 (a0.rest.length : Int) 0 a0.vars a0.rest) fun r2 =>
      selm r2 (fun y3 =>
      some true) (fun z4 =>
      some z4))) : Option (Bool)) := by kernel_rfl
    exact fn_le' (sig := s5500) (p := p5500) (by kernel_rfl) (by kernel_rfl) rfl rfl rfl rfl rfl (e.trans h)

theorem impl_WorldValid_l1_le (t23 : List Tk) (t24 : Int) (t25 : Int) (b100_0 : List Tk) (b100_1 : List Bx) (b100_2 : Int) (b100_3 : Int) (b100_4 : List Int) : Tv.Le
  ((bif (decide (t25 < t24)) then
  bnd (geti t23 t25) fun e1 =>
  bnd (impl_taskValid e1 (b100_1.length : Int)) fun r2 =>
  (bif (!r2) then
  some (.inr false)
  else
  impl_WorldValid_l1 t23 t24 (wrap64 (t25 + 1)) b100_0 b100_1 b100_2 b100_3 b100_4)
  else
  some (.inl ())) : Option (Unit ⊕ Bool))
  (impl_WorldValid_l1 t23 t24 t25 b100_0 b100_1 b100_2 b100_3 b100_4) := by
  rewrite [← wrapC_eq]
  exact fun r h => by
    have e : runC (phi Tb GT sg) Tb GT p24001.code ((mkST p24001.ins [.bp 100 0, .sl .share .tk t23, .int .i64 t24, .int .i64 t25] p24001.bins [.var [.sl .share .tk b100_0, .sl .share .bx b100_1, .int .i64 b100_2, .int .i64 b100_3, .sl .share .int b100_4]])) (finL Tb GT 24001 p24001 s24001) = (
      (bif (decide (t25 < t24)) then
      bnd (geti t23 t25) fun e1 =>
      bnd (impl_taskValid e1 (b100_1.length : Int)) fun r2 =>
      (bif (!r2) then
      some (.inr false)
      else
      impl_WorldValid_l1 t23 t24 (wrapC (t25 + 1)) b100_0 b100_1 b100_2 b100_3 b100_4)
      else
      some (.inl ())) : Option (Unit ⊕ Bool)) := by kernel_rfl
    exact loop_le' (sig := s24001) (p := p24001) (by kernel_rfl) (by kernel_rfl) rfl rfl rfl (e.trans h)

theorem spec_l6In_le (a0 : Int) (a1 : Int) (a2 : Int) : Tv.Le
  ((bif (decide (a1 ≤ a0)) then
  some (decide (a0 ≤ a2))
  else
  some false) : Option (Bool))
  (spec_l6In a0 a1 a2) := by
  exact fun r h => by
    have e : runC (phi Tb GT sg) Tb GT p1600.code (startAT p1600 (mkST p1600.ins [.int .i64 a0, .int .i64 a1, .int .i64 a2] p1600.bins [])) (finT p1600 s1600) = (
      (bif (decide (a1 ≤ a0)) then
      some (decide (a0 ≤ a2))
      else
      some false) : Option (Bool)) := by kernel_rfl
    exact fn_le' (sig := s1600) (p := p1600) (by kernel_rfl) (by kernel_rfl) rfl rfl rfl rfl rfl (e.trans h)

theorem spec_l15Boxes_le (a0 : List Bx) : Tv.Le
  (bnd (spec_l15Boxes_l1 a0 0) fun r1 =>
  selm r1 (fun y2 =>
  some (decide ((y2.length : Int) ≤ 3))) (fun z3 =>
  some z3.2) : Option (Bool))
  (spec_l15Boxes a0) := by
  exact fun r h => by
    have e : runC (phi Tb GT sg) Tb GT p24600.code (startAT p24600 (mkST p24600.ins [.sl .share .bx a0] p24600.bins [])) (finT p24600 s24600) = (
      bnd (spec_l15Boxes_l1 a0 0) fun r1 =>
      selm r1 (fun y2 =>
      some (decide ((y2.length : Int) ≤ 3))) (fun z3 =>
      some z3.2) : Option (Bool)) := by kernel_rfl
    exact fn_le' (sig := s24600) (p := p24600) (by kernel_rfl) (by kernel_rfl) rfl rfl rfl rfl rfl (e.trans h)

theorem spec_TaskValid_le (a0 : Tk) : Tv.Le
  (bnd (spec_TaskValid_l1 0 a0.vars a0.rest) fun r1 =>
  selm r1 (fun y2 =>
  bnd (spec_l4Words y2.1 4) fun r4 =>
  some r4) (fun z3 =>
  some z3.1) : Option (Bool))
  (spec_TaskValid a0) := by
  exact fun r h => by
    have e : runC (phi Tb GT sg) Tb GT p6600.code (startAT p6600 (mkST p6600.ins [.agg (rowT .tk a0)] p6600.bins [])) (finT p6600 s6600) = (
      bnd (spec_TaskValid_l1 0 a0.vars a0.rest) fun r1 =>
      selm r1 (fun y2 =>
      bnd (spec_l4Words y2.1 4) fun r4 =>
      some r4) (fun z3 =>
      some z3.1) : Option (Bool)) := by kernel_rfl
    exact fn_le' (sig := s6600) (p := p6600) (by kernel_rfl) (by kernel_rfl) rfl rfl rfl rfl rfl (e.trans h)

theorem spec_l12Boxes_le (a0 : List Stm) (a1 : Int) : Tv.Le
  (bnd (spec_l12Boxes_l1 a0 a1 0) fun r1 =>
  selm r1 (fun y2 =>
  some true) (fun z3 =>
  some z3) : Option (Bool))
  (spec_l12Boxes a0 a1) := by
  exact fun r h => by
    have e : runC (phi Tb GT sg) Tb GT p23100.code (startAT p23100 (mkST p23100.ins [.sl .share .stm a0, .int .i64 a1] p23100.bins [])) (finT p23100 s23100) = (
      bnd (spec_l12Boxes_l1 a0 a1 0) fun r1 =>
      selm r1 (fun y2 =>
      some true) (fun z3 =>
      some z3) : Option (Bool)) := by kernel_rfl
    exact fn_le' (sig := s23100) (p := p23100) (by kernel_rfl) (by kernel_rfl) rfl rfl rfl rfl rfl (e.trans h)

theorem spec_WorldValid_l1_le (t3 : Int) (t4 : Int) (b100_0 : List Tk) (b100_1 : List Bx) (b100_2 : Int) (b100_3 : Int) (b100_4 : List Int) : Tv.Le
  ((bif (decide (t4 < t3)) then
  bnd (geti b100_0 t4) fun e1 =>
  bnd (spec_TaskValid e1) fun r2 =>
  (bif (!r2) then
  some (.inr (false, b100_0, b100_1, b100_2, b100_3, b100_4))
  else
  bnd (geti b100_0 t4) fun e3 =>
  bnd (spec_l12Boxes e3.rest (b100_1.length : Int)) fun r4 =>
  (bif (!r4) then
  some (.inr (false, b100_0, b100_1, b100_2, b100_3, b100_4))
  else
  spec_WorldValid_l1 t3 (wrap64 (t4 + 1)) b100_0 b100_1 b100_2 b100_3 b100_4))
  else
  some (.inl (b100_0, b100_1, b100_2, b100_3, b100_4))) : Option ((List Tk × List Bx × Int × Int × List Int) ⊕ (Bool × List Tk × List Bx × Int × Int × List Int)))
  (spec_WorldValid_l1 t3 t4 b100_0 b100_1 b100_2 b100_3 b100_4) := by
  rewrite [← wrapC_eq]
  exact fun r h => by
    have e : runC (phi Tb GT sg) Tb GT p24701.code ((mkST p24701.ins [.bp 100 0, .int .i64 t3, .int .i64 t4] p24701.bins [.var [.sl .share .tk b100_0, .sl .share .bx b100_1, .int .i64 b100_2, .int .i64 b100_3, .sl .share .int b100_4]])) (finL Tb GT 24701 p24701 s24701) = (
      (bif (decide (t4 < t3)) then
      bnd (geti b100_0 t4) fun e1 =>
      bnd (spec_TaskValid e1) fun r2 =>
      (bif (!r2) then
      some (.inr (false, b100_0, b100_1, b100_2, b100_3, b100_4))
      else
      bnd (geti b100_0 t4) fun e3 =>
      bnd (spec_l12Boxes e3.rest (b100_1.length : Int)) fun r4 =>
      (bif (!r4) then
      some (.inr (false, b100_0, b100_1, b100_2, b100_3, b100_4))
      else
      spec_WorldValid_l1 t3 (wrapC (t4 + 1)) b100_0 b100_1 b100_2 b100_3 b100_4))
      else
      some (.inl (b100_0, b100_1, b100_2, b100_3, b100_4))) : Option ((List Tk × List Bx × Int × Int × List Int) ⊕ (Bool × List Tk × List Bx × Int × Int × List Int))) := by kernel_rfl
    exact loop_le' (sig := s24701) (p := p24701) (by kernel_rfl) (by kernel_rfl) rfl rfl rfl (e.trans h)

theorem spec_l4Words_le (a0 : List Int) (a1 : Int) : Tv.Le
  ((bif (!decide ((a0.length : Int) = a1)) then
  some false
  else
  bnd (spec_l4Words_l1 a0 0) fun r1 =>
  selm r1 (fun y2 =>
  some true) (fun z3 =>
  some z3)) : Option (Bool))
  (spec_l4Words a0 a1) := by
  exact fun r h => by
    have e : runC (phi Tb GT sg) Tb GT p6500.code (startAT p6500 (mkST p6500.ins [.sl .share .int a0, .int .i64 a1] p6500.bins [])) (finT p6500 s6500) = (
      (bif (!decide ((a0.length : Int) = a1)) then
      some false
      else
      bnd (spec_l4Words_l1 a0 0) fun r1 =>
      selm r1 (fun y2 =>
      some true) (fun z3 =>
      some z3)) : Option (Bool)) := by kernel_rfl
    exact fn_le' (sig := s6500) (p := p6500) (by kernel_rfl) (by kernel_rfl) rfl rfl rfl rfl rfl (e.trans h)

theorem spec_l92Program_le (a0b : List Int) (a0p : Int) : Tv.Le
  (bnd (spec_l92Rooms a0b a0p) fun r1 =>
  bnd (spec_l6Rd_pick 3 r1.2.1 r1.2.2) fun r2 =>
  bnd (spec_l92Program_l1 (wrap64 (1 + r2.1)) 0 r2.2.1 r2.2.2 false [] (⟨none, 0⟩ : Hd) r1.1 (⟨(some (List.length ([] : List Ent))), 0⟩ : Hd) (arPush ([] : List Ent) .stms ([] : List (List Stm)))) fun r3 =>
  bnd (spec_l6Rd_pick 16 r3.1 r3.2.1) fun r4 =>
  (bif (decide (r4.1 = 0)) then
  bnd (spec_l92Endless r4.2.1 r4.2.2) fun r5 =>
  bnd (idxN r3.2.2.2.2.2.1.n 0) fun i6 =>
  bnd (arRow r3.2.2.2.2.2.2 .stms r3.2.2.2.2.2.1.id i6) fun e7 =>
  bnd (arView (arSet r3.2.2.2.2.2.2 .stms r3.2.2.2.2.2.1.id i6 ([⟨r5.1.kind, r5.1.var, r5.1.box, ⟨r5.1.e.op, r5.1.e.n, r5.1.e.args⟩, r5.1.body, r5.1.els⟩] : List Stm)) .stms r3.2.2.2.2.2.1.id) fun l8 =>
  some (⟨r3.2.2.2.2.1, l8⟩, r5.2.1, r5.2.2)
  else
  bnd (arView r3.2.2.2.2.2.2 .stms r3.2.2.2.2.2.1.id) fun l9 =>
  some (⟨r3.2.2.2.2.1, l9⟩, r4.2.1, r4.2.2)) : Option (Prg × List Int × Int))
  (spec_l92Program a0b a0p) := by
  rewrite [← wrapC_eq]
  exact fun r h => by
    have e : runC (phi Tb GT sg) Tb GT p22400.code (startAT p22400 (mkST p22400.ins [.bp 0 0] p22400.bins [.var [.sl .share .u8 a0b, .int .i64 a0p]])) (finT p22400 s22400) = (
      bnd (spec_l92Rooms a0b a0p) fun r1 =>
      bnd (spec_l6Rd_pick 3 r1.2.1 r1.2.2) fun r2 =>
      bnd (spec_l92Program_l1 (wrapC (1 + r2.1)) 0 r2.2.1 r2.2.2 false [] (⟨none, 0⟩ : Hd) r1.1 (⟨(some (List.length ([] : List Ent))), 0⟩ : Hd) (arPush ([] : List Ent) .stms ([] : List (List Stm)))) fun r3 =>
      bnd (spec_l6Rd_pick 16 r3.1 r3.2.1) fun r4 =>
      (bif (decide (r4.1 = 0)) then
      bnd (spec_l92Endless r4.2.1 r4.2.2) fun r5 =>
      bnd (idxN r3.2.2.2.2.2.1.n 0) fun i6 =>
      bnd (arRow r3.2.2.2.2.2.2 .stms r3.2.2.2.2.2.1.id i6) fun e7 =>
      bnd (arView (arSet r3.2.2.2.2.2.2 .stms r3.2.2.2.2.2.1.id i6 ([⟨r5.1.kind, r5.1.var, r5.1.box, ⟨r5.1.e.op, r5.1.e.n, r5.1.e.args⟩, r5.1.body, r5.1.els⟩] : List Stm)) .stms r3.2.2.2.2.2.1.id) fun l8 =>
      some (⟨r3.2.2.2.2.1, l8⟩, r5.2.1, r5.2.2)
      else
      bnd (arView r3.2.2.2.2.2.2 .stms r3.2.2.2.2.2.1.id) fun l9 =>
      some (⟨r3.2.2.2.2.1, l9⟩, r4.2.1, r4.2.2)) : Option (Prg × List Int × Int)) := by kernel_rfl
    exact fn_le' (sig := s22400) (p := p22400) (by kernel_rfl) (by kernel_rfl) rfl rfl rfl rfl rfl (e.trans h)

theorem spec_WorldNew_le (a0 : Prg) : Tv.Le
  (bnd (spec_ProgramValid a0) fun r1 =>
  (bif (!r1) then
  some (⟨[], [], 0, 0, []⟩, false)
  else
  bnd (spec_l16Empty a0.rooms) fun r2 =>
  bnd (spec_WorldNew_l1 0 a0.rooms a0.tasks false [] false [] 0 0 false [] false ([] : List Tk) r2 0 0 false ([] : List Int)) fun r3 =>
  some (⟨r3.2.2.2.2.2.1.2, r3.2.2.2.2.2.2.1, r3.2.2.2.2.2.2.2.1, r3.2.2.2.2.2.2.2.2.1, r3.2.2.2.2.2.2.2.2.2.2⟩, true)) : Option (Wld × Bool))
  (spec_WorldNew a0) := by
  exact fun r h => by
    have e : runC (phi Tb GT sg) Tb GT p23500.code (startAT p23500 (mkST p23500.ins [.agg (rowT .prg a0)] p23500.bins [])) (finT p23500 s23500) = (
      bnd (spec_ProgramValid a0) fun r1 =>
      (bif (!r1) then
      some (⟨[], [], 0, 0, []⟩, false)
      else
      bnd (spec_l16Empty a0.rooms) fun r2 =>
      bnd (spec_WorldNew_l1 0 a0.rooms a0.tasks false [] false [] 0 0 false [] false ([] : List Tk) r2 0 0 false ([] : List Int)) fun r3 =>
      some (⟨r3.2.2.2.2.2.1.2, r3.2.2.2.2.2.2.1, r3.2.2.2.2.2.2.2.1, r3.2.2.2.2.2.2.2.2.1, r3.2.2.2.2.2.2.2.2.2.2⟩, true)) : Option (Wld × Bool)) := by kernel_rfl
    exact fn_le' (sig := s23500) (p := p23500) (by kernel_rfl) (by kernel_rfl) rfl rfl rfl rfl rfl (e.trans h)

theorem spec_l6Rd_pick_le (a1 : Int) (a0b : List Int) (a0p : Int) : Tv.Le
  ((bif (decide (a1 < 1)) then
  some (0, a0b, (wrap64 (a0p + 1)))
  else
  (bif (decide ((a0b.length : Int) = 0)) then
  some (0, a0b, (wrap64 (a0p + 1)))
  else
  (bif (decide ((wrap64 ((wrap64 (a0p + 1)) - 1)) < (a0b.length : Int))) then
  bnd (geti a0b (wrap64 ((wrap64 (a0p + 1)) - 1))) fun e1 =>
  bnd (remI (wrap64 (e1)) a1) fun n2 =>
  some (n2, a0b, (wrap64 (a0p + 1)))
  else
  bnd (remI (wrap64 ((wrap64 (a0p + 1)) - 1)) (a0b.length : Int)) fun n3 =>
  bnd (geti a0b n3) fun e4 =>
  bnd (remI (wrap64 ((wrap64 ((wrap64 ((wrap64 (a0p + 1)) - 1)) * 7)) + 3)) (a0b.length : Int)) fun n5 =>
  bnd (geti a0b n5) fun e6 =>
  bnd (quoI .i64 (wrap64 ((wrap64 (a0p + 1)) - 1)) (a0b.length : Int)) fun n7 =>
  bnd (remI (bits .xor .i64 (wrap64 ((wrap64 ((wrap64 ((wrap64 ((wrap64 (e4)) * 131)) + (wrap64 ((wrap64 (e6)) * 1117)))) + (wrap64 ((wrap64 ((wrap64 (a0p + 1)) - 1)) * 29)))) + (wrap64 (n7 * 53)))) (wrap64 (Int.tdiv (wrap64 ((wrap64 ((wrap64 ((wrap64 ((wrap64 (e4)) * 131)) + (wrap64 ((wrap64 (e6)) * 1117)))) + (wrap64 ((wrap64 ((wrap64 (a0p + 1)) - 1)) * 29)))) + (wrap64 (n7 * 53)))) 64))) a1) fun n8 =>
  some (n8, a0b, (wrap64 (a0p + 1)))))) : Option (Int × List Int × Int))
  (spec_l6Rd_pick a1 a0b a0p) := by
  rewrite [← wrapC_eq]
  exact fun r h => by
    have e : runC (phi Tb GT sg) Tb GT p200.code (startAT p200 (mkST p200.ins [.bp 0 0, .int .i64 a1] p200.bins [.var [.sl .share .u8 a0b, .int .i64 a0p]])) (finT p200 s200) = (
      (bif (decide (a1 < 1)) then
      some (0, a0b, (wrapC (a0p + 1)))
      else
      (bif (decide ((a0b.length : Int) = 0)) then
      some (0, a0b, (wrapC (a0p + 1)))
      else
      (bif (decide ((wrapC ((wrapC (a0p + 1)) - 1)) < (a0b.length : Int))) then
      bnd (geti a0b (wrapC ((wrapC (a0p + 1)) - 1))) fun e1 =>
      bnd (remI (wrapC (e1)) a1) fun n2 =>
      some (n2, a0b, (wrapC (a0p + 1)))
      else
      bnd (remI (wrapC ((wrapC (a0p + 1)) - 1)) (a0b.length : Int)) fun n3 =>
      bnd (geti a0b n3) fun e4 =>
      bnd (remI (wrapC ((wrapC ((wrapC ((wrapC (a0p + 1)) - 1)) * 7)) + 3)) (a0b.length : Int)) fun n5 =>
      bnd (geti a0b n5) fun e6 =>
      bnd (quoI .i64 (wrapC ((wrapC (a0p + 1)) - 1)) (a0b.length : Int)) fun n7 =>
      bnd (remI (bits .xor .i64 (wrapC ((wrapC ((wrapC ((wrapC ((wrapC (e4)) * 131)) + (wrapC ((wrapC (e6)) * 1117)))) + (wrapC ((wrapC ((wrapC (a0p + 1)) - 1)) * 29)))) + (wrapC (n7 * 53)))) (wrapC (Int.tdiv (wrapC ((wrapC ((wrapC ((wrapC ((wrapC (e4)) * 131)) + (wrapC ((wrapC (e6)) * 1117)))) + (wrapC ((wrapC ((wrapC (a0p + 1)) - 1)) * 29)))) + (wrapC (n7 * 53)))) 64))) a1) fun n8 =>
      some (n8, a0b, (wrapC (a0p + 1)))))) : Option (Int × List Int × Int)) := by kernel_rfl
    exact fn_le' (sig := s200) (p := p200) (by kernel_rfl) (by kernel_rfl) rfl rfl rfl rfl rfl (e.trans h)

theorem spec_WorldRun_o_le (a0 : Wld) (a1 : Int) (A : List Ent) : Tv.Le
  (bnd (spec_WorldValid a0) fun r1 =>
  (bif (!r1) then
  some (⟨[], [], 0, 0, ⟨none, 0⟩⟩, false, A)
  else
  bnd (spec_l6In a1 0 100000) fun r2 =>
  (bif (!r2) then
  some (⟨[], [], 0, 0, ⟨none, 0⟩⟩, false, A)
  else
  bnd (spec_l16Copy_o a0 A) fun r3 =>
  bnd (spec_WorldRun_o_l1 a1 0 false [] false [] 0 0 (⟨none, 0⟩ : Hd) r3.1.tasks r3.1.boxes r3.1.turn r3.1.idle r3.1.out r3.2) fun r4 =>
  some (⟨r4.2.2.2.2.2.1, r4.2.2.2.2.2.2.1, r4.2.2.2.2.2.2.2.1, r4.2.2.2.2.2.2.2.2.1, r4.2.2.2.2.2.2.2.2.2.1⟩, true, r4.2.2.2.2.2.2.2.2.2.2))) : Option (WldO × Bool × List Ent))
  (spec_WorldRun_o a0 a1 A) := by
  exact fun r h => by
    have e : runC (phi Tb GT sg) Tb GT p40100.code (startAT p40100 (mkST p40100.ins [.agg (rowT .wld a0), .int .i64 a1] p40100.bins [.ar A])) (finT p40100 s40100) = (
      bnd (spec_WorldValid a0) fun r1 =>
      (bif (!r1) then
      some (⟨[], [], 0, 0, ⟨none, 0⟩⟩, false, A)
      else
      bnd (spec_l6In a1 0 100000) fun r2 =>
      (bif (!r2) then
      some (⟨[], [], 0, 0, ⟨none, 0⟩⟩, false, A)
      else
      bnd (spec_l16Copy_o a0 A) fun r3 =>
      bnd (spec_WorldRun_o_l1 a1 0 false [] false [] 0 0 (⟨none, 0⟩ : Hd) r3.1.tasks r3.1.boxes r3.1.turn r3.1.idle r3.1.out r3.2) fun r4 =>
      some (⟨r4.2.2.2.2.2.1, r4.2.2.2.2.2.2.1, r4.2.2.2.2.2.2.2.1, r4.2.2.2.2.2.2.2.2.1, r4.2.2.2.2.2.2.2.2.2.1⟩, true, r4.2.2.2.2.2.2.2.2.2.2))) : Option (WldO × Bool × List Ent)) := by kernel_rfl
    exact fn_le' (sig := s40100) (p := p40100) (by kernel_rfl) (by kernel_rfl) rfl rfl rfl rfl rfl (e.trans h)

theorem impl_areWords_le (a0 : List Int) : Tv.Le
  (bnd (impl_areWords_l1 a0 (a0.length : Int) 0) fun r1 =>
  selm r1 (fun y2 =>
  some true) (fun z3 =>
  some z3) : Option (Bool))
  (impl_areWords a0) := by
  exact fun r h => by
    have e : runC (phi Tb GT sg) Tb GT p5100.code (startAT p5100 (mkST p5100.ins [.sl .share .int a0] p5100.bins [])) (finT p5100 s5100) = (
      bnd (impl_areWords_l1 a0 (a0.length : Int) 0) fun r1 =>
      selm r1 (fun y2 =>
      some true) (fun z3 =>
      some z3) : Option (Bool)) := by kernel_rfl
    exact fn_le' (sig := s5100) (p := p5100) (by kernel_rfl) (by kernel_rfl) rfl rfl rfl rfl rfl (e.trans h)

theorem impl_BoxValid_le (a0 : Bx) : Tv.Le
  ((bif (decide (1 ≤ a0.room)) then
  (bif (decide (a0.room ≤ 4)) then
  (bif (decide ((a0.items.length : Int) ≤ a0.room)) then
  bnd (impl_areWords a0.items) fun r1 =>
  some r1
  else
  some false)
  else
  some false)
  else
  some false) : Option (Bool))
  (impl_BoxValid a0) := by
  exact fun r h => by
    have e : runC (phi Tb GT sg) Tb GT p17600.code (startAT p17600 (mkST p17600.ins [.agg (rowT .bx a0)] p17600.bins [])) (finT p17600 s17600) = (
      (bif (decide (1 ≤ a0.room)) then
      (bif (decide (a0.room ≤ 4)) then
      (bif (decide ((a0.items.length : Int) ≤ a0.room)) then
      bnd (impl_areWords a0.items) fun r1 =>
      some r1
      else
      some false)
      else
      some false)
      else
      some false) : Option (Bool)) := by kernel_rfl
    exact fn_le' (sig := s17600) (p := p17600) (by kernel_rfl) (by kernel_rfl) rfl rfl rfl rfl rfl (e.trans h)

theorem impl_boxesValid_l1_le (t0 : List Bx) (t5 : List Bx) (t6 : Int) (t7 : Int) : Tv.Le
  ((bif (decide (t7 < t6)) then
  bnd (geti t5 t7) fun e1 =>
  bnd (impl_BoxValid e1) fun r2 =>
  (bif (!r2) then
  some (.inr (t0, false))
  else
  impl_boxesValid_l1 t0 t5 t6 (wrap64 (t7 + 1)))
  else
  some (.inl t0)) : Option (List Bx ⊕ (List Bx × Bool)))
  (impl_boxesValid_l1 t0 t5 t6 t7) := by
  rewrite [← wrapC_eq]
  exact fun r h => by
    have e : runC (phi Tb GT sg) Tb GT p23901.code ((mkST p23901.ins [.sl .share .bx t0, .sl .share .bx t5, .int .i64 t6, .int .i64 t7] p23901.bins [])) (finL Tb GT 23901 p23901 s23901) = (
      (bif (decide (t7 < t6)) then
      bnd (geti t5 t7) fun e1 =>
      bnd (impl_BoxValid e1) fun r2 =>
      (bif (!r2) then
      some (.inr (t0, false))
      else
      impl_boxesValid_l1 t0 t5 t6 (wrapC (t7 + 1)))
      else
      some (.inl t0)) : Option (List Bx ⊕ (List Bx × Bool))) := by kernel_rfl
    exact loop_le' (sig := s23901) (p := p23901) (by kernel_rfl) (by kernel_rfl) rfl rfl rfl (e.trans h)

theorem impl_stmtsValid_le (a0 : List Stm) (a1 : Int) : Tv.Le
  (bnd (impl_blockValid a0 a1 0 0) fun r1 =>
  some r1.1 : Option (Bool))
  (impl_stmtsValid a0 a1) := by
  exact fun r h => by
    have e : runC (phi Tb GT sg) Tb GT p5400.code (startAT p5400 (mkST p5400.ins [.sl .share .stm a0, .int .i64 a1] p5400.bins [])) (finT p5400 s5400) = (
      bnd (impl_blockValid a0 a1 0 0) fun r1 =>
      some r1.1 : Option (Bool)) := by kernel_rfl
    exact fn_le' (sig := s5400) (p := p5400) (by kernel_rfl) (by kernel_rfl) rfl rfl rfl rfl rfl (e.trans h)

theorem impl_taskValid_l1_le (t1 : Int) (t18 : Int) (t19 : Int) (b100_0 : List Int) (b100_1 : List Stm) : Tv.Le
  ((bif (decide (t19 < t18)) then
  bnd (cutL b100_1 t19 (wrap64 (t19 + 1))) fun l1 =>
  bnd (impl_stmtsValid l1 t1) fun r2 =>
  (bif (!r2) then
  some (.inr false)
  else
  impl_taskValid_l1 t1 t18 (wrap64 (t19 + 1)) b100_0 b100_1)
  else
  some (.inl ())) : Option (Unit ⊕ Bool))
  (impl_taskValid_l1 t1 t18 t19 b100_0 b100_1) := by
  rewrite [← wrapC_eq]
  exact fun r h => by
    have e : runC (phi Tb GT sg) Tb GT p5501.code ((mkST p5501.ins [.int .i64 t1, .bp 100 0, .int .i64 t18, .int .i64 t19] p5501.bins [.var [.sl .share .int b100_0, .sl .share .stm b100_1]])) (finL Tb GT 5501 p5501 s5501) = (
      (bif (decide (t19 < t18)) then
      bnd (cutL b100_1 t19 (wrapC (t19 + 1))) fun l1 =>
      bnd (impl_stmtsValid l1 t1) fun r2 =>
      (bif (!r2) then
      some (.inr false)
      else
      impl_taskValid_l1 t1 t18 (wrapC (t19 + 1)) b100_0 b100_1)
      else
      some (.inl ())) : Option (Unit ⊕ Bool)) := by kernel_rfl
    exact loop_le' (sig := s5501) (p := p5501) (by kernel_rfl) (by kernel_rfl) rfl rfl rfl (e.trans h)

theorem spec_BoxValid_le (a0 : Bx) : Tv.Le
  (bnd (spec_l6In a0.room 1 4) fun r1 =>
  (bif r1 then
  (bif (decide ((a0.items.length : Int) ≤ a0.room)) then
  bnd (spec_l4Words a0.items (a0.items.length : Int)) fun r2 =>
  some r2
  else
  some false)
  else
  some false) : Option (Bool))
  (spec_BoxValid a0) := by
  exact fun r h => by
    have e : runC (phi Tb GT sg) Tb GT p17800.code (startAT p17800 (mkST p17800.ins [.agg (rowT .bx a0)] p17800.bins [])) (finT p17800 s17800) = (
      bnd (spec_l6In a0.room 1 4) fun r1 =>
      (bif r1 then
      (bif (decide ((a0.items.length : Int) ≤ a0.room)) then
      bnd (spec_l4Words a0.items (a0.items.length : Int)) fun r2 =>
      some r2
      else
      some false)
      else
      some false) : Option (Bool)) := by kernel_rfl
    exact fn_le' (sig := s17800) (p := p17800) (by kernel_rfl) (by kernel_rfl) rfl rfl rfl rfl rfl (e.trans h)

theorem spec_l15Boxes_l1_le (t0 : List Bx) (t3 : Int) : Tv.Le
  ((bif (decide (t3 < (t0.length : Int))) then
  bnd (geti t0 t3) fun e1 =>
  bnd (spec_BoxValid e1) fun r2 =>
  (bif (!r2) then
  some (.inr (t0, false))
  else
  spec_l15Boxes_l1 t0 (wrap64 (t3 + 1)))
  else
  some (.inl t0)) : Option (List Bx ⊕ (List Bx × Bool)))
  (spec_l15Boxes_l1 t0 t3) := by
  rewrite [← wrapC_eq]
  exact fun r h => by
    have e : runC (phi Tb GT sg) Tb GT p24601.code ((mkST p24601.ins [.sl .share .bx t0, .int .i64 t3] p24601.bins [])) (finL Tb GT 24601 p24601 s24601) = (
      (bif (decide (t3 < (t0.length : Int))) then
      bnd (geti t0 t3) fun e1 =>
      bnd (spec_BoxValid e1) fun r2 =>
      (bif (!r2) then
      some (.inr (t0, false))
      else
      spec_l15Boxes_l1 t0 (wrapC (t3 + 1)))
      else
      some (.inl t0)) : Option (List Bx ⊕ (List Bx × Bool))) := by kernel_rfl
    exact loop_le' (sig := s24601) (p := p24601) (by kernel_rfl) (by kernel_rfl) rfl rfl rfl (e.trans h)

theorem spec_StmtsValid_le (a0 : List Stm) : Tv.Le
  (bnd (spec_l11Blocks a0 3) fun r1 =>
  (bif r1 then
  bnd (spec_l11Count a0) fun r2 =>
  some (decide (r2 ≤ 16))
  else
  some false) : Option (Bool))
  (spec_StmtsValid a0) := by
  exact fun r h => by
    have e : runC (phi Tb GT sg) Tb GT p6300.code (startAT p6300 (mkST p6300.ins [.sl .share .stm a0] p6300.bins [])) (finT p6300 s6300) = (
      bnd (spec_l11Blocks a0 3) fun r1 =>
      (bif r1 then
      bnd (spec_l11Count a0) fun r2 =>
      some (decide (r2 ≤ 16))
      else
      some false) : Option (Bool)) := by kernel_rfl
    exact fn_le' (sig := s6300) (p := p6300) (by kernel_rfl) (by kernel_rfl) rfl rfl rfl rfl rfl (e.trans h)

theorem spec_TaskValid_l1_le (t3 : Int) (b100_0 : List Int) (b100_1 : List Stm) : Tv.Le
  ((bif (decide (t3 < (b100_1.length : Int))) then
  bnd (cutL b100_1 t3 (wrap64 (t3 + 1))) fun l1 =>
  bnd (spec_StmtsValid l1) fun r2 =>
  (bif (!r2) then
  some (.inr (false, b100_0, b100_1))
  else
  spec_TaskValid_l1 (wrap64 (t3 + 1)) b100_0 b100_1)
  else
  some (.inl (b100_0, b100_1))) : Option ((List Int × List Stm) ⊕ (Bool × List Int × List Stm)))
  (spec_TaskValid_l1 t3 b100_0 b100_1) := by
  rewrite [← wrapC_eq]
  exact fun r h => by
    have e : runC (phi Tb GT sg) Tb GT p6601.code ((mkST p6601.ins [.bp 100 0, .int .i64 t3] p6601.bins [.var [.sl .share .int b100_0, .sl .share .stm b100_1]])) (finL Tb GT 6601 p6601 s6601) = (
      (bif (decide (t3 < (b100_1.length : Int))) then
      bnd (cutL b100_1 t3 (wrapC (t3 + 1))) fun l1 =>
      bnd (spec_StmtsValid l1) fun r2 =>
      (bif (!r2) then
      some (.inr (false, b100_0, b100_1))
      else
      spec_TaskValid_l1 (wrapC (t3 + 1)) b100_0 b100_1)
      else
      some (.inl (b100_0, b100_1))) : Option ((List Int × List Stm) ⊕ (Bool × List Int × List Stm))) := by kernel_rfl
    exact loop_le' (sig := s6601) (p := p6601) (by kernel_rfl) (by kernel_rfl) rfl rfl rfl (e.trans h)

theorem spec_l12Boxes_l1_le (t0 : List Stm) (t1 : Int) (t5 : Int) : Tv.Le
  ((bif (decide (t5 < (t0.length : Int))) then
  bnd (geti t0 t5) fun e1 =>
  (bif (decide (e1.kind = 4)) then
  (bif (decide (t1 ≤ e1.box)) then
  some (.inr false)
  else
  bnd (spec_l12Boxes e1.body t1) fun r2 =>
  (bif (!r2) then
  some (.inr false)
  else
  bnd (spec_l12Boxes e1.els t1) fun r3 =>
  (bif (!r3) then
  some (.inr false)
  else
  spec_l12Boxes_l1 t0 t1 (wrap64 (t5 + 1)))))
  else
  (bif (decide (e1.kind = 5)) then
  (bif (decide (t1 ≤ e1.box)) then
  some (.inr false)
  else
  bnd (spec_l12Boxes e1.body t1) fun r4 =>
  (bif (!r4) then
  some (.inr false)
  else
  bnd (spec_l12Boxes e1.els t1) fun r5 =>
  (bif (!r5) then
  some (.inr false)
  else
  spec_l12Boxes_l1 t0 t1 (wrap64 (t5 + 1)))))
  else
  bnd (spec_l12Boxes e1.body t1) fun r6 =>
  (bif (!r6) then
  some (.inr false)
  else
  bnd (spec_l12Boxes e1.els t1) fun r7 =>
  (bif (!r7) then
  some (.inr false)
  else
  spec_l12Boxes_l1 t0 t1 (wrap64 (t5 + 1))))))
  else
  some (.inl ())) : Option (Unit ⊕ Bool))
  (spec_l12Boxes_l1 t0 t1 t5) := by
  rewrite [← wrapC_eq]
  exact fun r h => by
    have e : runC (phi Tb GT sg) Tb GT p23101.code ((mkST p23101.ins [.sl .share .stm t0, .int .i64 t1, .int .i64 t5] p23101.bins [])) (finL Tb GT 23101 p23101 s23101) = (
      (bif (decide (t5 < (t0.length : Int))) then
      bnd (geti t0 t5) fun e1 =>
      (bif (decide (e1.kind = 4)) then
      (bif (decide (t1 ≤ e1.box)) then
      some (.inr false)
      else
      bnd (spec_l12Boxes e1.body t1) fun r2 =>
      (bif (!r2) then
      some (.inr false)
      else
      bnd (spec_l12Boxes e1.els t1) fun r3 =>
      (bif (!r3) then
      some (.inr false)
      else
      spec_l12Boxes_l1 t0 t1 (wrapC (t5 + 1)))))
      else
      (bif (decide (e1.kind = 5)) then
      (bif (decide (t1 ≤ e1.box)) then
      some (.inr false)
      else
      bnd (spec_l12Boxes e1.body t1) fun r4 =>
      (bif (!r4) then
      some (.inr false)
      else
      bnd (spec_l12Boxes e1.els t1) fun r5 =>
      (bif (!r5) then
      some (.inr false)
      else
      spec_l12Boxes_l1 t0 t1 (wrapC (t5 + 1)))))
      else
      bnd (spec_l12Boxes e1.body t1) fun r6 =>
      (bif (!r6) then
      some (.inr false)
      else
      bnd (spec_l12Boxes e1.els t1) fun r7 =>
      (bif (!r7) then
      some (.inr false)
      else
      spec_l12Boxes_l1 t0 t1 (wrapC (t5 + 1))))))
      else
      some (.inl ())) : Option (Unit ⊕ Bool)) := by kernel_rfl
    exact loop_le' (sig := s23101) (p := p23101) (by kernel_rfl) (by kernel_rfl) rfl rfl rfl (e.trans h)

theorem spec_WordValid_le (a0 : Int) : Tv.Le
  (bnd (spec_l6In a0 (-2147483648) 2147483647) fun r1 =>
  some r1 : Option (Bool))
  (spec_WordValid a0) := by
  exact fun r h => by
    have e : runC (phi Tb GT sg) Tb GT p6400.code (startAT p6400 (mkST p6400.ins [.int .i64 a0] p6400.bins [])) (finT p6400 s6400) = (
      bnd (spec_l6In a0 (-2147483648) 2147483647) fun r1 =>
      some r1 : Option (Bool)) := by kernel_rfl
    exact fn_le' (sig := s6400) (p := p6400) (by kernel_rfl) (by kernel_rfl) rfl rfl rfl rfl rfl (e.trans h)

theorem spec_l4Words_l1_le (t0 : List Int) (t5 : Int) : Tv.Le
  ((bif (decide (t5 < (t0.length : Int))) then
  bnd (geti t0 t5) fun e1 =>
  bnd (spec_WordValid e1) fun r2 =>
  (bif (!r2) then
  some (.inr false)
  else
  spec_l4Words_l1 t0 (wrap64 (t5 + 1)))
  else
  some (.inl ())) : Option (Unit ⊕ Bool))
  (spec_l4Words_l1 t0 t5) := by
  rewrite [← wrapC_eq]
  exact fun r h => by
    have e : runC (phi Tb GT sg) Tb GT p6501.code ((mkST p6501.ins [.sl .share .int t0, .int .i64 t5] p6501.bins [])) (finL Tb GT 6501 p6501 s6501) = (
      (bif (decide (t5 < (t0.length : Int))) then
      bnd (geti t0 t5) fun e1 =>
      bnd (spec_WordValid e1) fun r2 =>
      (bif (!r2) then
      some (.inr false)
      else
      spec_l4Words_l1 t0 (wrapC (t5 + 1)))
      else
      some (.inl ())) : Option (Unit ⊕ Bool)) := by kernel_rfl
    exact loop_le' (sig := s6501) (p := p6501) (by kernel_rfl) (by kernel_rfl) rfl rfl rfl (e.trans h)

theorem spec_l92Rooms_le (a0b : List Int) (a0p : Int) : Tv.Le
  (bnd (spec_l6Rd_pick 6 a0b a0p) fun r1 =>
  bnd (geti ([0, 1, 1, 2, 2, 3] : List Int) r1.1) fun e2 =>
  bnd (spec_l92Rooms_l1 true ([] : List Int) e2 0 r1.2.1 r1.2.2) fun r3 =>
  some (r3.1.2, r3.2.1, r3.2.2) : Option (List Int × List Int × Int))
  (spec_l92Rooms a0b a0p) := by
  exact fun r h => by
    have e : runC (phi Tb GT sg) Tb GT p22300.code (startAT p22300 (mkST p22300.ins [.bp 0 0] p22300.bins [.var [.sl .share .u8 a0b, .int .i64 a0p]])) (finT p22300 s22300) = (
      bnd (spec_l6Rd_pick 6 a0b a0p) fun r1 =>
      bnd (geti ([0, 1, 1, 2, 2, 3] : List Int) r1.1) fun e2 =>
      bnd (spec_l92Rooms_l1 true ([] : List Int) e2 0 r1.2.1 r1.2.2) fun r3 =>
      some (r3.1.2, r3.2.1, r3.2.2) : Option (List Int × List Int × Int)) := by kernel_rfl
    exact fn_le' (sig := s22300) (p := p22300) (by kernel_rfl) (by kernel_rfl) rfl rfl rfl rfl rfl (e.trans h)

theorem spec_l92Stmts_le (a1 : Int) (a0b : List Int) (a0p : Int) : Tv.Le
  (bnd (spec_l6Rd_pick 6 a0b a0p) fun r1 =>
  bnd (spec_l92Block a1 3 (wrap64 (1 + r1.1)) true r1.2.1 r1.2.2) fun r2 =>
  bnd (spec_l92Stmts_l1 (.own true) r2.1 r2.2.1 r2.2.2) fun r3 =>
  some (((Md.res r3.1.1), r3.1.2), r3.2.1, r3.2.2) : Option ((Md × List Stm) × List Int × Int))
  (spec_l92Stmts a1 a0b a0p) := by
  rewrite [← wrapC_eq]
  exact fun r h => by
    have e : runC (phi Tb GT sg) Tb GT p4700.code (startAT p4700 (mkST p4700.ins [.bp 0 0, .int .i64 a1] p4700.bins [.var [.sl .share .u8 a0b, .int .i64 a0p]])) (finT p4700 s4700) = (
      bnd (spec_l6Rd_pick 6 a0b a0p) fun r1 =>
      bnd (spec_l92Block a1 3 (wrapC (1 + r1.1)) true r1.2.1 r1.2.2) fun r2 =>
      bnd (spec_l92Stmts_l1 (.own true) r2.1 r2.2.1 r2.2.2) fun r3 =>
      some (((Md.res r3.1.1), r3.1.2), r3.2.1, r3.2.2) : Option ((Md × List Stm) × List Int × Int)) := by kernel_rfl
    exact fn_le' (sig := s4700) (p := p4700) (by kernel_rfl) (by kernel_rfl) rfl rfl rfl rfl rfl (e.trans h)

theorem spec_l92Program_l1_le (t4 : Int) (t5 : Int) (b0_0 : List Int) (b0_1 : Int) (b100_0b : Bool) (b100_0 : List Int) (b100_1 : Hd) (b101_0 : List Int) (b101_1 : Hd) (b99 : List Ent) : Tv.Le
  ((bif (decide (t5 < t4)) then
  bnd (spec_l92Stmts (b101_0.length : Int) b0_0 b0_1) fun r1 =>
  bnd (arApp b99 .stms b101_1.id b101_1.n ([r1.1.2] : List (List Stm))) fun B2 =>
  spec_l92Program_l1 t4 (wrap64 (t5 + 1)) r1.2.1 r1.2.2 b100_0b b100_0 b100_1 b101_0 (⟨(some (List.length b99)), (b101_1.n + List.length ([r1.1.2] : List (List Stm)))⟩ : Hd) B2
  else
  some (b0_0, b0_1, (b100_0b, b100_0), b100_1, b101_0, b101_1, b99)) : Option (List Int × Int × (Bool × List Int) × Hd × List Int × Hd × List Ent))
  (spec_l92Program_l1 t4 t5 b0_0 b0_1 b100_0b b100_0 b100_1 b101_0 b101_1 b99) := by
  rewrite [← wrapC_eq]
  exact fun r h => by
    have e : runC (phi Tb GT sg) Tb GT p22401.code ((mkST p22401.ins [.bp 0 0, .bp 100 0, .bp 101 0, .int .i64 t4, .int .i64 t5] p22401.bins [.var [.sl .share .u8 b0_0, .int .i64 b0_1], .var [.sl (.own b100_0b) .int b100_0, .tr .stms b100_1.id b100_1.n], .var [.sl .share .int b101_0, .tr .stms b101_1.id b101_1.n], .ar b99])) (finL Tb GT 22401 p22401 s22401) = (
      (bif (decide (t5 < t4)) then
      bnd (spec_l92Stmts (b101_0.length : Int) b0_0 b0_1) fun r1 =>
      bnd (arApp b99 .stms b101_1.id b101_1.n ([r1.1.2] : List (List Stm))) fun B2 =>
      spec_l92Program_l1 t4 (wrapC (t5 + 1)) r1.2.1 r1.2.2 b100_0b b100_0 b100_1 b101_0 (⟨(some (List.length b99)), (b101_1.n + List.length ([r1.1.2] : List (List Stm)))⟩ : Hd) B2
      else
      some (b0_0, b0_1, (b100_0b, b100_0), b100_1, b101_0, b101_1, b99)) : Option (List Int × Int × (Bool × List Int) × Hd × List Int × Hd × List Ent)) := by kernel_rfl
    exact loop_le' (sig := s22401) (p := p22401) (by kernel_rfl) (by kernel_rfl) rfl rfl rfl (e.trans h)

theorem spec_l92Endless_le (a0b : List Int) (a0p : Int) : Tv.Le
  (bnd (spec_l4Leaf 0 1) fun r1 =>
  bnd (spec_l6Rd_pick 2 a0b a0p) fun r2 =>
  bnd (spec_l92Block 0 1 r2.1 false r2.2.1 r2.2.2) fun r3 =>
  some (⟨3, 0, 0, ⟨r1.1, r1.2.1, r1.2.2.2⟩, r3.1, []⟩, r3.2.1, r3.2.2) : Option (Stm × List Int × Int))
  (spec_l92Endless a0b a0p) := by
  exact fun r h => by
    have e : runC (phi Tb GT sg) Tb GT p8700.code (startAT p8700 (mkST p8700.ins [.bp 0 0] p8700.bins [.var [.sl .share .u8 a0b, .int .i64 a0p]])) (finT p8700 s8700) = (
      bnd (spec_l4Leaf 0 1) fun r1 =>
      bnd (spec_l6Rd_pick 2 a0b a0p) fun r2 =>
      bnd (spec_l92Block 0 1 r2.1 false r2.2.1 r2.2.2) fun r3 =>
      some (⟨3, 0, 0, ⟨r1.1, r1.2.1, r1.2.2.2⟩, r3.1, []⟩, r3.2.1, r3.2.2) : Option (Stm × List Int × Int)) := by kernel_rfl
    exact fn_le' (sig := s8700) (p := p8700) (by kernel_rfl) (by kernel_rfl) rfl rfl rfl rfl rfl (e.trans h)

theorem spec_ProgramValid_le (a0 : Prg) : Tv.Le
  (bnd (spec_l12Rooms a0.rooms) fun r1 =>
  (bif (!r1) then
  some false
  else
  bnd (spec_l6In (a0.tasks.length : Int) 1 3) fun r2 =>
  (bif (!r2) then
  some false
  else
  bnd (spec_ProgramValid_l1 0 a0.rooms a0.tasks) fun r3 =>
  selm r3 (fun y4 =>
  some true) (fun z5 =>
  some z5))) : Option (Bool))
  (spec_ProgramValid a0) := by
  exact fun r h => by
    have e : runC (phi Tb GT sg) Tb GT p23300.code (startAT p23300 (mkST p23300.ins [.agg (rowT .prg a0)] p23300.bins [])) (finT p23300 s23300) = (
      bnd (spec_l12Rooms a0.rooms) fun r1 =>
      (bif (!r1) then
      some false
      else
      bnd (spec_l6In (a0.tasks.length : Int) 1 3) fun r2 =>
      (bif (!r2) then
      some false
      else
      bnd (spec_ProgramValid_l1 0 a0.rooms a0.tasks) fun r3 =>
      selm r3 (fun y4 =>
      some true) (fun z5 =>
      some z5))) : Option (Bool)) := by kernel_rfl
    exact fn_le' (sig := s23300) (p := p23300) (by kernel_rfl) (by kernel_rfl) rfl rfl rfl rfl rfl (e.trans h)

theorem spec_l16Empty_le (a0 : List Int) : Tv.Le
  (bnd (spec_l16Empty_l1 a0 true ([] : List Bx) 0) fun r1 =>
  some r1.2 : Option (List Bx))
  (spec_l16Empty a0) := by
  exact fun r h => by
    have e : runC (phi Tb GT sg) Tb GT p23400.code (startAT p23400 (mkST p23400.ins [.sl .share .int a0] p23400.bins [])) (finT p23400 s23400) = (
      bnd (spec_l16Empty_l1 a0 true ([] : List Bx) 0) fun r1 =>
      some r1.2 : Option (List Bx)) := by kernel_rfl
    exact fn_le' (sig := s23400) (p := p23400) (by kernel_rfl) (by kernel_rfl) rfl rfl rfl rfl rfl (e.trans h)

theorem spec_TaskNew_le (a0 : List Stm) : Tv.Le
  (bnd (spec_StmtsValid a0) fun r1 =>
  (bif (!r1) then
  some (⟨[], []⟩, false)
  else
  bnd (spec_l11Copy a0) fun r3 =>
  some (⟨(List.replicate 4 (zeroD .int)), r3⟩, true)) : Option (Tk × Bool))
  (spec_TaskNew a0) := by
  exact fun r h => by
    have e : runC (phi Tb GT sg) Tb GT p9600.code (startAT p9600 (mkST p9600.ins [.sl .share .stm a0] p9600.bins [])) (finT p9600 s9600) = (
      bnd (spec_StmtsValid a0) fun r1 =>
      (bif (!r1) then
      some (⟨[], []⟩, false)
      else
      bnd (spec_l11Copy a0) fun r3 =>
      some (⟨(List.replicate 4 (zeroD .int)), r3⟩, true)) : Option (Tk × Bool)) := by kernel_rfl
    exact fn_le' (sig := s9600) (p := p9600) (by kernel_rfl) (by kernel_rfl) rfl rfl rfl rfl rfl (e.trans h)

theorem spec_WorldNew_l1_le (t5 : Int) (b100_0 : List Int) (b100_1 : List (List Stm)) (b101_0b : Bool) (b101_0 : List Tk) (b101_1b : Bool) (b101_1 : List Bx) (b101_2 : Int) (b101_3 : Int) (b101_4b : Bool) (b101_4 : List Int) (b102_0b : Bool) (b102_0 : List Tk) (b102_1 : List Bx) (b102_2 : Int) (b102_3 : Int) (b102_4b : Bool) (b102_4 : List Int) : Tv.Le
  ((bif (decide (t5 < (b100_1.length : Int))) then
  bnd (geti b100_1 t5) fun e1 =>
  bnd (spec_TaskNew e1) fun r2 =>
  bnd (appL b102_0 ([r2.1] : List Tk)) fun l3 =>
  spec_WorldNew_l1 (wrap64 (t5 + 1)) b100_0 b100_1 b101_0b b101_0 b101_1b b101_1 b101_2 b101_3 b101_4b b101_4 true l3 b102_1 b102_2 b102_3 b102_4b b102_4
  else
  some ((b101_0b, b101_0), (b101_1b, b101_1), b101_2, b101_3, (b101_4b, b101_4), (b102_0b, b102_0), b102_1, b102_2, b102_3, (b102_4b, b102_4))) : Option ((Bool × List Tk) × (Bool × List Bx) × Int × Int × (Bool × List Int) × (Bool × List Tk) × List Bx × Int × Int × (Bool × List Int)))
  (spec_WorldNew_l1 t5 b100_0 b100_1 b101_0b b101_0 b101_1b b101_1 b101_2 b101_3 b101_4b b101_4 b102_0b b102_0 b102_1 b102_2 b102_3 b102_4b b102_4) := by
  rewrite [← wrapC_eq]
  exact fun r h => by
    have e : runC (phi Tb GT sg) Tb GT p23501.code ((mkST p23501.ins [.bp 100 0, .bp 101 0, .bp 102 0, .int .i64 t5] p23501.bins [.var [.sl .share .int b100_0, .sl .share .stms b100_1], .var [.sl (.own b101_0b) .tk b101_0, .sl (.own b101_1b) .bx b101_1, .int .i64 b101_2, .int .i64 b101_3, .sl (.own b101_4b) .int b101_4], .var [.sl (.own b102_0b) .tk b102_0, .sl .share .bx b102_1, .int .i64 b102_2, .int .i64 b102_3, .sl (.own b102_4b) .int b102_4]])) (finL Tb GT 23501 p23501 s23501) = (
      (bif (decide (t5 < (b100_1.length : Int))) then
      bnd (geti b100_1 t5) fun e1 =>
      bnd (spec_TaskNew e1) fun r2 =>
      bnd (appL b102_0 ([r2.1] : List Tk)) fun l3 =>
      spec_WorldNew_l1 (wrapC (t5 + 1)) b100_0 b100_1 b101_0b b101_0 b101_1b b101_1 b101_2 b101_3 b101_4b b101_4 true l3 b102_1 b102_2 b102_3 b102_4b b102_4
      else
      some ((b101_0b, b101_0), (b101_1b, b101_1), b101_2, b101_3, (b101_4b, b101_4), (b102_0b, b102_0), b102_1, b102_2, b102_3, (b102_4b, b102_4))) : Option ((Bool × List Tk) × (Bool × List Bx) × Int × Int × (Bool × List Int) × (Bool × List Tk) × List Bx × Int × Int × (Bool × List Int))) := by kernel_rfl
    exact loop_le' (sig := s23501) (p := p23501) (by kernel_rfl) (by kernel_rfl) rfl rfl rfl (e.trans h)

theorem spec_l16Copy_o_le (a0 : Wld) (A : List Ent) : Tv.Le
  (bnd (spec_l15BoxesCopy a0.boxes) fun r1 =>
  bnd (arApp (arPush A .int ([] : List Int)) .int (some (List.length A)) 0 a0.out) fun B2 =>
  bnd (spec_l16Copy_o_l1 0 a0.tasks a0.boxes a0.turn a0.idle a0.out false [] false [] 0 0 (⟨none, 0⟩ : Hd) false ([] : List Tk) r1 a0.turn a0.idle (⟨(some (List.length (arPush A .int ([] : List Int)))), (0 + List.length a0.out)⟩ : Hd) B2) fun r3 =>
  some (⟨r3.2.2.2.2.2.1.2, r3.2.2.2.2.2.2.1, r3.2.2.2.2.2.2.2.1, r3.2.2.2.2.2.2.2.2.1, r3.2.2.2.2.2.2.2.2.2.1⟩, r3.2.2.2.2.2.2.2.2.2.2) : Option (WldO × List Ent))
  (spec_l16Copy_o a0 A) := by
  exact fun r h => by
    have e : runC (phi Tb GT sg) Tb GT p40400.code (startAT p40400 (mkST p40400.ins [.agg (rowT .wld a0)] p40400.bins [.ar A])) (finT p40400 s40400) = (
      bnd (spec_l15BoxesCopy a0.boxes) fun r1 =>
      bnd (arApp (arPush A .int ([] : List Int)) .int (some (List.length A)) 0 a0.out) fun B2 =>
      bnd (spec_l16Copy_o_l1 0 a0.tasks a0.boxes a0.turn a0.idle a0.out false [] false [] 0 0 (⟨none, 0⟩ : Hd) false ([] : List Tk) r1 a0.turn a0.idle (⟨(some (List.length (arPush A .int ([] : List Int)))), (0 + List.length a0.out)⟩ : Hd) B2) fun r3 =>
      some (⟨r3.2.2.2.2.2.1.2, r3.2.2.2.2.2.2.1, r3.2.2.2.2.2.2.2.1, r3.2.2.2.2.2.2.2.2.1, r3.2.2.2.2.2.2.2.2.2.1⟩, r3.2.2.2.2.2.2.2.2.2.2) : Option (WldO × List Ent)) := by kernel_rfl
    exact fn_le' (sig := s40400) (p := p40400) (by kernel_rfl) (by kernel_rfl) rfl rfl rfl rfl rfl (e.trans h)

theorem spec_l16Step_o_le (a0 : Wld) (A : List Ent) : Tv.Le
  (bnd (spec_l16Copy_t a0 A) fun r1 =>
  bnd (geti a0.tasks a0.turn) fun e2 =>
  bnd (spec_TaskStep e2 a0.boxes) fun r3 =>
  bnd (idxN r1.1.n a0.turn) fun i4 =>
  bnd (arRow r1.2.2.2.2.2 .tk r1.1.id i4) fun e5 =>
  bnd (arApp (arSet r1.2.2.2.2.2 .tk r1.1.id i4 r3.1) .int r1.2.2.2.2.1.id r1.2.2.2.2.1.n r3.2.2.1) fun B6 =>
  bnd (spec_NextTurn (a0.tasks.length : Int) a0.turn a0.idle r3.2.2.2) fun r7 =>
  bnd (arView B6 .tk r1.1.id) fun l8 =>
  some (⟨l8, r3.2.1, r7.1, r7.2.1, ⟨(some (List.length (arSet r1.2.2.2.2.2 .tk r1.1.id i4 r3.1))), (r1.2.2.2.2.1.n + List.length r3.2.2.1)⟩⟩, (killL B6 ((Option.toList r1.1.id) ++ []))) : Option (WldO × List Ent))
  (spec_l16Step_o a0 A) := by
  exact fun r h => by
    have e : runC (phi Tb GT sg) Tb GT p40500.code (startAT p40500 (mkST p40500.ins [.agg (rowT .wld a0)] p40500.bins [.ar A])) (finT p40500 s40500) = (
      bnd (spec_l16Copy_t a0 A) fun r1 =>
      bnd (geti a0.tasks a0.turn) fun e2 =>
      bnd (spec_TaskStep e2 a0.boxes) fun r3 =>
      bnd (idxN r1.1.n a0.turn) fun i4 =>
      bnd (arRow r1.2.2.2.2.2 .tk r1.1.id i4) fun e5 =>
      bnd (arApp (arSet r1.2.2.2.2.2 .tk r1.1.id i4 r3.1) .int r1.2.2.2.2.1.id r1.2.2.2.2.1.n r3.2.2.1) fun B6 =>
      bnd (spec_NextTurn (a0.tasks.length : Int) a0.turn a0.idle r3.2.2.2) fun r7 =>
      bnd (arView B6 .tk r1.1.id) fun l8 =>
      some (⟨l8, r3.2.1, r7.1, r7.2.1, ⟨(some (List.length (arSet r1.2.2.2.2.2 .tk r1.1.id i4 r3.1))), (r1.2.2.2.2.1.n + List.length r3.2.2.1)⟩⟩, (killL B6 ((Option.toList r1.1.id) ++ []))) : Option (WldO × List Ent)) := by kernel_rfl
    exact fn_le' (sig := s40500) (p := p40500) (by kernel_rfl) (by kernel_rfl) rfl rfl rfl rfl rfl (e.trans h)

theorem spec_WorldRun_o_l1_le (t1 : Int) (t7 : Int) (b101_0b : Bool) (b101_0 : List Tk) (b101_1b : Bool) (b101_1 : List Bx) (b101_2 : Int) (b101_3 : Int) (b101_4 : Hd) (b102_0 : List Tk) (b102_1 : List Bx) (b102_2 : Int) (b102_3 : Int) (b102_4 : Hd) (b99 : List Ent) : Tv.Le
  ((bif (decide (t7 < t1)) then
  (bif (decide (b102_3 < (b102_0.length : Int))) then
  bnd (arView b99 .int b102_4.id) fun l1 =>
  bnd (spec_l16Step_o (⟨b102_0, b102_1, b102_2, b102_3, l1⟩ : Wld) (killL b99 (((Option.toList b102_4.id) ++ []) ++ []))) fun r2 =>
  spec_WorldRun_o_l1 t1 (wrap64 (t7 + 1)) b101_0b b101_0 b101_1b b101_1 b101_2 b101_3 b101_4 r2.1.tasks r2.1.boxes r2.1.turn r2.1.idle r2.1.out r2.2
  else
  some ((b101_0b, b101_0), (b101_1b, b101_1), b101_2, b101_3, b101_4, b102_0, b102_1, b102_2, b102_3, b102_4, b99))
  else
  some ((b101_0b, b101_0), (b101_1b, b101_1), b101_2, b101_3, b101_4, b102_0, b102_1, b102_2, b102_3, b102_4, b99)) : Option ((Bool × List Tk) × (Bool × List Bx) × Int × Int × Hd × List Tk × List Bx × Int × Int × Hd × List Ent))
  (spec_WorldRun_o_l1 t1 t7 b101_0b b101_0 b101_1b b101_1 b101_2 b101_3 b101_4 b102_0 b102_1 b102_2 b102_3 b102_4 b99) := by
  rewrite [← wrapC_eq]
  exact fun r h => by
    have e : runC (phi Tb GT sg) Tb GT p40101.code ((mkST p40101.ins [.int .i64 t1, .bp 101 0, .bp 102 0, .int .i64 t7] p40101.bins [.var [.sl (.own b101_0b) .tk b101_0, .sl (.own b101_1b) .bx b101_1, .int .i64 b101_2, .int .i64 b101_3, .tr .int b101_4.id b101_4.n], .var [.sl .share .tk b102_0, .sl .share .bx b102_1, .int .i64 b102_2, .int .i64 b102_3, .tr .int b102_4.id b102_4.n], .ar b99])) (finL Tb GT 40101 p40101 s40101) = (
      (bif (decide (t7 < t1)) then
      (bif (decide (b102_3 < (b102_0.length : Int))) then
      bnd (arView b99 .int b102_4.id) fun l1 =>
      bnd (spec_l16Step_o (⟨b102_0, b102_1, b102_2, b102_3, l1⟩ : Wld) (killL b99 (((Option.toList b102_4.id) ++ []) ++ []))) fun r2 =>
      spec_WorldRun_o_l1 t1 (wrapC (t7 + 1)) b101_0b b101_0 b101_1b b101_1 b101_2 b101_3 b101_4 r2.1.tasks r2.1.boxes r2.1.turn r2.1.idle r2.1.out r2.2
      else
      some ((b101_0b, b101_0), (b101_1b, b101_1), b101_2, b101_3, b101_4, b102_0, b102_1, b102_2, b102_3, b102_4, b99))
      else
      some ((b101_0b, b101_0), (b101_1b, b101_1), b101_2, b101_3, b101_4, b102_0, b102_1, b102_2, b102_3, b102_4, b99)) : Option ((Bool × List Tk) × (Bool × List Bx) × Int × Int × Hd × List Tk × List Bx × Int × Int × Hd × List Ent)) := by kernel_rfl
    exact loop_le' (sig := s40101) (p := p40101) (by kernel_rfl) (by kernel_rfl) rfl rfl rfl (e.trans h)

theorem impl_WordValid_le (a0 : Int) : Tv.Le
  ((bif (decide ((-2147483648) ≤ a0)) then
  some (decide (a0 ≤ 2147483647))
  else
  some false) : Option (Bool))
  (impl_WordValid a0) := by
  exact fun r h => by
    have e : runC (phi Tb GT sg) Tb GT p5000.code (startAT p5000 (mkST p5000.ins [.int .i64 a0] p5000.bins [])) (finT p5000 s5000) = (
      (bif (decide ((-2147483648) ≤ a0)) then
      some (decide (a0 ≤ 2147483647))
      else
      some false) : Option (Bool)) := by kernel_rfl
    exact fn_le' (sig := s5000) (p := p5000) (by kernel_rfl) (by kernel_rfl) rfl rfl rfl rfl rfl (e.trans h)

theorem impl_areWords_l1_le (t5 : List Int) (t6 : Int) (t7 : Int) : Tv.Le
  ((bif (decide (t7 < t6)) then
  bnd (geti t5 t7) fun e1 =>
  bnd (impl_WordValid e1) fun r2 =>
  (bif (!r2) then
  some (.inr false)
  else
  impl_areWords_l1 t5 t6 (wrap64 (t7 + 1)))
  else
  some (.inl ())) : Option (Unit ⊕ Bool))
  (impl_areWords_l1 t5 t6 t7) := by
  rewrite [← wrapC_eq]
  exact fun r h => by
    have e : runC (phi Tb GT sg) Tb GT p5101.code ((mkST p5101.ins [.sl .share .int t5, .int .i64 t6, .int .i64 t7] p5101.bins [])) (finL Tb GT 5101 p5101 s5101) = (
      (bif (decide (t7 < t6)) then
      bnd (geti t5 t7) fun e1 =>
      bnd (impl_WordValid e1) fun r2 =>
      (bif (!r2) then
      some (.inr false)
      else
      impl_areWords_l1 t5 t6 (wrapC (t7 + 1)))
      else
      some (.inl ())) : Option (Unit ⊕ Bool)) := by kernel_rfl
    exact loop_le' (sig := s5101) (p := p5101) (by kernel_rfl) (by kernel_rfl) rfl rfl rfl (e.trans h)

theorem impl_blockValid_le (a0 : List Stm) (a1 : Int) (a2 : Int) (a3 : Int) : Tv.Le
  ((bif (decide (16 < (wrap64 (a3 + (a0.length : Int))))) then
  some (false, (wrap64 (a3 + (a0.length : Int))))
  else
  bnd (impl_blockValid_l1 a0 a1 a2 (a0.length : Int) 0 (wrap64 (a3 + (a0.length : Int)))) fun r1 =>
  selm r1 (fun y2 =>
  some (true, y2)) (fun z3 =>
  some (z3.1, z3.2))) : Option (Bool × Int))
  (impl_blockValid a0 a1 a2 a3) := by
  rewrite [← wrapC_eq]
  exact fun r h => by
    have e : runC (phi Tb GT sg) Tb GT p5300.code (startAT p5300 (mkST p5300.ins [.sl .share .stm a0, .int .i64 a1, .int .i64 a2, .bp 0 0] p5300.bins [.var [.int .i64 a3]])) (finT p5300 s5300) = (
      (bif (decide (16 < (wrapC (a3 + (a0.length : Int))))) then
      some (false, (wrapC (a3 + (a0.length : Int))))
      else
      bnd (impl_blockValid_l1 a0 a1 a2 (a0.length : Int) 0 (wrapC (a3 + (a0.length : Int)))) fun r1 =>
      selm r1 (fun y2 =>
      some (true, y2)) (fun z3 =>
      some (z3.1, z3.2))) : Option (Bool × Int)) := by kernel_rfl
    exact fn_le' (sig := s5300) (p := p5300) (by kernel_rfl) (by kernel_rfl) rfl rfl rfl rfl rfl (e.trans h)

theorem spec_l11Blocks_le (a0 : List Stm) (a1 : Int) : Tv.Le
  (bnd (spec_l11Blocks_l1 a0 a1 0) fun r1 =>
  selm r1 (fun y2 =>
  some true) (fun z3 =>
  some z3) : Option (Bool))
  (spec_l11Blocks a0 a1) := by
  exact fun r h => by
    have e : runC (phi Tb GT sg) Tb GT p6200.code (startAT p6200 (mkST p6200.ins [.sl .share .stm a0, .int .i64 a1] p6200.bins [])) (finT p6200 s6200) = (
      bnd (spec_l11Blocks_l1 a0 a1 0) fun r1 =>
      selm r1 (fun y2 =>
      some true) (fun z3 =>
      some z3) : Option (Bool)) := by kernel_rfl
    exact fn_le' (sig := s6200) (p := p6200) (by kernel_rfl) (by kernel_rfl) rfl rfl rfl rfl rfl (e.trans h)

theorem spec_l11Count_le (a0 : List Stm) : Tv.Le
  (bnd (spec_l11Count_l1 a0 0 0) fun r1 =>
  some r1 : Option (Int))
  (spec_l11Count a0) := by
  exact fun r h => by
    have e : runC (phi Tb GT sg) Tb GT p4000.code (startAT p4000 (mkST p4000.ins [.sl .share .stm a0] p4000.bins [])) (finT p4000 s4000) = (
      bnd (spec_l11Count_l1 a0 0 0) fun r1 =>
      some r1 : Option (Int)) := by kernel_rfl
    exact fn_le' (sig := s4000) (p := p4000) (by kernel_rfl) (by kernel_rfl) rfl rfl rfl rfl rfl (e.trans h)

theorem spec_l92Rooms_l1_le (t3b : Bool) (t3 : List Int) (t4 : Int) (t5 : Int) (b0_0 : List Int) (b0_1 : Int) : Tv.Le
  ((bif (decide (t5 < t4)) then
  bnd (spec_l6Rd_pick 5 b0_0 b0_1) fun r1 =>
  bnd (geti ([1, 1, 2, 3, 4] : List Int) r1.1) fun e2 =>
  bnd (appL t3 ([e2] : List Int)) fun l3 =>
  spec_l92Rooms_l1 true l3 t4 (wrap64 (t5 + 1)) r1.2.1 r1.2.2
  else
  some ((t3b, t3), b0_0, b0_1)) : Option ((Bool × List Int) × List Int × Int))
  (spec_l92Rooms_l1 t3b t3 t4 t5 b0_0 b0_1) := by
  rewrite [← wrapC_eq]
  exact fun r h => by
    have e : runC (phi Tb GT sg) Tb GT p22301.code ((mkST p22301.ins [.bp 0 0, .sl (.own t3b) .int t3, .int .i64 t4, .int .i64 t5] p22301.bins [.var [.sl .share .u8 b0_0, .int .i64 b0_1]])) (finL Tb GT 22301 p22301 s22301) = (
      (bif (decide (t5 < t4)) then
      bnd (spec_l6Rd_pick 5 b0_0 b0_1) fun r1 =>
      bnd (geti ([1, 1, 2, 3, 4] : List Int) r1.1) fun e2 =>
      bnd (appL t3 ([e2] : List Int)) fun l3 =>
      spec_l92Rooms_l1 true l3 t4 (wrapC (t5 + 1)) r1.2.1 r1.2.2
      else
      some ((t3b, t3), b0_0, b0_1)) : Option ((Bool × List Int) × List Int × Int)) := by kernel_rfl
    exact loop_le' (sig := s22301) (p := p22301) (by kernel_rfl) (by kernel_rfl) rfl rfl rfl (e.trans h)

theorem spec_l92Block_le (a1 : Int) (a2 : Int) (a3 : Int) (a4 : Bool) (a0b : List Int) (a0p : Int) : Tv.Le
  (bnd (spec_l92Block_l1 a1 a2 a3 a4 true ([] : List Stm) 0 a0b a0p) fun r1 =>
  some (r1.1.2, r1.2.1, r1.2.2) : Option (List Stm × List Int × Int))
  (spec_l92Block a1 a2 a3 a4 a0b a0p) := by
  exact fun r h => by
    have e : runC (phi Tb GT sg) Tb GT p4600.code (startAT p4600 (mkST p4600.ins [.bp 0 0, .int .i64 a1, .int .i64 a2, .int .i64 a3, .bool a4] p4600.bins [.var [.sl .share .u8 a0b, .int .i64 a0p]])) (finT p4600 s4600) = (
      bnd (spec_l92Block_l1 a1 a2 a3 a4 true ([] : List Stm) 0 a0b a0p) fun r1 =>
      some (r1.1.2, r1.2.1, r1.2.2) : Option (List Stm × List Int × Int)) := by kernel_rfl
    exact fn_le' (sig := s4600) (p := p4600) (by kernel_rfl) (by kernel_rfl) rfl rfl rfl rfl rfl (e.trans h)

theorem spec_l92Stmts_l1_le (t5m : Md) (t5 : List Stm) (b0_0 : List Int) (b0_1 : Int) : Tv.Le
  (bnd (spec_l11Count t5) fun r1 =>
  (bif (decide (16 < r1)) then
  bnd (cutL t5 0 (wrap64 ((t5.length : Int) - 1))) fun l2 =>
  spec_l92Stmts_l1 .share l2 b0_0 b0_1
  else
  some ((t5m, t5), b0_0, b0_1)) : Option ((Md × List Stm) × List Int × Int))
  (spec_l92Stmts_l1 t5m t5 b0_0 b0_1) := by
  rewrite [← wrapC_eq]
  exact fun r h => by
    have e : runC (phi Tb GT sg) Tb GT p4701.code ((mkST p4701.ins [.bp 0 0, .sl t5m .stm t5] p4701.bins [.var [.sl .share .u8 b0_0, .int .i64 b0_1]])) (finL Tb GT 4701 p4701 s4701) = (
      bnd (spec_l11Count t5) fun r1 =>
      (bif (decide (16 < r1)) then
      bnd (cutL t5 0 (wrapC ((t5.length : Int) - 1))) fun l2 =>
      spec_l92Stmts_l1 .share l2 b0_0 b0_1
      else
      some ((t5m, t5), b0_0, b0_1)) : Option ((Md × List Stm) × List Int × Int)) := by kernel_rfl
    exact loop_le' (sig := s4701) (p := p4701) (by kernel_rfl) (by kernel_rfl) rfl rfl rfl (e.trans h)

theorem spec_l4Leaf_le (a0 : Int) (a1 : Int) : Tv.Le
  (some (a0, a1, ((.own false), ([] : List Exp))) : Option (Int × Int × (Md × List Exp)))
  (spec_l4Leaf a0 a1) := by
  exact fun r h => by
    have e : runC (phi Tb GT sg) Tb GT p300.code (startAT p300 (mkST p300.ins [.int .i64 a0, .int .i64 a1] p300.bins [])) (finT p300 s300) = (
      some (a0, a1, ((.own false), ([] : List Exp))) : Option (Int × Int × (Md × List Exp))) := by kernel_rfl
    exact fn_le' (sig := s300) (p := p300) (by kernel_rfl) (by kernel_rfl) rfl rfl rfl rfl rfl (e.trans h)

theorem spec_l12Rooms_le (a0 : List Int) : Tv.Le
  (bnd (spec_l12Rooms_l1 a0 0) fun r1 =>
  selm r1 (fun y2 =>
  some (decide ((y2.length : Int) ≤ 3))) (fun z3 =>
  some z3.2) : Option (Bool))
  (spec_l12Rooms a0) := by
  exact fun r h => by
    have e : runC (phi Tb GT sg) Tb GT p23200.code (startAT p23200 (mkST p23200.ins [.sl .share .int a0] p23200.bins [])) (finT p23200 s23200) = (
      bnd (spec_l12Rooms_l1 a0 0) fun r1 =>
      selm r1 (fun y2 =>
      some (decide ((y2.length : Int) ≤ 3))) (fun z3 =>
      some z3.2) : Option (Bool)) := by kernel_rfl
    exact fn_le' (sig := s23200) (p := p23200) (by kernel_rfl) (by kernel_rfl) rfl rfl rfl rfl rfl (e.trans h)

theorem spec_ProgramValid_l1_le (t3 : Int) (b100_0 : List Int) (b100_1 : List (List Stm)) : Tv.Le
  ((bif (decide (t3 < (b100_1.length : Int))) then
  bnd (geti b100_1 t3) fun e1 =>
  bnd (spec_StmtsValid e1) fun r2 =>
  (bif (!r2) then
  some (.inr false)
  else
  bnd (geti b100_1 t3) fun e3 =>
  bnd (spec_l12Boxes e3 (b100_0.length : Int)) fun r4 =>
  (bif (!r4) then
  some (.inr false)
  else
  spec_ProgramValid_l1 (wrap64 (t3 + 1)) b100_0 b100_1))
  else
  some (.inl ())) : Option (Unit ⊕ Bool))
  (spec_ProgramValid_l1 t3 b100_0 b100_1) := by
  rewrite [← wrapC_eq]
  exact fun r h => by
    have e : runC (phi Tb GT sg) Tb GT p23301.code ((mkST p23301.ins [.bp 100 0, .int .i64 t3] p23301.bins [.var [.sl .share .int b100_0, .sl .share .stms b100_1]])) (finL Tb GT 23301 p23301 s23301) = (
      (bif (decide (t3 < (b100_1.length : Int))) then
      bnd (geti b100_1 t3) fun e1 =>
      bnd (spec_StmtsValid e1) fun r2 =>
      (bif (!r2) then
      some (.inr false)
      else
      bnd (geti b100_1 t3) fun e3 =>
      bnd (spec_l12Boxes e3 (b100_0.length : Int)) fun r4 =>
      (bif (!r4) then
      some (.inr false)
      else
      spec_ProgramValid_l1 (wrapC (t3 + 1)) b100_0 b100_1))
      else
      some (.inl ())) : Option (Unit ⊕ Bool)) := by kernel_rfl
    exact loop_le' (sig := s23301) (p := p23301) (by kernel_rfl) (by kernel_rfl) rfl rfl rfl (e.trans h)

theorem spec_l16Empty_l1_le (t0 : List Int) (t3b : Bool) (t3 : List Bx) (t4 : Int) : Tv.Le
  ((bif (decide (t4 < (t0.length : Int))) then
  bnd (geti t0 t4) fun e1 =>
  bnd (appL t3 ([⟨e1, ([] : List Int)⟩] : List Bx)) fun l2 =>
  spec_l16Empty_l1 t0 true l2 (wrap64 (t4 + 1))
  else
  some (t3b, t3)) : Option ((Bool × List Bx)))
  (spec_l16Empty_l1 t0 t3b t3 t4) := by
  rewrite [← wrapC_eq]
  exact fun r h => by
    have e : runC (phi Tb GT sg) Tb GT p23401.code ((mkST p23401.ins [.sl .share .int t0, .sl (.own t3b) .bx t3, .int .i64 t4] p23401.bins [])) (finL Tb GT 23401 p23401 s23401) = (
      (bif (decide (t4 < (t0.length : Int))) then
      bnd (geti t0 t4) fun e1 =>
      bnd (appL t3 ([⟨e1, ([] : List Int)⟩] : List Bx)) fun l2 =>
      spec_l16Empty_l1 t0 true l2 (wrapC (t4 + 1))
      else
      some (t3b, t3)) : Option ((Bool × List Bx))) := by kernel_rfl
    exact loop_le' (sig := s23401) (p := p23401) (by kernel_rfl) (by kernel_rfl) rfl rfl rfl (e.trans h)

end Go.TFnWorld
