import Derived.Test.YtpkgdoapdijmeaaDFnWorldNewP
import Derived.KernelRfl
set_option linter.unusedVariables false
namespace Go.TFnWorldNew
open Go Go.RowKit Go.Vs Go.Tv
theorem laws_FnWorldNew_le (a0 : List Int) : Tv.Le
  ((bif (decide (1048576 < (a0.length : Int))) then
  some true
  else
  bnd (spec_DrawWorldNew a0) fun r1 =>
  bnd (impl_WorldNew r1) fun r2 =>
  bnd (spec_WorldNew r1) fun r3 =>
  (bif (!(r2.2 == r3.2)) then
  (bif (r2.2 == r3.2) then
  bnd (laws_sameWorld r2.1 r3.1) fun r4 =>
  some r4
  else
  some false)
  else
  bnd (laws_sameWorld r2.1 r3.1) fun r5 =>
  (bif (!r5) then
  (bif (r2.2 == r3.2) then
  bnd (laws_sameWorld r2.1 r3.1) fun r6 =>
  some r6
  else
  some false)
  else
  (bif (!r2.2) then
  (bif (r2.2 == r3.2) then
  bnd (laws_sameWorld r2.1 r3.1) fun r7 =>
  some r7
  else
  some false)
  else
  bnd (laws_FnWorldNew_l1 0 r1.rooms r1.tasks r2.1.tasks r2.1.boxes r2.1.turn r2.1.idle r2.1.out) fun r8 =>
  selm r8 (fun y9 =>
  bnd (laws_FnWorldNew_l2 0 y9.1 y9.2.1 y9.2.2.1 y9.2.2.2.1 y9.2.2.2.2.1 y9.2.2.2.2.2.1 y9.2.2.2.2.2.2) fun r11 =>
  selm r11 (fun y12 =>
  bnd (impl_WorldValid (⟨y12.2.2.1, y12.2.2.2.1, y12.2.2.2.2.1, y12.2.2.2.2.2.1, y12.2.2.2.2.2.2⟩ : Wld)) fun r14 =>
  (bif r14 then
  (bif (decide (y12.2.2.2.2.2.1 = 0)) then
  (bif (decide ((y12.2.2.2.2.2.2.length : Int) = 0)) then
  some (decide ((y12.2.2.1.length : Int) = (y12.2.1.length : Int)))
  else
  some false)
  else
  some false)
  else
  some false)) (fun z13 =>
  some z13.1)) (fun z10 =>
  some z10.1))))) : Option (Bool))
  (laws_FnWorldNew a0) := by
  exact fun r h => by
    have e : runC (phi Tb GT sg) Tb GT p24100.code (startAT p24100 (mkST p24100.ins [.sl .share .u8 a0] p24100.bins [])) (finT p24100 s24100) = (
      (bif (decide (1048576 < (a0.length : Int))) then
      some true
      else
      bnd (spec_DrawWorldNew a0) fun r1 =>
      bnd (impl_WorldNew r1) fun r2 =>
      bnd (spec_WorldNew r1) fun r3 =>
      (bif (!(r2.2 == r3.2)) then
      (bif (r2.2 == r3.2) then
      bnd (laws_sameWorld r2.1 r3.1) fun r4 =>
      some r4
      else
      some false)
      else
      bnd (laws_sameWorld r2.1 r3.1) fun r5 =>
      (bif (!r5) then
      (bif (r2.2 == r3.2) then
      bnd (laws_sameWorld r2.1 r3.1) fun r6 =>
      some r6
      else
      some false)
      else
      (bif (!r2.2) then
      (bif (r2.2 == r3.2) then
      bnd (laws_sameWorld r2.1 r3.1) fun r7 =>
      some r7
      else
      some false)
      else
      bnd (laws_FnWorldNew_l1 0 r1.rooms r1.tasks r2.1.tasks r2.1.boxes r2.1.turn r2.1.idle r2.1.out) fun r8 =>
      selm r8 (fun y9 =>
      bnd (laws_FnWorldNew_l2 0 y9.1 y9.2.1 y9.2.2.1 y9.2.2.2.1 y9.2.2.2.2.1 y9.2.2.2.2.2.1 y9.2.2.2.2.2.2) fun r11 =>
      selm r11 (fun y12 =>
      bnd (impl_WorldValid (⟨y12.2.2.1, y12.2.2.2.1, y12.2.2.2.2.1, y12.2.2.2.2.2.1, y12.2.2.2.2.2.2⟩ : Wld)) fun r14 =>
      (bif r14 then
      (bif (decide (y12.2.2.2.2.2.1 = 0)) then
      (bif (decide ((y12.2.2.2.2.2.2.length : Int) = 0)) then
      some (decide ((y12.2.2.1.length : Int) = (y12.2.1.length : Int)))
      else
      some false)
      else
      some false)
      else
      some false)) (fun z13 =>
      some z13.1)) (fun z10 =>
      some z10.1))))) : Option (Bool)) := by kernel_rfl
    exact fn_le' (sig := s24100) (p := p24100) (by kernel_rfl) (by kernel_rfl) rfl rfl rfl rfl rfl (e.trans h)

theorem spec_DrawWorldNew_le (a0 : List Int) : Tv.Le
  (bnd (spec_l6Open a0) fun r1 =>
  bnd (spec_l92Wrong r1.1 r1.2) fun r2 =>
  some r2.1 : Option (Prg))
  (spec_DrawWorldNew a0) := by
  exact fun r h => by
    have e : runC (phi Tb GT sg) Tb GT p22600.code (startAT p22600 (mkST p22600.ins [.sl .share .u8 a0] p22600.bins [])) (finT p22600 s22600) = (
      bnd (spec_l6Open a0) fun r1 =>
      bnd (spec_l92Wrong r1.1 r1.2) fun r2 =>
      some r2.1 : Option (Prg)) := by kernel_rfl
    exact fn_le' (sig := s22600) (p := p22600) (by kernel_rfl) (by kernel_rfl) rfl rfl rfl rfl rfl (e.trans h)

theorem impl_WorldNew_le (a0 : Prg) : Tv.Le
  (bnd (impl_ProgramValid a0) fun r1 =>
  (bif (!r1) then
  some (⟨[], [], 0, 0, []⟩, false)
  else
  bnd (impl_boxesNew a0.rooms) fun r2 =>
  bnd (impl_WorldNew_l1 a0.tasks (a0.tasks.length : Int) 0 false [] false [] 0 0 false [] false [] r2 0 0 false []) fun r3 =>
  some (⟨r3.2.2.2.2.2.1.2, r3.2.2.2.2.2.2.1, r3.2.2.2.2.2.2.2.1, r3.2.2.2.2.2.2.2.2.1, r3.2.2.2.2.2.2.2.2.2.2⟩, true)) : Option (Wld × Bool))
  (impl_WorldNew a0) := by
  exact fun r h => by
    have e : runC (phi Tb GT sg) Tb GT p23000.code (startAT p23000 (mkST p23000.ins [.agg (rowT .prg a0)] p23000.bins [])) (finT p23000 s23000) = (
      bnd (impl_ProgramValid a0) fun r1 =>
      (bif (!r1) then
      some (⟨[], [], 0, 0, []⟩, false)
      else
      bnd (impl_boxesNew a0.rooms) fun r2 =>
      bnd (impl_WorldNew_l1 a0.tasks (a0.tasks.length : Int) 0 false [] false [] 0 0 false [] false [] r2 0 0 false []) fun r3 =>
      some (⟨r3.2.2.2.2.2.1.2, r3.2.2.2.2.2.2.1, r3.2.2.2.2.2.2.2.1, r3.2.2.2.2.2.2.2.2.1, r3.2.2.2.2.2.2.2.2.2.2⟩, true)) : Option (Wld × Bool)) := by kernel_rfl
    exact fn_le' (sig := s23000) (p := p23000) (by kernel_rfl) (by kernel_rfl) rfl rfl rfl rfl rfl (e.trans h)

theorem spec_WorldNew_le (a0 : Prg) : Tv.Le
  (bnd (spec_ProgramValid a0) fun r1 =>
  (bif (!r1) then
  some (⟨[], [], 0, 0, []⟩, false)
  else
  bnd (spec_l16Empty a0.rooms) fun r2 =>
  bnd (spec_WorldNew_l1 0 a0.rooms a0.tasks false [] false [] 0 0 false [] false ([] : List Tk) r2 0 0 false ([] : List Int)) fun r3 =>
  some (⟨r3.2.2.2.2.2.1.2, r3.2.2.2.2.2.2.1, r3.2.2.2.2.2.2.2.1, r3.2.2.2.2.2.2.2.2.1, r3.2.2.2.2.2.2.2.2.2.2⟩, true)) : Option (Wld × Bool))
  (spec_WorldNew a0) := by
  exact fun r h => by
    have e : runC (phi Tb GT sg) Tb GT p23500.code (startAT p23500 (mkST p23500.ins [.agg (rowT .prg a0)] p23500.bins [])) (finT p23500 s23500) = (
      bnd (spec_ProgramValid a0) fun r1 =>
      (bif (!r1) then
      some (⟨[], [], 0, 0, []⟩, false)
      else
      bnd (spec_l16Empty a0.rooms) fun r2 =>
      bnd (spec_WorldNew_l1 0 a0.rooms a0.tasks false [] false [] 0 0 false [] false ([] : List Tk) r2 0 0 false ([] : List Int)) fun r3 =>
      some (⟨r3.2.2.2.2.2.1.2, r3.2.2.2.2.2.2.1, r3.2.2.2.2.2.2.2.1, r3.2.2.2.2.2.2.2.2.1, r3.2.2.2.2.2.2.2.2.2.2⟩, true)) : Option (Wld × Bool)) := by kernel_rfl
    exact fn_le' (sig := s23500) (p := p23500) (by kernel_rfl) (by kernel_rfl) rfl rfl rfl rfl rfl (e.trans h)

theorem laws_sameWorld_le (a0 : Wld) (a1 : Wld) : Tv.Le
  ((bif (!decide ((a0.tasks.length : Int) = (a1.tasks.length : Int))) then
  some false
  else
  (bif (!decide (a0.turn = a1.turn)) then
  some false
  else
  (bif (!decide (a0.idle = a1.idle)) then
  some false
  else
  bnd (laws_sameWorld_l1 0 a0.tasks a0.boxes a0.turn a0.idle a0.out a1.tasks a1.boxes a1.turn a1.idle a1.out) fun r1 =>
  selm r1 (fun y2 =>
  bnd (laws_sameBoxes y2.2.1 y2.2.2.2.2.2.2.1) fun r4 =>
  (bif r4 then
  bnd (laws_sameInts y2.2.2.2.2.1 y2.2.2.2.2.2.2.2.2.2) fun r5 =>
  some r5
  else
  some false)) (fun z3 =>
  some z3.1)))) : Option (Bool))
  (laws_sameWorld a0 a1) := by
  exact fun r h => by
    have e : runC (phi Tb GT sg) Tb GT p23700.code (startAT p23700 (mkST p23700.ins [.agg (rowT .wld a0), .agg (rowT .wld a1)] p23700.bins [])) (finT p23700 s23700) = (
      (bif (!decide ((a0.tasks.length : Int) = (a1.tasks.length : Int))) then
      some false
      else
      (bif (!decide (a0.turn = a1.turn)) then
      some false
      else
      (bif (!decide (a0.idle = a1.idle)) then
      some false
      else
      bnd (laws_sameWorld_l1 0 a0.tasks a0.boxes a0.turn a0.idle a0.out a1.tasks a1.boxes a1.turn a1.idle a1.out) fun r1 =>
      selm r1 (fun y2 =>
      bnd (laws_sameBoxes y2.2.1 y2.2.2.2.2.2.2.1) fun r4 =>
      (bif r4 then
      bnd (laws_sameInts y2.2.2.2.2.1 y2.2.2.2.2.2.2.2.2.2) fun r5 =>
      some r5
      else
      some false)) (fun z3 =>
      some z3.1)))) : Option (Bool)) := by kernel_rfl
    exact fn_le' (sig := s23700) (p := p23700) (by kernel_rfl) (by kernel_rfl) rfl rfl rfl rfl rfl (e.trans h)

theorem impl_TaskNew_le (a0 : List Stm) : Tv.Le
  (bnd (impl_StmtsValid a0) fun r1 =>
  (bif (!r1) then
  some (⟨[], []⟩, false)
  else
  bnd (impl_stmtsCopy a0) fun r3 =>
  some (⟨(List.replicate 4 (zeroD .int)), r3⟩, true)) : Option (Tk × Bool))
  (impl_TaskNew a0) := by
  exact fun r h => by
    have e : runC (phi Tb GT sg) Tb GT p9300.code (startAT p9300 (mkST p9300.ins [.sl .share .stm a0] p9300.bins [])) (finT p9300 s9300) = (
      bnd (impl_StmtsValid a0) fun r1 =>
      (bif (!r1) then
      some (⟨[], []⟩, false)
      else
      bnd (impl_stmtsCopy a0) fun r3 =>
      some (⟨(List.replicate 4 (zeroD .int)), r3⟩, true)) : Option (Tk × Bool)) := by kernel_rfl
    exact fn_le' (sig := s9300) (p := p9300) (by kernel_rfl) (by kernel_rfl) rfl rfl rfl rfl rfl (e.trans h)

theorem laws_sameTask_le (a0 : Tk) (a1 : Tk) : Tv.Le
  (bnd (laws_sameInts a0.vars a1.vars) fun r1 =>
  (bif r1 then
  bnd (laws_sameStmts a0.rest a1.rest) fun r2 =>
  some r2
  else
  some false) : Option (Bool))
  (laws_sameTask a0 a1) := by
  exact fun r h => by
    have e : runC (phi Tb GT sg) Tb GT p10000.code (startAT p10000 (mkST p10000.ins [.agg (rowT .tk a0), .agg (rowT .tk a1)] p10000.bins [])) (finT p10000 s10000) = (
      bnd (laws_sameInts a0.vars a1.vars) fun r1 =>
      (bif r1 then
      bnd (laws_sameStmts a0.rest a1.rest) fun r2 =>
      some r2
      else
      some false) : Option (Bool)) := by kernel_rfl
    exact fn_le' (sig := s10000) (p := p10000) (by kernel_rfl) (by kernel_rfl) rfl rfl rfl rfl rfl (e.trans h)

theorem laws_FnWorldNew_l1_le (t8 : Int) (b100_0 : List Int) (b100_1 : List (List Stm)) (b101_0 : List Tk) (b101_1 : List Bx) (b101_2 : Int) (b101_3 : Int) (b101_4 : List Int) : Tv.Le
  ((bif (decide (t8 < (b101_0.length : Int))) then
  bnd (geti b100_1 t8) fun e1 =>
  bnd (impl_TaskNew e1) fun r2 =>
  (bif (!r2.2) then
  some (.inr (false, b100_0, b100_1, b101_0, b101_1, b101_2, b101_3, b101_4))
  else
  bnd (geti b101_0 t8) fun e3 =>
  bnd (laws_sameTask r2.1 e3) fun r4 =>
  (bif (!r4) then
  some (.inr (false, b100_0, b100_1, b101_0, b101_1, b101_2, b101_3, b101_4))
  else
  laws_FnWorldNew_l1 (wrap64 (t8 + 1)) b100_0 b100_1 b101_0 b101_1 b101_2 b101_3 b101_4))
  else
  some (.inl (b100_0, b100_1, b101_0, b101_1, b101_2, b101_3, b101_4))) : Option ((List Int × List (List Stm) × List Tk × List Bx × Int × Int × List Int) ⊕ (Bool × List Int × List (List Stm) × List Tk × List Bx × Int × Int × List Int)))
  (laws_FnWorldNew_l1 t8 b100_0 b100_1 b101_0 b101_1 b101_2 b101_3 b101_4) := by
  rewrite [← wrapC_eq]
  exact fun r h => by
    have e : runC (phi Tb GT sg) Tb GT p24101.code ((mkST p24101.ins [.bp 100 0, .bp 101 0, .int .i64 t8] p24101.bins [.var [.sl .share .int b100_0, .sl .share .stms b100_1], .var [.sl .share .tk b101_0, .sl .share .bx b101_1, .int .i64 b101_2, .int .i64 b101_3, .sl .share .int b101_4]])) (finL Tb GT 24101 p24101 s24101) = (
      (bif (decide (t8 < (b101_0.length : Int))) then
      bnd (geti b100_1 t8) fun e1 =>
      bnd (impl_TaskNew e1) fun r2 =>
      (bif (!r2.2) then
      some (.inr (false, b100_0, b100_1, b101_0, b101_1, b101_2, b101_3, b101_4))
      else
      bnd (geti b101_0 t8) fun e3 =>
      bnd (laws_sameTask r2.1 e3) fun r4 =>
      (bif (!r4) then
      some (.inr (false, b100_0, b100_1, b101_0, b101_1, b101_2, b101_3, b101_4))
      else
      laws_FnWorldNew_l1 (wrapC (t8 + 1)) b100_0 b100_1 b101_0 b101_1 b101_2 b101_3 b101_4))
      else
      some (.inl (b100_0, b100_1, b101_0, b101_1, b101_2, b101_3, b101_4))) : Option ((List Int × List (List Stm) × List Tk × List Bx × Int × Int × List Int) ⊕ (Bool × List Int × List (List Stm) × List Tk × List Bx × Int × Int × List Int))) := by kernel_rfl
    exact loop_le' (sig := s24101) (p := p24101) (by kernel_rfl) (by kernel_rfl) rfl rfl rfl (e.trans h)

theorem laws_FnWorldNew_l2_le (t11 : Int) (b100_0 : List Int) (b100_1 : List (List Stm)) (b101_0 : List Tk) (b101_1 : List Bx) (b101_2 : Int) (b101_3 : Int) (b101_4 : List Int) : Tv.Le
  ((bif (decide (t11 < (b101_1.length : Int))) then
  bnd (geti b101_1 t11) fun e1 =>
  bnd (geti b100_0 t11) fun e2 =>
  (bif (!decide (e1.room = e2)) then
  some (.inr (false, b100_0, b100_1, b101_0, b101_1, b101_2, b101_3, b101_4))
  else
  bnd (geti b101_1 t11) fun e3 =>
  (bif (decide (0 < (e3.items.length : Int))) then
  some (.inr (false, b100_0, b100_1, b101_0, b101_1, b101_2, b101_3, b101_4))
  else
  laws_FnWorldNew_l2 (wrap64 (t11 + 1)) b100_0 b100_1 b101_0 b101_1 b101_2 b101_3 b101_4))
  else
  some (.inl (b100_0, b100_1, b101_0, b101_1, b101_2, b101_3, b101_4))) : Option ((List Int × List (List Stm) × List Tk × List Bx × Int × Int × List Int) ⊕ (Bool × List Int × List (List Stm) × List Tk × List Bx × Int × Int × List Int)))
  (laws_FnWorldNew_l2 t11 b100_0 b100_1 b101_0 b101_1 b101_2 b101_3 b101_4) := by
  rewrite [← wrapC_eq]
  exact fun r h => by
    have e : runC (phi Tb GT sg) Tb GT p24102.code ((mkST p24102.ins [.bp 100 0, .bp 101 0, .int .i64 t11] p24102.bins [.var [.sl .share .int b100_0, .sl .share .stms b100_1], .var [.sl .share .tk b101_0, .sl .share .bx b101_1, .int .i64 b101_2, .int .i64 b101_3, .sl .share .int b101_4]])) (finL Tb GT 24102 p24102 s24102) = (
      (bif (decide (t11 < (b101_1.length : Int))) then
      bnd (geti b101_1 t11) fun e1 =>
      bnd (geti b100_0 t11) fun e2 =>
      (bif (!decide (e1.room = e2)) then
      some (.inr (false, b100_0, b100_1, b101_0, b101_1, b101_2, b101_3, b101_4))
      else
      bnd (geti b101_1 t11) fun e3 =>
      (bif (decide (0 < (e3.items.length : Int))) then
      some (.inr (false, b100_0, b100_1, b101_0, b101_1, b101_2, b101_3, b101_4))
      else
      laws_FnWorldNew_l2 (wrapC (t11 + 1)) b100_0 b100_1 b101_0 b101_1 b101_2 b101_3 b101_4))
      else
      some (.inl (b100_0, b100_1, b101_0, b101_1, b101_2, b101_3, b101_4))) : Option ((List Int × List (List Stm) × List Tk × List Bx × Int × Int × List Int) ⊕ (Bool × List Int × List (List Stm) × List Tk × List Bx × Int × Int × List Int))) := by kernel_rfl
    exact loop_le' (sig := s24102) (p := p24102) (by kernel_rfl) (by kernel_rfl) rfl rfl rfl (e.trans h)

theorem impl_WorldValid_le (a0 : Wld) : Tv.Le
  (bnd (impl_turnsValid (a0.tasks.length : Int) a0.turn a0.idle a0.out) fun r1 =>
  (bif (!r1) then
  some false
  else
  bnd (impl_boxesValid a0.boxes) fun r2 =>
  (bif (!r2) then
  some false
  else
  bnd (impl_WorldValid_l1 a0.tasks (a0.tasks.length : Int) 0 a0.tasks a0.boxes a0.turn a0.idle a0.out) fun r3 =>
  selm r3 (fun y4 =>
  some true) (fun z5 =>
  some z5))) : Option (Bool))
  (impl_WorldValid a0) := by
  exact fun r h => by
    have e : runC (phi Tb GT sg) Tb GT p24000.code (startAT p24000 (mkST p24000.ins [.agg (rowT .wld a0)] p24000.bins [])) (finT p24000 s24000) = (
      bnd (impl_turnsValid (a0.tasks.length : Int) a0.turn a0.idle a0.out) fun r1 =>
      (bif (!r1) then
      some false
      else
      bnd (impl_boxesValid a0.boxes) fun r2 =>
      (bif (!r2) then
      some false
      else
      bnd (impl_WorldValid_l1 a0.tasks (a0.tasks.length : Int) 0 a0.tasks a0.boxes a0.turn a0.idle a0.out) fun r3 =>
      selm r3 (fun y4 =>
      some true) (fun z5 =>
      some z5))) : Option (Bool)) := by kernel_rfl
    exact fn_le' (sig := s24000) (p := p24000) (by kernel_rfl) (by kernel_rfl) rfl rfl rfl rfl rfl (e.trans h)

theorem spec_l6Open_le (a0 : List Int) : Tv.Le
  ((bif (decide (2000 < (a0.length : Int))) then
  bnd (cutL a0 0 2000) fun l1 =>
  some (l1, 0)
  else
  some (a0, 0)) : Option (List Int × Int))
  (spec_l6Open a0) := by
  exact fun r h => by
    have e : runC (phi Tb GT sg) Tb GT p100.code (startAT p100 (mkST p100.ins [.sl .share .u8 a0] p100.bins [])) (finT p100 s100) = (
      (bif (decide (2000 < (a0.length : Int))) then
      bnd (cutL a0 0 2000) fun l1 =>
      some (l1, 0)
      else
      some (a0, 0)) : Option (List Int × Int)) := by kernel_rfl
    exact fn_le' (sig := s100) (p := p100) (by kernel_rfl) (by kernel_rfl) rfl rfl rfl rfl rfl (e.trans h)

theorem spec_l92Wrong_le (a0b : List Int) (a0p : Int) : Tv.Le
  (Go.Vs.both (α := Prg × List Int × Int)
  (bnd (spec_l92Program_p a0b a0p ([] : List Ent)) fun r1 =>
  bnd (spec_l6Rd_pick 30 r1.2.2.1 r1.2.2.2.1) fun r2 =>
  (bif (decide (r2.1 = 0)) then
  bnd (spec_l6Rd_pick 2 r2.2.1 r2.2.2) fun r3 =>
  bnd (geti ([0, 5] : List Int) r3.1) fun e4 =>
  bnd (arApp r1.2.2.2.2 .int r1.1.id r1.1.n ([e4] : List Int)) fun B5 =>
  bnd (arView B5 .int (some (List.length r1.2.2.2.2))) fun l6 =>
  bnd (arView B5 .stmsH r1.2.1.id) fun l7 =>
  some (⟨l6, l7⟩, r3.2.1, r3.2.2)
  else
  (bif (decide (r2.1 = 1)) then
  bnd (spec_l91Leaf r2.2.1 r2.2.2) fun r8 =>
  bnd (arApp (arPush r1.2.2.2.2 .stm ([⟨4, 0, ((r1.1.n : Nat) : Int), ⟨r8.1, r8.2.1, r8.2.2.1.2⟩, [], []⟩] : List Stm)) .stmsH r1.2.1.id r1.2.1.n ([⟨(some (List.length r1.2.2.2.2)), 1⟩] : List Hd)) fun B9 =>
  bnd (arView B9 .int r1.1.id) fun l10 =>
  bnd (arView B9 .stmsH (some (List.length (arPush r1.2.2.2.2 .stm ([⟨4, 0, ((r1.1.n : Nat) : Int), ⟨r8.1, r8.2.1, r8.2.2.1.2⟩, [], []⟩] : List Stm))))) fun l11 =>
  some (⟨l10, l11⟩, r8.2.2.2.1, r8.2.2.2.2)
  else
  (bif (decide (r2.1 = 2)) then
  bnd (arView (arPush r1.2.2.2.2 .stmsH ([] : List Hd)) .int r1.1.id) fun l12 =>
  bnd (arView (arPush r1.2.2.2.2 .stmsH ([] : List Hd)) .stmsH (some (List.length r1.2.2.2.2))) fun l13 =>
  some (⟨l12, l13⟩, r2.2.1, r2.2.2)
  else
  (bif (decide (r2.1 = 3)) then
  bnd (idxN r1.2.1.n 0) fun i14 =>
  bnd (arRow r1.2.2.2.2 .stmsH r1.2.1.id i14) fun e15 =>
  bnd (idxN r1.2.1.n 0) fun i16 =>
  bnd (arRow r1.2.2.2.2 .stmsH r1.2.1.id i16) fun e17 =>
  bnd (idxN r1.2.1.n 0) fun i18 =>
  bnd (arRow r1.2.2.2.2 .stmsH r1.2.1.id i18) fun e19 =>
  bnd (arApp r1.2.2.2.2 .stmsH r1.2.1.id r1.2.1.n ([e15, e17, e19] : List Hd)) fun B20 =>
  bnd (arView B20 .int r1.1.id) fun l21 =>
  bnd (arView B20 .stmsH (some (List.length r1.2.2.2.2))) fun l22 =>
  some (⟨l21, l22⟩, r2.2.1, r2.2.2)
  else
  (bif (decide (r2.1 = 4)) then
  bnd (idxN r1.2.1.n 0) fun i23 =>
  bnd (arRow r1.2.2.2.2 .stmsH r1.2.1.id i23) fun e24 =>
  bnd (arApp r1.2.2.2.2 .stm e24.id e24.n ([⟨9, 0, 0, ⟨0, 0, []⟩, [], []⟩] : List Stm)) fun B25 =>
  bnd (idxN r1.2.1.n 0) fun i26 =>
  bnd (arRow B25 .stmsH r1.2.1.id i26) fun e27 =>
  bnd (arView (arSet B25 .stmsH r1.2.1.id i26 (⟨(some (List.length r1.2.2.2.2)), (e24.n + List.length ([⟨9, 0, 0, ⟨0, 0, []⟩, [], []⟩] : List Stm))⟩ : Hd)) .int r1.1.id) fun l28 =>
  bnd (arView (arSet B25 .stmsH r1.2.1.id i26 (⟨(some (List.length r1.2.2.2.2)), (e24.n + List.length ([⟨9, 0, 0, ⟨0, 0, []⟩, [], []⟩] : List Stm))⟩ : Hd)) .stmsH r1.2.1.id) fun l29 =>
  some (⟨l28, l29⟩, r2.2.1, r2.2.2)
  else
  bnd (arView r1.2.2.2.2 .int r1.1.id) fun l30 =>
  bnd (arView r1.2.2.2.2 .stmsH r1.2.1.id) fun l31 =>
  some (⟨l30, l31⟩, r2.2.1, r2.2.2)))))))
  (bnd (spec_l92Program_p a0b a0p ([] : List Ent)) fun r32 =>
  bnd (spec_l6Rd_pick 30 r32.2.2.1 r32.2.2.2.1) fun r33 =>
  (bif (decide (r33.1 = 0)) then
  bnd (spec_l6Rd_pick 2 r33.2.1 r33.2.2) fun r34 =>
  bnd (geti ([0, 5] : List Int) r34.1) fun e35 =>
  bnd (arApp r32.2.2.2.2 .int r32.1.id r32.1.n ([e35] : List Int)) fun B36 =>
  bnd (arView B36 .int (some (List.length r32.2.2.2.2))) fun l37 =>
  bnd (arView B36 .stmsH r32.2.1.id) fun l38 =>
  some (⟨l37, l38⟩, r34.2.1, r34.2.2)
  else
  (bif (decide (r33.1 = 1)) then
  bnd (spec_l91Leaf r33.2.1 r33.2.2) fun r39 =>
  bnd (arApp (arPush r32.2.2.2.2 .stm ([⟨4, 0, ((r32.1.n : Nat) : Int), ⟨r39.1, r39.2.1, r39.2.2.1.2⟩, [], []⟩] : List Stm)) .stmsH r32.2.1.id r32.2.1.n ([⟨(some (List.length r32.2.2.2.2)), 1⟩] : List Hd)) fun B40 =>
  bnd (arView B40 .int r32.1.id) fun l41 =>
  bnd (arView B40 .stmsH (some (List.length (arPush r32.2.2.2.2 .stm ([⟨4, 0, ((r32.1.n : Nat) : Int), ⟨r39.1, r39.2.1, r39.2.2.1.2⟩, [], []⟩] : List Stm))))) fun l42 =>
  some (⟨l41, l42⟩, r39.2.2.2.1, r39.2.2.2.2)
  else
  (bif (decide (r33.1 = 2)) then
  bnd (arView (arPush r32.2.2.2.2 .stmsH ([] : List Hd)) .int r32.1.id) fun l43 =>
  bnd (arView (arPush r32.2.2.2.2 .stmsH ([] : List Hd)) .stmsH (some (List.length r32.2.2.2.2))) fun l44 =>
  some (⟨l43, l44⟩, r33.2.1, r33.2.2)
  else
  (bif (decide (r33.1 = 3)) then
  bnd (idxN r32.2.1.n 0) fun i45 =>
  bnd (arRow r32.2.2.2.2 .stmsH r32.2.1.id i45) fun e46 =>
  bnd (idxN r32.2.1.n 0) fun i47 =>
  bnd (arRow r32.2.2.2.2 .stmsH r32.2.1.id i47) fun e48 =>
  bnd (idxN r32.2.1.n 0) fun i49 =>
  bnd (arRow r32.2.2.2.2 .stmsH r32.2.1.id i49) fun e50 =>
  bnd (arApp r32.2.2.2.2 .stmsH r32.2.1.id r32.2.1.n ([e46, e48, e50] : List Hd)) fun B51 =>
  bnd (arView B51 .int r32.1.id) fun l52 =>
  bnd (arView B51 .stmsH (some (List.length r32.2.2.2.2))) fun l53 =>
  some (⟨l52, l53⟩, r33.2.1, r33.2.2)
  else
  (bif (decide (r33.1 = 4)) then
  bnd (idxN r32.2.1.n 0) fun i54 =>
  bnd (arRow r32.2.2.2.2 .stmsH r32.2.1.id i54) fun e55 =>
  bnd (arApp r32.2.2.2.2 .stm e55.id e55.n ([⟨0, 0, 0, ⟨0, 0, []⟩, [], []⟩] : List Stm)) fun B56 =>
  bnd (idxN r32.2.1.n 0) fun i57 =>
  bnd (arRow B56 .stmsH r32.2.1.id i57) fun e58 =>
  bnd (idxN (e55.n + List.length ([⟨0, 0, 0, ⟨0, 0, []⟩, [], []⟩] : List Stm)) ((e55.n : Nat) : Int)) fun i59 =>
  bnd (arRow (arSet B56 .stmsH r32.2.1.id i57 (⟨(some (List.length r32.2.2.2.2)), (e55.n + List.length ([⟨0, 0, 0, ⟨0, 0, []⟩, [], []⟩] : List Stm))⟩ : Hd)) .stm (some (List.length r32.2.2.2.2)) i59) fun e60 =>
  bnd (arView (arSet (arSet B56 .stmsH r32.2.1.id i57 (⟨(some (List.length r32.2.2.2.2)), (e55.n + List.length ([⟨0, 0, 0, ⟨0, 0, []⟩, [], []⟩] : List Stm))⟩ : Hd)) .stm (some (List.length r32.2.2.2.2)) i59 (⟨9, 0, 0, ⟨0, 0, []⟩, [], []⟩ : Stm)) .int r32.1.id) fun l61 =>
  bnd (arView (arSet (arSet B56 .stmsH r32.2.1.id i57 (⟨(some (List.length r32.2.2.2.2)), (e55.n + List.length ([⟨0, 0, 0, ⟨0, 0, []⟩, [], []⟩] : List Stm))⟩ : Hd)) .stm (some (List.length r32.2.2.2.2)) i59 (⟨9, 0, 0, ⟨0, 0, []⟩, [], []⟩ : Stm)) .stmsH r32.2.1.id) fun l62 =>
  some (⟨l61, l62⟩, r33.2.1, r33.2.2)
  else
  bnd (arView r32.2.2.2.2 .int r32.1.id) fun l63 =>
  bnd (arView r32.2.2.2.2 .stmsH r32.2.1.id) fun l64 =>
  some (⟨l63, l64⟩, r33.2.1, r33.2.2))))))) : Option (Prg × List Int × Int))
  (spec_l92Wrong a0b a0p) := by
  exact fun r h => by
    have e1 : runC (phi Tb GT sg) Tb GT p22500.code (startAT p22500 (mkST p22500.ins [.bp 0 0] p22500.bins [.var [.sl .share .u8 a0b, .int .i64 a0p]])) (finT p22500 s22500) = (
      bnd (spec_l92Program_p a0b a0p ([] : List Ent)) fun r1 =>
      bnd (spec_l6Rd_pick 30 r1.2.2.1 r1.2.2.2.1) fun r2 =>
      (bif (decide (r2.1 = 0)) then
      bnd (spec_l6Rd_pick 2 r2.2.1 r2.2.2) fun r3 =>
      bnd (geti ([0, 5] : List Int) r3.1) fun e4 =>
      bnd (arApp r1.2.2.2.2 .int r1.1.id r1.1.n ([e4] : List Int)) fun B5 =>
      bnd (arView B5 .int (some (List.length r1.2.2.2.2))) fun l6 =>
      bnd (arView B5 .stmsH r1.2.1.id) fun l7 =>
      some (⟨l6, l7⟩, r3.2.1, r3.2.2)
      else
      (bif (decide (r2.1 = 1)) then
      bnd (spec_l91Leaf r2.2.1 r2.2.2) fun r8 =>
      bnd (arApp (arPush r1.2.2.2.2 .stm ([⟨4, 0, ((r1.1.n : Nat) : Int), ⟨r8.1, r8.2.1, r8.2.2.1.2⟩, [], []⟩] : List Stm)) .stmsH r1.2.1.id r1.2.1.n ([⟨(some (List.length r1.2.2.2.2)), 1⟩] : List Hd)) fun B9 =>
      bnd (arView B9 .int r1.1.id) fun l10 =>
      bnd (arView B9 .stmsH (some (List.length (arPush r1.2.2.2.2 .stm ([⟨4, 0, ((r1.1.n : Nat) : Int), ⟨r8.1, r8.2.1, r8.2.2.1.2⟩, [], []⟩] : List Stm))))) fun l11 =>
      some (⟨l10, l11⟩, r8.2.2.2.1, r8.2.2.2.2)
      else
      (bif (decide (r2.1 = 2)) then
      bnd (arView (arPush r1.2.2.2.2 .stmsH ([] : List Hd)) .int r1.1.id) fun l12 =>
      bnd (arView (arPush r1.2.2.2.2 .stmsH ([] : List Hd)) .stmsH (some (List.length r1.2.2.2.2))) fun l13 =>
      some (⟨l12, l13⟩, r2.2.1, r2.2.2)
      else
      (bif (decide (r2.1 = 3)) then
      bnd (idxN r1.2.1.n 0) fun i14 =>
      bnd (arRow r1.2.2.2.2 .stmsH r1.2.1.id i14) fun e15 =>
      bnd (idxN r1.2.1.n 0) fun i16 =>
      bnd (arRow r1.2.2.2.2 .stmsH r1.2.1.id i16) fun e17 =>
      bnd (idxN r1.2.1.n 0) fun i18 =>
      bnd (arRow r1.2.2.2.2 .stmsH r1.2.1.id i18) fun e19 =>
      bnd (arApp r1.2.2.2.2 .stmsH r1.2.1.id r1.2.1.n ([e15, e17, e19] : List Hd)) fun B20 =>
      bnd (arView B20 .int r1.1.id) fun l21 =>
      bnd (arView B20 .stmsH (some (List.length r1.2.2.2.2))) fun l22 =>
      some (⟨l21, l22⟩, r2.2.1, r2.2.2)
      else
      (bif (decide (r2.1 = 4)) then
      bnd (idxN r1.2.1.n 0) fun i23 =>
      bnd (arRow r1.2.2.2.2 .stmsH r1.2.1.id i23) fun e24 =>
      bnd (arApp r1.2.2.2.2 .stm e24.id e24.n ([⟨9, 0, 0, ⟨0, 0, []⟩, [], []⟩] : List Stm)) fun B25 =>
      bnd (idxN r1.2.1.n 0) fun i26 =>
      bnd (arRow B25 .stmsH r1.2.1.id i26) fun e27 =>
      bnd (arView (arSet B25 .stmsH r1.2.1.id i26 (⟨(some (List.length r1.2.2.2.2)), (e24.n + List.length ([⟨9, 0, 0, ⟨0, 0, []⟩, [], []⟩] : List Stm))⟩ : Hd)) .int r1.1.id) fun l28 =>
      bnd (arView (arSet B25 .stmsH r1.2.1.id i26 (⟨(some (List.length r1.2.2.2.2)), (e24.n + List.length ([⟨9, 0, 0, ⟨0, 0, []⟩, [], []⟩] : List Stm))⟩ : Hd)) .stmsH r1.2.1.id) fun l29 =>
      some (⟨l28, l29⟩, r2.2.1, r2.2.2)
      else
      bnd (arView r1.2.2.2.2 .int r1.1.id) fun l30 =>
      bnd (arView r1.2.2.2.2 .stmsH r1.2.1.id) fun l31 =>
      some (⟨l30, l31⟩, r2.2.1, r2.2.2)))))) : Option (Prg × List Int × Int)) := by kernel_rfl
    have e2 : runC (phi Tb GT sg) Tb GT p22500.code.other (startAT p22500 (mkST p22500.ins [.bp 0 0] p22500.bins [.var [.sl .share .u8 a0b, .int .i64 a0p]])) (finT p22500 s22500) = (
      bnd (spec_l92Program_p a0b a0p ([] : List Ent)) fun r32 =>
      bnd (spec_l6Rd_pick 30 r32.2.2.1 r32.2.2.2.1) fun r33 =>
      (bif (decide (r33.1 = 0)) then
      bnd (spec_l6Rd_pick 2 r33.2.1 r33.2.2) fun r34 =>
      bnd (geti ([0, 5] : List Int) r34.1) fun e35 =>
      bnd (arApp r32.2.2.2.2 .int r32.1.id r32.1.n ([e35] : List Int)) fun B36 =>
      bnd (arView B36 .int (some (List.length r32.2.2.2.2))) fun l37 =>
      bnd (arView B36 .stmsH r32.2.1.id) fun l38 =>
      some (⟨l37, l38⟩, r34.2.1, r34.2.2)
      else
      (bif (decide (r33.1 = 1)) then
      bnd (spec_l91Leaf r33.2.1 r33.2.2) fun r39 =>
      bnd (arApp (arPush r32.2.2.2.2 .stm ([⟨4, 0, ((r32.1.n : Nat) : Int), ⟨r39.1, r39.2.1, r39.2.2.1.2⟩, [], []⟩] : List Stm)) .stmsH r32.2.1.id r32.2.1.n ([⟨(some (List.length r32.2.2.2.2)), 1⟩] : List Hd)) fun B40 =>
      bnd (arView B40 .int r32.1.id) fun l41 =>
      bnd (arView B40 .stmsH (some (List.length (arPush r32.2.2.2.2 .stm ([⟨4, 0, ((r32.1.n : Nat) : Int), ⟨r39.1, r39.2.1, r39.2.2.1.2⟩, [], []⟩] : List Stm))))) fun l42 =>
      some (⟨l41, l42⟩, r39.2.2.2.1, r39.2.2.2.2)
      else
      (bif (decide (r33.1 = 2)) then
      bnd (arView (arPush r32.2.2.2.2 .stmsH ([] : List Hd)) .int r32.1.id) fun l43 =>
      bnd (arView (arPush r32.2.2.2.2 .stmsH ([] : List Hd)) .stmsH (some (List.length r32.2.2.2.2))) fun l44 =>
      some (⟨l43, l44⟩, r33.2.1, r33.2.2)
      else
      (bif (decide (r33.1 = 3)) then
      bnd (idxN r32.2.1.n 0) fun i45 =>
      bnd (arRow r32.2.2.2.2 .stmsH r32.2.1.id i45) fun e46 =>
      bnd (idxN r32.2.1.n 0) fun i47 =>
      bnd (arRow r32.2.2.2.2 .stmsH r32.2.1.id i47) fun e48 =>
      bnd (idxN r32.2.1.n 0) fun i49 =>
      bnd (arRow r32.2.2.2.2 .stmsH r32.2.1.id i49) fun e50 =>
      bnd (arApp r32.2.2.2.2 .stmsH r32.2.1.id r32.2.1.n ([e46, e48, e50] : List Hd)) fun B51 =>
      bnd (arView B51 .int r32.1.id) fun l52 =>
      bnd (arView B51 .stmsH (some (List.length r32.2.2.2.2))) fun l53 =>
      some (⟨l52, l53⟩, r33.2.1, r33.2.2)
      else
      (bif (decide (r33.1 = 4)) then
      bnd (idxN r32.2.1.n 0) fun i54 =>
      bnd (arRow r32.2.2.2.2 .stmsH r32.2.1.id i54) fun e55 =>
      bnd (arApp r32.2.2.2.2 .stm e55.id e55.n ([⟨0, 0, 0, ⟨0, 0, []⟩, [], []⟩] : List Stm)) fun B56 =>
      bnd (idxN r32.2.1.n 0) fun i57 =>
      bnd (arRow B56 .stmsH r32.2.1.id i57) fun e58 =>
      bnd (idxN (e55.n + List.length ([⟨0, 0, 0, ⟨0, 0, []⟩, [], []⟩] : List Stm)) ((e55.n : Nat) : Int)) fun i59 =>
      bnd (arRow (arSet B56 .stmsH r32.2.1.id i57 (⟨(some (List.length r32.2.2.2.2)), (e55.n + List.length ([⟨0, 0, 0, ⟨0, 0, []⟩, [], []⟩] : List Stm))⟩ : Hd)) .stm (some (List.length r32.2.2.2.2)) i59) fun e60 =>
      bnd (arView (arSet (arSet B56 .stmsH r32.2.1.id i57 (⟨(some (List.length r32.2.2.2.2)), (e55.n + List.length ([⟨0, 0, 0, ⟨0, 0, []⟩, [], []⟩] : List Stm))⟩ : Hd)) .stm (some (List.length r32.2.2.2.2)) i59 (⟨9, 0, 0, ⟨0, 0, []⟩, [], []⟩ : Stm)) .int r32.1.id) fun l61 =>
      bnd (arView (arSet (arSet B56 .stmsH r32.2.1.id i57 (⟨(some (List.length r32.2.2.2.2)), (e55.n + List.length ([⟨0, 0, 0, ⟨0, 0, []⟩, [], []⟩] : List Stm))⟩ : Hd)) .stm (some (List.length r32.2.2.2.2)) i59 (⟨9, 0, 0, ⟨0, 0, []⟩, [], []⟩ : Stm)) .stmsH r32.2.1.id) fun l62 =>
      some (⟨l61, l62⟩, r33.2.1, r33.2.2)
      else
      bnd (arView r32.2.2.2.2 .int r32.1.id) fun l63 =>
      bnd (arView r32.2.2.2.2 .stmsH r32.2.1.id) fun l64 =>
      some (⟨l63, l64⟩, r33.2.1, r33.2.2)))))) : Option (Prg × List Int × Int)) := by kernel_rfl
    exact fn_le2' (sig := s22500) (p := p22500) (by kernel_rfl) (by kernel_rfl) rfl rfl rfl rfl (e1.trans (Go.Vs.both_is.1 h).1) (e2.trans (Go.Vs.both_is.1 h).2)

theorem impl_ProgramValid_le (a0 : Prg) : Tv.Le
  (bnd (impl_roomsValid a0.rooms) fun r1 =>
  (bif (!r1) then
  some false
  else
  (bif (decide ((a0.tasks.length : Int) < 1)) then
  some false
  else
  (bif (decide (3 < (a0.tasks.length : Int))) then
  some false
  else
  bnd (impl_ProgramValid_l1 a0.tasks (a0.tasks.length : Int) 0 a0.rooms a0.tasks) fun r2 =>
  selm r2 (fun y3 =>
  some true) (fun z4 =>
  some z4)))) : Option (Bool))
  (impl_ProgramValid a0) := by
  exact fun r h => by
    have e : runC (phi Tb GT sg) Tb GT p22800.code (startAT p22800 (mkST p22800.ins [.agg (rowT .prg a0)] p22800.bins [])) (finT p22800 s22800) = (
      bnd (impl_roomsValid a0.rooms) fun r1 =>
      (bif (!r1) then
      some false
      else
      (bif (decide ((a0.tasks.length : Int) < 1)) then
      some false
      else
      (bif (decide (3 < (a0.tasks.length : Int))) then
      some false
      else
      bnd (impl_ProgramValid_l1 a0.tasks (a0.tasks.length : Int) 0 a0.rooms a0.tasks) fun r2 =>
      selm r2 (fun y3 =>
      some true) (fun z4 =>
      some z4)))) : Option (Bool)) := by kernel_rfl
    exact fn_le' (sig := s22800) (p := p22800) (by kernel_rfl) (by kernel_rfl) rfl rfl rfl rfl rfl (e.trans h)

theorem impl_boxesNew_le (a0 : List Int) : Tv.Le
  (bnd (impl_boxesNew_l1 false [] a0 (a0.length : Int) 0) fun r1 =>
  some r1.2 : Option (List Bx))
  (impl_boxesNew a0) := by
  exact fun r h => by
    have e : runC (phi Tb GT sg) Tb GT p22900.code (startAT p22900 (mkST p22900.ins [.sl .share .int a0] p22900.bins [])) (finT p22900 s22900) = (
      bnd (impl_boxesNew_l1 false [] a0 (a0.length : Int) 0) fun r1 =>
      some r1.2 : Option (List Bx)) := by kernel_rfl
    exact fn_le' (sig := s22900) (p := p22900) (by kernel_rfl) (by kernel_rfl) rfl rfl rfl rfl rfl (e.trans h)

theorem impl_WorldNew_l1_le (t18 : List (List Stm)) (t19 : Int) (t20 : Int) (b101_0b : Bool) (b101_0 : List Tk) (b101_1b : Bool) (b101_1 : List Bx) (b101_2 : Int) (b101_3 : Int) (b101_4b : Bool) (b101_4 : List Int) (b102_0b : Bool) (b102_0 : List Tk) (b102_1 : List Bx) (b102_2 : Int) (b102_3 : Int) (b102_4b : Bool) (b102_4 : List Int) : Tv.Le
  ((bif (decide (t20 < t19)) then
  bnd (geti t18 t20) fun e1 =>
  bnd (impl_TaskNew e1) fun r2 =>
  bnd (appL b102_0 ([r2.1] : List Tk)) fun l3 =>
  impl_WorldNew_l1 t18 t19 (wrap64 (t20 + 1)) b101_0b b101_0 b101_1b b101_1 b101_2 b101_3 b101_4b b101_4 true l3 b102_1 b102_2 b102_3 b102_4b b102_4
  else
  some ((b101_0b, b101_0), (b101_1b, b101_1), b101_2, b101_3, (b101_4b, b101_4), (b102_0b, b102_0), b102_1, b102_2, b102_3, (b102_4b, b102_4))) : Option ((Bool × List Tk) × (Bool × List Bx) × Int × Int × (Bool × List Int) × (Bool × List Tk) × List Bx × Int × Int × (Bool × List Int)))
  (impl_WorldNew_l1 t18 t19 t20 b101_0b b101_0 b101_1b b101_1 b101_2 b101_3 b101_4b b101_4 b102_0b b102_0 b102_1 b102_2 b102_3 b102_4b b102_4) := by
  rewrite [← wrapC_eq]
  exact fun r h => by
    have e : runC (phi Tb GT sg) Tb GT p23001.code ((mkST p23001.ins [.bp 101 0, .bp 102 0, .sl .share .stms t18, .int .i64 t19, .int .i64 t20] p23001.bins [.var [.sl (.own b101_0b) .tk b101_0, .sl (.own b101_1b) .bx b101_1, .int .i64 b101_2, .int .i64 b101_3, .sl (.own b101_4b) .int b101_4], .var [.sl (.own b102_0b) .tk b102_0, .sl .share .bx b102_1, .int .i64 b102_2, .int .i64 b102_3, .sl (.own b102_4b) .int b102_4]])) (finL Tb GT 23001 p23001 s23001) = (
      (bif (decide (t20 < t19)) then
      bnd (geti t18 t20) fun e1 =>
      bnd (impl_TaskNew e1) fun r2 =>
      bnd (appL b102_0 ([r2.1] : List Tk)) fun l3 =>
      impl_WorldNew_l1 t18 t19 (wrapC (t20 + 1)) b101_0b b101_0 b101_1b b101_1 b101_2 b101_3 b101_4b b101_4 true l3 b102_1 b102_2 b102_3 b102_4b b102_4
      else
      some ((b101_0b, b101_0), (b101_1b, b101_1), b101_2, b101_3, (b101_4b, b101_4), (b102_0b, b102_0), b102_1, b102_2, b102_3, (b102_4b, b102_4))) : Option ((Bool × List Tk) × (Bool × List Bx) × Int × Int × (Bool × List Int) × (Bool × List Tk) × List Bx × Int × Int × (Bool × List Int))) := by kernel_rfl
    exact loop_le' (sig := s23001) (p := p23001) (by kernel_rfl) (by kernel_rfl) rfl rfl rfl (e.trans h)

theorem spec_ProgramValid_le (a0 : Prg) : Tv.Le
  (bnd (spec_l12Rooms a0.rooms) fun r1 =>
  (bif (!r1) then
  some false
  else
  bnd (spec_l6In (a0.tasks.length : Int) 1 3) fun r2 =>
  (bif (!r2) then
  some false
  else
  bnd (spec_ProgramValid_l1 0 a0.rooms a0.tasks) fun r3 =>
  selm r3 (fun y4 =>
  some true) (fun z5 =>
  some z5))) : Option (Bool))
  (spec_ProgramValid a0) := by
  exact fun r h => by
    have e : runC (phi Tb GT sg) Tb GT p23300.code (startAT p23300 (mkST p23300.ins [.agg (rowT .prg a0)] p23300.bins [])) (finT p23300 s23300) = (
      bnd (spec_l12Rooms a0.rooms) fun r1 =>
      (bif (!r1) then
      some false
      else
      bnd (spec_l6In (a0.tasks.length : Int) 1 3) fun r2 =>
      (bif (!r2) then
      some false
      else
      bnd (spec_ProgramValid_l1 0 a0.rooms a0.tasks) fun r3 =>
      selm r3 (fun y4 =>
      some true) (fun z5 =>
      some z5))) : Option (Bool)) := by kernel_rfl
    exact fn_le' (sig := s23300) (p := p23300) (by kernel_rfl) (by kernel_rfl) rfl rfl rfl rfl rfl (e.trans h)

theorem spec_l16Empty_le (a0 : List Int) : Tv.Le
  (bnd (spec_l16Empty_l1 a0 true ([] : List Bx) 0) fun r1 =>
  some r1.2 : Option (List Bx))
  (spec_l16Empty a0) := by
  exact fun r h => by
    have e : runC (phi Tb GT sg) Tb GT p23400.code (startAT p23400 (mkST p23400.ins [.sl .share .int a0] p23400.bins [])) (finT p23400 s23400) = (
      bnd (spec_l16Empty_l1 a0 true ([] : List Bx) 0) fun r1 =>
      some r1.2 : Option (List Bx)) := by kernel_rfl
    exact fn_le' (sig := s23400) (p := p23400) (by kernel_rfl) (by kernel_rfl) rfl rfl rfl rfl rfl (e.trans h)

theorem spec_TaskNew_le (a0 : List Stm) : Tv.Le
  (bnd (spec_StmtsValid a0) fun r1 =>
  (bif (!r1) then
  some (⟨[], []⟩, false)
  else
  bnd (spec_l11Copy a0) fun r3 =>
  some (⟨(List.replicate 4 (zeroD .int)), r3⟩, true)) : Option (Tk × Bool))
  (spec_TaskNew a0) := by
  exact fun r h => by
    have e : runC (phi Tb GT sg) Tb GT p9600.code (startAT p9600 (mkST p9600.ins [.sl .share .stm a0] p9600.bins [])) (finT p9600 s9600) = (
      bnd (spec_StmtsValid a0) fun r1 =>
      (bif (!r1) then
      some (⟨[], []⟩, false)
      else
      bnd (spec_l11Copy a0) fun r3 =>
      some (⟨(List.replicate 4 (zeroD .int)), r3⟩, true)) : Option (Tk × Bool)) := by kernel_rfl
    exact fn_le' (sig := s9600) (p := p9600) (by kernel_rfl) (by kernel_rfl) rfl rfl rfl rfl rfl (e.trans h)

theorem spec_WorldNew_l1_le (t5 : Int) (b100_0 : List Int) (b100_1 : List (List Stm)) (b101_0b : Bool) (b101_0 : List Tk) (b101_1b : Bool) (b101_1 : List Bx) (b101_2 : Int) (b101_3 : Int) (b101_4b : Bool) (b101_4 : List Int) (b102_0b : Bool) (b102_0 : List Tk) (b102_1 : List Bx) (b102_2 : Int) (b102_3 : Int) (b102_4b : Bool) (b102_4 : List Int) : Tv.Le
  ((bif (decide (t5 < (b100_1.length : Int))) then
  bnd (geti b100_1 t5) fun e1 =>
  bnd (spec_TaskNew e1) fun r2 =>
  bnd (appL b102_0 ([r2.1] : List Tk)) fun l3 =>
  spec_WorldNew_l1 (wrap64 (t5 + 1)) b100_0 b100_1 b101_0b b101_0 b101_1b b101_1 b101_2 b101_3 b101_4b b101_4 true l3 b102_1 b102_2 b102_3 b102_4b b102_4
  else
  some ((b101_0b, b101_0), (b101_1b, b101_1), b101_2, b101_3, (b101_4b, b101_4), (b102_0b, b102_0), b102_1, b102_2, b102_3, (b102_4b, b102_4))) : Option ((Bool × List Tk) × (Bool × List Bx) × Int × Int × (Bool × List Int) × (Bool × List Tk) × List Bx × Int × Int × (Bool × List Int)))
  (spec_WorldNew_l1 t5 b100_0 b100_1 b101_0b b101_0 b101_1b b101_1 b101_2 b101_3 b101_4b b101_4 b102_0b b102_0 b102_1 b102_2 b102_3 b102_4b b102_4) := by
  rewrite [← wrapC_eq]
  exact fun r h => by
    have e : runC (phi Tb GT sg) Tb GT p23501.code ((mkST p23501.ins [.bp 100 0, .bp 101 0, .bp 102 0, .int .i64 t5] p23501.bins [.var [.sl .share .int b100_0, .sl .share .stms b100_1], .var [.sl (.own b101_0b) .tk b101_0, .sl (.own b101_1b) .bx b101_1, .int .i64 b101_2, .int .i64 b101_3, .sl (.own b101_4b) .int b101_4], .var [.sl (.own b102_0b) .tk b102_0, .sl .share .bx b102_1, .int .i64 b102_2, .int .i64 b102_3, .sl (.own b102_4b) .int b102_4]])) (finL Tb GT 23501 p23501 s23501) = (
      (bif (decide (t5 < (b100_1.length : Int))) then
      bnd (geti b100_1 t5) fun e1 =>
      bnd (spec_TaskNew e1) fun r2 =>
      bnd (appL b102_0 ([r2.1] : List Tk)) fun l3 =>
      spec_WorldNew_l1 (wrapC (t5 + 1)) b100_0 b100_1 b101_0b b101_0 b101_1b b101_1 b101_2 b101_3 b101_4b b101_4 true l3 b102_1 b102_2 b102_3 b102_4b b102_4
      else
      some ((b101_0b, b101_0), (b101_1b, b101_1), b101_2, b101_3, (b101_4b, b101_4), (b102_0b, b102_0), b102_1, b102_2, b102_3, (b102_4b, b102_4))) : Option ((Bool × List Tk) × (Bool × List Bx) × Int × Int × (Bool × List Int) × (Bool × List Tk) × List Bx × Int × Int × (Bool × List Int))) := by kernel_rfl
    exact loop_le' (sig := s23501) (p := p23501) (by kernel_rfl) (by kernel_rfl) rfl rfl rfl (e.trans h)

theorem laws_sameWorld_l1_le (t5 : Int) (b100_0 : List Tk) (b100_1 : List Bx) (b100_2 : Int) (b100_3 : Int) (b100_4 : List Int) (b101_0 : List Tk) (b101_1 : List Bx) (b101_2 : Int) (b101_3 : Int) (b101_4 : List Int) : Tv.Le
  ((bif (decide (t5 < (b100_0.length : Int))) then
  bnd (geti b100_0 t5) fun e1 =>
  bnd (geti b101_0 t5) fun e2 =>
  bnd (laws_sameTask e1 e2) fun r3 =>
  (bif (!r3) then
  some (.inr (false, b100_0, b100_1, b100_2, b100_3, b100_4, b101_0, b101_1, b101_2, b101_3, b101_4))
  else
  laws_sameWorld_l1 (wrap64 (t5 + 1)) b100_0 b100_1 b100_2 b100_3 b100_4 b101_0 b101_1 b101_2 b101_3 b101_4)
  else
  some (.inl (b100_0, b100_1, b100_2, b100_3, b100_4, b101_0, b101_1, b101_2, b101_3, b101_4))) : Option ((List Tk × List Bx × Int × Int × List Int × List Tk × List Bx × Int × Int × List Int) ⊕ (Bool × List Tk × List Bx × Int × Int × List Int × List Tk × List Bx × Int × Int × List Int)))
  (laws_sameWorld_l1 t5 b100_0 b100_1 b100_2 b100_3 b100_4 b101_0 b101_1 b101_2 b101_3 b101_4) := by
  rewrite [← wrapC_eq]
  exact fun r h => by
    have e : runC (phi Tb GT sg) Tb GT p23701.code ((mkST p23701.ins [.bp 100 0, .bp 101 0, .int .i64 t5] p23701.bins [.var [.sl .share .tk b100_0, .sl .share .bx b100_1, .int .i64 b100_2, .int .i64 b100_3, .sl .share .int b100_4], .var [.sl .share .tk b101_0, .sl .share .bx b101_1, .int .i64 b101_2, .int .i64 b101_3, .sl .share .int b101_4]])) (finL Tb GT 23701 p23701 s23701) = (
      (bif (decide (t5 < (b100_0.length : Int))) then
      bnd (geti b100_0 t5) fun e1 =>
      bnd (geti b101_0 t5) fun e2 =>
      bnd (laws_sameTask e1 e2) fun r3 =>
      (bif (!r3) then
      some (.inr (false, b100_0, b100_1, b100_2, b100_3, b100_4, b101_0, b101_1, b101_2, b101_3, b101_4))
      else
      laws_sameWorld_l1 (wrapC (t5 + 1)) b100_0 b100_1 b100_2 b100_3 b100_4 b101_0 b101_1 b101_2 b101_3 b101_4)
      else
      some (.inl (b100_0, b100_1, b100_2, b100_3, b100_4, b101_0, b101_1, b101_2, b101_3, b101_4))) : Option ((List Tk × List Bx × Int × Int × List Int × List Tk × List Bx × Int × Int × List Int) ⊕ (Bool × List Tk × List Bx × Int × Int × List Int × List Tk × List Bx × Int × Int × List Int))) := by kernel_rfl
    exact loop_le' (sig := s23701) (p := p23701) (by kernel_rfl) (by kernel_rfl) rfl rfl rfl (e.trans h)

theorem laws_sameBoxes_le (a0 : List Bx) (a1 : List Bx) : Tv.Le
  ((bif (!decide ((a0.length : Int) = (a1.length : Int))) then
  some false
  else
  bnd (laws_sameBoxes_l1 a0 a1 0) fun r1 =>
  selm r1 (fun y2 =>
  some true) (fun z3 =>
  some z3)) : Option (Bool))
  (laws_sameBoxes a0 a1) := by
  exact fun r h => by
    have e : runC (phi Tb GT sg) Tb GT p23600.code (startAT p23600 (mkST p23600.ins [.sl .share .bx a0, .sl .share .bx a1] p23600.bins [])) (finT p23600 s23600) = (
      (bif (!decide ((a0.length : Int) = (a1.length : Int))) then
      some false
      else
      bnd (laws_sameBoxes_l1 a0 a1 0) fun r1 =>
      selm r1 (fun y2 =>
      some true) (fun z3 =>
      some z3)) : Option (Bool)) := by kernel_rfl
    exact fn_le' (sig := s23600) (p := p23600) (by kernel_rfl) (by kernel_rfl) rfl rfl rfl rfl rfl (e.trans h)

theorem laws_sameInts_le (a0 : List Int) (a1 : List Int) : Tv.Le
  ((bif (!decide ((a0.length : Int) = (a1.length : Int))) then
  some false
  else
  bnd (laws_sameInts_l1 a0 a1 0) fun r1 =>
  selm r1 (fun y2 =>
  some true) (fun z3 =>
  some z3)) : Option (Bool))
  (laws_sameInts a0 a1) := by
  exact fun r h => by
    have e : runC (phi Tb GT sg) Tb GT p9700.code (startAT p9700 (mkST p9700.ins [.sl .share .int a0, .sl .share .int a1] p9700.bins [])) (finT p9700 s9700) = (
      (bif (!decide ((a0.length : Int) = (a1.length : Int))) then
      some false
      else
      bnd (laws_sameInts_l1 a0 a1 0) fun r1 =>
      selm r1 (fun y2 =>
      some true) (fun z3 =>
      some z3)) : Option (Bool)) := by kernel_rfl
    exact fn_le' (sig := s9700) (p := p9700) (by kernel_rfl) (by kernel_rfl) rfl rfl rfl rfl rfl (e.trans h)

theorem impl_StmtsValid_le (a0 : List Stm) : Tv.Le
  (bnd (impl_stmtsValid a0 3) fun r1 =>
  some r1 : Option (Bool))
  (impl_StmtsValid a0) := by
  exact fun r h => by
    have e : runC (phi Tb GT sg) Tb GT p9000.code (startAT p9000 (mkST p9000.ins [.sl .share .stm a0] p9000.bins [])) (finT p9000 s9000) = (
      bnd (impl_stmtsValid a0 3) fun r1 =>
      some r1 : Option (Bool)) := by kernel_rfl
    exact fn_le' (sig := s9000) (p := p9000) (by kernel_rfl) (by kernel_rfl) rfl rfl rfl rfl rfl (e.trans h)

theorem impl_stmtsCopy_le (a0 : List Stm) : Tv.Le
  (bnd (impl_stmtsCopy_l1 false [] a0 (a0.length : Int) 0) fun r1 =>
  some r1.2 : Option (List Stm))
  (impl_stmtsCopy a0) := by
  exact fun r h => by
    have e : runC (phi Tb GT sg) Tb GT p9200.code (startAT p9200 (mkST p9200.ins [.sl .share .stm a0] p9200.bins [])) (finT p9200 s9200) = (
      bnd (impl_stmtsCopy_l1 false [] a0 (a0.length : Int) 0) fun r1 =>
      some r1.2 : Option (List Stm)) := by kernel_rfl
    exact fn_le' (sig := s9200) (p := p9200) (by kernel_rfl) (by kernel_rfl) rfl rfl rfl rfl rfl (e.trans h)

theorem laws_sameStmts_le (a0 : List Stm) (a1 : List Stm) : Tv.Le
  ((bif (!decide ((a0.length : Int) = (a1.length : Int))) then
  some false
  else
  bnd (laws_sameStmts_l1 a0 a1 0) fun r1 =>
  selm r1 (fun y2 =>
  some true) (fun z3 =>
  some z3)) : Option (Bool))
  (laws_sameStmts a0 a1) := by
  exact fun r h => by
    have e : runC (phi Tb GT sg) Tb GT p9900.code (startAT p9900 (mkST p9900.ins [.sl .share .stm a0, .sl .share .stm a1] p9900.bins [])) (finT p9900 s9900) = (
      (bif (!decide ((a0.length : Int) = (a1.length : Int))) then
      some false
      else
      bnd (laws_sameStmts_l1 a0 a1 0) fun r1 =>
      selm r1 (fun y2 =>
      some true) (fun z3 =>
      some z3)) : Option (Bool)) := by kernel_rfl
    exact fn_le' (sig := s9900) (p := p9900) (by kernel_rfl) (by kernel_rfl) rfl rfl rfl rfl rfl (e.trans h)

theorem impl_turnsValid_le (a0 : Int) (a1 : Int) (a2 : Int) (a3 : List Int) : Tv.Le
  ((bif (decide (1 ≤ a0)) then
  (bif (decide (a0 ≤ 3)) then
  (bif (decide (0 ≤ a1)) then
  (bif (decide (a1 < a0)) then
  (bif (decide (0 ≤ a2)) then
  (bif (decide (a2 ≤ a0)) then
  bnd (impl_areWords a3) fun r1 =>
  some r1
  else
  some false)
  else
  some false)
  else
  some false)
  else
  some false)
  else
  some false)
  else
  some false) : Option (Bool))
  (impl_turnsValid a0 a1 a2 a3) := by
  exact fun r h => by
    have e : runC (phi Tb GT sg) Tb GT p23800.code (startAT p23800 (mkST p23800.ins [.int .i64 a0, .int .i64 a1, .int .i64 a2, .sl .share .int a3] p23800.bins [])) (finT p23800 s23800) = (
      (bif (decide (1 ≤ a0)) then
      (bif (decide (a0 ≤ 3)) then
      (bif (decide (0 ≤ a1)) then
      (bif (decide (a1 < a0)) then
      (bif (decide (0 ≤ a2)) then
      (bif (decide (a2 ≤ a0)) then
      bnd (impl_areWords a3) fun r1 =>
      some r1
      else
      some false)
      else
      some false)
      else
      some false)
      else
      some false)
      else
      some false)
      else
      some false) : Option (Bool)) := by kernel_rfl
    exact fn_le' (sig := s23800) (p := p23800) (by kernel_rfl) (by kernel_rfl) rfl rfl rfl rfl rfl (e.trans h)

theorem impl_boxesValid_le (a0 : List Bx) : Tv.Le
  (bnd (impl_boxesValid_l1 a0 a0 (a0.length : Int) 0) fun r1 =>
  selm r1 (fun y2 =>
  some (decide ((y2.length : Int) ≤ 3))) (fun z3 =>
  some z3.2) : Option (Bool))
  (impl_boxesValid a0) := by
  exact fun r h => by
    have e : runC (phi Tb GT sg) Tb GT p23900.code (startAT p23900 (mkST p23900.ins [.sl .share .bx a0] p23900.bins [])) (finT p23900 s23900) = (
      bnd (impl_boxesValid_l1 a0 a0 (a0.length : Int) 0) fun r1 =>
      selm r1 (fun y2 =>
      some (decide ((y2.length : Int) ≤ 3))) (fun z3 =>
      some z3.2) : Option (Bool)) := by kernel_rfl
    exact fn_le' (sig := s23900) (p := p23900) (by kernel_rfl) (by kernel_rfl) rfl rfl rfl rfl rfl (e.trans h)

theorem impl_taskValid_le (a0 : Tk) (a1 : Int) : Tv.Le
  ((bif (!decide ((a0.vars.length : Int) = 4)) then
  some false
  else
  bnd (impl_areWords a0.vars) fun r1 =>
  (bif (!r1) then
  some false
  else
  bnd (impl_taskValid_l1 a1 (a0.rest.length : Int) 0 a0.vars a0.rest) fun r2 =>
  selm r2 (fun y3 =>
  some true) (fun z4 =>
  some z4))) : Option (Bool))
  (impl_taskValid a0 a1) := by
  exact fun r h => by
    have e : runC (phi Tb GT sg) Tb GT p5500.code (startAT p5500 (mkST p5500.ins [.agg (rowT .tk a0), .int .i64 a1] p5500.bins [])) (finT p5500 s5500) = (
      (bif (!decide ((a0.vars.length : Int) = 4)) then
      some false
      else
      bnd (impl_areWords a0.vars) fun r1 =>
      (bif (!r1) then
      some false
      else
      bnd (impl_taskValid_l1 a1 (a0.rest.length : Int) 0 a0.vars a0.rest) fun r2 =>
      selm r2 (fun y3 =>
      some true) (fun z4 =>
      some z4))) : Option (Bool)) := by kernel_rfl
    exact fn_le' (sig := s5500) (p := p5500) (by kernel_rfl) (by kernel_rfl) rfl rfl rfl rfl rfl (e.trans h)

theorem impl_WorldValid_l1_le (t23 : List Tk) (t24 : Int) (t25 : Int) (b100_0 : List Tk) (b100_1 : List Bx) (b100_2 : Int) (b100_3 : Int) (b100_4 : List Int) : Tv.Le
  ((bif (decide (t25 < t24)) then
  bnd (geti t23 t25) fun e1 =>
  bnd (impl_taskValid e1 (b100_1.length : Int)) fun r2 =>
  (bif (!r2) then
  some (.inr false)
  else
  impl_WorldValid_l1 t23 t24 (wrap64 (t25 + 1)) b100_0 b100_1 b100_2 b100_3 b100_4)
  else
  some (.inl ())) : Option (Unit ⊕ Bool))
  (impl_WorldValid_l1 t23 t24 t25 b100_0 b100_1 b100_2 b100_3 b100_4) := by
  rewrite [← wrapC_eq]
  exact fun r h => by
    have e : runC (phi Tb GT sg) Tb GT p24001.code ((mkST p24001.ins [.bp 100 0, .sl .share .tk t23, .int .i64 t24, .int .i64 t25] p24001.bins [.var [.sl .share .tk b100_0, .sl .share .bx b100_1, .int .i64 b100_2, .int .i64 b100_3, .sl .share .int b100_4]])) (finL Tb GT 24001 p24001 s24001) = (
      (bif (decide (t25 < t24)) then
      bnd (geti t23 t25) fun e1 =>
      bnd (impl_taskValid e1 (b100_1.length : Int)) fun r2 =>
      (bif (!r2) then
      some (.inr false)
      else
      impl_WorldValid_l1 t23 t24 (wrapC (t25 + 1)) b100_0 b100_1 b100_2 b100_3 b100_4)
      else
      some (.inl ())) : Option (Unit ⊕ Bool)) := by kernel_rfl
    exact loop_le' (sig := s24001) (p := p24001) (by kernel_rfl) (by kernel_rfl) rfl rfl rfl (e.trans h)

theorem spec_l92Program_p_le (a0b : List Int) (a0p : Int) (A : List Ent) : Tv.Le
  (bnd (spec_l92Rooms_p a0b a0p A) fun r1 =>
  bnd (spec_l6Rd_pick 3 r1.2.1 r1.2.2.1) fun r2 =>
  bnd (spec_l92Program_p_l1 (wrap64 (1 + r2.1)) 0 r2.2.1 r2.2.2 (⟨none, 0⟩ : Hd) (⟨none, 0⟩ : Hd) r1.1 (⟨(some (List.length r1.2.2.2)), 0⟩ : Hd) (arPush r1.2.2.2 .stmsH ([] : List Hd))) fun r3 =>
  bnd (spec_l6Rd_pick 16 r3.1 r3.2.1) fun r4 =>
  (bif (decide (r4.1 = 0)) then
  bnd (spec_l92Endless r4.2.1 r4.2.2) fun r5 =>
  bnd (idxN r3.2.2.2.2.2.1.n 0) fun i6 =>
  bnd (arRow (arPush r3.2.2.2.2.2.2 .stm ([⟨r5.1.kind, r5.1.var, r5.1.box, ⟨r5.1.e.op, r5.1.e.n, r5.1.e.args⟩, r5.1.body, r5.1.els⟩] : List Stm)) .stmsH r3.2.2.2.2.2.1.id i6) fun e7 =>
  some (r3.2.2.2.2.1, r3.2.2.2.2.2.1, r5.2.1, r5.2.2, (arSet (arPush r3.2.2.2.2.2.2 .stm ([⟨r5.1.kind, r5.1.var, r5.1.box, ⟨r5.1.e.op, r5.1.e.n, r5.1.e.args⟩, r5.1.body, r5.1.els⟩] : List Stm)) .stmsH r3.2.2.2.2.2.1.id i6 (⟨(some (List.length r3.2.2.2.2.2.2)), 1⟩ : Hd)))
  else
  some (r3.2.2.2.2.1, r3.2.2.2.2.2.1, r4.2.1, r4.2.2, r3.2.2.2.2.2.2)) : Option (Hd × Hd × List Int × Int × List Ent))
  (spec_l92Program_p a0b a0p A) := by
  rewrite [← wrapC_eq]
  exact fun r h => by
    have e : runC (phi Tb GT sg) Tb GT p39900.code (startAT p39900 (mkST p39900.ins [.bp 0 0] p39900.bins [.var [.sl .share .u8 a0b, .int .i64 a0p], .ar A])) (finT p39900 s39900) = (
      bnd (spec_l92Rooms_p a0b a0p A) fun r1 =>
      bnd (spec_l6Rd_pick 3 r1.2.1 r1.2.2.1) fun r2 =>
      bnd (spec_l92Program_p_l1 (wrapC (1 + r2.1)) 0 r2.2.1 r2.2.2 (⟨none, 0⟩ : Hd) (⟨none, 0⟩ : Hd) r1.1 (⟨(some (List.length r1.2.2.2)), 0⟩ : Hd) (arPush r1.2.2.2 .stmsH ([] : List Hd))) fun r3 =>
      bnd (spec_l6Rd_pick 16 r3.1 r3.2.1) fun r4 =>
      (bif (decide (r4.1 = 0)) then
      bnd (spec_l92Endless r4.2.1 r4.2.2) fun r5 =>
      bnd (idxN r3.2.2.2.2.2.1.n 0) fun i6 =>
      bnd (arRow (arPush r3.2.2.2.2.2.2 .stm ([⟨r5.1.kind, r5.1.var, r5.1.box, ⟨r5.1.e.op, r5.1.e.n, r5.1.e.args⟩, r5.1.body, r5.1.els⟩] : List Stm)) .stmsH r3.2.2.2.2.2.1.id i6) fun e7 =>
      some (r3.2.2.2.2.1, r3.2.2.2.2.2.1, r5.2.1, r5.2.2, (arSet (arPush r3.2.2.2.2.2.2 .stm ([⟨r5.1.kind, r5.1.var, r5.1.box, ⟨r5.1.e.op, r5.1.e.n, r5.1.e.args⟩, r5.1.body, r5.1.els⟩] : List Stm)) .stmsH r3.2.2.2.2.2.1.id i6 (⟨(some (List.length r3.2.2.2.2.2.2)), 1⟩ : Hd)))
      else
      some (r3.2.2.2.2.1, r3.2.2.2.2.2.1, r4.2.1, r4.2.2, r3.2.2.2.2.2.2)) : Option (Hd × Hd × List Int × Int × List Ent)) := by kernel_rfl
    exact fn_le' (sig := s39900) (p := p39900) (by kernel_rfl) (by kernel_rfl) rfl rfl rfl rfl rfl (e.trans h)

theorem spec_l6Rd_pick_le (a1 : Int) (a0b : List Int) (a0p : Int) : Tv.Le
  ((bif (decide (a1 < 1)) then
  some (0, a0b, (wrap64 (a0p + 1)))
  else
  (bif (decide ((a0b.length : Int) = 0)) then
  some (0, a0b, (wrap64 (a0p + 1)))
  else
  (bif (decide ((wrap64 ((wrap64 (a0p + 1)) - 1)) < (a0b.length : Int))) then
  bnd (geti a0b (wrap64 ((wrap64 (a0p + 1)) - 1))) fun e1 =>
  bnd (remI (wrap64 (e1)) a1) fun n2 =>
  some (n2, a0b, (wrap64 (a0p + 1)))
  else
  bnd (remI (wrap64 ((wrap64 (a0p + 1)) - 1)) (a0b.length : Int)) fun n3 =>
  bnd (geti a0b n3) fun e4 =>
  bnd (remI (wrap64 ((wrap64 ((wrap64 ((wrap64 (a0p + 1)) - 1)) * 7)) + 3)) (a0b.length : Int)) fun n5 =>
  bnd (geti a0b n5) fun e6 =>
  bnd (quoI .i64 (wrap64 ((wrap64 (a0p + 1)) - 1)) (a0b.length : Int)) fun n7 =>
  bnd (remI (bits .xor .i64 (wrap64 ((wrap64 ((wrap64 ((wrap64 ((wrap64 (e4)) * 131)) + (wrap64 ((wrap64 (e6)) * 1117)))) + (wrap64 ((wrap64 ((wrap64 (a0p + 1)) - 1)) * 29)))) + (wrap64 (n7 * 53)))) (wrap64 (Int.tdiv (wrap64 ((wrap64 ((wrap64 ((wrap64 ((wrap64 (e4)) * 131)) + (wrap64 ((wrap64 (e6)) * 1117)))) + (wrap64 ((wrap64 ((wrap64 (a0p + 1)) - 1)) * 29)))) + (wrap64 (n7 * 53)))) 64))) a1) fun n8 =>
  some (n8, a0b, (wrap64 (a0p + 1)))))) : Option (Int × List Int × Int))
  (spec_l6Rd_pick a1 a0b a0p) := by
  rewrite [← wrapC_eq]
  exact fun r h => by
    have e : runC (phi Tb GT sg) Tb GT p200.code (startAT p200 (mkST p200.ins [.bp 0 0, .int .i64 a1] p200.bins [.var [.sl .share .u8 a0b, .int .i64 a0p]])) (finT p200 s200) = (
      (bif (decide (a1 < 1)) then
      some (0, a0b, (wrapC (a0p + 1)))
      else
      (bif (decide ((a0b.length : Int) = 0)) then
      some (0, a0b, (wrapC (a0p + 1)))
      else
      (bif (decide ((wrapC ((wrapC (a0p + 1)) - 1)) < (a0b.length : Int))) then
      bnd (geti a0b (wrapC ((wrapC (a0p + 1)) - 1))) fun e1 =>
      bnd (remI (wrapC (e1)) a1) fun n2 =>
      some (n2, a0b, (wrapC (a0p + 1)))
      else
      bnd (remI (wrapC ((wrapC (a0p + 1)) - 1)) (a0b.length : Int)) fun n3 =>
      bnd (geti a0b n3) fun e4 =>
      bnd (remI (wrapC ((wrapC ((wrapC ((wrapC (a0p + 1)) - 1)) * 7)) + 3)) (a0b.length : Int)) fun n5 =>
      bnd (geti a0b n5) fun e6 =>
      bnd (quoI .i64 (wrapC ((wrapC (a0p + 1)) - 1)) (a0b.length : Int)) fun n7 =>
      bnd (remI (bits .xor .i64 (wrapC ((wrapC ((wrapC ((wrapC ((wrapC (e4)) * 131)) + (wrapC ((wrapC (e6)) * 1117)))) + (wrapC ((wrapC ((wrapC (a0p + 1)) - 1)) * 29)))) + (wrapC (n7 * 53)))) (wrapC (Int.tdiv (wrapC ((wrapC ((wrapC ((wrapC ((wrapC (e4)) * 131)) + (wrapC ((wrapC (e6)) * 1117)))) + (wrapC ((wrapC ((wrapC (a0p + 1)) - 1)) * 29)))) + (wrapC (n7 * 53)))) 64))) a1) fun n8 =>
      some (n8, a0b, (wrapC (a0p + 1)))))) : Option (Int × List Int × Int)) := by kernel_rfl
    exact fn_le' (sig := s200) (p := p200) (by kernel_rfl) (by kernel_rfl) rfl rfl rfl rfl rfl (e.trans h)

theorem spec_l91Leaf_le (a0b : List Int) (a0p : Int) : Tv.Le
  (bnd (spec_l6Rd_pick 4 a0b a0p) fun r1 =>
  (bif (decide (r1.1 = 0)) then
  bnd (spec_l6Rd_pick 4 r1.2.1 r1.2.2) fun r2 =>
  bnd (spec_l4Leaf 0 r2.1) fun r3 =>
  some (r3.1, r3.2.1, ((Md.dem (Md.dem (Md.dem r3.2.2.1))), r3.2.2.2), r2.2.1, r2.2.2)
  else
  (bif (decide (r1.1 = 1)) then
  bnd (spec_l6Rd_pick 8 r1.2.1 r1.2.2) fun r4 =>
  bnd (geti ([5, 31, 32, 100, 2047, 2048, 65536, 99999] : List Int) r4.1) fun e5 =>
  bnd (spec_l4Leaf 0 e5) fun r6 =>
  some (r6.1, r6.2.1, ((Md.dem (Md.dem (Md.dem r6.2.2.1))), r6.2.2.2), r4.2.1, r4.2.2)
  else
  bnd (spec_l6Rd_pick 4 r1.2.1 r1.2.2) fun r7 =>
  bnd (spec_l4Leaf 13 r7.1) fun r8 =>
  some (r8.1, r8.2.1, ((Md.dem (Md.dem (Md.dem r8.2.2.1))), r8.2.2.2), r7.2.1, r7.2.2))) : Option (Int × Int × (Md × List Exp) × List Int × Int))
  (spec_l91Leaf a0b a0p) := by
  exact fun r h => by
    have e : runC (phi Tb GT sg) Tb GT p400.code (startAT p400 (mkST p400.ins [.bp 0 0] p400.bins [.var [.sl .share .u8 a0b, .int .i64 a0p]])) (finT p400 s400) = (
      bnd (spec_l6Rd_pick 4 a0b a0p) fun r1 =>
      (bif (decide (r1.1 = 0)) then
      bnd (spec_l6Rd_pick 4 r1.2.1 r1.2.2) fun r2 =>
      bnd (spec_l4Leaf 0 r2.1) fun r3 =>
      some (r3.1, r3.2.1, ((Md.dem (Md.dem (Md.dem r3.2.2.1))), r3.2.2.2), r2.2.1, r2.2.2)
      else
      (bif (decide (r1.1 = 1)) then
      bnd (spec_l6Rd_pick 8 r1.2.1 r1.2.2) fun r4 =>
      bnd (geti ([5, 31, 32, 100, 2047, 2048, 65536, 99999] : List Int) r4.1) fun e5 =>
      bnd (spec_l4Leaf 0 e5) fun r6 =>
      some (r6.1, r6.2.1, ((Md.dem (Md.dem (Md.dem r6.2.2.1))), r6.2.2.2), r4.2.1, r4.2.2)
      else
      bnd (spec_l6Rd_pick 4 r1.2.1 r1.2.2) fun r7 =>
      bnd (spec_l4Leaf 13 r7.1) fun r8 =>
      some (r8.1, r8.2.1, ((Md.dem (Md.dem (Md.dem r8.2.2.1))), r8.2.2.2), r7.2.1, r7.2.2))) : Option (Int × Int × (Md × List Exp) × List Int × Int)) := by kernel_rfl
    exact fn_le' (sig := s400) (p := p400) (by kernel_rfl) (by kernel_rfl) rfl rfl rfl rfl rfl (e.trans h)

theorem impl_roomsValid_le (a0 : List Int) : Tv.Le
  (bnd (impl_roomsValid_l1 a0 a0 (a0.length : Int) 0) fun r1 =>
  selm r1 (fun y2 =>
  some (decide ((y2.length : Int) ≤ 3))) (fun z3 =>
  some z3.2) : Option (Bool))
  (impl_roomsValid a0) := by
  exact fun r h => by
    have e : runC (phi Tb GT sg) Tb GT p22700.code (startAT p22700 (mkST p22700.ins [.sl .share .int a0] p22700.bins [])) (finT p22700 s22700) = (
      bnd (impl_roomsValid_l1 a0 a0 (a0.length : Int) 0) fun r1 =>
      selm r1 (fun y2 =>
      some (decide ((y2.length : Int) ≤ 3))) (fun z3 =>
      some z3.2) : Option (Bool)) := by kernel_rfl
    exact fn_le' (sig := s22700) (p := p22700) (by kernel_rfl) (by kernel_rfl) rfl rfl rfl rfl rfl (e.trans h)

theorem impl_stmtsValid_le (a0 : List Stm) (a1 : Int) : Tv.Le
  (bnd (impl_blockValid a0 a1 0 0) fun r1 =>
  some r1.1 : Option (Bool))
  (impl_stmtsValid a0 a1) := by
  exact fun r h => by
    have e : runC (phi Tb GT sg) Tb GT p5400.code (startAT p5400 (mkST p5400.ins [.sl .share .stm a0, .int .i64 a1] p5400.bins [])) (finT p5400 s5400) = (
      bnd (impl_blockValid a0 a1 0 0) fun r1 =>
      some r1.1 : Option (Bool)) := by kernel_rfl
    exact fn_le' (sig := s5400) (p := p5400) (by kernel_rfl) (by kernel_rfl) rfl rfl rfl rfl rfl (e.trans h)

theorem impl_ProgramValid_l1_le (t22 : List (List Stm)) (t23 : Int) (t24 : Int) (b100_0 : List Int) (b100_1 : List (List Stm)) : Tv.Le
  ((bif (decide (t24 < t23)) then
  bnd (geti t22 t24) fun e1 =>
  bnd (impl_stmtsValid e1 (b100_0.length : Int)) fun r2 =>
  (bif (!r2) then
  some (.inr false)
  else
  impl_ProgramValid_l1 t22 t23 (wrap64 (t24 + 1)) b100_0 b100_1)
  else
  some (.inl ())) : Option (Unit ⊕ Bool))
  (impl_ProgramValid_l1 t22 t23 t24 b100_0 b100_1) := by
  rewrite [← wrapC_eq]
  exact fun r h => by
    have e : runC (phi Tb GT sg) Tb GT p22801.code ((mkST p22801.ins [.bp 100 0, .sl .share .stms t22, .int .i64 t23, .int .i64 t24] p22801.bins [.var [.sl .share .int b100_0, .sl .share .stms b100_1]])) (finL Tb GT 22801 p22801 s22801) = (
      (bif (decide (t24 < t23)) then
      bnd (geti t22 t24) fun e1 =>
      bnd (impl_stmtsValid e1 (b100_0.length : Int)) fun r2 =>
      (bif (!r2) then
      some (.inr false)
      else
      impl_ProgramValid_l1 t22 t23 (wrapC (t24 + 1)) b100_0 b100_1)
      else
      some (.inl ())) : Option (Unit ⊕ Bool)) := by kernel_rfl
    exact loop_le' (sig := s22801) (p := p22801) (by kernel_rfl) (by kernel_rfl) rfl rfl rfl (e.trans h)

theorem impl_boxesNew_l1_le (t3b : Bool) (t3 : List Bx) (t6 : List Int) (t7 : Int) (t8 : Int) : Tv.Le
  ((bif (decide (t8 < t7)) then
  bnd (geti t6 t8) fun e1 =>
  bnd (appL t3 ([⟨e1, []⟩] : List Bx)) fun l2 =>
  impl_boxesNew_l1 true l2 t6 t7 (wrap64 (t8 + 1))
  else
  some (t3b, t3)) : Option ((Bool × List Bx)))
  (impl_boxesNew_l1 t3b t3 t6 t7 t8) := by
  rewrite [← wrapC_eq]
  exact fun r h => by
    have e : runC (phi Tb GT sg) Tb GT p22901.code ((mkST p22901.ins [.sl (.own t3b) .bx t3, .sl .share .int t6, .int .i64 t7, .int .i64 t8] p22901.bins [])) (finL Tb GT 22901 p22901 s22901) = (
      (bif (decide (t8 < t7)) then
      bnd (geti t6 t8) fun e1 =>
      bnd (appL t3 ([⟨e1, []⟩] : List Bx)) fun l2 =>
      impl_boxesNew_l1 true l2 t6 t7 (wrapC (t8 + 1))
      else
      some (t3b, t3)) : Option ((Bool × List Bx))) := by kernel_rfl
    exact loop_le' (sig := s22901) (p := p22901) (by kernel_rfl) (by kernel_rfl) rfl rfl rfl (e.trans h)

theorem spec_l12Rooms_le (a0 : List Int) : Tv.Le
  (bnd (spec_l12Rooms_l1 a0 0) fun r1 =>
  selm r1 (fun y2 =>
  some (decide ((y2.length : Int) ≤ 3))) (fun z3 =>
  some z3.2) : Option (Bool))
  (spec_l12Rooms a0) := by
  exact fun r h => by
    have e : runC (phi Tb GT sg) Tb GT p23200.code (startAT p23200 (mkST p23200.ins [.sl .share .int a0] p23200.bins [])) (finT p23200 s23200) = (
      bnd (spec_l12Rooms_l1 a0 0) fun r1 =>
      selm r1 (fun y2 =>
      some (decide ((y2.length : Int) ≤ 3))) (fun z3 =>
      some z3.2) : Option (Bool)) := by kernel_rfl
    exact fn_le' (sig := s23200) (p := p23200) (by kernel_rfl) (by kernel_rfl) rfl rfl rfl rfl rfl (e.trans h)

theorem spec_l6In_le (a0 : Int) (a1 : Int) (a2 : Int) : Tv.Le
  ((bif (decide (a1 ≤ a0)) then
  some (decide (a0 ≤ a2))
  else
  some false) : Option (Bool))
  (spec_l6In a0 a1 a2) := by
  exact fun r h => by
    have e : runC (phi Tb GT sg) Tb GT p1600.code (startAT p1600 (mkST p1600.ins [.int .i64 a0, .int .i64 a1, .int .i64 a2] p1600.bins [])) (finT p1600 s1600) = (
      (bif (decide (a1 ≤ a0)) then
      some (decide (a0 ≤ a2))
      else
      some false) : Option (Bool)) := by kernel_rfl
    exact fn_le' (sig := s1600) (p := p1600) (by kernel_rfl) (by kernel_rfl) rfl rfl rfl rfl rfl (e.trans h)

theorem spec_StmtsValid_le (a0 : List Stm) : Tv.Le
  (bnd (spec_l11Blocks a0 3) fun r1 =>
  (bif r1 then
  bnd (spec_l11Count a0) fun r2 =>
  some (decide (r2 ≤ 16))
  else
  some false) : Option (Bool))
  (spec_StmtsValid a0) := by
  exact fun r h => by
    have e : runC (phi Tb GT sg) Tb GT p6300.code (startAT p6300 (mkST p6300.ins [.sl .share .stm a0] p6300.bins [])) (finT p6300 s6300) = (
      bnd (spec_l11Blocks a0 3) fun r1 =>
      (bif r1 then
      bnd (spec_l11Count a0) fun r2 =>
      some (decide (r2 ≤ 16))
      else
      some false) : Option (Bool)) := by kernel_rfl
    exact fn_le' (sig := s6300) (p := p6300) (by kernel_rfl) (by kernel_rfl) rfl rfl rfl rfl rfl (e.trans h)

theorem spec_l12Boxes_le (a0 : List Stm) (a1 : Int) : Tv.Le
  (bnd (spec_l12Boxes_l1 a0 a1 0) fun r1 =>
  selm r1 (fun y2 =>
  some true) (fun z3 =>
  some z3) : Option (Bool))
  (spec_l12Boxes a0 a1) := by
  exact fun r h => by
    have e : runC (phi Tb GT sg) Tb GT p23100.code (startAT p23100 (mkST p23100.ins [.sl .share .stm a0, .int .i64 a1] p23100.bins [])) (finT p23100 s23100) = (
      bnd (spec_l12Boxes_l1 a0 a1 0) fun r1 =>
      selm r1 (fun y2 =>
      some true) (fun z3 =>
      some z3) : Option (Bool)) := by kernel_rfl
    exact fn_le' (sig := s23100) (p := p23100) (by kernel_rfl) (by kernel_rfl) rfl rfl rfl rfl rfl (e.trans h)

theorem spec_ProgramValid_l1_le (t3 : Int) (b100_0 : List Int) (b100_1 : List (List Stm)) : Tv.Le
  ((bif (decide (t3 < (b100_1.length : Int))) then
  bnd (geti b100_1 t3) fun e1 =>
  bnd (spec_StmtsValid e1) fun r2 =>
  (bif (!r2) then
  some (.inr false)
  else
  bnd (geti b100_1 t3) fun e3 =>
  bnd (spec_l12Boxes e3 (b100_0.length : Int)) fun r4 =>
  (bif (!r4) then
  some (.inr false)
  else
  spec_ProgramValid_l1 (wrap64 (t3 + 1)) b100_0 b100_1))
  else
  some (.inl ())) : Option (Unit ⊕ Bool))
  (spec_ProgramValid_l1 t3 b100_0 b100_1) := by
  rewrite [← wrapC_eq]
  exact fun r h => by
    have e : runC (phi Tb GT sg) Tb GT p23301.code ((mkST p23301.ins [.bp 100 0, .int .i64 t3] p23301.bins [.var [.sl .share .int b100_0, .sl .share .stms b100_1]])) (finL Tb GT 23301 p23301 s23301) = (
      (bif (decide (t3 < (b100_1.length : Int))) then
      bnd (geti b100_1 t3) fun e1 =>
      bnd (spec_StmtsValid e1) fun r2 =>
      (bif (!r2) then
      some (.inr false)
      else
      bnd (geti b100_1 t3) fun e3 =>
      bnd (spec_l12Boxes e3 (b100_0.length : Int)) fun r4 =>
      (bif (!r4) then
      some (.inr false)
      else
      spec_ProgramValid_l1 (wrapC (t3 + 1)) b100_0 b100_1))
      else
      some (.inl ())) : Option (Unit ⊕ Bool)) := by kernel_rfl
    exact loop_le' (sig := s23301) (p := p23301) (by kernel_rfl) (by kernel_rfl) rfl rfl rfl (e.trans h)

theorem spec_l16Empty_l1_le (t0 : List Int) (t3b : Bool) (t3 : List Bx) (t4 : Int) : Tv.Le
  ((bif (decide (t4 < (t0.length : Int))) then
  bnd (geti t0 t4) fun e1 =>
  bnd (appL t3 ([⟨e1, ([] : List Int)⟩] : List Bx)) fun l2 =>
  spec_l16Empty_l1 t0 true l2 (wrap64 (t4 + 1))
  else
  some (t3b, t3)) : Option ((Bool × List Bx)))
  (spec_l16Empty_l1 t0 t3b t3 t4) := by
  rewrite [← wrapC_eq]
  exact fun r h => by
    have e : runC (phi Tb GT sg) Tb GT p23401.code ((mkST p23401.ins [.sl .share .int t0, .sl (.own t3b) .bx t3, .int .i64 t4] p23401.bins [])) (finL Tb GT 23401 p23401 s23401) = (
      (bif (decide (t4 < (t0.length : Int))) then
      bnd (geti t0 t4) fun e1 =>
      bnd (appL t3 ([⟨e1, ([] : List Int)⟩] : List Bx)) fun l2 =>
      spec_l16Empty_l1 t0 true l2 (wrapC (t4 + 1))
      else
      some (t3b, t3)) : Option ((Bool × List Bx))) := by kernel_rfl
    exact loop_le' (sig := s23401) (p := p23401) (by kernel_rfl) (by kernel_rfl) rfl rfl rfl (e.trans h)

theorem spec_l11Copy_le (a0 : List Stm) : Tv.Le
  (bnd (spec_l11Copy_l1 a0 true ([] : List Stm) 0) fun r1 =>
  some r1.2 : Option (List Stm))
  (spec_l11Copy a0) := by
  exact fun r h => by
    have e : runC (phi Tb GT sg) Tb GT p9500.code (startAT p9500 (mkST p9500.ins [.sl .share .stm a0] p9500.bins [])) (finT p9500 s9500) = (
      bnd (spec_l11Copy_l1 a0 true ([] : List Stm) 0) fun r1 =>
      some r1.2 : Option (List Stm)) := by kernel_rfl
    exact fn_le' (sig := s9500) (p := p9500) (by kernel_rfl) (by kernel_rfl) rfl rfl rfl rfl rfl (e.trans h)

theorem laws_sameBox_le (a0 : Bx) (a1 : Bx) : Tv.Le
  ((bif (decide (a0.room = a1.room)) then
  bnd (laws_sameInts a0.items a1.items) fun r1 =>
  some r1
  else
  some false) : Option (Bool))
  (laws_sameBox a0 a1) := by
  exact fun r h => by
    have e : runC (phi Tb GT sg) Tb GT p18000.code (startAT p18000 (mkST p18000.ins [.agg (rowT .bx a0), .agg (rowT .bx a1)] p18000.bins [])) (finT p18000 s18000) = (
      (bif (decide (a0.room = a1.room)) then
      bnd (laws_sameInts a0.items a1.items) fun r1 =>
      some r1
      else
      some false) : Option (Bool)) := by kernel_rfl
    exact fn_le' (sig := s18000) (p := p18000) (by kernel_rfl) (by kernel_rfl) rfl rfl rfl rfl rfl (e.trans h)

theorem laws_sameBoxes_l1_le (t0 : List Bx) (t1 : List Bx) (t5 : Int) : Tv.Le
  ((bif (decide (t5 < (t0.length : Int))) then
  bnd (geti t0 t5) fun e1 =>
  bnd (geti t1 t5) fun e2 =>
  bnd (laws_sameBox e1 e2) fun r3 =>
  (bif (!r3) then
  some (.inr false)
  else
  laws_sameBoxes_l1 t0 t1 (wrap64 (t5 + 1)))
  else
  some (.inl ())) : Option (Unit ⊕ Bool))
  (laws_sameBoxes_l1 t0 t1 t5) := by
  rewrite [← wrapC_eq]
  exact fun r h => by
    have e : runC (phi Tb GT sg) Tb GT p23601.code ((mkST p23601.ins [.sl .share .bx t0, .sl .share .bx t1, .int .i64 t5] p23601.bins [])) (finL Tb GT 23601 p23601 s23601) = (
      (bif (decide (t5 < (t0.length : Int))) then
      bnd (geti t0 t5) fun e1 =>
      bnd (geti t1 t5) fun e2 =>
      bnd (laws_sameBox e1 e2) fun r3 =>
      (bif (!r3) then
      some (.inr false)
      else
      laws_sameBoxes_l1 t0 t1 (wrapC (t5 + 1)))
      else
      some (.inl ())) : Option (Unit ⊕ Bool)) := by kernel_rfl
    exact loop_le' (sig := s23601) (p := p23601) (by kernel_rfl) (by kernel_rfl) rfl rfl rfl (e.trans h)

theorem laws_sameInts_l1_le (t0 : List Int) (t1 : List Int) (t5 : Int) : Tv.Le
  ((bif (decide (t5 < (t0.length : Int))) then
  bnd (geti t0 t5) fun e1 =>
  bnd (geti t1 t5) fun e2 =>
  (bif (!decide (e1 = e2)) then
  some (.inr false)
  else
  laws_sameInts_l1 t0 t1 (wrap64 (t5 + 1)))
  else
  some (.inl ())) : Option (Unit ⊕ Bool))
  (laws_sameInts_l1 t0 t1 t5) := by
  rewrite [← wrapC_eq]
  exact fun r h => by
    have e : runC (phi Tb GT sg) Tb GT p9701.code ((mkST p9701.ins [.sl .share .int t0, .sl .share .int t1, .int .i64 t5] p9701.bins [])) (finL Tb GT 9701 p9701 s9701) = (
      (bif (decide (t5 < (t0.length : Int))) then
      bnd (geti t0 t5) fun e1 =>
      bnd (geti t1 t5) fun e2 =>
      (bif (!decide (e1 = e2)) then
      some (.inr false)
      else
      laws_sameInts_l1 t0 t1 (wrapC (t5 + 1)))
      else
      some (.inl ())) : Option (Unit ⊕ Bool)) := by kernel_rfl
    exact loop_le' (sig := s9701) (p := p9701) (by kernel_rfl) (by kernel_rfl) rfl rfl rfl (e.trans h)

theorem impl_exprCopy_le (a0 : Exp) : Tv.Le
  (bnd (impl_exprCopy_l1 a0.args (a0.args.length : Int) 0 0 0 false [] a0.op a0.n false []) fun r1 =>
  some (⟨r1.2.2.2.1, r1.2.2.2.2.1, r1.2.2.2.2.2.2⟩) : Option (Exp))
  (impl_exprCopy a0) := by
  exact fun r h => by
    have e : runC (phi Tb GT sg) Tb GT p9100.code (startAT p9100 (mkST p9100.ins [.agg (rowT .exp a0)] p9100.bins [])) (finT p9100 s9100) = (
      bnd (impl_exprCopy_l1 a0.args (a0.args.length : Int) 0 0 0 false [] a0.op a0.n false []) fun r1 =>
      some (⟨r1.2.2.2.1, r1.2.2.2.2.1, r1.2.2.2.2.2.2⟩) : Option (Exp)) := by kernel_rfl
    exact fn_le' (sig := s9100) (p := p9100) (by kernel_rfl) (by kernel_rfl) rfl rfl rfl rfl rfl (e.trans h)

theorem impl_stmtsCopy_l1_le (t3b : Bool) (t3 : List Stm) (t6 : List Stm) (t7 : Int) (t8 : Int) : Tv.Le
  ((bif (decide (t8 < t7)) then
  bnd (geti t6 t8) fun e1 =>
  bnd (impl_stmtsCopy e1.body) fun r2 =>
  bnd (impl_stmtsCopy e1.els) fun r3 =>
  bnd (impl_exprCopy (⟨e1.e.op, e1.e.n, e1.e.args⟩ : Exp)) fun r4 =>
  bnd (appL t3 ([⟨e1.kind, e1.var, e1.box, ⟨r4.op, r4.n, r4.args⟩, r2, r3⟩] : List Stm)) fun l5 =>
  impl_stmtsCopy_l1 true l5 t6 t7 (wrap64 (t8 + 1))
  else
  some (t3b, t3)) : Option ((Bool × List Stm)))
  (impl_stmtsCopy_l1 t3b t3 t6 t7 t8) := by
  rewrite [← wrapC_eq]
  exact fun r h => by
    have e : runC (phi Tb GT sg) Tb GT p9201.code ((mkST p9201.ins [.sl (.own t3b) .stm t3, .sl .share .stm t6, .int .i64 t7, .int .i64 t8] p9201.bins [])) (finL Tb GT 9201 p9201 s9201) = (
      (bif (decide (t8 < t7)) then
      bnd (geti t6 t8) fun e1 =>
      bnd (impl_stmtsCopy e1.body) fun r2 =>
      bnd (impl_stmtsCopy e1.els) fun r3 =>
      bnd (impl_exprCopy (⟨e1.e.op, e1.e.n, e1.e.args⟩ : Exp)) fun r4 =>
      bnd (appL t3 ([⟨e1.kind, e1.var, e1.box, ⟨r4.op, r4.n, r4.args⟩, r2, r3⟩] : List Stm)) fun l5 =>
      impl_stmtsCopy_l1 true l5 t6 t7 (wrapC (t8 + 1))
      else
      some (t3b, t3)) : Option ((Bool × List Stm))) := by kernel_rfl
    exact loop_le' (sig := s9201) (p := p9201) (by kernel_rfl) (by kernel_rfl) rfl rfl rfl (e.trans h)

theorem laws_sameExpr_le (a0 : Exp) (a1 : Exp) : Tv.Le
  ((bif (!decide (a0.op = a1.op)) then
  some false
  else
  (bif (!decide (a0.n = a1.n)) then
  some false
  else
  (bif (!decide ((a0.args.length : Int) = (a1.args.length : Int))) then
  some false
  else
  bnd (laws_sameExpr_l1 0 a0.op a0.n a0.args a1.op a1.n a1.args) fun r1 =>
  selm r1 (fun y2 =>
  some true) (fun z3 =>
  some z3)))) : Option (Bool))
  (laws_sameExpr a0 a1) := by
  exact fun r h => by
    have e : runC (phi Tb GT sg) Tb GT p9800.code (startAT p9800 (mkST p9800.ins [.agg (rowT .exp a0), .agg (rowT .exp a1)] p9800.bins [])) (finT p9800 s9800) = (
      (bif (!decide (a0.op = a1.op)) then
      some false
      else
      (bif (!decide (a0.n = a1.n)) then
      some false
      else
      (bif (!decide ((a0.args.length : Int) = (a1.args.length : Int))) then
      some false
      else
      bnd (laws_sameExpr_l1 0 a0.op a0.n a0.args a1.op a1.n a1.args) fun r1 =>
      selm r1 (fun y2 =>
      some true) (fun z3 =>
      some z3)))) : Option (Bool)) := by kernel_rfl
    exact fn_le' (sig := s9800) (p := p9800) (by kernel_rfl) (by kernel_rfl) rfl rfl rfl rfl rfl (e.trans h)

theorem laws_sameStmts_l1_le (t0 : List Stm) (t1 : List Stm) (t5 : Int) : Tv.Le
  ((bif (decide (t5 < (t0.length : Int))) then
  bnd (geti t0 t5) fun e1 =>
  bnd (geti t1 t5) fun e2 =>
  (bif (!decide (e1.kind = e2.kind)) then
  some (.inr false)
  else
  (bif (!decide (e1.var = e2.var)) then
  some (.inr false)
  else
  (bif (!decide (e1.box = e2.box)) then
  some (.inr false)
  else
  bnd (laws_sameExpr (⟨e1.e.op, e1.e.n, e1.e.args⟩ : Exp) (⟨e2.e.op, e2.e.n, e2.e.args⟩ : Exp)) fun r3 =>
  (bif (!r3) then
  some (.inr false)
  else
  bnd (laws_sameStmts e1.body e2.body) fun r4 =>
  (bif (!r4) then
  some (.inr false)
  else
  bnd (laws_sameStmts e1.els e2.els) fun r5 =>
  (bif (!r5) then
  some (.inr false)
  else
  laws_sameStmts_l1 t0 t1 (wrap64 (t5 + 1))))))))
  else
  some (.inl ())) : Option (Unit ⊕ Bool))
  (laws_sameStmts_l1 t0 t1 t5) := by
  rewrite [← wrapC_eq]
  exact fun r h => by
    have e : runC (phi Tb GT sg) Tb GT p9901.code ((mkST p9901.ins [.sl .share .stm t0, .sl .share .stm t1, .int .i64 t5] p9901.bins [])) (finL Tb GT 9901 p9901 s9901) = (
      (bif (decide (t5 < (t0.length : Int))) then
      bnd (geti t0 t5) fun e1 =>
      bnd (geti t1 t5) fun e2 =>
      (bif (!decide (e1.kind = e2.kind)) then
      some (.inr false)
      else
      (bif (!decide (e1.var = e2.var)) then
      some (.inr false)
      else
      (bif (!decide (e1.box = e2.box)) then
      some (.inr false)
      else
      bnd (laws_sameExpr (⟨e1.e.op, e1.e.n, e1.e.args⟩ : Exp) (⟨e2.e.op, e2.e.n, e2.e.args⟩ : Exp)) fun r3 =>
      (bif (!r3) then
      some (.inr false)
      else
      bnd (laws_sameStmts e1.body e2.body) fun r4 =>
      (bif (!r4) then
      some (.inr false)
      else
      bnd (laws_sameStmts e1.els e2.els) fun r5 =>
      (bif (!r5) then
      some (.inr false)
      else
      laws_sameStmts_l1 t0 t1 (wrapC (t5 + 1))))))))
      else
      some (.inl ())) : Option (Unit ⊕ Bool)) := by kernel_rfl
    exact loop_le' (sig := s9901) (p := p9901) (by kernel_rfl) (by kernel_rfl) rfl rfl rfl (e.trans h)

theorem impl_areWords_le (a0 : List Int) : Tv.Le
  (bnd (impl_areWords_l1 a0 (a0.length : Int) 0) fun r1 =>
  selm r1 (fun y2 =>
  some true) (fun z3 =>
  some z3) : Option (Bool))
  (impl_areWords a0) := by
  exact fun r h => by
    have e : runC (phi Tb GT sg) Tb GT p5100.code (startAT p5100 (mkST p5100.ins [.sl .share .int a0] p5100.bins [])) (finT p5100 s5100) = (
      bnd (impl_areWords_l1 a0 (a0.length : Int) 0) fun r1 =>
      selm r1 (fun y2 =>
      some true) (fun z3 =>
      some z3) : Option (Bool)) := by kernel_rfl
    exact fn_le' (sig := s5100) (p := p5100) (by kernel_rfl) (by kernel_rfl) rfl rfl rfl rfl rfl (e.trans h)

end Go.TFnWorldNew
