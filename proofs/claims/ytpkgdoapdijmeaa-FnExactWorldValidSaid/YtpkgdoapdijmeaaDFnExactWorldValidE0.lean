import Derived.Test.YtpkgdoapdijmeaaDFnExactWorldValidP
import Derived.KernelRfl
set_option linter.unusedVariables false
namespace Go.TFnExactWorldValid
open Go Go.RowKit Go.Vs Go.Tv
theorem laws_FnExactWorldValid_le (a0 : Wld) : Tv.Le
  (bnd (laws_szWorld a0 1048576) fun r1 =>
  (bif (decide (r1 < 0)) then
  some true
  else
  bnd (laws_toWorld a0) fun r2 =>
  bnd (spec_WorldValid r2) fun r3 =>
  bnd (laws_toWorld a0) fun r4 =>
  bnd (impl_WorldValid r4) fun r5 =>
  (bif (!(r5 == r3)) then
  some false
  else
  bnd (laws_toWorld a0) fun r6 =>
  bnd (laws_eqWorld r4 r6) fun r7 =>
  (bif (!r7) then
  some false
  else
  some true))) : Option (Bool))
  (laws_FnExactWorldValid a0) := fun r h => by
  have e : runC (phi Tb GT sg) Tb GT p25500.code (mkST p25500.ins [.agg (rowT .wld a0)] p25500.bins []) (finT p25500 s25500) = (
  bnd (laws_szWorld a0 1048576) fun r1 =>
  (bif (decide (r1 < 0)) then
  some true
  else
  bnd (laws_toWorld a0) fun r2 =>
  bnd (spec_WorldValid r2) fun r3 =>
  bnd (laws_toWorld a0) fun r4 =>
  bnd (impl_WorldValid r4) fun r5 =>
  (bif (!(r5 == r3)) then
  some false
  else
  bnd (laws_toWorld a0) fun r6 =>
  bnd (laws_eqWorld r4 r6) fun r7 =>
  (bif (!r7) then
  some false
  else
  some true))) : Option (Bool)) := by kernel_rfl
  exact fn_le' (sig := s25500) (p := p25500) (by kernel_rfl) (by kernel_rfl) rfl rfl rfl (e.trans h)

theorem laws_szWorld_le (a0 : Wld) (a1 : Int) : Tv.Le
  (bnd (laws_szTaskS a0.tasks a1) fun r1 =>
  (bif (decide (r1 < 0)) then
  some (-1)
  else
  bnd (laws_szBoxS a0.boxes r1) fun r2 =>
  (bif (decide (r2 < 0)) then
  some (-1)
  else
  bnd (laws_szIntS a0.out r2) fun r3 =>
  (bif (decide (r3 < 0)) then
  some (-1)
  else
  some r3))) : Option (Int))
  (laws_szWorld a0 a1) := fun r h => by
  have e : runC (phi Tb GT sg) Tb GT p24500.code (mkST p24500.ins [.agg (rowT .wld a0), .int .i64 a1] p24500.bins []) (finT p24500 s24500) = (
  bnd (laws_szTaskS a0.tasks a1) fun r1 =>
  (bif (decide (r1 < 0)) then
  some (-1)
  else
  bnd (laws_szBoxS a0.boxes r1) fun r2 =>
  (bif (decide (r2 < 0)) then
  some (-1)
  else
  bnd (laws_szIntS a0.out r2) fun r3 =>
  (bif (decide (r3 < 0)) then
  some (-1)
  else
  some r3))) : Option (Int)) := by kernel_rfl
  exact fn_le' (sig := s24500) (p := p24500) (by kernel_rfl) (by kernel_rfl) rfl rfl rfl (e.trans h)

theorem laws_toWorld_le (a0 : Wld) : Tv.Le
  (bnd (laws_toTaskS a0.tasks) fun r1 =>
  bnd (laws_toBoxS a0.boxes) fun r2 =>
  bnd (laws_toIntS a0.out) fun r3 =>
  some (⟨r1, r2, a0.turn, a0.idle, r3⟩) : Option (Wld))
  (laws_toWorld a0) := fun r h => by
  have e : runC (phi Tb GT sg) Tb GT p25100.code (mkST p25100.ins [.agg (rowT .wld a0)] p25100.bins []) (finT p25100 s25100) = (
  bnd (laws_toTaskS a0.tasks) fun r1 =>
  bnd (laws_toBoxS a0.boxes) fun r2 =>
  bnd (laws_toIntS a0.out) fun r3 =>
  some (⟨r1, r2, a0.turn, a0.idle, r3⟩) : Option (Wld)) := by kernel_rfl
  exact fn_le' (sig := s25100) (p := p25100) (by kernel_rfl) (by kernel_rfl) rfl rfl rfl (e.trans h)

theorem spec_WorldValid_le (a0 : Wld) : Tv.Le
  (bnd (spec_l6In (a0.tasks.length : Int) 1 3) fun r1 =>
  (bif (!r1) then
  some false
  else
  bnd (spec_l15Boxes a0.boxes) fun r2 =>
  (bif (!r2) then
  some false
  else
  bnd (spec_l6In a0.turn 0 (wrap64 ((a0.tasks.length : Int) - 1))) fun r3 =>
  (bif (!r3) then
  some false
  else
  bnd (spec_l6In a0.idle 0 (a0.tasks.length : Int)) fun r4 =>
  (bif (!r4) then
  some false
  else
  bnd (spec_WorldValid_l1 (a0.tasks.length : Int) 0 a0.tasks a0.boxes a0.turn a0.idle a0.out) fun r5 =>
  selm r5 (fun y6 =>
  bnd (spec_l4Words y6.2.2.2.2 (y6.2.2.2.2.length : Int)) fun r8 =>
  some r8) (fun z7 =>
  some z7.1))))) : Option (Bool))
  (spec_WorldValid a0) := fun r h => by
  have e : runC (phi Tb GT sg) Tb GT p24700.code (mkST p24700.ins [.agg (rowT .wld a0)] p24700.bins []) (finT p24700 s24700) = (
  bnd (spec_l6In (a0.tasks.length : Int) 1 3) fun r1 =>
  (bif (!r1) then
  some false
  else
  bnd (spec_l15Boxes a0.boxes) fun r2 =>
  (bif (!r2) then
  some false
  else
  bnd (spec_l6In a0.turn 0 (wrap64 ((a0.tasks.length : Int) - 1))) fun r3 =>
  (bif (!r3) then
  some false
  else
  bnd (spec_l6In a0.idle 0 (a0.tasks.length : Int)) fun r4 =>
  (bif (!r4) then
  some false
  else
  bnd (spec_WorldValid_l1 (a0.tasks.length : Int) 0 a0.tasks a0.boxes a0.turn a0.idle a0.out) fun r5 =>
  selm r5 (fun y6 =>
  bnd (spec_l4Words y6.2.2.2.2 (y6.2.2.2.2.length : Int)) fun r8 =>
  some r8) (fun z7 =>
  some z7.1))))) : Option (Bool)) := by kernel_rfl
  exact fn_le' (sig := s24700) (p := p24700) (by kernel_rfl) (by kernel_rfl) rfl rfl rfl (e.trans h)

theorem impl_WorldValid_le (a0 : Wld) : Tv.Le
  (bnd (impl_turnsValid (a0.tasks.length : Int) a0.turn a0.idle a0.out) fun r1 =>
  (bif (!r1) then
  some false
  else
  bnd (impl_boxesValid a0.boxes) fun r2 =>
  (bif (!r2) then
  some false
  else
  bnd (impl_WorldValid_l1 a0.tasks (a0.tasks.length : Int) 0 a0.tasks a0.boxes a0.turn a0.idle a0.out) fun r3 =>
  selm r3 (fun y4 =>
  some true) (fun z5 =>
  some z5))) : Option (Bool))
  (impl_WorldValid a0) := fun r h => by
  have e : runC (phi Tb GT sg) Tb GT p24000.code (mkST p24000.ins [.agg (rowT .wld a0)] p24000.bins []) (finT p24000 s24000) = (
  bnd (impl_turnsValid (a0.tasks.length : Int) a0.turn a0.idle a0.out) fun r1 =>
  (bif (!r1) then
  some false
  else
  bnd (impl_boxesValid a0.boxes) fun r2 =>
  (bif (!r2) then
  some false
  else
  bnd (impl_WorldValid_l1 a0.tasks (a0.tasks.length : Int) 0 a0.tasks a0.boxes a0.turn a0.idle a0.out) fun r3 =>
  selm r3 (fun y4 =>
  some true) (fun z5 =>
  some z5))) : Option (Bool)) := by kernel_rfl
  exact fn_le' (sig := s24000) (p := p24000) (by kernel_rfl) (by kernel_rfl) rfl rfl rfl (e.trans h)

theorem laws_eqWorld_le (a0 : Wld) (a1 : Wld) : Tv.Le
  (bnd (laws_eqTaskS a0.tasks a1.tasks) fun r1 =>
  (bif (!r1) then
  some false
  else
  bnd (laws_eqBoxS a0.boxes a1.boxes) fun r2 =>
  (bif (!r2) then
  some false
  else
  (bif (!decide (a0.turn = a1.turn)) then
  some false
  else
  (bif (!decide (a0.idle = a1.idle)) then
  some false
  else
  bnd (laws_eqIntS a0.out a1.out) fun r3 =>
  (bif (!r3) then
  some false
  else
  some true))))) : Option (Bool))
  (laws_eqWorld a0 a1) := fun r h => by
  have e : runC (phi Tb GT sg) Tb GT p25400.code (mkST p25400.ins [.agg (rowT .wld a0), .agg (rowT .wld a1)] p25400.bins []) (finT p25400 s25400) = (
  bnd (laws_eqTaskS a0.tasks a1.tasks) fun r1 =>
  (bif (!r1) then
  some false
  else
  bnd (laws_eqBoxS a0.boxes a1.boxes) fun r2 =>
  (bif (!r2) then
  some false
  else
  (bif (!decide (a0.turn = a1.turn)) then
  some false
  else
  (bif (!decide (a0.idle = a1.idle)) then
  some false
  else
  bnd (laws_eqIntS a0.out a1.out) fun r3 =>
  (bif (!r3) then
  some false
  else
  some true))))) : Option (Bool)) := by kernel_rfl
  exact fn_le' (sig := s25400) (p := p25400) (by kernel_rfl) (by kernel_rfl) rfl rfl rfl (e.trans h)

theorem laws_szTaskS_le (a0 : List Tk) (a1 : Int) : Tv.Le
  ((bif (decide ((wrap64 (a1 - (a0.length : Int))) < 0)) then
  some (-1)
  else
  bnd (laws_szTaskS_l1 a0 (wrap64 (a1 - (a0.length : Int))) 0) fun r1 =>
  selm r1 (fun y2 =>
  some y2) (fun z3 =>
  some z3.2)) : Option (Int))
  (laws_szTaskS a0 a1) := fun r h => by
  have e : runC (phi Tb GT sg) Tb GT p24200.code (mkST p24200.ins [.sl .share .tk a0, .int .i64 a1] p24200.bins []) (finT p24200 s24200) = (
  (bif (decide ((wrap64 (a1 - (a0.length : Int))) < 0)) then
  some (-1)
  else
  bnd (laws_szTaskS_l1 a0 (wrap64 (a1 - (a0.length : Int))) 0) fun r1 =>
  selm r1 (fun y2 =>
  some y2) (fun z3 =>
  some z3.2)) : Option (Int)) := by kernel_rfl
  exact fn_le' (sig := s24200) (p := p24200) (by kernel_rfl) (by kernel_rfl) rfl rfl rfl (e.trans h)

theorem laws_szBoxS_le (a0 : List Bx) (a1 : Int) : Tv.Le
  ((bif (decide ((wrap64 (a1 - (a0.length : Int))) < 0)) then
  some (-1)
  else
  bnd (laws_szBoxS_l1 a0 (wrap64 (a1 - (a0.length : Int))) 0) fun r1 =>
  selm r1 (fun y2 =>
  some y2) (fun z3 =>
  some z3.2)) : Option (Int))
  (laws_szBoxS a0 a1) := fun r h => by
  have e : runC (phi Tb GT sg) Tb GT p24400.code (mkST p24400.ins [.sl .share .bx a0, .int .i64 a1] p24400.bins []) (finT p24400 s24400) = (
  (bif (decide ((wrap64 (a1 - (a0.length : Int))) < 0)) then
  some (-1)
  else
  bnd (laws_szBoxS_l1 a0 (wrap64 (a1 - (a0.length : Int))) 0) fun r1 =>
  selm r1 (fun y2 =>
  some y2) (fun z3 =>
  some z3.2)) : Option (Int)) := by kernel_rfl
  exact fn_le' (sig := s24400) (p := p24400) (by kernel_rfl) (by kernel_rfl) rfl rfl rfl (e.trans h)

theorem laws_szIntS_le (a0 : List Int) (a1 : Int) : Tv.Le
  ((bif (decide ((wrap64 (a1 - (a0.length : Int))) < 0)) then
  some (-1)
  else
  some (wrap64 (a1 - (a0.length : Int)))) : Option (Int))
  (laws_szIntS a0 a1) := fun r h => by
  have e : runC (phi Tb GT sg) Tb GT p7200.code (mkST p7200.ins [.sl .share .int a0, .int .i64 a1] p7200.bins []) (finT p7200 s7200) = (
  (bif (decide ((wrap64 (a1 - (a0.length : Int))) < 0)) then
  some (-1)
  else
  some (wrap64 (a1 - (a0.length : Int)))) : Option (Int)) := by kernel_rfl
  exact fn_le' (sig := s7200) (p := p7200) (by kernel_rfl) (by kernel_rfl) rfl rfl rfl (e.trans h)

theorem laws_toTaskS_le (a0 : List Tk) : Tv.Le
  (bnd (made (a0.length : Int)) fun n1 =>
  bnd (laws_toTaskS_l1 a0 0 (List.replicate n1 (zeroD .tk))) fun r2 =>
  some r2 : Option (List Tk))
  (laws_toTaskS a0) := fun r h => by
  have e : runC (phi Tb GT sg) Tb GT p24800.code (mkST p24800.ins [.sl .share .tk a0] p24800.bins []) (finT p24800 s24800) = (
  bnd (made (a0.length : Int)) fun n1 =>
  bnd (laws_toTaskS_l1 a0 0 (List.replicate n1 (zeroD .tk))) fun r2 =>
  some r2 : Option (List Tk)) := by kernel_rfl
  exact fn_le' (sig := s24800) (p := p24800) (by kernel_rfl) (by kernel_rfl) rfl rfl rfl (e.trans h)

theorem laws_toBoxS_le (a0 : List Bx) : Tv.Le
  (bnd (made (a0.length : Int)) fun n1 =>
  bnd (laws_toBoxS_l1 a0 0 (List.replicate n1 (zeroD .bx))) fun r2 =>
  some r2 : Option (List Bx))
  (laws_toBoxS a0) := fun r h => by
  have e : runC (phi Tb GT sg) Tb GT p25000.code (mkST p25000.ins [.sl .share .bx a0] p25000.bins []) (finT p25000 s25000) = (
  bnd (made (a0.length : Int)) fun n1 =>
  bnd (laws_toBoxS_l1 a0 0 (List.replicate n1 (zeroD .bx))) fun r2 =>
  some r2 : Option (List Bx)) := by kernel_rfl
  exact fn_le' (sig := s25000) (p := p25000) (by kernel_rfl) (by kernel_rfl) rfl rfl rfl (e.trans h)

theorem laws_toIntS_le (a0 : List Int) : Tv.Le
  (bnd (made (a0.length : Int)) fun n1 =>
  bnd (laws_toIntS_l1 a0 0 (List.replicate n1 (zeroD .int))) fun r2 =>
  some r2 : Option (List Int))
  (laws_toIntS a0) := fun r h => by
  have e : runC (phi Tb GT sg) Tb GT p7800.code (mkST p7800.ins [.sl .share .int a0] p7800.bins []) (finT p7800 s7800) = (
  bnd (made (a0.length : Int)) fun n1 =>
  bnd (laws_toIntS_l1 a0 0 (List.replicate n1 (zeroD .int))) fun r2 =>
  some r2 : Option (List Int)) := by kernel_rfl
  exact fn_le' (sig := s7800) (p := p7800) (by kernel_rfl) (by kernel_rfl) rfl rfl rfl (e.trans h)

theorem spec_l6In_le (a0 : Int) (a1 : Int) (a2 : Int) : Tv.Le
  ((bif (decide (a1 ≤ a0)) then
  some (decide (a0 ≤ a2))
  else
  some false) : Option (Bool))
  (spec_l6In a0 a1 a2) := fun r h => by
  have e : runC (phi Tb GT sg) Tb GT p1600.code (mkST p1600.ins [.int .i64 a0, .int .i64 a1, .int .i64 a2] p1600.bins []) (finT p1600 s1600) = (
  (bif (decide (a1 ≤ a0)) then
  some (decide (a0 ≤ a2))
  else
  some false) : Option (Bool)) := by kernel_rfl
  exact fn_le' (sig := s1600) (p := p1600) (by kernel_rfl) (by kernel_rfl) rfl rfl rfl (e.trans h)

theorem spec_l15Boxes_le (a0 : List Bx) : Tv.Le
  (bnd (spec_l15Boxes_l1 a0 0) fun r1 =>
  selm r1 (fun y2 =>
  some (decide ((y2.length : Int) ≤ 3))) (fun z3 =>
  some z3.2) : Option (Bool))
  (spec_l15Boxes a0) := fun r h => by
  have e : runC (phi Tb GT sg) Tb GT p24600.code (mkST p24600.ins [.sl .share .bx a0] p24600.bins []) (finT p24600 s24600) = (
  bnd (spec_l15Boxes_l1 a0 0) fun r1 =>
  selm r1 (fun y2 =>
  some (decide ((y2.length : Int) ≤ 3))) (fun z3 =>
  some z3.2) : Option (Bool)) := by kernel_rfl
  exact fn_le' (sig := s24600) (p := p24600) (by kernel_rfl) (by kernel_rfl) rfl rfl rfl (e.trans h)

theorem spec_TaskValid_le (a0 : Tk) : Tv.Le
  (bnd (spec_TaskValid_l1 0 a0.vars a0.rest) fun r1 =>
  selm r1 (fun y2 =>
  bnd (spec_l4Words y2.1 4) fun r4 =>
  some r4) (fun z3 =>
  some z3.1) : Option (Bool))
  (spec_TaskValid a0) := fun r h => by
  have e : runC (phi Tb GT sg) Tb GT p6600.code (mkST p6600.ins [.agg (rowT .tk a0)] p6600.bins []) (finT p6600 s6600) = (
  bnd (spec_TaskValid_l1 0 a0.vars a0.rest) fun r1 =>
  selm r1 (fun y2 =>
  bnd (spec_l4Words y2.1 4) fun r4 =>
  some r4) (fun z3 =>
  some z3.1) : Option (Bool)) := by kernel_rfl
  exact fn_le' (sig := s6600) (p := p6600) (by kernel_rfl) (by kernel_rfl) rfl rfl rfl (e.trans h)

theorem spec_l12Boxes_le (a0 : List Stm) (a1 : Int) : Tv.Le
  (bnd (spec_l12Boxes_l1 a0 a1 0) fun r1 =>
  selm r1 (fun y2 =>
  some true) (fun z3 =>
  some z3) : Option (Bool))
  (spec_l12Boxes a0 a1) := fun r h => by
  have e : runC (phi Tb GT sg) Tb GT p23100.code (mkST p23100.ins [.sl .share .stm a0, .int .i64 a1] p23100.bins []) (finT p23100 s23100) = (
  bnd (spec_l12Boxes_l1 a0 a1 0) fun r1 =>
  selm r1 (fun y2 =>
  some true) (fun z3 =>
  some z3) : Option (Bool)) := by kernel_rfl
  exact fn_le' (sig := s23100) (p := p23100) (by kernel_rfl) (by kernel_rfl) rfl rfl rfl (e.trans h)

theorem spec_WorldValid_l1_le (t3 : Int) (t4 : Int) (b100_0 : List Tk) (b100_1 : List Bx) (b100_2 : Int) (b100_3 : Int) (b100_4 : List Int) : Tv.Le
  ((bif (decide (t4 < t3)) then
  bnd (geti b100_0 t4) fun e1 =>
  bnd (spec_TaskValid e1) fun r2 =>
  (bif (!r2) then
  some (.inr (false, b100_0, b100_1, b100_2, b100_3, b100_4))
  else
  bnd (geti b100_0 t4) fun e3 =>
  bnd (spec_l12Boxes e3.rest (b100_1.length : Int)) fun r4 =>
  (bif (!r4) then
  some (.inr (false, b100_0, b100_1, b100_2, b100_3, b100_4))
  else
  spec_WorldValid_l1 t3 (wrap64 (t4 + 1)) b100_0 b100_1 b100_2 b100_3 b100_4))
  else
  some (.inl (b100_0, b100_1, b100_2, b100_3, b100_4))) : Option ((List Tk × List Bx × Int × Int × List Int) ⊕ (Bool × List Tk × List Bx × Int × Int × List Int)))
  (spec_WorldValid_l1 t3 t4 b100_0 b100_1 b100_2 b100_3 b100_4) := fun r h => by
  have e : runC (phi Tb GT sg) Tb GT p24701.code (mkST p24701.ins [.bp 100 0, .int .i64 t3, .int .i64 t4] p24701.bins [.var [.sl .share .tk b100_0, .sl .share .bx b100_1, .int .i64 b100_2, .int .i64 b100_3, .sl .share .int b100_4]]) (finL Tb GT 24701 p24701 s24701) = (
  (bif (decide (t4 < t3)) then
  bnd (geti b100_0 t4) fun e1 =>
  bnd (spec_TaskValid e1) fun r2 =>
  (bif (!r2) then
  some (.inr (false, b100_0, b100_1, b100_2, b100_3, b100_4))
  else
  bnd (geti b100_0 t4) fun e3 =>
  bnd (spec_l12Boxes e3.rest (b100_1.length : Int)) fun r4 =>
  (bif (!r4) then
  some (.inr (false, b100_0, b100_1, b100_2, b100_3, b100_4))
  else
  spec_WorldValid_l1 t3 (wrap64 (t4 + 1)) b100_0 b100_1 b100_2 b100_3 b100_4))
  else
  some (.inl (b100_0, b100_1, b100_2, b100_3, b100_4))) : Option ((List Tk × List Bx × Int × Int × List Int) ⊕ (Bool × List Tk × List Bx × Int × Int × List Int))) := by kernel_rfl
  exact loop_le' (sig := s24701) (p := p24701) (by kernel_rfl) (by kernel_rfl) rfl rfl rfl (e.trans h)

theorem spec_l4Words_le (a0 : List Int) (a1 : Int) : Tv.Le
  ((bif (!decide ((a0.length : Int) = a1)) then
  some false
  else
  bnd (spec_l4Words_l1 a0 0) fun r1 =>
  selm r1 (fun y2 =>
  some true) (fun z3 =>
  some z3)) : Option (Bool))
  (spec_l4Words a0 a1) := fun r h => by
  have e : runC (phi Tb GT sg) Tb GT p6500.code (mkST p6500.ins [.sl .share .int a0, .int .i64 a1] p6500.bins []) (finT p6500 s6500) = (
  (bif (!decide ((a0.length : Int) = a1)) then
  some false
  else
  bnd (spec_l4Words_l1 a0 0) fun r1 =>
  selm r1 (fun y2 =>
  some true) (fun z3 =>
  some z3)) : Option (Bool)) := by kernel_rfl
  exact fn_le' (sig := s6500) (p := p6500) (by kernel_rfl) (by kernel_rfl) rfl rfl rfl (e.trans h)

theorem impl_turnsValid_le (a0 : Int) (a1 : Int) (a2 : Int) (a3 : List Int) : Tv.Le
  ((bif (decide (1 ≤ a0)) then
  (bif (decide (a0 ≤ 3)) then
  (bif (decide (0 ≤ a1)) then
  (bif (decide (a1 < a0)) then
  (bif (decide (0 ≤ a2)) then
  (bif (decide (a2 ≤ a0)) then
  bnd (impl_areWords a3) fun r1 =>
  some r1
  else
  some false)
  else
  some false)
  else
  some false)
  else
  some false)
  else
  some false)
  else
  some false) : Option (Bool))
  (impl_turnsValid a0 a1 a2 a3) := fun r h => by
  have e : runC (phi Tb GT sg) Tb GT p23800.code (mkST p23800.ins [.int .i64 a0, .int .i64 a1, .int .i64 a2, .sl .share .int a3] p23800.bins []) (finT p23800 s23800) = (
  (bif (decide (1 ≤ a0)) then
  (bif (decide (a0 ≤ 3)) then
  (bif (decide (0 ≤ a1)) then
  (bif (decide (a1 < a0)) then
  (bif (decide (0 ≤ a2)) then
  (bif (decide (a2 ≤ a0)) then
  bnd (impl_areWords a3) fun r1 =>
  some r1
  else
  some false)
  else
  some false)
  else
  some false)
  else
  some false)
  else
  some false)
  else
  some false) : Option (Bool)) := by kernel_rfl
  exact fn_le' (sig := s23800) (p := p23800) (by kernel_rfl) (by kernel_rfl) rfl rfl rfl (e.trans h)

theorem impl_boxesValid_le (a0 : List Bx) : Tv.Le
  (bnd (impl_boxesValid_l1 a0 a0 (a0.length : Int) 0) fun r1 =>
  selm r1 (fun y2 =>
  some (decide ((y2.length : Int) ≤ 3))) (fun z3 =>
  some z3.2) : Option (Bool))
  (impl_boxesValid a0) := fun r h => by
  have e : runC (phi Tb GT sg) Tb GT p23900.code (mkST p23900.ins [.sl .share .bx a0] p23900.bins []) (finT p23900 s23900) = (
  bnd (impl_boxesValid_l1 a0 a0 (a0.length : Int) 0) fun r1 =>
  selm r1 (fun y2 =>
  some (decide ((y2.length : Int) ≤ 3))) (fun z3 =>
  some z3.2) : Option (Bool)) := by kernel_rfl
  exact fn_le' (sig := s23900) (p := p23900) (by kernel_rfl) (by kernel_rfl) rfl rfl rfl (e.trans h)

theorem impl_taskValid_le (a0 : Tk) (a1 : Int) : Tv.Le
  ((bif (!decide ((a0.vars.length : Int) = 4)) then
  some false
  else
  bnd (impl_areWords a0.vars) fun r1 =>
  (bif (!r1) then
  some false
  else
  bnd (impl_taskValid_l1 a1 (a0.rest.length : Int) 0 a0.vars a0.rest) fun r2 =>
  selm r2 (fun y3 =>
  some true) (fun z4 =>
  some z4))) : Option (Bool))
  (impl_taskValid a0 a1) := fun r h => by
  have e : runC (phi Tb GT sg) Tb GT p5500.code (mkST p5500.ins [.agg (rowT .tk a0), .int .i64 a1] p5500.bins []) (finT p5500 s5500) = (
  (bif (!decide ((a0.vars.length : Int) = 4)) then
  some false
  else
  bnd (impl_areWords a0.vars) fun r1 =>
  (bif (!r1) then
  some false
  else
  bnd (impl_taskValid_l1 a1 (a0.rest.length : Int) 0 a0.vars a0.rest) fun r2 =>
  selm r2 (fun y3 =>
  some true) (fun z4 =>
  some z4))) : Option (Bool)) := by kernel_rfl
  exact fn_le' (sig := s5500) (p := p5500) (by kernel_rfl) (by kernel_rfl) rfl rfl rfl (e.trans h)

theorem impl_WorldValid_l1_le (t23 : List Tk) (t24 : Int) (t25 : Int) (b100_0 : List Tk) (b100_1 : List Bx) (b100_2 : Int) (b100_3 : Int) (b100_4 : List Int) : Tv.Le
  ((bif (decide (t25 < t24)) then
  bnd (geti t23 t25) fun e1 =>
  bnd (impl_taskValid e1 (b100_1.length : Int)) fun r2 =>
  (bif (!r2) then
  some (.inr false)
  else
  impl_WorldValid_l1 t23 t24 (wrap64 (t25 + 1)) b100_0 b100_1 b100_2 b100_3 b100_4)
  else
  some (.inl ())) : Option (Unit ⊕ Bool))
  (impl_WorldValid_l1 t23 t24 t25 b100_0 b100_1 b100_2 b100_3 b100_4) := fun r h => by
  have e : runC (phi Tb GT sg) Tb GT p24001.code (mkST p24001.ins [.bp 100 0, .sl .share .tk t23, .int .i64 t24, .int .i64 t25] p24001.bins [.var [.sl .share .tk b100_0, .sl .share .bx b100_1, .int .i64 b100_2, .int .i64 b100_3, .sl .share .int b100_4]]) (finL Tb GT 24001 p24001 s24001) = (
  (bif (decide (t25 < t24)) then
  bnd (geti t23 t25) fun e1 =>
  bnd (impl_taskValid e1 (b100_1.length : Int)) fun r2 =>
  (bif (!r2) then
  some (.inr false)
  else
  impl_WorldValid_l1 t23 t24 (wrap64 (t25 + 1)) b100_0 b100_1 b100_2 b100_3 b100_4)
  else
  some (.inl ())) : Option (Unit ⊕ Bool)) := by kernel_rfl
  exact loop_le' (sig := s24001) (p := p24001) (by kernel_rfl) (by kernel_rfl) rfl rfl rfl (e.trans h)

theorem laws_eqTaskS_le (a0 : List Tk) (a1 : List Tk) : Tv.Le
  ((bif (!decide ((a0.length : Int) = (a1.length : Int))) then
  some false
  else
  bnd (laws_eqTaskS_l1 a0 a1 0) fun r1 =>
  selm r1 (fun y2 =>
  some true) (fun z3 =>
  some z3)) : Option (Bool))
  (laws_eqTaskS a0 a1) := fun r h => by
  have e : runC (phi Tb GT sg) Tb GT p25200.code (mkST p25200.ins [.sl .share .tk a0, .sl .share .tk a1] p25200.bins []) (finT p25200 s25200) = (
  (bif (!decide ((a0.length : Int) = (a1.length : Int))) then
  some false
  else
  bnd (laws_eqTaskS_l1 a0 a1 0) fun r1 =>
  selm r1 (fun y2 =>
  some true) (fun z3 =>
  some z3)) : Option (Bool)) := by kernel_rfl
  exact fn_le' (sig := s25200) (p := p25200) (by kernel_rfl) (by kernel_rfl) rfl rfl rfl (e.trans h)

theorem laws_eqBoxS_le (a0 : List Bx) (a1 : List Bx) : Tv.Le
  ((bif (!decide ((a0.length : Int) = (a1.length : Int))) then
  some false
  else
  bnd (laws_eqBoxS_l1 a0 a1 0) fun r1 =>
  selm r1 (fun y2 =>
  some true) (fun z3 =>
  some z3)) : Option (Bool))
  (laws_eqBoxS a0 a1) := fun r h => by
  have e : runC (phi Tb GT sg) Tb GT p25300.code (mkST p25300.ins [.sl .share .bx a0, .sl .share .bx a1] p25300.bins []) (finT p25300 s25300) = (
  (bif (!decide ((a0.length : Int) = (a1.length : Int))) then
  some false
  else
  bnd (laws_eqBoxS_l1 a0 a1 0) fun r1 =>
  selm r1 (fun y2 =>
  some true) (fun z3 =>
  some z3)) : Option (Bool)) := by kernel_rfl
  exact fn_le' (sig := s25300) (p := p25300) (by kernel_rfl) (by kernel_rfl) rfl rfl rfl (e.trans h)

theorem laws_eqIntS_le (a0 : List Int) (a1 : List Int) : Tv.Le
  ((bif (!decide ((a0.length : Int) = (a1.length : Int))) then
  some false
  else
  bnd (laws_eqIntS_l1 a0 a1 0) fun r1 =>
  selm r1 (fun y2 =>
  some true) (fun z3 =>
  some z3)) : Option (Bool))
  (laws_eqIntS a0 a1) := fun r h => by
  have e : runC (phi Tb GT sg) Tb GT p8400.code (mkST p8400.ins [.sl .share .int a0, .sl .share .int a1] p8400.bins []) (finT p8400 s8400) = (
  (bif (!decide ((a0.length : Int) = (a1.length : Int))) then
  some false
  else
  bnd (laws_eqIntS_l1 a0 a1 0) fun r1 =>
  selm r1 (fun y2 =>
  some true) (fun z3 =>
  some z3)) : Option (Bool)) := by kernel_rfl
  exact fn_le' (sig := s8400) (p := p8400) (by kernel_rfl) (by kernel_rfl) rfl rfl rfl (e.trans h)

theorem laws_szTask_le (a0 : Tk) (a1 : Int) : Tv.Le
  (bnd (laws_szIntS a0.vars a1) fun r1 =>
  (bif (decide (r1 < 0)) then
  some (-1)
  else
  bnd (laws_szStmtS a0.rest r1) fun r2 =>
  (bif (decide (r2 < 0)) then
  some (-1)
  else
  some r2)) : Option (Int))
  (laws_szTask a0 a1) := fun r h => by
  have e : runC (phi Tb GT sg) Tb GT p7300.code (mkST p7300.ins [.agg (rowT .tk a0), .int .i64 a1] p7300.bins []) (finT p7300 s7300) = (
  bnd (laws_szIntS a0.vars a1) fun r1 =>
  (bif (decide (r1 < 0)) then
  some (-1)
  else
  bnd (laws_szStmtS a0.rest r1) fun r2 =>
  (bif (decide (r2 < 0)) then
  some (-1)
  else
  some r2)) : Option (Int)) := by kernel_rfl
  exact fn_le' (sig := s7300) (p := p7300) (by kernel_rfl) (by kernel_rfl) rfl rfl rfl (e.trans h)

theorem laws_szTaskS_l1_le (t0 : List Tk) (t1 : Int) (t5 : Int) : Tv.Le
  ((bif (decide (t5 < (t0.length : Int))) then
  bnd (geti t0 t5) fun e1 =>
  bnd (laws_szTask e1 t1) fun r2 =>
  (bif (decide (r2 < 0)) then
  some (.inr (r2, (-1)))
  else
  laws_szTaskS_l1 t0 r2 (wrap64 (t5 + 1)))
  else
  some (.inl t1)) : Option (Int ⊕ (Int × Int)))
  (laws_szTaskS_l1 t0 t1 t5) := fun r h => by
  have e : runC (phi Tb GT sg) Tb GT p24201.code (mkST p24201.ins [.sl .share .tk t0, .int .i64 t1, .int .i64 t5] p24201.bins []) (finL Tb GT 24201 p24201 s24201) = (
  (bif (decide (t5 < (t0.length : Int))) then
  bnd (geti t0 t5) fun e1 =>
  bnd (laws_szTask e1 t1) fun r2 =>
  (bif (decide (r2 < 0)) then
  some (.inr (r2, (-1)))
  else
  laws_szTaskS_l1 t0 r2 (wrap64 (t5 + 1)))
  else
  some (.inl t1)) : Option (Int ⊕ (Int × Int))) := by kernel_rfl
  exact loop_le' (sig := s24201) (p := p24201) (by kernel_rfl) (by kernel_rfl) rfl rfl rfl (e.trans h)

theorem laws_szBox_le (a0 : Bx) (a1 : Int) : Tv.Le
  (bnd (laws_szIntS a0.items a1) fun r1 =>
  (bif (decide (r1 < 0)) then
  some (-1)
  else
  some r1) : Option (Int))
  (laws_szBox a0 a1) := fun r h => by
  have e : runC (phi Tb GT sg) Tb GT p24300.code (mkST p24300.ins [.agg (rowT .bx a0), .int .i64 a1] p24300.bins []) (finT p24300 s24300) = (
  bnd (laws_szIntS a0.items a1) fun r1 =>
  (bif (decide (r1 < 0)) then
  some (-1)
  else
  some r1) : Option (Int)) := by kernel_rfl
  exact fn_le' (sig := s24300) (p := p24300) (by kernel_rfl) (by kernel_rfl) rfl rfl rfl (e.trans h)

theorem laws_szBoxS_l1_le (t0 : List Bx) (t1 : Int) (t5 : Int) : Tv.Le
  ((bif (decide (t5 < (t0.length : Int))) then
  bnd (geti t0 t5) fun e1 =>
  bnd (laws_szBox e1 t1) fun r2 =>
  (bif (decide (r2 < 0)) then
  some (.inr (r2, (-1)))
  else
  laws_szBoxS_l1 t0 r2 (wrap64 (t5 + 1)))
  else
  some (.inl t1)) : Option (Int ⊕ (Int × Int)))
  (laws_szBoxS_l1 t0 t1 t5) := fun r h => by
  have e : runC (phi Tb GT sg) Tb GT p24401.code (mkST p24401.ins [.sl .share .bx t0, .int .i64 t1, .int .i64 t5] p24401.bins []) (finL Tb GT 24401 p24401 s24401) = (
  (bif (decide (t5 < (t0.length : Int))) then
  bnd (geti t0 t5) fun e1 =>
  bnd (laws_szBox e1 t1) fun r2 =>
  (bif (decide (r2 < 0)) then
  some (.inr (r2, (-1)))
  else
  laws_szBoxS_l1 t0 r2 (wrap64 (t5 + 1)))
  else
  some (.inl t1)) : Option (Int ⊕ (Int × Int))) := by kernel_rfl
  exact loop_le' (sig := s24401) (p := p24401) (by kernel_rfl) (by kernel_rfl) rfl rfl rfl (e.trans h)

theorem laws_toTask_le (a0 : Tk) : Tv.Le
  (bnd (laws_toIntS a0.vars) fun r1 =>
  bnd (laws_toStmtS a0.rest) fun r2 =>
  some (⟨r1, r2⟩) : Option (Tk))
  (laws_toTask a0) := fun r h => by
  have e : runC (phi Tb GT sg) Tb GT p7900.code (mkST p7900.ins [.agg (rowT .tk a0)] p7900.bins []) (finT p7900 s7900) = (
  bnd (laws_toIntS a0.vars) fun r1 =>
  bnd (laws_toStmtS a0.rest) fun r2 =>
  some (⟨r1, r2⟩) : Option (Tk)) := by kernel_rfl
  exact fn_le' (sig := s7900) (p := p7900) (by kernel_rfl) (by kernel_rfl) rfl rfl rfl (e.trans h)

theorem laws_toTaskS_l1_le (t0 : List Tk) (t4 : Int) (b100 : List Tk) : Tv.Le
  ((bif (decide (t4 < (t0.length : Int))) then
  bnd (geti t0 t4) fun e1 =>
  bnd (laws_toTask e1) fun r2 =>
  bnd (geti b100 t4) fun _ =>
  bnd (b100[(Int.toNat t4)]?) fun e4 =>
  laws_toTaskS_l1 t0 (wrap64 (t4 + 1)) (b100.set (Int.toNat t4) r2)
  else
  some b100) : Option (List Tk))
  (laws_toTaskS_l1 t0 t4 b100) := fun r h => by
  have e : runC (phi Tb GT sg) Tb GT p24801.code (mkST p24801.ins [.sl .share .tk t0, .bs 100, .int .i64 t4] p24801.bins [.rows .tk b100]) (finL Tb GT 24801 p24801 s24801) = (
  (bif (decide (t4 < (t0.length : Int))) then
  bnd (geti t0 t4) fun e1 =>
  bnd (laws_toTask e1) fun r2 =>
  bnd (geti b100 t4) fun _ =>
  bnd (b100[(Int.toNat t4)]?) fun e4 =>
  laws_toTaskS_l1 t0 (wrap64 (t4 + 1)) (b100.set (Int.toNat t4) r2)
  else
  some b100) : Option (List Tk)) := by kernel_rfl
  exact loop_le' (sig := s24801) (p := p24801) (by kernel_rfl) (by kernel_rfl) rfl rfl rfl (e.trans h)

theorem laws_toBox_le (a0 : Bx) : Tv.Le
  (bnd (laws_toIntS a0.items) fun r1 =>
  some (⟨a0.room, r1⟩) : Option (Bx))
  (laws_toBox a0) := fun r h => by
  have e : runC (phi Tb GT sg) Tb GT p24900.code (mkST p24900.ins [.agg (rowT .bx a0)] p24900.bins []) (finT p24900 s24900) = (
  bnd (laws_toIntS a0.items) fun r1 =>
  some (⟨a0.room, r1⟩) : Option (Bx)) := by kernel_rfl
  exact fn_le' (sig := s24900) (p := p24900) (by kernel_rfl) (by kernel_rfl) rfl rfl rfl (e.trans h)

theorem laws_toBoxS_l1_le (t0 : List Bx) (t4 : Int) (b100 : List Bx) : Tv.Le
  ((bif (decide (t4 < (t0.length : Int))) then
  bnd (geti t0 t4) fun e1 =>
  bnd (laws_toBox e1) fun r2 =>
  bnd (geti b100 t4) fun _ =>
  bnd (b100[(Int.toNat t4)]?) fun e4 =>
  laws_toBoxS_l1 t0 (wrap64 (t4 + 1)) (b100.set (Int.toNat t4) r2)
  else
  some b100) : Option (List Bx))
  (laws_toBoxS_l1 t0 t4 b100) := fun r h => by
  have e : runC (phi Tb GT sg) Tb GT p25001.code (mkST p25001.ins [.sl .share .bx t0, .bs 100, .int .i64 t4] p25001.bins [.rows .bx b100]) (finL Tb GT 25001 p25001 s25001) = (
  (bif (decide (t4 < (t0.length : Int))) then
  bnd (geti t0 t4) fun e1 =>
  bnd (laws_toBox e1) fun r2 =>
  bnd (geti b100 t4) fun _ =>
  bnd (b100[(Int.toNat t4)]?) fun e4 =>
  laws_toBoxS_l1 t0 (wrap64 (t4 + 1)) (b100.set (Int.toNat t4) r2)
  else
  some b100) : Option (List Bx)) := by kernel_rfl
  exact loop_le' (sig := s25001) (p := p25001) (by kernel_rfl) (by kernel_rfl) rfl rfl rfl (e.trans h)

theorem laws_toIntS_l1_le (t0 : List Int) (t4 : Int) (b100 : List Int) : Tv.Le
  ((bif (decide (t4 < (t0.length : Int))) then
  bnd (geti t0 t4) fun e1 =>
  bnd (geti b100 t4) fun _ =>
  bnd (b100[(Int.toNat t4)]?) fun e3 =>
  laws_toIntS_l1 t0 (wrap64 (t4 + 1)) (b100.set (Int.toNat t4) e1)
  else
  some b100) : Option (List Int))
  (laws_toIntS_l1 t0 t4 b100) := fun r h => by
  have e : runC (phi Tb GT sg) Tb GT p7801.code (mkST p7801.ins [.sl .share .int t0, .bs 100, .int .i64 t4] p7801.bins [.rows .int b100]) (finL Tb GT 7801 p7801 s7801) = (
  (bif (decide (t4 < (t0.length : Int))) then
  bnd (geti t0 t4) fun e1 =>
  bnd (geti b100 t4) fun _ =>
  bnd (b100[(Int.toNat t4)]?) fun e3 =>
  laws_toIntS_l1 t0 (wrap64 (t4 + 1)) (b100.set (Int.toNat t4) e1)
  else
  some b100) : Option (List Int)) := by kernel_rfl
  exact loop_le' (sig := s7801) (p := p7801) (by kernel_rfl) (by kernel_rfl) rfl rfl rfl (e.trans h)

theorem spec_BoxValid_le (a0 : Bx) : Tv.Le
  (bnd (spec_l6In a0.room 1 4) fun r1 =>
  (bif r1 then
  (bif (decide ((a0.items.length : Int) ≤ a0.room)) then
  bnd (spec_l4Words a0.items (a0.items.length : Int)) fun r2 =>
  some r2
  else
  some false)
  else
  some false) : Option (Bool))
  (spec_BoxValid a0) := fun r h => by
  have e : runC (phi Tb GT sg) Tb GT p17800.code (mkST p17800.ins [.agg (rowT .bx a0)] p17800.bins []) (finT p17800 s17800) = (
  bnd (spec_l6In a0.room 1 4) fun r1 =>
  (bif r1 then
  (bif (decide ((a0.items.length : Int) ≤ a0.room)) then
  bnd (spec_l4Words a0.items (a0.items.length : Int)) fun r2 =>
  some r2
  else
  some false)
  else
  some false) : Option (Bool)) := by kernel_rfl
  exact fn_le' (sig := s17800) (p := p17800) (by kernel_rfl) (by kernel_rfl) rfl rfl rfl (e.trans h)

theorem spec_l15Boxes_l1_le (t0 : List Bx) (t3 : Int) : Tv.Le
  ((bif (decide (t3 < (t0.length : Int))) then
  bnd (geti t0 t3) fun e1 =>
  bnd (spec_BoxValid e1) fun r2 =>
  (bif (!r2) then
  some (.inr (t0, false))
  else
  spec_l15Boxes_l1 t0 (wrap64 (t3 + 1)))
  else
  some (.inl t0)) : Option (List Bx ⊕ (List Bx × Bool)))
  (spec_l15Boxes_l1 t0 t3) := fun r h => by
  have e : runC (phi Tb GT sg) Tb GT p24601.code (mkST p24601.ins [.sl .share .bx t0, .int .i64 t3] p24601.bins []) (finL Tb GT 24601 p24601 s24601) = (
  (bif (decide (t3 < (t0.length : Int))) then
  bnd (geti t0 t3) fun e1 =>
  bnd (spec_BoxValid e1) fun r2 =>
  (bif (!r2) then
  some (.inr (t0, false))
  else
  spec_l15Boxes_l1 t0 (wrap64 (t3 + 1)))
  else
  some (.inl t0)) : Option (List Bx ⊕ (List Bx × Bool))) := by kernel_rfl
  exact loop_le' (sig := s24601) (p := p24601) (by kernel_rfl) (by kernel_rfl) rfl rfl rfl (e.trans h)

theorem spec_StmtsValid_le (a0 : List Stm) : Tv.Le
  (bnd (spec_l11Blocks a0 3) fun r1 =>
  (bif r1 then
  bnd (spec_l11Count a0) fun r2 =>
  some (decide (r2 ≤ 16))
  else
  some false) : Option (Bool))
  (spec_StmtsValid a0) := fun r h => by
  have e : runC (phi Tb GT sg) Tb GT p6300.code (mkST p6300.ins [.sl .share .stm a0] p6300.bins []) (finT p6300 s6300) = (
  bnd (spec_l11Blocks a0 3) fun r1 =>
  (bif r1 then
  bnd (spec_l11Count a0) fun r2 =>
  some (decide (r2 ≤ 16))
  else
  some false) : Option (Bool)) := by kernel_rfl
  exact fn_le' (sig := s6300) (p := p6300) (by kernel_rfl) (by kernel_rfl) rfl rfl rfl (e.trans h)

theorem spec_TaskValid_l1_le (t3 : Int) (b100_0 : List Int) (b100_1 : List Stm) : Tv.Le
  ((bif (decide (t3 < (b100_1.length : Int))) then
  bnd (cutL b100_1 t3 (wrap64 (t3 + 1))) fun l1 =>
  bnd (spec_StmtsValid l1) fun r2 =>
  (bif (!r2) then
  some (.inr (false, b100_0, b100_1))
  else
  spec_TaskValid_l1 (wrap64 (t3 + 1)) b100_0 b100_1)
  else
  some (.inl (b100_0, b100_1))) : Option ((List Int × List Stm) ⊕ (Bool × List Int × List Stm)))
  (spec_TaskValid_l1 t3 b100_0 b100_1) := fun r h => by
  have e : runC (phi Tb GT sg) Tb GT p6601.code (mkST p6601.ins [.bp 100 0, .int .i64 t3] p6601.bins [.var [.sl .share .int b100_0, .sl .share .stm b100_1]]) (finL Tb GT 6601 p6601 s6601) = (
  (bif (decide (t3 < (b100_1.length : Int))) then
  bnd (cutL b100_1 t3 (wrap64 (t3 + 1))) fun l1 =>
  bnd (spec_StmtsValid l1) fun r2 =>
  (bif (!r2) then
  some (.inr (false, b100_0, b100_1))
  else
  spec_TaskValid_l1 (wrap64 (t3 + 1)) b100_0 b100_1)
  else
  some (.inl (b100_0, b100_1))) : Option ((List Int × List Stm) ⊕ (Bool × List Int × List Stm))) := by kernel_rfl
  exact loop_le' (sig := s6601) (p := p6601) (by kernel_rfl) (by kernel_rfl) rfl rfl rfl (e.trans h)

theorem spec_l12Boxes_l1_le (t0 : List Stm) (t1 : Int) (t5 : Int) : Tv.Le
  ((bif (decide (t5 < (t0.length : Int))) then
  bnd (geti t0 t5) fun e1 =>
  (bif (decide (e1.kind = 4)) then
  (bif (decide (t1 ≤ e1.box)) then
  some (.inr false)
  else
  bnd (spec_l12Boxes e1.body t1) fun r2 =>
  (bif (!r2) then
  some (.inr false)
  else
  bnd (spec_l12Boxes e1.els t1) fun r3 =>
  (bif (!r3) then
  some (.inr false)
  else
  spec_l12Boxes_l1 t0 t1 (wrap64 (t5 + 1)))))
  else
  (bif (decide (e1.kind = 5)) then
  (bif (decide (t1 ≤ e1.box)) then
  some (.inr false)
  else
  bnd (spec_l12Boxes e1.body t1) fun r4 =>
  (bif (!r4) then
  some (.inr false)
  else
  bnd (spec_l12Boxes e1.els t1) fun r5 =>
  (bif (!r5) then
  some (.inr false)
  else
  spec_l12Boxes_l1 t0 t1 (wrap64 (t5 + 1)))))
  else
  bnd (spec_l12Boxes e1.body t1) fun r6 =>
  (bif (!r6) then
  some (.inr false)
  else
  bnd (spec_l12Boxes e1.els t1) fun r7 =>
  (bif (!r7) then
  some (.inr false)
  else
  spec_l12Boxes_l1 t0 t1 (wrap64 (t5 + 1))))))
  else
  some (.inl ())) : Option (Unit ⊕ Bool))
  (spec_l12Boxes_l1 t0 t1 t5) := fun r h => by
  have e : runC (phi Tb GT sg) Tb GT p23101.code (mkST p23101.ins [.sl .share .stm t0, .int .i64 t1, .int .i64 t5] p23101.bins []) (finL Tb GT 23101 p23101 s23101) = (
  (bif (decide (t5 < (t0.length : Int))) then
  bnd (geti t0 t5) fun e1 =>
  (bif (decide (e1.kind = 4)) then
  (bif (decide (t1 ≤ e1.box)) then
  some (.inr false)
  else
  bnd (spec_l12Boxes e1.body t1) fun r2 =>
  (bif (!r2) then
  some (.inr false)
  else
  bnd (spec_l12Boxes e1.els t1) fun r3 =>
  (bif (!r3) then
  some (.inr false)
  else
  spec_l12Boxes_l1 t0 t1 (wrap64 (t5 + 1)))))
  else
  (bif (decide (e1.kind = 5)) then
  (bif (decide (t1 ≤ e1.box)) then
  some (.inr false)
  else
  bnd (spec_l12Boxes e1.body t1) fun r4 =>
  (bif (!r4) then
  some (.inr false)
  else
  bnd (spec_l12Boxes e1.els t1) fun r5 =>
  (bif (!r5) then
  some (.inr false)
  else
  spec_l12Boxes_l1 t0 t1 (wrap64 (t5 + 1)))))
  else
  bnd (spec_l12Boxes e1.body t1) fun r6 =>
  (bif (!r6) then
  some (.inr false)
  else
  bnd (spec_l12Boxes e1.els t1) fun r7 =>
  (bif (!r7) then
  some (.inr false)
  else
  spec_l12Boxes_l1 t0 t1 (wrap64 (t5 + 1))))))
  else
  some (.inl ())) : Option (Unit ⊕ Bool)) := by kernel_rfl
  exact loop_le' (sig := s23101) (p := p23101) (by kernel_rfl) (by kernel_rfl) rfl rfl rfl (e.trans h)

theorem spec_WordValid_le (a0 : Int) : Tv.Le
  (bnd (spec_l6In a0 (-2147483648) 2147483647) fun r1 =>
  some r1 : Option (Bool))
  (spec_WordValid a0) := fun r h => by
  have e : runC (phi Tb GT sg) Tb GT p6400.code (mkST p6400.ins [.int .i64 a0] p6400.bins []) (finT p6400 s6400) = (
  bnd (spec_l6In a0 (-2147483648) 2147483647) fun r1 =>
  some r1 : Option (Bool)) := by kernel_rfl
  exact fn_le' (sig := s6400) (p := p6400) (by kernel_rfl) (by kernel_rfl) rfl rfl rfl (e.trans h)

theorem spec_l4Words_l1_le (t0 : List Int) (t5 : Int) : Tv.Le
  ((bif (decide (t5 < (t0.length : Int))) then
  bnd (geti t0 t5) fun e1 =>
  bnd (spec_WordValid e1) fun r2 =>
  (bif (!r2) then
  some (.inr false)
  else
  spec_l4Words_l1 t0 (wrap64 (t5 + 1)))
  else
  some (.inl ())) : Option (Unit ⊕ Bool))
  (spec_l4Words_l1 t0 t5) := fun r h => by
  have e : runC (phi Tb GT sg) Tb GT p6501.code (mkST p6501.ins [.sl .share .int t0, .int .i64 t5] p6501.bins []) (finL Tb GT 6501 p6501 s6501) = (
  (bif (decide (t5 < (t0.length : Int))) then
  bnd (geti t0 t5) fun e1 =>
  bnd (spec_WordValid e1) fun r2 =>
  (bif (!r2) then
  some (.inr false)
  else
  spec_l4Words_l1 t0 (wrap64 (t5 + 1)))
  else
  some (.inl ())) : Option (Unit ⊕ Bool)) := by kernel_rfl
  exact loop_le' (sig := s6501) (p := p6501) (by kernel_rfl) (by kernel_rfl) rfl rfl rfl (e.trans h)

theorem impl_areWords_le (a0 : List Int) : Tv.Le
  (bnd (impl_areWords_l1 a0 (a0.length : Int) 0) fun r1 =>
  selm r1 (fun y2 =>
  some true) (fun z3 =>
  some z3) : Option (Bool))
  (impl_areWords a0) := fun r h => by
  have e : runC (phi Tb GT sg) Tb GT p5100.code (mkST p5100.ins [.sl .share .int a0] p5100.bins []) (finT p5100 s5100) = (
  bnd (impl_areWords_l1 a0 (a0.length : Int) 0) fun r1 =>
  selm r1 (fun y2 =>
  some true) (fun z3 =>
  some z3) : Option (Bool)) := by kernel_rfl
  exact fn_le' (sig := s5100) (p := p5100) (by kernel_rfl) (by kernel_rfl) rfl rfl rfl (e.trans h)

theorem impl_BoxValid_le (a0 : Bx) : Tv.Le
  ((bif (decide (1 ≤ a0.room)) then
  (bif (decide (a0.room ≤ 4)) then
  (bif (decide ((a0.items.length : Int) ≤ a0.room)) then
  bnd (impl_areWords a0.items) fun r1 =>
  some r1
  else
  some false)
  else
  some false)
  else
  some false) : Option (Bool))
  (impl_BoxValid a0) := fun r h => by
  have e : runC (phi Tb GT sg) Tb GT p17600.code (mkST p17600.ins [.agg (rowT .bx a0)] p17600.bins []) (finT p17600 s17600) = (
  (bif (decide (1 ≤ a0.room)) then
  (bif (decide (a0.room ≤ 4)) then
  (bif (decide ((a0.items.length : Int) ≤ a0.room)) then
  bnd (impl_areWords a0.items) fun r1 =>
  some r1
  else
  some false)
  else
  some false)
  else
  some false) : Option (Bool)) := by kernel_rfl
  exact fn_le' (sig := s17600) (p := p17600) (by kernel_rfl) (by kernel_rfl) rfl rfl rfl (e.trans h)

theorem impl_boxesValid_l1_le (t0 : List Bx) (t5 : List Bx) (t6 : Int) (t7 : Int) : Tv.Le
  ((bif (decide (t7 < t6)) then
  bnd (geti t5 t7) fun e1 =>
  bnd (impl_BoxValid e1) fun r2 =>
  (bif (!r2) then
  some (.inr (t0, false))
  else
  impl_boxesValid_l1 t0 t5 t6 (wrap64 (t7 + 1)))
  else
  some (.inl t0)) : Option (List Bx ⊕ (List Bx × Bool)))
  (impl_boxesValid_l1 t0 t5 t6 t7) := fun r h => by
  have e : runC (phi Tb GT sg) Tb GT p23901.code (mkST p23901.ins [.sl .share .bx t0, .sl .share .bx t5, .int .i64 t6, .int .i64 t7] p23901.bins []) (finL Tb GT 23901 p23901 s23901) = (
  (bif (decide (t7 < t6)) then
  bnd (geti t5 t7) fun e1 =>
  bnd (impl_BoxValid e1) fun r2 =>
  (bif (!r2) then
  some (.inr (t0, false))
  else
  impl_boxesValid_l1 t0 t5 t6 (wrap64 (t7 + 1)))
  else
  some (.inl t0)) : Option (List Bx ⊕ (List Bx × Bool))) := by kernel_rfl
  exact loop_le' (sig := s23901) (p := p23901) (by kernel_rfl) (by kernel_rfl) rfl rfl rfl (e.trans h)

theorem impl_stmtsValid_le (a0 : List Stm) (a1 : Int) : Tv.Le
  (bnd (impl_blockValid a0 a1 0 0) fun r1 =>
  some r1.1 : Option (Bool))
  (impl_stmtsValid a0 a1) := fun r h => by
  have e : runC (phi Tb GT sg) Tb GT p5400.code (mkST p5400.ins [.sl .share .stm a0, .int .i64 a1] p5400.bins []) (finT p5400 s5400) = (
  bnd (impl_blockValid a0 a1 0 0) fun r1 =>
  some r1.1 : Option (Bool)) := by kernel_rfl
  exact fn_le' (sig := s5400) (p := p5400) (by kernel_rfl) (by kernel_rfl) rfl rfl rfl (e.trans h)

end Go.TFnExactWorldValid
