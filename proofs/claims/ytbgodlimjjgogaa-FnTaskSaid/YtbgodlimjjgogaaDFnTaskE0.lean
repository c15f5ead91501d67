import Derived.Test.YtbgodlimjjgogaaDFnTaskP
import Derived.KernelRfl
set_option linter.unusedVariables false
namespace Go.TFnTask
open Go Go.RowKit Go.Vs Go.Tv
theorem laws_FnTask_le (a0 : List Int) (a1 : List Int) : Tv.Le
  ((bif (decide (1048576 < (a0.length : Int))) then
  some true
  else
  (bif (decide (1048576 < (a1.length : Int))) then
  some true
  else
  bnd (spec_DrawTaskValid a0) fun r1 =>
  bnd (impl_TaskValid r1) fun r2 =>
  bnd (spec_TaskValid r1) fun r3 =>
  (bif (!(r2 == r3)) then
  some (r2 == r3)
  else
  (bif (!r2) then
  some (r2 == r3)
  else
  bnd (remI (a1.length : Int) (wrap64 ((r1.rest.length : Int) + 1))) fun n4 =>
  bnd (cutL r1.rest n4 (r1.rest.length : Int)) fun l5 =>
  bnd (appL ([] : List Stm) r1.rest) fun l6 =>
  bnd (appL l6 r1.rest) fun l7 =>
  bnd (impl_TaskValid (⟨r1.vars, l5⟩ : Tk)) fun r8 =>
  (bif r8 then
  bnd (impl_TaskValid (⟨r1.vars, l7⟩ : Tk)) fun r9 =>
  (bif r9 then
  bnd (cutL r1.vars 1 (r1.vars.length : Int)) fun l10 =>
  bnd (impl_TaskValid (⟨l10, r1.rest⟩ : Tk)) fun r11 =>
  some (!r11)
  else
  some false)
  else
  some false))))) : Option (Bool))
  (laws_FnTask a0 a1) := by
  rewrite [← wrapC_eq]
  exact fun r h => by
    have e : runC (phi Tb GT sg) Tb GT p6700.code (startAT p6700 (mkST p6700.ins [.sl .share .u8 a0, .sl .share .u8 a1] p6700.bins [])) (finT p6700 s6700) = (
      (bif (decide (1048576 < (a0.length : Int))) then
      some true
      else
      (bif (decide (1048576 < (a1.length : Int))) then
      some true
      else
      bnd (spec_DrawTaskValid a0) fun r1 =>
      bnd (impl_TaskValid r1) fun r2 =>
      bnd (spec_TaskValid r1) fun r3 =>
      (bif (!(r2 == r3)) then
      some (r2 == r3)
      else
      (bif (!r2) then
      some (r2 == r3)
      else
      bnd (remI (a1.length : Int) (wrapC ((r1.rest.length : Int) + 1))) fun n4 =>
      bnd (cutL r1.rest n4 (r1.rest.length : Int)) fun l5 =>
      bnd (appL ([] : List Stm) r1.rest) fun l6 =>
      bnd (appL l6 r1.rest) fun l7 =>
      bnd (impl_TaskValid (⟨r1.vars, l5⟩ : Tk)) fun r8 =>
      (bif r8 then
      bnd (impl_TaskValid (⟨r1.vars, l7⟩ : Tk)) fun r9 =>
      (bif r9 then
      bnd (cutL r1.vars 1 (r1.vars.length : Int)) fun l10 =>
      bnd (impl_TaskValid (⟨l10, r1.rest⟩ : Tk)) fun r11 =>
      some (!r11)
      else
      some false)
      else
      some false))))) : Option (Bool)) := by kernel_rfl
    exact fn_le' (sig := s6700) (p := p6700) (by kernel_rfl) (by kernel_rfl) rfl rfl rfl rfl (e.trans h)

theorem spec_DrawTaskValid_le (a0 : List Int) : Tv.Le
  (bnd (spec_l6Open a0) fun r1 =>
  bnd (spec_l92Task r1.1 r1.2) fun r2 =>
  some r2.1 : Option (Tk))
  (spec_DrawTaskValid a0) := by
  exact fun r h => by
    have e : runC (phi Tb GT sg) Tb GT p4900.code (startAT p4900 (mkST p4900.ins [.sl .share .u8 a0] p4900.bins [])) (finT p4900 s4900) = (
      bnd (spec_l6Open a0) fun r1 =>
      bnd (spec_l92Task r1.1 r1.2) fun r2 =>
      some r2.1 : Option (Tk)) := by kernel_rfl
    exact fn_le' (sig := s4900) (p := p4900) (by kernel_rfl) (by kernel_rfl) rfl rfl rfl rfl (e.trans h)

theorem impl_TaskValid_le (a0 : Tk) : Tv.Le
  (bnd (impl_taskValid a0 3) fun r1 =>
  some r1 : Option (Bool))
  (impl_TaskValid a0) := by
  exact fun r h => by
    have e : runC (phi Tb GT sg) Tb GT p5600.code (startAT p5600 (mkST p5600.ins [.agg (rowT .tk a0)] p5600.bins [])) (finT p5600 s5600) = (
      bnd (impl_taskValid a0 3) fun r1 =>
      some r1 : Option (Bool)) := by kernel_rfl
    exact fn_le' (sig := s5600) (p := p5600) (by kernel_rfl) (by kernel_rfl) rfl rfl rfl rfl (e.trans h)

theorem spec_TaskValid_le (a0 : Tk) : Tv.Le
  (bnd (spec_TaskValid_l1 0 a0.vars a0.rest) fun r1 =>
  selm r1 (fun y2 =>
  bnd (spec_l4Words y2.1 4) fun r4 =>
  some r4) (fun z3 =>
  some z3.1) : Option (Bool))
  (spec_TaskValid a0) := by
  exact fun r h => by
    have e : runC (phi Tb GT sg) Tb GT p6600.code (startAT p6600 (mkST p6600.ins [.agg (rowT .tk a0)] p6600.bins [])) (finT p6600 s6600) = (
      bnd (spec_TaskValid_l1 0 a0.vars a0.rest) fun r1 =>
      selm r1 (fun y2 =>
      bnd (spec_l4Words y2.1 4) fun r4 =>
      some r4) (fun z3 =>
      some z3.1) : Option (Bool)) := by kernel_rfl
    exact fn_le' (sig := s6600) (p := p6600) (by kernel_rfl) (by kernel_rfl) rfl rfl rfl rfl (e.trans h)

theorem spec_l6Open_le (a0 : List Int) : Tv.Le
  ((bif (decide (2000 < (a0.length : Int))) then
  bnd (cutL a0 0 2000) fun l1 =>
  some (l1, 0)
  else
  some (a0, 0)) : Option (List Int × Int))
  (spec_l6Open a0) := by
  exact fun r h => by
    have e : runC (phi Tb GT sg) Tb GT p100.code (startAT p100 (mkST p100.ins [.sl .share .u8 a0] p100.bins [])) (finT p100 s100) = (
      (bif (decide (2000 < (a0.length : Int))) then
      bnd (cutL a0 0 2000) fun l1 =>
      some (l1, 0)
      else
      some (a0, 0)) : Option (List Int × Int)) := by kernel_rfl
    exact fn_le' (sig := s100) (p := p100) (by kernel_rfl) (by kernel_rfl) rfl rfl rfl rfl (e.trans h)

theorem spec_l92Task_le (a0b : List Int) (a0p : Int) : Tv.Le
  (bnd (spec_l91Vars a0b a0p) fun r1 =>
  bnd (spec_l92Stmts_p 2 r1.2.1 r1.2.2 ([] : List Ent)) fun r2 =>
  bnd (spec_l6Rd_pick 30 r2.2.1 r2.2.2.1) fun r3 =>
  (bif (decide (r3.1 = 0)) then
  bnd (arView (arPush r2.2.2.2 .stm ([] : List Stm)) .stm (some (List.length r2.2.2.2))) fun l4 =>
  some (⟨r1.1, l4⟩, r3.2.1, r3.2.2)
  else
  (bif (decide (r3.1 = 1)) then
  bnd (arGet (arPush r2.2.2.2 .stm ([⟨5, 0, 2, ⟨0, 0, []⟩, [], []⟩] : List Stm)) .stm r2.1.id) fun l6 =>
  bnd (arApp (arPush r2.2.2.2 .stm ([⟨5, 0, 2, ⟨0, 0, []⟩, [], []⟩] : List Stm)) .stm (some (List.length r2.2.2.2)) 1 l6) fun B5 =>
  bnd (arView B5 .stm (some (List.length (arPush r2.2.2.2 .stm ([⟨5, 0, 2, ⟨0, 0, []⟩, [], []⟩] : List Stm))))) fun l7 =>
  some (⟨r1.1, l7⟩, r3.2.1, r3.2.2)
  else
  (bif (decide (r3.1 = 2)) then
  bnd (arApp r2.2.2.2 .stm r2.1.id r2.1.n ([⟨9, 0, 0, ⟨0, 0, []⟩, [], []⟩] : List Stm)) fun B8 =>
  bnd (arView B8 .stm (some (List.length r2.2.2.2))) fun l9 =>
  some (⟨r1.1, l9⟩, r3.2.1, r3.2.2)
  else
  bnd (arView r2.2.2.2 .stm r2.1.id) fun l10 =>
  some (⟨r1.1, l10⟩, r3.2.1, r3.2.2)))) : Option (Tk × List Int × Int))
  (spec_l92Task a0b a0p) := by
  exact fun r h => by
    have e : runC (phi Tb GT sg) Tb GT p4800.code (startAT p4800 (mkST p4800.ins [.bp 0 0] p4800.bins [.var [.sl .share .u8 a0b, .int .i64 a0p]])) (finT p4800 s4800) = (
      bnd (spec_l91Vars a0b a0p) fun r1 =>
      bnd (spec_l92Stmts_p 2 r1.2.1 r1.2.2 ([] : List Ent)) fun r2 =>
      bnd (spec_l6Rd_pick 30 r2.2.1 r2.2.2.1) fun r3 =>
      (bif (decide (r3.1 = 0)) then
      bnd (arView (arPush r2.2.2.2 .stm ([] : List Stm)) .stm (some (List.length r2.2.2.2))) fun l4 =>
      some (⟨r1.1, l4⟩, r3.2.1, r3.2.2)
      else
      (bif (decide (r3.1 = 1)) then
      bnd (arGet (arPush r2.2.2.2 .stm ([⟨5, 0, 2, ⟨0, 0, []⟩, [], []⟩] : List Stm)) .stm r2.1.id) fun l6 =>
      bnd (arApp (arPush r2.2.2.2 .stm ([⟨5, 0, 2, ⟨0, 0, []⟩, [], []⟩] : List Stm)) .stm (some (List.length r2.2.2.2)) 1 l6) fun B5 =>
      bnd (arView B5 .stm (some (List.length (arPush r2.2.2.2 .stm ([⟨5, 0, 2, ⟨0, 0, []⟩, [], []⟩] : List Stm))))) fun l7 =>
      some (⟨r1.1, l7⟩, r3.2.1, r3.2.2)
      else
      (bif (decide (r3.1 = 2)) then
      bnd (arApp r2.2.2.2 .stm r2.1.id r2.1.n ([⟨9, 0, 0, ⟨0, 0, []⟩, [], []⟩] : List Stm)) fun B8 =>
      bnd (arView B8 .stm (some (List.length r2.2.2.2))) fun l9 =>
      some (⟨r1.1, l9⟩, r3.2.1, r3.2.2)
      else
      bnd (arView r2.2.2.2 .stm r2.1.id) fun l10 =>
      some (⟨r1.1, l10⟩, r3.2.1, r3.2.2)))) : Option (Tk × List Int × Int)) := by kernel_rfl
    exact fn_le' (sig := s4800) (p := p4800) (by kernel_rfl) (by kernel_rfl) rfl rfl rfl rfl (e.trans h)

theorem impl_taskValid_le (a0 : Tk) (a1 : Int) : Tv.Le
  ((bif (!decide ((a0.vars.length : Int) = 4)) then
  some false
  else
  bnd (impl_areWords a0.vars) fun r1 =>
  (bif (!r1) then
  some false
  else
  bnd (impl_taskValid_l1 a1 (a0.rest.length : Int) 0 a0.vars a0.rest) fun r2 =>
  selm r2 (fun y3 =>
  some true) (fun z4 =>
  some z4))) : Option (Bool))
  (impl_taskValid a0 a1) := by
  exact fun r h => by
    have e : runC (phi Tb GT sg) Tb GT p5500.code (startAT p5500 (mkST p5500.ins [.agg (rowT .tk a0), .int .i64 a1] p5500.bins [])) (finT p5500 s5500) = (
      (bif (!decide ((a0.vars.length : Int) = 4)) then
      some false
      else
      bnd (impl_areWords a0.vars) fun r1 =>
      (bif (!r1) then
      some false
      else
      bnd (impl_taskValid_l1 a1 (a0.rest.length : Int) 0 a0.vars a0.rest) fun r2 =>
      selm r2 (fun y3 =>
      some true) (fun z4 =>
      some z4))) : Option (Bool)) := by kernel_rfl
    exact fn_le' (sig := s5500) (p := p5500) (by kernel_rfl) (by kernel_rfl) rfl rfl rfl rfl (e.trans h)

theorem spec_StmtsValid_le (a0 : List Stm) : Tv.Le
  (bnd (spec_l11Blocks a0 3) fun r1 =>
  (bif r1 then
  bnd (spec_l11Count a0) fun r2 =>
  some (decide (r2 ≤ 16))
  else
  some false) : Option (Bool))
  (spec_StmtsValid a0) := by
  exact fun r h => by
    have e : runC (phi Tb GT sg) Tb GT p6300.code (startAT p6300 (mkST p6300.ins [.sl .share .stm a0] p6300.bins [])) (finT p6300 s6300) = (
      bnd (spec_l11Blocks a0 3) fun r1 =>
      (bif r1 then
      bnd (spec_l11Count a0) fun r2 =>
      some (decide (r2 ≤ 16))
      else
      some false) : Option (Bool)) := by kernel_rfl
    exact fn_le' (sig := s6300) (p := p6300) (by kernel_rfl) (by kernel_rfl) rfl rfl rfl rfl (e.trans h)

theorem spec_TaskValid_l1_le (t3 : Int) (b100_0 : List Int) (b100_1 : List Stm) : Tv.Le
  ((bif (decide (t3 < (b100_1.length : Int))) then
  bnd (cutL b100_1 t3 (wrap64 (t3 + 1))) fun l1 =>
  bnd (spec_StmtsValid l1) fun r2 =>
  (bif (!r2) then
  some (.inr (false, b100_0, b100_1))
  else
  spec_TaskValid_l1 (wrap64 (t3 + 1)) b100_0 b100_1)
  else
  some (.inl (b100_0, b100_1))) : Option ((List Int × List Stm) ⊕ (Bool × List Int × List Stm)))
  (spec_TaskValid_l1 t3 b100_0 b100_1) := by
  rewrite [← wrapC_eq]
  exact fun r h => by
    have e : runC (phi Tb GT sg) Tb GT p6601.code ((mkST p6601.ins [.bp 100 0, .int .i64 t3] p6601.bins [.var [.sl .share .int b100_0, .sl .share .stm b100_1]])) (finL Tb GT 6601 p6601 s6601) = (
      (bif (decide (t3 < (b100_1.length : Int))) then
      bnd (cutL b100_1 t3 (wrapC (t3 + 1))) fun l1 =>
      bnd (spec_StmtsValid l1) fun r2 =>
      (bif (!r2) then
      some (.inr (false, b100_0, b100_1))
      else
      spec_TaskValid_l1 (wrapC (t3 + 1)) b100_0 b100_1)
      else
      some (.inl (b100_0, b100_1))) : Option ((List Int × List Stm) ⊕ (Bool × List Int × List Stm))) := by kernel_rfl
    exact loop_le' (sig := s6601) (p := p6601) (by kernel_rfl) (by kernel_rfl) rfl rfl rfl (e.trans h)

theorem spec_l4Words_le (a0 : List Int) (a1 : Int) : Tv.Le
  ((bif (!decide ((a0.length : Int) = a1)) then
  some false
  else
  bnd (spec_l4Words_l1 a0 0) fun r1 =>
  selm r1 (fun y2 =>
  some true) (fun z3 =>
  some z3)) : Option (Bool))
  (spec_l4Words a0 a1) := by
  exact fun r h => by
    have e : runC (phi Tb GT sg) Tb GT p6500.code (startAT p6500 (mkST p6500.ins [.sl .share .int a0, .int .i64 a1] p6500.bins [])) (finT p6500 s6500) = (
      (bif (!decide ((a0.length : Int) = a1)) then
      some false
      else
      bnd (spec_l4Words_l1 a0 0) fun r1 =>
      selm r1 (fun y2 =>
      some true) (fun z3 =>
      some z3)) : Option (Bool)) := by kernel_rfl
    exact fn_le' (sig := s6500) (p := p6500) (by kernel_rfl) (by kernel_rfl) rfl rfl rfl rfl (e.trans h)

theorem spec_l91Vars_le (a0b : List Int) (a0p : Int) : Tv.Le
  (bnd (spec_l91Vars_l1 (⟨(some (List.length ([] : List Ent))), 0⟩ : Hd) 0 a0b a0p (arPush ([] : List Ent) .int ([] : List Int))) fun r1 =>
  bnd (spec_l6Rd_pick 40 r1.2.1 r1.2.2.1) fun r2 =>
  (bif (decide (r2.1 = 0)) then
  bnd (arApp r1.2.2.2 .int r1.1.id r1.1.n ([1] : List Int)) fun B3 =>
  bnd (arView B3 .int (some (List.length r1.2.2.2))) fun l4 =>
  some (l4, r2.2.1, r2.2.2)
  else
  (bif (decide (r2.1 = 1)) then
  bnd (idxN r1.1.n 0) fun i5 =>
  bnd (arRow r1.2.2.2 .int r1.1.id i5) fun e6 =>
  bnd (arView (arSet r1.2.2.2 .int r1.1.id i5 2147483648) .int r1.1.id) fun l7 =>
  some (l7, r2.2.1, r2.2.2)
  else
  bnd (arView r1.2.2.2 .int r1.1.id) fun l8 =>
  some (l8, r2.2.1, r2.2.2))) : Option (List Int × List Int × Int))
  (spec_l91Vars a0b a0p) := by
  exact fun r h => by
    have e : runC (phi Tb GT sg) Tb GT p3900.code (startAT p3900 (mkST p3900.ins [.bp 0 0] p3900.bins [.var [.sl .share .u8 a0b, .int .i64 a0p]])) (finT p3900 s3900) = (
      bnd (spec_l91Vars_l1 (⟨(some (List.length ([] : List Ent))), 0⟩ : Hd) 0 a0b a0p (arPush ([] : List Ent) .int ([] : List Int))) fun r1 =>
      bnd (spec_l6Rd_pick 40 r1.2.1 r1.2.2.1) fun r2 =>
      (bif (decide (r2.1 = 0)) then
      bnd (arApp r1.2.2.2 .int r1.1.id r1.1.n ([1] : List Int)) fun B3 =>
      bnd (arView B3 .int (some (List.length r1.2.2.2))) fun l4 =>
      some (l4, r2.2.1, r2.2.2)
      else
      (bif (decide (r2.1 = 1)) then
      bnd (idxN r1.1.n 0) fun i5 =>
      bnd (arRow r1.2.2.2 .int r1.1.id i5) fun e6 =>
      bnd (arView (arSet r1.2.2.2 .int r1.1.id i5 2147483648) .int r1.1.id) fun l7 =>
      some (l7, r2.2.1, r2.2.2)
      else
      bnd (arView r1.2.2.2 .int r1.1.id) fun l8 =>
      some (l8, r2.2.1, r2.2.2))) : Option (List Int × List Int × Int)) := by kernel_rfl
    exact fn_le' (sig := s3900) (p := p3900) (by kernel_rfl) (by kernel_rfl) rfl rfl rfl rfl (e.trans h)

theorem spec_l92Stmts_p_le (a1 : Int) (a0b : List Int) (a0p : Int) (A : List Ent) : Tv.Le
  (bnd (spec_l6Rd_pick 6 a0b a0p) fun r1 =>
  bnd (spec_l92Block_p a1 3 (wrap64 (1 + r1.1)) true r1.2.1 r1.2.2 A) fun r2 =>
  bnd (spec_l92Stmts_p_l1 r2.1 r2.2.1 r2.2.2.1 r2.2.2.2) fun r3 =>
  some (r3.1, r3.2.1, r3.2.2.1, r3.2.2.2) : Option (Hd × List Int × Int × List Ent))
  (spec_l92Stmts_p a1 a0b a0p A) := by
  rewrite [← wrapC_eq]
  exact fun r h => by
    have e : runC (phi Tb GT sg) Tb GT p38000.code (startAT p38000 (mkST p38000.ins [.bp 0 0, .int .i64 a1] p38000.bins [.var [.sl .share .u8 a0b, .int .i64 a0p], .ar A])) (finT p38000 s38000) = (
      bnd (spec_l6Rd_pick 6 a0b a0p) fun r1 =>
      bnd (spec_l92Block_p a1 3 (wrapC (1 + r1.1)) true r1.2.1 r1.2.2 A) fun r2 =>
      bnd (spec_l92Stmts_p_l1 r2.1 r2.2.1 r2.2.2.1 r2.2.2.2) fun r3 =>
      some (r3.1, r3.2.1, r3.2.2.1, r3.2.2.2) : Option (Hd × List Int × Int × List Ent)) := by kernel_rfl
    exact fn_le' (sig := s38000) (p := p38000) (by kernel_rfl) (by kernel_rfl) rfl rfl rfl rfl (e.trans h)

theorem spec_l6Rd_pick_le (a1 : Int) (a0b : List Int) (a0p : Int) : Tv.Le
  ((bif (decide (a1 < 1)) then
  some (0, a0b, (wrap64 (a0p + 1)))
  else
  (bif (decide ((a0b.length : Int) = 0)) then
  some (0, a0b, (wrap64 (a0p + 1)))
  else
  (bif (decide ((wrap64 ((wrap64 (a0p + 1)) - 1)) < (a0b.length : Int))) then
  bnd (geti a0b (wrap64 ((wrap64 (a0p + 1)) - 1))) fun e1 =>
  bnd (remI (wrap64 (e1)) a1) fun n2 =>
  some (n2, a0b, (wrap64 (a0p + 1)))
  else
  bnd (remI (wrap64 ((wrap64 (a0p + 1)) - 1)) (a0b.length : Int)) fun n3 =>
  bnd (geti a0b n3) fun e4 =>
  bnd (remI (wrap64 ((wrap64 ((wrap64 ((wrap64 (a0p + 1)) - 1)) * 7)) + 3)) (a0b.length : Int)) fun n5 =>
  bnd (geti a0b n5) fun e6 =>
  bnd (quoI .i64 (wrap64 ((wrap64 (a0p + 1)) - 1)) (a0b.length : Int)) fun n7 =>
  bnd (remI (bits .xor .i64 (wrap64 ((wrap64 ((wrap64 ((wrap64 ((wrap64 (e4)) * 131)) + (wrap64 ((wrap64 (e6)) * 1117)))) + (wrap64 ((wrap64 ((wrap64 (a0p + 1)) - 1)) * 29)))) + (wrap64 (n7 * 53)))) (wrap64 (Int.tdiv (wrap64 ((wrap64 ((wrap64 ((wrap64 ((wrap64 (e4)) * 131)) + (wrap64 ((wrap64 (e6)) * 1117)))) + (wrap64 ((wrap64 ((wrap64 (a0p + 1)) - 1)) * 29)))) + (wrap64 (n7 * 53)))) 64))) a1) fun n8 =>
  some (n8, a0b, (wrap64 (a0p + 1)))))) : Option (Int × List Int × Int))
  (spec_l6Rd_pick a1 a0b a0p) := by
  rewrite [← wrapC_eq]
  exact fun r h => by
    have e : runC (phi Tb GT sg) Tb GT p200.code (startAT p200 (mkST p200.ins [.bp 0 0, .int .i64 a1] p200.bins [.var [.sl .share .u8 a0b, .int .i64 a0p]])) (finT p200 s200) = (
      (bif (decide (a1 < 1)) then
      some (0, a0b, (wrapC (a0p + 1)))
      else
      (bif (decide ((a0b.length : Int) = 0)) then
      some (0, a0b, (wrapC (a0p + 1)))
      else
      (bif (decide ((wrapC ((wrapC (a0p + 1)) - 1)) < (a0b.length : Int))) then
      bnd (geti a0b (wrapC ((wrapC (a0p + 1)) - 1))) fun e1 =>
      bnd (remI (wrapC (e1)) a1) fun n2 =>
      some (n2, a0b, (wrapC (a0p + 1)))
      else
      bnd (remI (wrapC ((wrapC (a0p + 1)) - 1)) (a0b.length : Int)) fun n3 =>
      bnd (geti a0b n3) fun e4 =>
      bnd (remI (wrapC ((wrapC ((wrapC ((wrapC (a0p + 1)) - 1)) * 7)) + 3)) (a0b.length : Int)) fun n5 =>
      bnd (geti a0b n5) fun e6 =>
      bnd (quoI .i64 (wrapC ((wrapC (a0p + 1)) - 1)) (a0b.length : Int)) fun n7 =>
      bnd (remI (bits .xor .i64 (wrapC ((wrapC ((wrapC ((wrapC ((wrapC (e4)) * 131)) + (wrapC ((wrapC (e6)) * 1117)))) + (wrapC ((wrapC ((wrapC (a0p + 1)) - 1)) * 29)))) + (wrapC (n7 * 53)))) (wrapC (Int.tdiv (wrapC ((wrapC ((wrapC ((wrapC ((wrapC (e4)) * 131)) + (wrapC ((wrapC (e6)) * 1117)))) + (wrapC ((wrapC ((wrapC (a0p + 1)) - 1)) * 29)))) + (wrapC (n7 * 53)))) 64))) a1) fun n8 =>
      some (n8, a0b, (wrapC (a0p + 1)))))) : Option (Int × List Int × Int)) := by kernel_rfl
    exact fn_le' (sig := s200) (p := p200) (by kernel_rfl) (by kernel_rfl) rfl rfl rfl rfl (e.trans h)

theorem impl_areWords_le (a0 : List Int) : Tv.Le
  (bnd (impl_areWords_l1 a0 (a0.length : Int) 0) fun r1 =>
  selm r1 (fun y2 =>
  some true) (fun z3 =>
  some z3) : Option (Bool))
  (impl_areWords a0) := by
  exact fun r h => by
    have e : runC (phi Tb GT sg) Tb GT p5100.code (startAT p5100 (mkST p5100.ins [.sl .share .int a0] p5100.bins [])) (finT p5100 s5100) = (
      bnd (impl_areWords_l1 a0 (a0.length : Int) 0) fun r1 =>
      selm r1 (fun y2 =>
      some true) (fun z3 =>
      some z3) : Option (Bool)) := by kernel_rfl
    exact fn_le' (sig := s5100) (p := p5100) (by kernel_rfl) (by kernel_rfl) rfl rfl rfl rfl (e.trans h)

theorem impl_stmtsValid_le (a0 : List Stm) (a1 : Int) : Tv.Le
  (bnd (impl_blockValid a0 a1 0 0) fun r1 =>
  some r1.1 : Option (Bool))
  (impl_stmtsValid a0 a1) := by
  exact fun r h => by
    have e : runC (phi Tb GT sg) Tb GT p5400.code (startAT p5400 (mkST p5400.ins [.sl .share .stm a0, .int .i64 a1] p5400.bins [])) (finT p5400 s5400) = (
      bnd (impl_blockValid a0 a1 0 0) fun r1 =>
      some r1.1 : Option (Bool)) := by kernel_rfl
    exact fn_le' (sig := s5400) (p := p5400) (by kernel_rfl) (by kernel_rfl) rfl rfl rfl rfl (e.trans h)

theorem impl_taskValid_l1_le (t1 : Int) (t18 : Int) (t19 : Int) (b100_0 : List Int) (b100_1 : List Stm) : Tv.Le
  ((bif (decide (t19 < t18)) then
  bnd (cutL b100_1 t19 (wrap64 (t19 + 1))) fun l1 =>
  bnd (impl_stmtsValid l1 t1) fun r2 =>
  (bif (!r2) then
  some (.inr false)
  else
  impl_taskValid_l1 t1 t18 (wrap64 (t19 + 1)) b100_0 b100_1)
  else
  some (.inl ())) : Option (Unit ⊕ Bool))
  (impl_taskValid_l1 t1 t18 t19 b100_0 b100_1) := by
  rewrite [← wrapC_eq]
  exact fun r h => by
    have e : runC (phi Tb GT sg) Tb GT p5501.code ((mkST p5501.ins [.int .i64 t1, .bp 100 0, .int .i64 t18, .int .i64 t19] p5501.bins [.var [.sl .share .int b100_0, .sl .share .stm b100_1]])) (finL Tb GT 5501 p5501 s5501) = (
      (bif (decide (t19 < t18)) then
      bnd (cutL b100_1 t19 (wrapC (t19 + 1))) fun l1 =>
      bnd (impl_stmtsValid l1 t1) fun r2 =>
      (bif (!r2) then
      some (.inr false)
      else
      impl_taskValid_l1 t1 t18 (wrapC (t19 + 1)) b100_0 b100_1)
      else
      some (.inl ())) : Option (Unit ⊕ Bool)) := by kernel_rfl
    exact loop_le' (sig := s5501) (p := p5501) (by kernel_rfl) (by kernel_rfl) rfl rfl rfl (e.trans h)

theorem spec_l11Blocks_le (a0 : List Stm) (a1 : Int) : Tv.Le
  (bnd (spec_l11Blocks_l1 a0 a1 0) fun r1 =>
  selm r1 (fun y2 =>
  some true) (fun z3 =>
  some z3) : Option (Bool))
  (spec_l11Blocks a0 a1) := by
  exact fun r h => by
    have e : runC (phi Tb GT sg) Tb GT p6200.code (startAT p6200 (mkST p6200.ins [.sl .share .stm a0, .int .i64 a1] p6200.bins [])) (finT p6200 s6200) = (
      bnd (spec_l11Blocks_l1 a0 a1 0) fun r1 =>
      selm r1 (fun y2 =>
      some true) (fun z3 =>
      some z3) : Option (Bool)) := by kernel_rfl
    exact fn_le' (sig := s6200) (p := p6200) (by kernel_rfl) (by kernel_rfl) rfl rfl rfl rfl (e.trans h)

theorem spec_l11Count_le (a0 : List Stm) : Tv.Le
  (bnd (spec_l11Count_l1 a0 0 0) fun r1 =>
  some r1 : Option (Int))
  (spec_l11Count a0) := by
  exact fun r h => by
    have e : runC (phi Tb GT sg) Tb GT p4000.code (startAT p4000 (mkST p4000.ins [.sl .share .stm a0] p4000.bins [])) (finT p4000 s4000) = (
      bnd (spec_l11Count_l1 a0 0 0) fun r1 =>
      some r1 : Option (Int)) := by kernel_rfl
    exact fn_le' (sig := s4000) (p := p4000) (by kernel_rfl) (by kernel_rfl) rfl rfl rfl rfl (e.trans h)

theorem spec_WordValid_le (a0 : Int) : Tv.Le
  (bnd (spec_l6In a0 (-2147483648) 2147483647) fun r1 =>
  some r1 : Option (Bool))
  (spec_WordValid a0) := by
  exact fun r h => by
    have e : runC (phi Tb GT sg) Tb GT p6400.code (startAT p6400 (mkST p6400.ins [.int .i64 a0] p6400.bins [])) (finT p6400 s6400) = (
      bnd (spec_l6In a0 (-2147483648) 2147483647) fun r1 =>
      some r1 : Option (Bool)) := by kernel_rfl
    exact fn_le' (sig := s6400) (p := p6400) (by kernel_rfl) (by kernel_rfl) rfl rfl rfl rfl (e.trans h)

theorem spec_l4Words_l1_le (t0 : List Int) (t5 : Int) : Tv.Le
  ((bif (decide (t5 < (t0.length : Int))) then
  bnd (geti t0 t5) fun e1 =>
  bnd (spec_WordValid e1) fun r2 =>
  (bif (!r2) then
  some (.inr false)
  else
  spec_l4Words_l1 t0 (wrap64 (t5 + 1)))
  else
  some (.inl ())) : Option (Unit ⊕ Bool))
  (spec_l4Words_l1 t0 t5) := by
  rewrite [← wrapC_eq]
  exact fun r h => by
    have e : runC (phi Tb GT sg) Tb GT p6501.code ((mkST p6501.ins [.sl .share .int t0, .int .i64 t5] p6501.bins [])) (finL Tb GT 6501 p6501 s6501) = (
      (bif (decide (t5 < (t0.length : Int))) then
      bnd (geti t0 t5) fun e1 =>
      bnd (spec_WordValid e1) fun r2 =>
      (bif (!r2) then
      some (.inr false)
      else
      spec_l4Words_l1 t0 (wrapC (t5 + 1)))
      else
      some (.inl ())) : Option (Unit ⊕ Bool)) := by kernel_rfl
    exact loop_le' (sig := s6501) (p := p6501) (by kernel_rfl) (by kernel_rfl) rfl rfl rfl (e.trans h)

theorem spec_l91Word_le (a0b : List Int) (a0p : Int) : Tv.Le
  (bnd (spec_l6Rd_pick 6 a0b a0p) fun r1 =>
  (bif (decide (r1.1 = 0)) then
  bnd (spec_l6Rd_pick 8 r1.2.1 r1.2.2) fun r2 =>
  bnd (geti ([(-2147483648), 2147483647, (-1), 0, 1, (-2147483647), 65536, (-65536)] : List Int) r2.1) fun e3 =>
  some (e3, r2.2.1, r2.2.2)
  else
  (bif (decide (r1.1 = 1)) then
  bnd (spec_l6Rd_pick 256 r1.2.1 r1.2.2) fun r4 =>
  bnd (spec_l6Rd_pick 256 r4.2.1 r4.2.2) fun r5 =>
  bnd (spec_l6Rd_pick 256 r5.2.1 r5.2.2) fun r6 =>
  bnd (spec_l6Rd_pick 200 r6.2.1 r6.2.2) fun r7 =>
  bnd (spec_Wrap (wrap64 ((wrap64 ((wrap64 ((wrap64 (r4.1 * 65536)) + (wrap64 (r5.1 * 256)))) + r6.1)) * (wrap64 (1 + r7.1))))) fun r8 =>
  some (r8, r7.2.1, r7.2.2)
  else
  (bif (decide (r1.1 = 2)) then
  bnd (spec_l6Rd_pick 200 r1.2.1 r1.2.2) fun r9 =>
  some ((wrap64 (0 - r9.1)), r9.2.1, r9.2.2)
  else
  bnd (spec_l6Rd_pick 20 r1.2.1 r1.2.2) fun r10 =>
  some (r10.1, r10.2.1, r10.2.2)))) : Option (Int × List Int × Int))
  (spec_l91Word a0b a0p) := by
  rewrite [← wrapC_eq]
  exact fun r h => by
    have e : runC (phi Tb GT sg) Tb GT p3800.code (startAT p3800 (mkST p3800.ins [.bp 0 0] p3800.bins [.var [.sl .share .u8 a0b, .int .i64 a0p]])) (finT p3800 s3800) = (
      bnd (spec_l6Rd_pick 6 a0b a0p) fun r1 =>
      (bif (decide (r1.1 = 0)) then
      bnd (spec_l6Rd_pick 8 r1.2.1 r1.2.2) fun r2 =>
      bnd (geti ([(-2147483648), 2147483647, (-1), 0, 1, (-2147483647), 65536, (-65536)] : List Int) r2.1) fun e3 =>
      some (e3, r2.2.1, r2.2.2)
      else
      (bif (decide (r1.1 = 1)) then
      bnd (spec_l6Rd_pick 256 r1.2.1 r1.2.2) fun r4 =>
      bnd (spec_l6Rd_pick 256 r4.2.1 r4.2.2) fun r5 =>
      bnd (spec_l6Rd_pick 256 r5.2.1 r5.2.2) fun r6 =>
      bnd (spec_l6Rd_pick 200 r6.2.1 r6.2.2) fun r7 =>
      bnd (spec_Wrap (wrapC ((wrapC ((wrapC ((wrapC (r4.1 * 65536)) + (wrapC (r5.1 * 256)))) + r6.1)) * (wrapC (1 + r7.1))))) fun r8 =>
      some (r8, r7.2.1, r7.2.2)
      else
      (bif (decide (r1.1 = 2)) then
      bnd (spec_l6Rd_pick 200 r1.2.1 r1.2.2) fun r9 =>
      some ((wrapC (0 - r9.1)), r9.2.1, r9.2.2)
      else
      bnd (spec_l6Rd_pick 20 r1.2.1 r1.2.2) fun r10 =>
      some (r10.1, r10.2.1, r10.2.2)))) : Option (Int × List Int × Int)) := by kernel_rfl
    exact fn_le' (sig := s3800) (p := p3800) (by kernel_rfl) (by kernel_rfl) rfl rfl rfl rfl (e.trans h)

theorem spec_l91Vars_l1_le (t3 : Hd) (t4 : Int) (b0_0 : List Int) (b0_1 : Int) (b99 : List Ent) : Tv.Le
  ((bif (decide (t4 < 4)) then
  bnd (spec_l91Word b0_0 b0_1) fun r1 =>
  bnd (arApp b99 .int t3.id t3.n ([r1.1] : List Int)) fun B2 =>
  spec_l91Vars_l1 (⟨(some (List.length b99)), (t3.n + List.length ([r1.1] : List Int))⟩ : Hd) (wrap64 (t4 + 1)) r1.2.1 r1.2.2 B2
  else
  some (t3, b0_0, b0_1, b99)) : Option (Hd × List Int × Int × List Ent))
  (spec_l91Vars_l1 t3 t4 b0_0 b0_1 b99) := by
  rewrite [← wrapC_eq]
  exact fun r h => by
    have e : runC (phi Tb GT sg) Tb GT p3901.code ((mkST p3901.ins [.bp 0 0, .tr .int t3.id t3.n, .int .i64 t4] p3901.bins [.var [.sl .share .u8 b0_0, .int .i64 b0_1], .ar b99])) (finL Tb GT 3901 p3901 s3901) = (
      (bif (decide (t4 < 4)) then
      bnd (spec_l91Word b0_0 b0_1) fun r1 =>
      bnd (arApp b99 .int t3.id t3.n ([r1.1] : List Int)) fun B2 =>
      spec_l91Vars_l1 (⟨(some (List.length b99)), (t3.n + List.length ([r1.1] : List Int))⟩ : Hd) (wrapC (t4 + 1)) r1.2.1 r1.2.2 B2
      else
      some (t3, b0_0, b0_1, b99)) : Option (Hd × List Int × Int × List Ent)) := by kernel_rfl
    exact loop_le' (sig := s3901) (p := p3901) (by kernel_rfl) (by kernel_rfl) rfl rfl rfl (e.trans h)

theorem spec_l92Block_p_le (a1 : Int) (a2 : Int) (a3 : Int) (a4 : Bool) (a0b : List Int) (a0p : Int) (A : List Ent) : Tv.Le
  (bnd (spec_l92Block_p_l1 a1 a2 a3 a4 (⟨(some (List.length A)), 0⟩ : Hd) 0 a0b a0p (arPush A .stm ([] : List Stm))) fun r1 =>
  some (r1.1, r1.2.1, r1.2.2.1, r1.2.2.2) : Option (Hd × List Int × Int × List Ent))
  (spec_l92Block_p a1 a2 a3 a4 a0b a0p A) := by
  exact fun r h => by
    have e : runC (phi Tb GT sg) Tb GT p38100.code (startAT p38100 (mkST p38100.ins [.bp 0 0, .int .i64 a1, .int .i64 a2, .int .i64 a3, .bool a4] p38100.bins [.var [.sl .share .u8 a0b, .int .i64 a0p], .ar A])) (finT p38100 s38100) = (
      bnd (spec_l92Block_p_l1 a1 a2 a3 a4 (⟨(some (List.length A)), 0⟩ : Hd) 0 a0b a0p (arPush A .stm ([] : List Stm))) fun r1 =>
      some (r1.1, r1.2.1, r1.2.2.1, r1.2.2.2) : Option (Hd × List Int × Int × List Ent)) := by kernel_rfl
    exact fn_le' (sig := s38100) (p := p38100) (by kernel_rfl) (by kernel_rfl) rfl rfl rfl rfl (e.trans h)

theorem spec_l92Stmts_p_l1_le (t5 : Hd) (b0_0 : List Int) (b0_1 : Int) (b99 : List Ent) : Tv.Le
  (bnd (arView b99 .stm t5.id) fun l1 =>
  bnd (spec_l11Count l1) fun r2 =>
  (bif (decide (16 < r2)) then
  bnd (arCut b99 .stm t5.id t5.n (wrap64 (((t5.n : Nat) : Int) - 1))) fun q3 =>
  spec_l92Stmts_p_l1 (⟨(some (List.length b99)), q3.1⟩ : Hd) b0_0 b0_1 q3.2
  else
  some (t5, b0_0, b0_1, b99)) : Option (Hd × List Int × Int × List Ent))
  (spec_l92Stmts_p_l1 t5 b0_0 b0_1 b99) := by
  rewrite [← wrapC_eq]
  exact fun r h => by
    have e : runC (phi Tb GT sg) Tb GT p38001.code ((mkST p38001.ins [.bp 0 0, .tr .stm t5.id t5.n] p38001.bins [.var [.sl .share .u8 b0_0, .int .i64 b0_1], .ar b99])) (finL Tb GT 38001 p38001 s38001) = (
      bnd (arView b99 .stm t5.id) fun l1 =>
      bnd (spec_l11Count l1) fun r2 =>
      (bif (decide (16 < r2)) then
      bnd (arCut b99 .stm t5.id t5.n (wrapC (((t5.n : Nat) : Int) - 1))) fun q3 =>
      spec_l92Stmts_p_l1 (⟨(some (List.length b99)), q3.1⟩ : Hd) b0_0 b0_1 q3.2
      else
      some (t5, b0_0, b0_1, b99)) : Option (Hd × List Int × Int × List Ent)) := by kernel_rfl
    exact loop_le' (sig := s38001) (p := p38001) (by kernel_rfl) (by kernel_rfl) rfl rfl rfl (e.trans h)

theorem impl_WordValid_le (a0 : Int) : Tv.Le
  ((bif (decide ((-2147483648) ≤ a0)) then
  some (decide (a0 ≤ 2147483647))
  else
  some false) : Option (Bool))
  (impl_WordValid a0) := by
  exact fun r h => by
    have e : runC (phi Tb GT sg) Tb GT p5000.code (startAT p5000 (mkST p5000.ins [.int .i64 a0] p5000.bins [])) (finT p5000 s5000) = (
      (bif (decide ((-2147483648) ≤ a0)) then
      some (decide (a0 ≤ 2147483647))
      else
      some false) : Option (Bool)) := by kernel_rfl
    exact fn_le' (sig := s5000) (p := p5000) (by kernel_rfl) (by kernel_rfl) rfl rfl rfl rfl (e.trans h)

theorem impl_areWords_l1_le (t5 : List Int) (t6 : Int) (t7 : Int) : Tv.Le
  ((bif (decide (t7 < t6)) then
  bnd (geti t5 t7) fun e1 =>
  bnd (impl_WordValid e1) fun r2 =>
  (bif (!r2) then
  some (.inr false)
  else
  impl_areWords_l1 t5 t6 (wrap64 (t7 + 1)))
  else
  some (.inl ())) : Option (Unit ⊕ Bool))
  (impl_areWords_l1 t5 t6 t7) := by
  rewrite [← wrapC_eq]
  exact fun r h => by
    have e : runC (phi Tb GT sg) Tb GT p5101.code ((mkST p5101.ins [.sl .share .int t5, .int .i64 t6, .int .i64 t7] p5101.bins [])) (finL Tb GT 5101 p5101 s5101) = (
      (bif (decide (t7 < t6)) then
      bnd (geti t5 t7) fun e1 =>
      bnd (impl_WordValid e1) fun r2 =>
      (bif (!r2) then
      some (.inr false)
      else
      impl_areWords_l1 t5 t6 (wrapC (t7 + 1)))
      else
      some (.inl ())) : Option (Unit ⊕ Bool)) := by kernel_rfl
    exact loop_le' (sig := s5101) (p := p5101) (by kernel_rfl) (by kernel_rfl) rfl rfl rfl (e.trans h)

theorem impl_blockValid_le (a0 : List Stm) (a1 : Int) (a2 : Int) (a3 : Int) : Tv.Le
  ((bif (decide (16 < (wrap64 (a3 + (a0.length : Int))))) then
  some (false, (wrap64 (a3 + (a0.length : Int))))
  else
  bnd (impl_blockValid_l1 a0 a1 a2 (a0.length : Int) 0 (wrap64 (a3 + (a0.length : Int)))) fun r1 =>
  selm r1 (fun y2 =>
  some (true, y2)) (fun z3 =>
  some (z3.1, z3.2))) : Option (Bool × Int))
  (impl_blockValid a0 a1 a2 a3) := by
  rewrite [← wrapC_eq]
  exact fun r h => by
    have e : runC (phi Tb GT sg) Tb GT p5300.code (startAT p5300 (mkST p5300.ins [.sl .share .stm a0, .int .i64 a1, .int .i64 a2, .bp 0 0] p5300.bins [.var [.int .i64 a3]])) (finT p5300 s5300) = (
      (bif (decide (16 < (wrapC (a3 + (a0.length : Int))))) then
      some (false, (wrapC (a3 + (a0.length : Int))))
      else
      bnd (impl_blockValid_l1 a0 a1 a2 (a0.length : Int) 0 (wrapC (a3 + (a0.length : Int)))) fun r1 =>
      selm r1 (fun y2 =>
      some (true, y2)) (fun z3 =>
      some (z3.1, z3.2))) : Option (Bool × Int)) := by kernel_rfl
    exact fn_le' (sig := s5300) (p := p5300) (by kernel_rfl) (by kernel_rfl) rfl rfl rfl rfl (e.trans h)

theorem spec_l11Ok_le (a0 : Stm) (a1 : Int) : Tv.Le
  ((bif (!decide (a0.kind = 2)) then
  (bif (!decide (a0.kind = 3)) then
  bnd (spec_l11Simple (⟨a0.kind, a0.var, a0.box, ⟨a0.e.op, a0.e.n, a0.e.args⟩, a0.body, a0.els⟩ : Stm)) fun r1 =>
  some r1
  else
  (bif (decide (a1 < 1)) then
  some false
  else
  (bif (decide (a0.kind = 3)) then
  (bif (decide (0 < (a0.els.length : Int))) then
  some false
  else
  bnd (spec_l11Var (⟨a0.kind, a0.var, a0.box, ⟨a0.e.op, a0.e.n, a0.e.args⟩, a0.body, a0.els⟩ : Stm) false) fun r2 =>
  (bif r2 then
  bnd (spec_l11Box (⟨a0.kind, a0.var, a0.box, ⟨a0.e.op, a0.e.n, a0.e.args⟩, a0.body, a0.els⟩ : Stm) false) fun r3 =>
  (bif r3 then
  bnd (spec_ExprValid (⟨a0.e.op, a0.e.n, a0.e.args⟩ : Exp)) fun r4 =>
  (bif r4 then
  bnd (spec_l11Blocks a0.body (wrap64 (a1 - 1))) fun r5 =>
  (bif r5 then
  bnd (spec_l11Blocks a0.els (wrap64 (a1 - 1))) fun r6 =>
  some r6
  else
  some false)
  else
  some false)
  else
  some false)
  else
  some false))
  else
  bnd (spec_l11Var (⟨a0.kind, a0.var, a0.box, ⟨a0.e.op, a0.e.n, a0.e.args⟩, a0.body, a0.els⟩ : Stm) false) fun r7 =>
  (bif r7 then
  bnd (spec_l11Box (⟨a0.kind, a0.var, a0.box, ⟨a0.e.op, a0.e.n, a0.e.args⟩, a0.body, a0.els⟩ : Stm) false) fun r8 =>
  (bif r8 then
  bnd (spec_ExprValid (⟨a0.e.op, a0.e.n, a0.e.args⟩ : Exp)) fun r9 =>
  (bif r9 then
  bnd (spec_l11Blocks a0.body (wrap64 (a1 - 1))) fun r10 =>
  (bif r10 then
  bnd (spec_l11Blocks a0.els (wrap64 (a1 - 1))) fun r11 =>
  some r11
  else
  some false)
  else
  some false)
  else
  some false)
  else
  some false))))
  else
  (bif (decide (a1 < 1)) then
  some false
  else
  (bif (decide (a0.kind = 3)) then
  (bif (decide (0 < (a0.els.length : Int))) then
  some false
  else
  bnd (spec_l11Var (⟨a0.kind, a0.var, a0.box, ⟨a0.e.op, a0.e.n, a0.e.args⟩, a0.body, a0.els⟩ : Stm) false) fun r12 =>
  (bif r12 then
  bnd (spec_l11Box (⟨a0.kind, a0.var, a0.box, ⟨a0.e.op, a0.e.n, a0.e.args⟩, a0.body, a0.els⟩ : Stm) false) fun r13 =>
  (bif r13 then
  bnd (spec_ExprValid (⟨a0.e.op, a0.e.n, a0.e.args⟩ : Exp)) fun r14 =>
  (bif r14 then
  bnd (spec_l11Blocks a0.body (wrap64 (a1 - 1))) fun r15 =>
  (bif r15 then
  bnd (spec_l11Blocks a0.els (wrap64 (a1 - 1))) fun r16 =>
  some r16
  else
  some false)
  else
  some false)
  else
  some false)
  else
  some false))
  else
  bnd (spec_l11Var (⟨a0.kind, a0.var, a0.box, ⟨a0.e.op, a0.e.n, a0.e.args⟩, a0.body, a0.els⟩ : Stm) false) fun r17 =>
  (bif r17 then
  bnd (spec_l11Box (⟨a0.kind, a0.var, a0.box, ⟨a0.e.op, a0.e.n, a0.e.args⟩, a0.body, a0.els⟩ : Stm) false) fun r18 =>
  (bif r18 then
  bnd (spec_ExprValid (⟨a0.e.op, a0.e.n, a0.e.args⟩ : Exp)) fun r19 =>
  (bif r19 then
  bnd (spec_l11Blocks a0.body (wrap64 (a1 - 1))) fun r20 =>
  (bif r20 then
  bnd (spec_l11Blocks a0.els (wrap64 (a1 - 1))) fun r21 =>
  some r21
  else
  some false)
  else
  some false)
  else
  some false)
  else
  some false)))) : Option (Bool))
  (spec_l11Ok a0 a1) := by
  rewrite [← wrapC_eq]
  exact fun r h => by
    have e : runC (phi Tb GT sg) Tb GT p6100.code (startAT p6100 (mkST p6100.ins [.agg (rowT .stm a0), .int .i64 a1] p6100.bins [])) (finT p6100 s6100) = (
      (bif (!decide (a0.kind = 2)) then
      (bif (!decide (a0.kind = 3)) then
      bnd (spec_l11Simple (⟨a0.kind, a0.var, a0.box, ⟨a0.e.op, a0.e.n, a0.e.args⟩, a0.body, a0.els⟩ : Stm)) fun r1 =>
      some r1
      else
      (bif (decide (a1 < 1)) then
      some false
      else
      (bif (decide (a0.kind = 3)) then
      (bif (decide (0 < (a0.els.length : Int))) then
      some false
      else
      bnd (spec_l11Var (⟨a0.kind, a0.var, a0.box, ⟨a0.e.op, a0.e.n, a0.e.args⟩, a0.body, a0.els⟩ : Stm) false) fun r2 =>
      (bif r2 then
      bnd (spec_l11Box (⟨a0.kind, a0.var, a0.box, ⟨a0.e.op, a0.e.n, a0.e.args⟩, a0.body, a0.els⟩ : Stm) false) fun r3 =>
      (bif r3 then
      bnd (spec_ExprValid (⟨a0.e.op, a0.e.n, a0.e.args⟩ : Exp)) fun r4 =>
      (bif r4 then
      bnd (spec_l11Blocks a0.body (wrapC (a1 - 1))) fun r5 =>
      (bif r5 then
      bnd (spec_l11Blocks a0.els (wrapC (a1 - 1))) fun r6 =>
      some r6
      else
      some false)
      else
      some false)
      else
      some false)
      else
      some false))
      else
      bnd (spec_l11Var (⟨a0.kind, a0.var, a0.box, ⟨a0.e.op, a0.e.n, a0.e.args⟩, a0.body, a0.els⟩ : Stm) false) fun r7 =>
      (bif r7 then
      bnd (spec_l11Box (⟨a0.kind, a0.var, a0.box, ⟨a0.e.op, a0.e.n, a0.e.args⟩, a0.body, a0.els⟩ : Stm) false) fun r8 =>
      (bif r8 then
      bnd (spec_ExprValid (⟨a0.e.op, a0.e.n, a0.e.args⟩ : Exp)) fun r9 =>
      (bif r9 then
      bnd (spec_l11Blocks a0.body (wrapC (a1 - 1))) fun r10 =>
      (bif r10 then
      bnd (spec_l11Blocks a0.els (wrapC (a1 - 1))) fun r11 =>
      some r11
      else
      some false)
      else
      some false)
      else
      some false)
      else
      some false))))
      else
      (bif (decide (a1 < 1)) then
      some false
      else
      (bif (decide (a0.kind = 3)) then
      (bif (decide (0 < (a0.els.length : Int))) then
      some false
      else
      bnd (spec_l11Var (⟨a0.kind, a0.var, a0.box, ⟨a0.e.op, a0.e.n, a0.e.args⟩, a0.body, a0.els⟩ : Stm) false) fun r12 =>
      (bif r12 then
      bnd (spec_l11Box (⟨a0.kind, a0.var, a0.box, ⟨a0.e.op, a0.e.n, a0.e.args⟩, a0.body, a0.els⟩ : Stm) false) fun r13 =>
      (bif r13 then
      bnd (spec_ExprValid (⟨a0.e.op, a0.e.n, a0.e.args⟩ : Exp)) fun r14 =>
      (bif r14 then
      bnd (spec_l11Blocks a0.body (wrapC (a1 - 1))) fun r15 =>
      (bif r15 then
      bnd (spec_l11Blocks a0.els (wrapC (a1 - 1))) fun r16 =>
      some r16
      else
      some false)
      else
      some false)
      else
      some false)
      else
      some false))
      else
      bnd (spec_l11Var (⟨a0.kind, a0.var, a0.box, ⟨a0.e.op, a0.e.n, a0.e.args⟩, a0.body, a0.els⟩ : Stm) false) fun r17 =>
      (bif r17 then
      bnd (spec_l11Box (⟨a0.kind, a0.var, a0.box, ⟨a0.e.op, a0.e.n, a0.e.args⟩, a0.body, a0.els⟩ : Stm) false) fun r18 =>
      (bif r18 then
      bnd (spec_ExprValid (⟨a0.e.op, a0.e.n, a0.e.args⟩ : Exp)) fun r19 =>
      (bif r19 then
      bnd (spec_l11Blocks a0.body (wrapC (a1 - 1))) fun r20 =>
      (bif r20 then
      bnd (spec_l11Blocks a0.els (wrapC (a1 - 1))) fun r21 =>
      some r21
      else
      some false)
      else
      some false)
      else
      some false)
      else
      some false)))) : Option (Bool)) := by kernel_rfl
    exact fn_le' (sig := s6100) (p := p6100) (by kernel_rfl) (by kernel_rfl) rfl rfl rfl rfl (e.trans h)

theorem spec_l11Blocks_l1_le (t0 : List Stm) (t1 : Int) (t5 : Int) : Tv.Le
  ((bif (decide (t5 < (t0.length : Int))) then
  bnd (geti t0 t5) fun e1 =>
  bnd (spec_l11Ok (⟨e1.kind, e1.var, e1.box, ⟨e1.e.op, e1.e.n, e1.e.args⟩, e1.body, e1.els⟩ : Stm) t1) fun r2 =>
  (bif (!r2) then
  some (.inr false)
  else
  spec_l11Blocks_l1 t0 t1 (wrap64 (t5 + 1)))
  else
  some (.inl ())) : Option (Unit ⊕ Bool))
  (spec_l11Blocks_l1 t0 t1 t5) := by
  rewrite [← wrapC_eq]
  exact fun r h => by
    have e : runC (phi Tb GT sg) Tb GT p6201.code ((mkST p6201.ins [.sl .share .stm t0, .int .i64 t1, .int .i64 t5] p6201.bins [])) (finL Tb GT 6201 p6201 s6201) = (
      (bif (decide (t5 < (t0.length : Int))) then
      bnd (geti t0 t5) fun e1 =>
      bnd (spec_l11Ok (⟨e1.kind, e1.var, e1.box, ⟨e1.e.op, e1.e.n, e1.e.args⟩, e1.body, e1.els⟩ : Stm) t1) fun r2 =>
      (bif (!r2) then
      some (.inr false)
      else
      spec_l11Blocks_l1 t0 t1 (wrapC (t5 + 1)))
      else
      some (.inl ())) : Option (Unit ⊕ Bool)) := by kernel_rfl
    exact loop_le' (sig := s6201) (p := p6201) (by kernel_rfl) (by kernel_rfl) rfl rfl rfl (e.trans h)

theorem spec_l11Count_l1_le (t0 : List Stm) (t3 : Int) (t4 : Int) : Tv.Le
  ((bif (decide (t4 < (t0.length : Int))) then
  bnd (geti t0 t4) fun e1 =>
  bnd (spec_l11Count e1.body) fun r2 =>
  bnd (geti t0 t4) fun e3 =>
  bnd (spec_l11Count e3.els) fun r4 =>
  spec_l11Count_l1 t0 (wrap64 ((wrap64 ((wrap64 (t3 + 1)) + r2)) + r4)) (wrap64 (t4 + 1))
  else
  some t3) : Option (Int))
  (spec_l11Count_l1 t0 t3 t4) := by
  rewrite [← wrapC_eq]
  exact fun r h => by
    have e : runC (phi Tb GT sg) Tb GT p4001.code ((mkST p4001.ins [.sl .share .stm t0, .int .i64 t3, .int .i64 t4] p4001.bins [])) (finL Tb GT 4001 p4001 s4001) = (
      (bif (decide (t4 < (t0.length : Int))) then
      bnd (geti t0 t4) fun e1 =>
      bnd (spec_l11Count e1.body) fun r2 =>
      bnd (geti t0 t4) fun e3 =>
      bnd (spec_l11Count e3.els) fun r4 =>
      spec_l11Count_l1 t0 (wrapC ((wrapC ((wrapC (t3 + 1)) + r2)) + r4)) (wrapC (t4 + 1))
      else
      some t3) : Option (Int)) := by kernel_rfl
    exact loop_le' (sig := s4001) (p := p4001) (by kernel_rfl) (by kernel_rfl) rfl rfl rfl (e.trans h)

theorem spec_l6In_le (a0 : Int) (a1 : Int) (a2 : Int) : Tv.Le
  ((bif (decide (a1 ≤ a0)) then
  some (decide (a0 ≤ a2))
  else
  some false) : Option (Bool))
  (spec_l6In a0 a1 a2) := by
  exact fun r h => by
    have e : runC (phi Tb GT sg) Tb GT p1600.code (startAT p1600 (mkST p1600.ins [.int .i64 a0, .int .i64 a1, .int .i64 a2] p1600.bins [])) (finT p1600 s1600) = (
      (bif (decide (a1 ≤ a0)) then
      some (decide (a0 ≤ a2))
      else
      some false) : Option (Bool)) := by kernel_rfl
    exact fn_le' (sig := s1600) (p := p1600) (by kernel_rfl) (by kernel_rfl) rfl rfl rfl rfl (e.trans h)

theorem spec_Wrap_le (a0 : Int) : Tv.Le
  ((bif (decide (2147483647 < (Int.tmod a0 4294967296))) then
  some (wrap64 ((Int.tmod a0 4294967296) - 4294967296))
  else
  (bif (decide ((Int.tmod a0 4294967296) < (-2147483648))) then
  some (wrap64 ((Int.tmod a0 4294967296) + 4294967296))
  else
  some (Int.tmod a0 4294967296))) : Option (Int))
  (spec_Wrap a0) := by
  rewrite [← wrapC_eq]
  exact fun r h => by
    have e : runC (phi Tb GT sg) Tb GT p3700.code (startAT p3700 (mkST p3700.ins [.int .i64 a0] p3700.bins [])) (finT p3700 s3700) = (
      (bif (decide (2147483647 < (Int.tmod a0 4294967296))) then
      some (wrapC ((Int.tmod a0 4294967296) - 4294967296))
      else
      (bif (decide ((Int.tmod a0 4294967296) < (-2147483648))) then
      some (wrapC ((Int.tmod a0 4294967296) + 4294967296))
      else
      some (Int.tmod a0 4294967296))) : Option (Int)) := by kernel_rfl
    exact fn_le' (sig := s3700) (p := p3700) (by kernel_rfl) (by kernel_rfl) rfl rfl rfl rfl (e.trans h)

theorem spec_l92Stmt_le (a1 : Int) (a2 : Int) (a3 : Bool) (a0b : List Int) (a0p : Int) : Tv.Le
  (bnd (spec_l6Rd_pick 10 a0b a0p) fun r1 =>
  (bif (decide (r1.1 = 0)) then
  bnd (spec_l92Set r1.2.1 r1.2.2) fun r2 =>
  some (([⟨r2.1.kind, r2.1.var, r2.1.box, ⟨r2.1.e.op, r2.1.e.n, r2.1.e.args⟩, r2.1.body, r2.1.els⟩] : List Stm), r2.2.1, r2.2.2)
  else
  (bif (decide (r1.1 = 1)) then
  bnd (spec_l92Set r1.2.1 r1.2.2) fun r3 =>
  some (([⟨r3.1.kind, r3.1.var, r3.1.box, ⟨r3.1.e.op, r3.1.e.n, r3.1.e.args⟩, r3.1.body, r3.1.els⟩] : List Stm), r3.2.1, r3.2.2)
  else
  (bif (decide (r1.1 = 2)) then
  (bif (decide (0 < a2)) then
  bnd (spec_l92If a1 a2 a3 r1.2.1 r1.2.2) fun r4 =>
  some (([⟨r4.1.kind, r4.1.var, r4.1.box, ⟨r4.1.e.op, r4.1.e.n, r4.1.e.args⟩, r4.1.body, r4.1.els⟩] : List Stm), r4.2.1, r4.2.2)
  else
  bnd (spec_l6Rd_pick 3 r1.2.1 r1.2.2) fun r5 =>
  bnd (spec_l91Expr (wrap64 (1 + r5.1)) r5.2.1 r5.2.2) fun r6 =>
  some (([⟨7, 0, 0, ⟨r6.1, r6.2.1, r6.2.2.1.2⟩, [], []⟩] : List Stm), r6.2.2.2.1, r6.2.2.2.2))
  else
  (bif (decide (r1.1 = 3)) then
  (bif (decide (0 < a2)) then
  (bif a3 then
  bnd (spec_l92Loop a1 a2 r1.2.1 r1.2.2) fun r7 =>
  some (r7.1, r7.2.1, r7.2.2)
  else
  bnd (spec_l6Rd_pick 3 r1.2.1 r1.2.2) fun r8 =>
  bnd (spec_l91Expr (wrap64 (1 + r8.1)) r8.2.1 r8.2.2) fun r9 =>
  some (([⟨7, 0, 0, ⟨r9.1, r9.2.1, r9.2.2.1.2⟩, [], []⟩] : List Stm), r9.2.2.2.1, r9.2.2.2.2))
  else
  bnd (spec_l6Rd_pick 3 r1.2.1 r1.2.2) fun r10 =>
  bnd (spec_l91Expr (wrap64 (1 + r10.1)) r10.2.1 r10.2.2) fun r11 =>
  some (([⟨7, 0, 0, ⟨r11.1, r11.2.1, r11.2.2.1.2⟩, [], []⟩] : List Stm), r11.2.2.2.1, r11.2.2.2.2))
  else
  (bif (decide (r1.1 = 4)) then
  bnd (spec_l92Talk a1 r1.2.1 r1.2.2) fun r12 =>
  some (([⟨r12.1.kind, r12.1.var, r12.1.box, ⟨r12.1.e.op, r12.1.e.n, r12.1.e.args⟩, r12.1.body, r12.1.els⟩] : List Stm), r12.2.1, r12.2.2)
  else
  (bif (decide (r1.1 = 5)) then
  bnd (spec_l92Talk a1 r1.2.1 r1.2.2) fun r13 =>
  some (([⟨r13.1.kind, r13.1.var, r13.1.box, ⟨r13.1.e.op, r13.1.e.n, r13.1.e.args⟩, r13.1.body, r13.1.els⟩] : List Stm), r13.2.1, r13.2.2)
  else
  (bif (decide (r1.1 = 6)) then
  bnd (spec_l92Talk a1 r1.2.1 r1.2.2) fun r14 =>
  some (([⟨r14.1.kind, r14.1.var, r14.1.box, ⟨r14.1.e.op, r14.1.e.n, r14.1.e.args⟩, r14.1.body, r14.1.els⟩] : List Stm), r14.2.1, r14.2.2)
  else
  (bif (decide (r1.1 = 7)) then
  some (([⟨6, 0, 0, ⟨0, 0, []⟩, [], []⟩] : List Stm), r1.2.1, r1.2.2)
  else
  bnd (spec_l6Rd_pick 3 r1.2.1 r1.2.2) fun r15 =>
  bnd (spec_l91Expr (wrap64 (1 + r15.1)) r15.2.1 r15.2.2) fun r16 =>
  some (([⟨7, 0, 0, ⟨r16.1, r16.2.1, r16.2.2.1.2⟩, [], []⟩] : List Stm), r16.2.2.2.1, r16.2.2.2.2))))))))) : Option (List Stm × List Int × Int))
  (spec_l92Stmt a1 a2 a3 a0b a0p) := by
  rewrite [← wrapC_eq]
  exact fun r h => by
    have e : runC (phi Tb GT sg) Tb GT p4500.code (startAT p4500 (mkST p4500.ins [.bp 0 0, .int .i64 a1, .int .i64 a2, .bool a3] p4500.bins [.var [.sl .share .u8 a0b, .int .i64 a0p]])) (finT p4500 s4500) = (
      bnd (spec_l6Rd_pick 10 a0b a0p) fun r1 =>
      (bif (decide (r1.1 = 0)) then
      bnd (spec_l92Set r1.2.1 r1.2.2) fun r2 =>
      some (([⟨r2.1.kind, r2.1.var, r2.1.box, ⟨r2.1.e.op, r2.1.e.n, r2.1.e.args⟩, r2.1.body, r2.1.els⟩] : List Stm), r2.2.1, r2.2.2)
      else
      (bif (decide (r1.1 = 1)) then
      bnd (spec_l92Set r1.2.1 r1.2.2) fun r3 =>
      some (([⟨r3.1.kind, r3.1.var, r3.1.box, ⟨r3.1.e.op, r3.1.e.n, r3.1.e.args⟩, r3.1.body, r3.1.els⟩] : List Stm), r3.2.1, r3.2.2)
      else
      (bif (decide (r1.1 = 2)) then
      (bif (decide (0 < a2)) then
      bnd (spec_l92If a1 a2 a3 r1.2.1 r1.2.2) fun r4 =>
      some (([⟨r4.1.kind, r4.1.var, r4.1.box, ⟨r4.1.e.op, r4.1.e.n, r4.1.e.args⟩, r4.1.body, r4.1.els⟩] : List Stm), r4.2.1, r4.2.2)
      else
      bnd (spec_l6Rd_pick 3 r1.2.1 r1.2.2) fun r5 =>
      bnd (spec_l91Expr (wrapC (1 + r5.1)) r5.2.1 r5.2.2) fun r6 =>
      some (([⟨7, 0, 0, ⟨r6.1, r6.2.1, r6.2.2.1.2⟩, [], []⟩] : List Stm), r6.2.2.2.1, r6.2.2.2.2))
      else
      (bif (decide (r1.1 = 3)) then
      (bif (decide (0 < a2)) then
      (bif a3 then
      bnd (spec_l92Loop a1 a2 r1.2.1 r1.2.2) fun r7 =>
      some (r7.1, r7.2.1, r7.2.2)
      else
      bnd (spec_l6Rd_pick 3 r1.2.1 r1.2.2) fun r8 =>
      bnd (spec_l91Expr (wrapC (1 + r8.1)) r8.2.1 r8.2.2) fun r9 =>
      some (([⟨7, 0, 0, ⟨r9.1, r9.2.1, r9.2.2.1.2⟩, [], []⟩] : List Stm), r9.2.2.2.1, r9.2.2.2.2))
      else
      bnd (spec_l6Rd_pick 3 r1.2.1 r1.2.2) fun r10 =>
      bnd (spec_l91Expr (wrapC (1 + r10.1)) r10.2.1 r10.2.2) fun r11 =>
      some (([⟨7, 0, 0, ⟨r11.1, r11.2.1, r11.2.2.1.2⟩, [], []⟩] : List Stm), r11.2.2.2.1, r11.2.2.2.2))
      else
      (bif (decide (r1.1 = 4)) then
      bnd (spec_l92Talk a1 r1.2.1 r1.2.2) fun r12 =>
      some (([⟨r12.1.kind, r12.1.var, r12.1.box, ⟨r12.1.e.op, r12.1.e.n, r12.1.e.args⟩, r12.1.body, r12.1.els⟩] : List Stm), r12.2.1, r12.2.2)
      else
      (bif (decide (r1.1 = 5)) then
      bnd (spec_l92Talk a1 r1.2.1 r1.2.2) fun r13 =>
      some (([⟨r13.1.kind, r13.1.var, r13.1.box, ⟨r13.1.e.op, r13.1.e.n, r13.1.e.args⟩, r13.1.body, r13.1.els⟩] : List Stm), r13.2.1, r13.2.2)
      else
      (bif (decide (r1.1 = 6)) then
      bnd (spec_l92Talk a1 r1.2.1 r1.2.2) fun r14 =>
      some (([⟨r14.1.kind, r14.1.var, r14.1.box, ⟨r14.1.e.op, r14.1.e.n, r14.1.e.args⟩, r14.1.body, r14.1.els⟩] : List Stm), r14.2.1, r14.2.2)
      else
      (bif (decide (r1.1 = 7)) then
      some (([⟨6, 0, 0, ⟨0, 0, []⟩, [], []⟩] : List Stm), r1.2.1, r1.2.2)
      else
      bnd (spec_l6Rd_pick 3 r1.2.1 r1.2.2) fun r15 =>
      bnd (spec_l91Expr (wrapC (1 + r15.1)) r15.2.1 r15.2.2) fun r16 =>
      some (([⟨7, 0, 0, ⟨r16.1, r16.2.1, r16.2.2.1.2⟩, [], []⟩] : List Stm), r16.2.2.2.1, r16.2.2.2.2))))))))) : Option (List Stm × List Int × Int)) := by kernel_rfl
    exact fn_le' (sig := s4500) (p := p4500) (by kernel_rfl) (by kernel_rfl) rfl rfl rfl rfl (e.trans h)

theorem spec_l92Block_p_l1_le (t1 : Int) (t2 : Int) (t3 : Int) (t4 : Bool) (t11 : Hd) (t12 : Int) (b0_0 : List Int) (b0_1 : Int) (b99 : List Ent) : Tv.Le
  ((bif (decide (t12 < t3)) then
  bnd (spec_l92Stmt t1 t2 t4 b0_0 b0_1) fun r1 =>
  bnd (arApp b99 .stm t11.id t11.n r1.1) fun B2 =>
  spec_l92Block_p_l1 t1 t2 t3 t4 (⟨(some (List.length b99)), (t11.n + List.length r1.1)⟩ : Hd) (wrap64 (t12 + 1)) r1.2.1 r1.2.2 B2
  else
  some (t11, b0_0, b0_1, b99)) : Option (Hd × List Int × Int × List Ent))
  (spec_l92Block_p_l1 t1 t2 t3 t4 t11 t12 b0_0 b0_1 b99) := by
  rewrite [← wrapC_eq]
  exact fun r h => by
    have e : runC (phi Tb GT sg) Tb GT p38101.code ((mkST p38101.ins [.bp 0 0, .int .i64 t1, .int .i64 t2, .int .i64 t3, .bool t4, .tr .stm t11.id t11.n, .int .i64 t12] p38101.bins [.var [.sl .share .u8 b0_0, .int .i64 b0_1], .ar b99])) (finL Tb GT 38101 p38101 s38101) = (
      (bif (decide (t12 < t3)) then
      bnd (spec_l92Stmt t1 t2 t4 b0_0 b0_1) fun r1 =>
      bnd (arApp b99 .stm t11.id t11.n r1.1) fun B2 =>
      spec_l92Block_p_l1 t1 t2 t3 t4 (⟨(some (List.length b99)), (t11.n + List.length r1.1)⟩ : Hd) (wrapC (t12 + 1)) r1.2.1 r1.2.2 B2
      else
      some (t11, b0_0, b0_1, b99)) : Option (Hd × List Int × Int × List Ent)) := by kernel_rfl
    exact loop_le' (sig := s38101) (p := p38101) (by kernel_rfl) (by kernel_rfl) rfl rfl rfl (e.trans h)

theorem impl_stmtValid_le (a0 : Stm) (a1 : Int) : Tv.Le
  ((bif (decide (a0.kind = 1)) then
  bnd (impl_stmtValid_1 a0.var 4 true) fun r1 =>
  (bif (!r1) then
  some false
  else
  bnd (impl_stmtValid_1 a0.box a1 false) fun r2 =>
  (bif (!r2) then
  some false
  else
  bnd (impl_ExprValid (⟨a0.e.op, a0.e.n, a0.e.args⟩ : Exp)) fun r3 =>
  (bif (!r3) then
  some false
  else
  (bif (decide ((a0.body.length : Int) = 0)) then
  some (decide ((a0.els.length : Int) = 0))
  else
  some false))))
  else
  (bif (decide (a0.kind = 2)) then
  bnd (impl_stmtValid_1 a0.var 4 false) fun r4 =>
  (bif (!r4) then
  some false
  else
  bnd (impl_stmtValid_1 a0.box a1 false) fun r5 =>
  (bif (!r5) then
  some false
  else
  bnd (impl_ExprValid (⟨a0.e.op, a0.e.n, a0.e.args⟩ : Exp)) fun r6 =>
  (bif (!r6) then
  some false
  else
  some true)))
  else
  (bif (decide (a0.kind = 3)) then
  bnd (impl_stmtValid_1 a0.var 4 false) fun r7 =>
  (bif (!r7) then
  some false
  else
  bnd (impl_stmtValid_1 a0.box a1 false) fun r8 =>
  (bif (!r8) then
  some false
  else
  bnd (impl_ExprValid (⟨a0.e.op, a0.e.n, a0.e.args⟩ : Exp)) fun r9 =>
  (bif (!r9) then
  some false
  else
  some (decide ((a0.els.length : Int) = 0)))))
  else
  (bif (decide (a0.kind = 4)) then
  bnd (impl_stmtValid_1 a0.var 4 false) fun r10 =>
  (bif (!r10) then
  some false
  else
  bnd (impl_stmtValid_1 a0.box a1 true) fun r11 =>
  (bif (!r11) then
  some false
  else
  (bif (decide (a1 ≤ a0.box)) then
  some false
  else
  bnd (impl_ExprValid (⟨a0.e.op, a0.e.n, a0.e.args⟩ : Exp)) fun r12 =>
  (bif (!r12) then
  some false
  else
  (bif (decide ((a0.body.length : Int) = 0)) then
  some (decide ((a0.els.length : Int) = 0))
  else
  some false)))))
  else
  (bif (decide (a0.kind = 5)) then
  bnd (impl_stmtValid_1 a0.var 4 true) fun r13 =>
  (bif (!r13) then
  some false
  else
  bnd (impl_stmtValid_1 a0.box a1 true) fun r14 =>
  (bif (!r14) then
  some false
  else
  (bif (decide (a1 ≤ a0.box)) then
  some false
  else
  (bif (!decide (a0.e.op = 0)) then
  some false
  else
  (bif (!decide (a0.e.n = 0)) then
  some false
  else
  (bif (decide (0 < (a0.e.args.length : Int))) then
  some false
  else
  (bif (decide ((a0.body.length : Int) = 0)) then
  some (decide ((a0.els.length : Int) = 0))
  else
  some false)))))))
  else
  (bif (decide (a0.kind = 7)) then
  bnd (impl_stmtValid_1 a0.var 4 false) fun r15 =>
  (bif (!r15) then
  some false
  else
  bnd (impl_stmtValid_1 a0.box a1 false) fun r16 =>
  (bif (!r16) then
  some false
  else
  bnd (impl_ExprValid (⟨a0.e.op, a0.e.n, a0.e.args⟩ : Exp)) fun r17 =>
  (bif (!r17) then
  some false
  else
  (bif (decide ((a0.body.length : Int) = 0)) then
  some (decide ((a0.els.length : Int) = 0))
  else
  some false))))
  else
  (bif (decide (a0.kind = 6)) then
  bnd (impl_stmtValid_1 a0.var 4 false) fun r18 =>
  (bif (!r18) then
  some false
  else
  bnd (impl_stmtValid_1 a0.box a1 false) fun r19 =>
  (bif (!r19) then
  some false
  else
  (bif (!decide (a0.e.op = 0)) then
  some false
  else
  (bif (!decide (a0.e.n = 0)) then
  some false
  else
  (bif (decide (0 < (a0.e.args.length : Int))) then
  some false
  else
  (bif (decide ((a0.body.length : Int) = 0)) then
  some (decide ((a0.els.length : Int) = 0))
  else
  some false))))))
  else
  some false))))))) : Option (Bool))
  (impl_stmtValid a0 a1) := by
  exact fun r h => by
    have e : runC (phi Tb GT sg) Tb GT p5200.code (startAT p5200 (mkST p5200.ins [.rp (rowT .stm a0) 0, .int .i64 a1] p5200.bins [])) (finT p5200 s5200) = (
      (bif (decide (a0.kind = 1)) then
      bnd (impl_stmtValid_1 a0.var 4 true) fun r1 =>
      (bif (!r1) then
      some false
      else
      bnd (impl_stmtValid_1 a0.box a1 false) fun r2 =>
      (bif (!r2) then
      some false
      else
      bnd (impl_ExprValid (⟨a0.e.op, a0.e.n, a0.e.args⟩ : Exp)) fun r3 =>
      (bif (!r3) then
      some false
      else
      (bif (decide ((a0.body.length : Int) = 0)) then
      some (decide ((a0.els.length : Int) = 0))
      else
      some false))))
      else
      (bif (decide (a0.kind = 2)) then
      bnd (impl_stmtValid_1 a0.var 4 false) fun r4 =>
      (bif (!r4) then
      some false
      else
      bnd (impl_stmtValid_1 a0.box a1 false) fun r5 =>
      (bif (!r5) then
      some false
      else
      bnd (impl_ExprValid (⟨a0.e.op, a0.e.n, a0.e.args⟩ : Exp)) fun r6 =>
      (bif (!r6) then
      some false
      else
      some true)))
      else
      (bif (decide (a0.kind = 3)) then
      bnd (impl_stmtValid_1 a0.var 4 false) fun r7 =>
      (bif (!r7) then
      some false
      else
      bnd (impl_stmtValid_1 a0.box a1 false) fun r8 =>
      (bif (!r8) then
      some false
      else
      bnd (impl_ExprValid (⟨a0.e.op, a0.e.n, a0.e.args⟩ : Exp)) fun r9 =>
      (bif (!r9) then
      some false
      else
      some (decide ((a0.els.length : Int) = 0)))))
      else
      (bif (decide (a0.kind = 4)) then
      bnd (impl_stmtValid_1 a0.var 4 false) fun r10 =>
      (bif (!r10) then
      some false
      else
      bnd (impl_stmtValid_1 a0.box a1 true) fun r11 =>
      (bif (!r11) then
      some false
      else
      (bif (decide (a1 ≤ a0.box)) then
      some false
      else
      bnd (impl_ExprValid (⟨a0.e.op, a0.e.n, a0.e.args⟩ : Exp)) fun r12 =>
      (bif (!r12) then
      some false
      else
      (bif (decide ((a0.body.length : Int) = 0)) then
      some (decide ((a0.els.length : Int) = 0))
      else
      some false)))))
      else
      (bif (decide (a0.kind = 5)) then
      bnd (impl_stmtValid_1 a0.var 4 true) fun r13 =>
      (bif (!r13) then
      some false
      else
      bnd (impl_stmtValid_1 a0.box a1 true) fun r14 =>
      (bif (!r14) then
      some false
      else
      (bif (decide (a1 ≤ a0.box)) then
      some false
      else
      (bif (!decide (a0.e.op = 0)) then
      some false
      else
      (bif (!decide (a0.e.n = 0)) then
      some false
      else
      (bif (decide (0 < (a0.e.args.length : Int))) then
      some false
      else
      (bif (decide ((a0.body.length : Int) = 0)) then
      some (decide ((a0.els.length : Int) = 0))
      else
      some false)))))))
      else
      (bif (decide (a0.kind = 7)) then
      bnd (impl_stmtValid_1 a0.var 4 false) fun r15 =>
      (bif (!r15) then
      some false
      else
      bnd (impl_stmtValid_1 a0.box a1 false) fun r16 =>
      (bif (!r16) then
      some false
      else
      bnd (impl_ExprValid (⟨a0.e.op, a0.e.n, a0.e.args⟩ : Exp)) fun r17 =>
      (bif (!r17) then
      some false
      else
      (bif (decide ((a0.body.length : Int) = 0)) then
      some (decide ((a0.els.length : Int) = 0))
      else
      some false))))
      else
      (bif (decide (a0.kind = 6)) then
      bnd (impl_stmtValid_1 a0.var 4 false) fun r18 =>
      (bif (!r18) then
      some false
      else
      bnd (impl_stmtValid_1 a0.box a1 false) fun r19 =>
      (bif (!r19) then
      some false
      else
      (bif (!decide (a0.e.op = 0)) then
      some false
      else
      (bif (!decide (a0.e.n = 0)) then
      some false
      else
      (bif (decide (0 < (a0.e.args.length : Int))) then
      some false
      else
      (bif (decide ((a0.body.length : Int) = 0)) then
      some (decide ((a0.els.length : Int) = 0))
      else
      some false))))))
      else
      some false))))))) : Option (Bool)) := by kernel_rfl
    exact fn_le' (sig := s5200) (p := p5200) (by kernel_rfl) (by kernel_rfl) rfl rfl rfl rfl (e.trans h)

theorem impl_blockValid_l1_le (t0 : List Stm) (t1 : Int) (t2 : Int) (t23 : Int) (t24 : Int) (b0_0 : Int) : Tv.Le
  ((bif (decide (t24 < t23)) then
  bnd (geti t0 t24) fun e1 =>
  bnd (impl_stmtValid (⟨e1.kind, e1.var, e1.box, ⟨e1.e.op, e1.e.n, e1.e.args⟩, e1.body, e1.els⟩ : Stm) t1) fun r2 =>
  (bif (!r2) then
  some (.inr (false, b0_0))
  else
  (bif (decide (3 < t2)) then
  some (.inr (false, b0_0))
  else
  (bif (!decide (e1.kind = 2)) then
  (bif (!decide (e1.kind = 3)) then
  impl_blockValid_l1 t0 t1 t2 t23 (wrap64 (t24 + 1)) b0_0
  else
  (bif (decide (3 ≤ t2)) then
  some (.inr (false, b0_0))
  else
  bnd (impl_blockValid e1.body t1 (wrap64 (t2 + 1)) b0_0) fun r3 =>
  (bif (!r3.1) then
  some (.inr (false, r3.2))
  else
  bnd (impl_blockValid e1.els t1 (wrap64 (t2 + 1)) r3.2) fun r4 =>
  (bif (!r4.1) then
  some (.inr (false, r4.2))
  else
  impl_blockValid_l1 t0 t1 t2 t23 (wrap64 (t24 + 1)) r4.2))))
  else
  (bif (decide (3 ≤ t2)) then
  some (.inr (false, b0_0))
  else
  bnd (impl_blockValid e1.body t1 (wrap64 (t2 + 1)) b0_0) fun r5 =>
  (bif (!r5.1) then
  some (.inr (false, r5.2))
  else
  bnd (impl_blockValid e1.els t1 (wrap64 (t2 + 1)) r5.2) fun r6 =>
  (bif (!r6.1) then
  some (.inr (false, r6.2))
  else
  impl_blockValid_l1 t0 t1 t2 t23 (wrap64 (t24 + 1)) r6.2))))))
  else
  some (.inl b0_0)) : Option (Int ⊕ (Bool × Int)))
  (impl_blockValid_l1 t0 t1 t2 t23 t24 b0_0) := by
  rewrite [← wrapC_eq]
  exact fun r h => by
    have e : runC (phi Tb GT sg) Tb GT p5301.code ((mkST p5301.ins [.sl .share .stm t0, .int .i64 t1, .int .i64 t2, .bp 0 0, .int .i64 t23, .int .i64 t24] p5301.bins [.var [.int .i64 b0_0]])) (finL Tb GT 5301 p5301 s5301) = (
      (bif (decide (t24 < t23)) then
      bnd (geti t0 t24) fun e1 =>
      bnd (impl_stmtValid (⟨e1.kind, e1.var, e1.box, ⟨e1.e.op, e1.e.n, e1.e.args⟩, e1.body, e1.els⟩ : Stm) t1) fun r2 =>
      (bif (!r2) then
      some (.inr (false, b0_0))
      else
      (bif (decide (3 < t2)) then
      some (.inr (false, b0_0))
      else
      (bif (!decide (e1.kind = 2)) then
      (bif (!decide (e1.kind = 3)) then
      impl_blockValid_l1 t0 t1 t2 t23 (wrapC (t24 + 1)) b0_0
      else
      (bif (decide (3 ≤ t2)) then
      some (.inr (false, b0_0))
      else
      bnd (impl_blockValid e1.body t1 (wrapC (t2 + 1)) b0_0) fun r3 =>
      (bif (!r3.1) then
      some (.inr (false, r3.2))
      else
      bnd (impl_blockValid e1.els t1 (wrapC (t2 + 1)) r3.2) fun r4 =>
      (bif (!r4.1) then
      some (.inr (false, r4.2))
      else
      impl_blockValid_l1 t0 t1 t2 t23 (wrapC (t24 + 1)) r4.2))))
      else
      (bif (decide (3 ≤ t2)) then
      some (.inr (false, b0_0))
      else
      bnd (impl_blockValid e1.body t1 (wrapC (t2 + 1)) b0_0) fun r5 =>
      (bif (!r5.1) then
      some (.inr (false, r5.2))
      else
      bnd (impl_blockValid e1.els t1 (wrapC (t2 + 1)) r5.2) fun r6 =>
      (bif (!r6.1) then
      some (.inr (false, r6.2))
      else
      impl_blockValid_l1 t0 t1 t2 t23 (wrapC (t24 + 1)) r6.2))))))
      else
      some (.inl b0_0)) : Option (Int ⊕ (Bool × Int))) := by kernel_rfl
    exact loop_le' (sig := s5301) (p := p5301) (by kernel_rfl) (by kernel_rfl) rfl rfl rfl (e.trans h)

theorem spec_l11Simple_le (a0 : Stm) : Tv.Le
  ((bif (decide (0 < (a0.body.length : Int))) then
  some false
  else
  (bif (decide (0 < (a0.els.length : Int))) then
  some false
  else
  (bif (decide (a0.kind = 1)) then
  bnd (spec_l11Var (⟨a0.kind, a0.var, a0.box, ⟨a0.e.op, a0.e.n, a0.e.args⟩, a0.body, a0.els⟩ : Stm) true) fun r1 =>
  (bif r1 then
  bnd (spec_l11Box (⟨a0.kind, a0.var, a0.box, ⟨a0.e.op, a0.e.n, a0.e.args⟩, a0.body, a0.els⟩ : Stm) false) fun r2 =>
  (bif r2 then
  bnd (spec_ExprValid (⟨a0.e.op, a0.e.n, a0.e.args⟩ : Exp)) fun r3 =>
  some r3
  else
  some false)
  else
  some false)
  else
  (bif (decide (a0.kind = 4)) then
  bnd (spec_l11Var (⟨a0.kind, a0.var, a0.box, ⟨a0.e.op, a0.e.n, a0.e.args⟩, a0.body, a0.els⟩ : Stm) false) fun r4 =>
  (bif r4 then
  bnd (spec_l11Box (⟨a0.kind, a0.var, a0.box, ⟨a0.e.op, a0.e.n, a0.e.args⟩, a0.body, a0.els⟩ : Stm) true) fun r5 =>
  (bif r5 then
  bnd (spec_ExprValid (⟨a0.e.op, a0.e.n, a0.e.args⟩ : Exp)) fun r6 =>
  some r6
  else
  some false)
  else
  some false)
  else
  (bif (decide (a0.kind = 5)) then
  bnd (spec_l11Var (⟨a0.kind, a0.var, a0.box, ⟨a0.e.op, a0.e.n, a0.e.args⟩, a0.body, a0.els⟩ : Stm) true) fun r7 =>
  (bif r7 then
  bnd (spec_l11Box (⟨a0.kind, a0.var, a0.box, ⟨a0.e.op, a0.e.n, a0.e.args⟩, a0.body, a0.els⟩ : Stm) true) fun r8 =>
  (bif r8 then
  bnd (spec_l11Plain (⟨a0.e.op, a0.e.n, a0.e.args⟩ : Exp)) fun r9 =>
  some r9
  else
  some false)
  else
  some false)
  else
  (bif (decide (a0.kind = 6)) then
  bnd (spec_l11Var (⟨a0.kind, a0.var, a0.box, ⟨a0.e.op, a0.e.n, a0.e.args⟩, a0.body, a0.els⟩ : Stm) false) fun r10 =>
  (bif r10 then
  bnd (spec_l11Box (⟨a0.kind, a0.var, a0.box, ⟨a0.e.op, a0.e.n, a0.e.args⟩, a0.body, a0.els⟩ : Stm) false) fun r11 =>
  (bif r11 then
  bnd (spec_l11Plain (⟨a0.e.op, a0.e.n, a0.e.args⟩ : Exp)) fun r12 =>
  some r12
  else
  some false)
  else
  some false)
  else
  (bif (decide (a0.kind = 7)) then
  bnd (spec_l11Var (⟨a0.kind, a0.var, a0.box, ⟨a0.e.op, a0.e.n, a0.e.args⟩, a0.body, a0.els⟩ : Stm) false) fun r13 =>
  (bif r13 then
  bnd (spec_l11Box (⟨a0.kind, a0.var, a0.box, ⟨a0.e.op, a0.e.n, a0.e.args⟩, a0.body, a0.els⟩ : Stm) false) fun r14 =>
  (bif r14 then
  bnd (spec_ExprValid (⟨a0.e.op, a0.e.n, a0.e.args⟩ : Exp)) fun r15 =>
  some r15
  else
  some false)
  else
  some false)
  else
  some false))))))) : Option (Bool))
  (spec_l11Simple a0) := by
  exact fun r h => by
    have e : runC (phi Tb GT sg) Tb GT p6000.code (startAT p6000 (mkST p6000.ins [.agg (rowT .stm a0)] p6000.bins [])) (finT p6000 s6000) = (
      (bif (decide (0 < (a0.body.length : Int))) then
      some false
      else
      (bif (decide (0 < (a0.els.length : Int))) then
      some false
      else
      (bif (decide (a0.kind = 1)) then
      bnd (spec_l11Var (⟨a0.kind, a0.var, a0.box, ⟨a0.e.op, a0.e.n, a0.e.args⟩, a0.body, a0.els⟩ : Stm) true) fun r1 =>
      (bif r1 then
      bnd (spec_l11Box (⟨a0.kind, a0.var, a0.box, ⟨a0.e.op, a0.e.n, a0.e.args⟩, a0.body, a0.els⟩ : Stm) false) fun r2 =>
      (bif r2 then
      bnd (spec_ExprValid (⟨a0.e.op, a0.e.n, a0.e.args⟩ : Exp)) fun r3 =>
      some r3
      else
      some false)
      else
      some false)
      else
      (bif (decide (a0.kind = 4)) then
      bnd (spec_l11Var (⟨a0.kind, a0.var, a0.box, ⟨a0.e.op, a0.e.n, a0.e.args⟩, a0.body, a0.els⟩ : Stm) false) fun r4 =>
      (bif r4 then
      bnd (spec_l11Box (⟨a0.kind, a0.var, a0.box, ⟨a0.e.op, a0.e.n, a0.e.args⟩, a0.body, a0.els⟩ : Stm) true) fun r5 =>
      (bif r5 then
      bnd (spec_ExprValid (⟨a0.e.op, a0.e.n, a0.e.args⟩ : Exp)) fun r6 =>
      some r6
      else
      some false)
      else
      some false)
      else
      (bif (decide (a0.kind = 5)) then
      bnd (spec_l11Var (⟨a0.kind, a0.var, a0.box, ⟨a0.e.op, a0.e.n, a0.e.args⟩, a0.body, a0.els⟩ : Stm) true) fun r7 =>
      (bif r7 then
      bnd (spec_l11Box (⟨a0.kind, a0.var, a0.box, ⟨a0.e.op, a0.e.n, a0.e.args⟩, a0.body, a0.els⟩ : Stm) true) fun r8 =>
      (bif r8 then
      bnd (spec_l11Plain (⟨a0.e.op, a0.e.n, a0.e.args⟩ : Exp)) fun r9 =>
      some r9
      else
      some false)
      else
      some false)
      else
      (bif (decide (a0.kind = 6)) then
      bnd (spec_l11Var (⟨a0.kind, a0.var, a0.box, ⟨a0.e.op, a0.e.n, a0.e.args⟩, a0.body, a0.els⟩ : Stm) false) fun r10 =>
      (bif r10 then
      bnd (spec_l11Box (⟨a0.kind, a0.var, a0.box, ⟨a0.e.op, a0.e.n, a0.e.args⟩, a0.body, a0.els⟩ : Stm) false) fun r11 =>
      (bif r11 then
      bnd (spec_l11Plain (⟨a0.e.op, a0.e.n, a0.e.args⟩ : Exp)) fun r12 =>
      some r12
      else
      some false)
      else
      some false)
      else
      (bif (decide (a0.kind = 7)) then
      bnd (spec_l11Var (⟨a0.kind, a0.var, a0.box, ⟨a0.e.op, a0.e.n, a0.e.args⟩, a0.body, a0.els⟩ : Stm) false) fun r13 =>
      (bif r13 then
      bnd (spec_l11Box (⟨a0.kind, a0.var, a0.box, ⟨a0.e.op, a0.e.n, a0.e.args⟩, a0.body, a0.els⟩ : Stm) false) fun r14 =>
      (bif r14 then
      bnd (spec_ExprValid (⟨a0.e.op, a0.e.n, a0.e.args⟩ : Exp)) fun r15 =>
      some r15
      else
      some false)
      else
      some false)
      else
      some false))))))) : Option (Bool)) := by kernel_rfl
    exact fn_le' (sig := s6000) (p := p6000) (by kernel_rfl) (by kernel_rfl) rfl rfl rfl rfl (e.trans h)

theorem spec_l11Var_le (a0 : Stm) (a1 : Bool) : Tv.Le
  ((bif a1 then
  bnd (spec_l6In a0.var 0 3) fun r1 =>
  some r1
  else
  some (decide (a0.var = 0))) : Option (Bool))
  (spec_l11Var a0 a1) := by
  exact fun r h => by
    have e : runC (phi Tb GT sg) Tb GT p5700.code (startAT p5700 (mkST p5700.ins [.agg (rowT .stm a0), .bool a1] p5700.bins [])) (finT p5700 s5700) = (
      (bif a1 then
      bnd (spec_l6In a0.var 0 3) fun r1 =>
      some r1
      else
      some (decide (a0.var = 0))) : Option (Bool)) := by kernel_rfl
    exact fn_le' (sig := s5700) (p := p5700) (by kernel_rfl) (by kernel_rfl) rfl rfl rfl rfl (e.trans h)

theorem spec_l11Box_le (a0 : Stm) (a1 : Bool) : Tv.Le
  ((bif a1 then
  bnd (spec_l6In a0.box 0 2) fun r1 =>
  some r1
  else
  some (decide (a0.box = 0))) : Option (Bool))
  (spec_l11Box a0 a1) := by
  exact fun r h => by
    have e : runC (phi Tb GT sg) Tb GT p5800.code (startAT p5800 (mkST p5800.ins [.agg (rowT .stm a0), .bool a1] p5800.bins [])) (finT p5800 s5800) = (
      (bif a1 then
      bnd (spec_l6In a0.box 0 2) fun r1 =>
      some r1
      else
      some (decide (a0.box = 0))) : Option (Bool)) := by kernel_rfl
    exact fn_le' (sig := s5800) (p := p5800) (by kernel_rfl) (by kernel_rfl) rfl rfl rfl rfl (e.trans h)

theorem spec_ExprValid_le (a0 : Exp) : Tv.Le
  (bnd (spec_l4Ok (⟨a0.op, a0.n, a0.args⟩ : Exp) 5) fun r1 =>
  some r1 : Option (Bool))
  (spec_ExprValid a0) := by
  exact fun r h => by
    have e : runC (phi Tb GT sg) Tb GT p1900.code (startAT p1900 (mkST p1900.ins [.agg (rowT .exp a0)] p1900.bins [])) (finT p1900 s1900) = (
      bnd (spec_l4Ok (⟨a0.op, a0.n, a0.args⟩ : Exp) 5) fun r1 =>
      some r1 : Option (Bool)) := by kernel_rfl
    exact fn_le' (sig := s1900) (p := p1900) (by kernel_rfl) (by kernel_rfl) rfl rfl rfl rfl (e.trans h)

theorem spec_l92Set_le (a0b : List Int) (a0p : Int) : Tv.Le
  (bnd (spec_l6Rd_pick 3 a0b a0p) fun r1 =>
  bnd (spec_l6Rd_pick 3 r1.2.1 r1.2.2) fun r2 =>
  bnd (spec_l91Expr (wrap64 (1 + r2.1)) r2.2.1 r2.2.2) fun r3 =>
  some (⟨1, r1.1, 0, ⟨r3.1, r3.2.1, r3.2.2.1.2⟩, [], []⟩, r3.2.2.2.1, r3.2.2.2.2) : Option (Stm × List Int × Int))
  (spec_l92Set a0b a0p) := by
  rewrite [← wrapC_eq]
  exact fun r h => by
    have e : runC (phi Tb GT sg) Tb GT p4200.code (startAT p4200 (mkST p4200.ins [.bp 0 0] p4200.bins [.var [.sl .share .u8 a0b, .int .i64 a0p]])) (finT p4200 s4200) = (
      bnd (spec_l6Rd_pick 3 a0b a0p) fun r1 =>
      bnd (spec_l6Rd_pick 3 r1.2.1 r1.2.2) fun r2 =>
      bnd (spec_l91Expr (wrapC (1 + r2.1)) r2.2.1 r2.2.2) fun r3 =>
      some (⟨1, r1.1, 0, ⟨r3.1, r3.2.1, r3.2.2.1.2⟩, [], []⟩, r3.2.2.2.1, r3.2.2.2.2) : Option (Stm × List Int × Int)) := by kernel_rfl
    exact fn_le' (sig := s4200) (p := p4200) (by kernel_rfl) (by kernel_rfl) rfl rfl rfl rfl (e.trans h)

theorem spec_l92If_le (a1 : Int) (a2 : Int) (a3 : Bool) (a0b : List Int) (a0p : Int) : Tv.Le
  (bnd (spec_l6Rd_pick 2 a0b a0p) fun r1 =>
  bnd (spec_l91Expr (wrap64 (1 + r1.1)) r1.2.1 r1.2.2) fun r2 =>
  bnd (spec_l6Rd_pick 3 r2.2.2.2.1 r2.2.2.2.2) fun r3 =>
  bnd (spec_l92Block a1 (wrap64 (a2 - 1)) r3.1 a3 r3.2.1 r3.2.2) fun r4 =>
  bnd (spec_l6Rd_pick 3 r4.2.1 r4.2.2) fun r5 =>
  bnd (spec_l92Block a1 (wrap64 (a2 - 1)) r5.1 a3 r5.2.1 r5.2.2) fun r6 =>
  some (⟨2, 0, 0, ⟨r2.1, r2.2.1, r2.2.2.1.2⟩, r4.1, r6.1⟩, r6.2.1, r6.2.2) : Option (Stm × List Int × Int))
  (spec_l92If a1 a2 a3 a0b a0p) := by
  rewrite [← wrapC_eq]
  exact fun r h => by
    have e : runC (phi Tb GT sg) Tb GT p4100.code (startAT p4100 (mkST p4100.ins [.bp 0 0, .int .i64 a1, .int .i64 a2, .bool a3] p4100.bins [.var [.sl .share .u8 a0b, .int .i64 a0p]])) (finT p4100 s4100) = (
      bnd (spec_l6Rd_pick 2 a0b a0p) fun r1 =>
      bnd (spec_l91Expr (wrapC (1 + r1.1)) r1.2.1 r1.2.2) fun r2 =>
      bnd (spec_l6Rd_pick 3 r2.2.2.2.1 r2.2.2.2.2) fun r3 =>
      bnd (spec_l92Block a1 (wrapC (a2 - 1)) r3.1 a3 r3.2.1 r3.2.2) fun r4 =>
      bnd (spec_l6Rd_pick 3 r4.2.1 r4.2.2) fun r5 =>
      bnd (spec_l92Block a1 (wrapC (a2 - 1)) r5.1 a3 r5.2.1 r5.2.2) fun r6 =>
      some (⟨2, 0, 0, ⟨r2.1, r2.2.1, r2.2.2.1.2⟩, r4.1, r6.1⟩, r6.2.1, r6.2.2) : Option (Stm × List Int × Int)) := by kernel_rfl
    exact fn_le' (sig := s4100) (p := p4100) (by kernel_rfl) (by kernel_rfl) rfl rfl rfl rfl (e.trans h)

theorem spec_l91Expr_le (a1 : Int) (a0b : List Int) (a0p : Int) : Tv.Le
  ((bif (decide (a1 < 2)) then
  bnd (spec_l91Leaf a0b a0p) fun r1 =>
  some (r1.1, r1.2.1, ((Md.dem (Md.dem (Md.dem r1.2.2.1.1))), r1.2.2.1.2), r1.2.2.2.1, r1.2.2.2.2)
  else
  bnd (spec_l6Rd_pick 3 a0b a0p) fun r2 =>
  (bif (decide (r2.1 = 0)) then
  bnd (spec_l91Leaf r2.2.1 r2.2.2) fun r3 =>
  some (r3.1, r3.2.1, ((Md.dem (Md.dem (Md.dem r3.2.2.1.1))), r3.2.2.1.2), r3.2.2.2.1, r3.2.2.2.2)
  else
  bnd (spec_l91Op r2.2.1 r2.2.2) fun r4 =>
  bnd (spec_l91Expr (wrap64 (a1 - 1)) r4.2.1 r4.2.2) fun r5 =>
  bnd (spec_l91Expr (wrap64 (a1 - 1)) r5.2.2.2.1 r5.2.2.2.2) fun r6 =>
  bnd (spec_l4Both r4.1 (⟨r5.1, r5.2.1, r5.2.2.1.2⟩ : Exp) (⟨r6.1, r6.2.1, r6.2.2.1.2⟩ : Exp)) fun r7 =>
  some (r7.1, r7.2.1, ((Md.dem (Md.dem (Md.dem r7.2.2.1))), r7.2.2.2), r6.2.2.2.1, r6.2.2.2.2))) : Option (Int × Int × (Md × List Exp) × List Int × Int))
  (spec_l91Expr a1 a0b a0p) := by
  rewrite [← wrapC_eq]
  exact fun r h => by
    have e : runC (phi Tb GT sg) Tb GT p700.code (startAT p700 (mkST p700.ins [.bp 0 0, .int .i64 a1] p700.bins [.var [.sl .share .u8 a0b, .int .i64 a0p]])) (finT p700 s700) = (
      (bif (decide (a1 < 2)) then
      bnd (spec_l91Leaf a0b a0p) fun r1 =>
      some (r1.1, r1.2.1, ((Md.dem (Md.dem (Md.dem r1.2.2.1.1))), r1.2.2.1.2), r1.2.2.2.1, r1.2.2.2.2)
      else
      bnd (spec_l6Rd_pick 3 a0b a0p) fun r2 =>
      (bif (decide (r2.1 = 0)) then
      bnd (spec_l91Leaf r2.2.1 r2.2.2) fun r3 =>
      some (r3.1, r3.2.1, ((Md.dem (Md.dem (Md.dem r3.2.2.1.1))), r3.2.2.1.2), r3.2.2.2.1, r3.2.2.2.2)
      else
      bnd (spec_l91Op r2.2.1 r2.2.2) fun r4 =>
      bnd (spec_l91Expr (wrapC (a1 - 1)) r4.2.1 r4.2.2) fun r5 =>
      bnd (spec_l91Expr (wrapC (a1 - 1)) r5.2.2.2.1 r5.2.2.2.2) fun r6 =>
      bnd (spec_l4Both r4.1 (⟨r5.1, r5.2.1, r5.2.2.1.2⟩ : Exp) (⟨r6.1, r6.2.1, r6.2.2.1.2⟩ : Exp)) fun r7 =>
      some (r7.1, r7.2.1, ((Md.dem (Md.dem (Md.dem r7.2.2.1))), r7.2.2.2), r6.2.2.2.1, r6.2.2.2.2))) : Option (Int × Int × (Md × List Exp) × List Int × Int)) := by kernel_rfl
    exact fn_le' (sig := s700) (p := p700) (by kernel_rfl) (by kernel_rfl) rfl rfl rfl rfl (e.trans h)

theorem spec_l92Loop_le (a1 : Int) (a2 : Int) (a0b : List Int) (a0p : Int) : Tv.Le
  (bnd (spec_l6Rd_pick 3 a0b a0p) fun r1 =>
  bnd (spec_l92Block a1 (wrap64 (a2 - 1)) r1.1 false r1.2.1 r1.2.2) fun r2 =>
  bnd (spec_l4Leaf 13 3) fun r3 =>
  bnd (spec_l4Leaf 0 1) fun r4 =>
  bnd (spec_l4Both 8 (⟨r3.1, r3.2.1, r3.2.2.2⟩ : Exp) (⟨r4.1, r4.2.1, r4.2.2.2⟩ : Exp)) fun r5 =>
  bnd (spec_l4Leaf 13 3) fun r6 =>
  bnd (spec_l6Rd_pick 3 r2.2.1 r2.2.2) fun r7 =>
  bnd (spec_l4Leaf 0 (wrap64 (1 + r7.1))) fun r8 =>
  bnd (spec_l4Both 5 (⟨r6.1, r6.2.1, r6.2.2.2⟩ : Exp) (⟨r8.1, r8.2.1, r8.2.2.2⟩ : Exp)) fun r9 =>
  bnd (appL r2.1 ([⟨1, 3, 0, ⟨r5.1, r5.2.1, r5.2.2.2⟩, [], []⟩] : List Stm)) fun l10 =>
  bnd (spec_l4Leaf 0 0) fun r11 =>
  some (([⟨1, 3, 0, ⟨r11.1, r11.2.1, r11.2.2.2⟩, [], []⟩, ⟨3, 0, 0, ⟨r9.1, r9.2.1, r9.2.2.2⟩, l10, []⟩] : List Stm), r7.2.1, r7.2.2) : Option (List Stm × List Int × Int))
  (spec_l92Loop a1 a2 a0b a0p) := by
  rewrite [← wrapC_eq]
  exact fun r h => by
    have e : runC (phi Tb GT sg) Tb GT p4300.code (startAT p4300 (mkST p4300.ins [.bp 0 0, .int .i64 a1, .int .i64 a2] p4300.bins [.var [.sl .share .u8 a0b, .int .i64 a0p]])) (finT p4300 s4300) = (
      bnd (spec_l6Rd_pick 3 a0b a0p) fun r1 =>
      bnd (spec_l92Block a1 (wrapC (a2 - 1)) r1.1 false r1.2.1 r1.2.2) fun r2 =>
      bnd (spec_l4Leaf 13 3) fun r3 =>
      bnd (spec_l4Leaf 0 1) fun r4 =>
      bnd (spec_l4Both 8 (⟨r3.1, r3.2.1, r3.2.2.2⟩ : Exp) (⟨r4.1, r4.2.1, r4.2.2.2⟩ : Exp)) fun r5 =>
      bnd (spec_l4Leaf 13 3) fun r6 =>
      bnd (spec_l6Rd_pick 3 r2.2.1 r2.2.2) fun r7 =>
      bnd (spec_l4Leaf 0 (wrapC (1 + r7.1))) fun r8 =>
      bnd (spec_l4Both 5 (⟨r6.1, r6.2.1, r6.2.2.2⟩ : Exp) (⟨r8.1, r8.2.1, r8.2.2.2⟩ : Exp)) fun r9 =>
      bnd (appL r2.1 ([⟨1, 3, 0, ⟨r5.1, r5.2.1, r5.2.2.2⟩, [], []⟩] : List Stm)) fun l10 =>
      bnd (spec_l4Leaf 0 0) fun r11 =>
      some (([⟨1, 3, 0, ⟨r11.1, r11.2.1, r11.2.2.2⟩, [], []⟩, ⟨3, 0, 0, ⟨r9.1, r9.2.1, r9.2.2.2⟩, l10, []⟩] : List Stm), r7.2.1, r7.2.2) : Option (List Stm × List Int × Int)) := by kernel_rfl
    exact fn_le' (sig := s4300) (p := p4300) (by kernel_rfl) (by kernel_rfl) rfl rfl rfl rfl (e.trans h)

theorem spec_l92Talk_le (a1 : Int) (a0b : List Int) (a0p : Int) : Tv.Le
  ((bif (decide (a1 < 1)) then
  bnd (spec_l92Set a0b a0p) fun r1 =>
  some (⟨r1.1.kind, r1.1.var, r1.1.box, ⟨r1.1.e.op, r1.1.e.n, r1.1.e.args⟩, r1.1.body, r1.1.els⟩, r1.2.1, r1.2.2)
  else
  bnd (spec_l6Rd_pick a1 a0b a0p) fun r2 =>
  bnd (spec_l6Rd_pick 2 r2.2.1 r2.2.2) fun r3 =>
  (bif (decide (r3.1 = 0)) then
  bnd (spec_l6Rd_pick 3 r3.2.1 r3.2.2) fun r4 =>
  bnd (spec_l91Expr (wrap64 (1 + r4.1)) r4.2.1 r4.2.2) fun r5 =>
  some (⟨4, 0, r2.1, ⟨r5.1, r5.2.1, r5.2.2.1.2⟩, [], []⟩, r5.2.2.2.1, r5.2.2.2.2)
  else
  bnd (spec_l6Rd_pick 3 r3.2.1 r3.2.2) fun r6 =>
  some (⟨5, r6.1, r2.1, ⟨0, 0, []⟩, [], []⟩, r6.2.1, r6.2.2))) : Option (Stm × List Int × Int))
  (spec_l92Talk a1 a0b a0p) := by
  rewrite [← wrapC_eq]
  exact fun r h => by
    have e : runC (phi Tb GT sg) Tb GT p4400.code (startAT p4400 (mkST p4400.ins [.bp 0 0, .int .i64 a1] p4400.bins [.var [.sl .share .u8 a0b, .int .i64 a0p]])) (finT p4400 s4400) = (
      (bif (decide (a1 < 1)) then
      bnd (spec_l92Set a0b a0p) fun r1 =>
      some (⟨r1.1.kind, r1.1.var, r1.1.box, ⟨r1.1.e.op, r1.1.e.n, r1.1.e.args⟩, r1.1.body, r1.1.els⟩, r1.2.1, r1.2.2)
      else
      bnd (spec_l6Rd_pick a1 a0b a0p) fun r2 =>
      bnd (spec_l6Rd_pick 2 r2.2.1 r2.2.2) fun r3 =>
      (bif (decide (r3.1 = 0)) then
      bnd (spec_l6Rd_pick 3 r3.2.1 r3.2.2) fun r4 =>
      bnd (spec_l91Expr (wrapC (1 + r4.1)) r4.2.1 r4.2.2) fun r5 =>
      some (⟨4, 0, r2.1, ⟨r5.1, r5.2.1, r5.2.2.1.2⟩, [], []⟩, r5.2.2.2.1, r5.2.2.2.2)
      else
      bnd (spec_l6Rd_pick 3 r3.2.1 r3.2.2) fun r6 =>
      some (⟨5, r6.1, r2.1, ⟨0, 0, []⟩, [], []⟩, r6.2.1, r6.2.2))) : Option (Stm × List Int × Int)) := by kernel_rfl
    exact fn_le' (sig := s4400) (p := p4400) (by kernel_rfl) (by kernel_rfl) rfl rfl rfl rfl (e.trans h)

theorem impl_stmtValid_1_le (a0 : Int) (a1 : Int) (a2 : Bool) : Tv.Le
  ((bif (decide (a0 = 0)) then
  some true
  else
  (bif a2 then
  (bif (decide (0 < a0)) then
  some (decide (a0 < a1))
  else
  some false)
  else
  some false)) : Option (Bool))
  (impl_stmtValid_1 a0 a1 a2) := by
  exact fun r h => by
    have e : runC (phi Tb GT sg) Tb GT p11100.code (startAT p11100 (mkST p11100.ins [.int .i64 a0, .int .i64 a1, .bool a2] p11100.bins [])) (finT p11100 s11100) = (
      (bif (decide (a0 = 0)) then
      some true
      else
      (bif a2 then
      (bif (decide (0 < a0)) then
      some (decide (a0 < a1))
      else
      some false)
      else
      some false)) : Option (Bool)) := by kernel_rfl
    exact fn_le' (sig := s11100) (p := p11100) (by kernel_rfl) (by kernel_rfl) rfl rfl rfl rfl (e.trans h)

theorem impl_ExprValid_le (a0 : Exp) : Tv.Le
  (bnd (impl_exprValid (⟨a0.op, a0.n, a0.args⟩ : Exp) 5) fun r1 =>
  some r1 : Option (Bool))
  (impl_ExprValid a0) := by
  exact fun r h => by
    have e : runC (phi Tb GT sg) Tb GT p1200.code (startAT p1200 (mkST p1200.ins [.agg (rowT .exp a0)] p1200.bins [])) (finT p1200 s1200) = (
      bnd (impl_exprValid (⟨a0.op, a0.n, a0.args⟩ : Exp) 5) fun r1 =>
      some r1 : Option (Bool)) := by kernel_rfl
    exact fn_le' (sig := s1200) (p := p1200) (by kernel_rfl) (by kernel_rfl) rfl rfl rfl rfl (e.trans h)

theorem spec_l11Plain_le (a0 : Exp) : Tv.Le
  ((bif (decide (a0.op = 0)) then
  (bif (decide (a0.n = 0)) then
  some (decide ((a0.args.length : Int) = 0))
  else
  some false)
  else
  some false) : Option (Bool))
  (spec_l11Plain a0) := by
  exact fun r h => by
    have e : runC (phi Tb GT sg) Tb GT p5900.code (startAT p5900 (mkST p5900.ins [.agg (rowT .exp a0)] p5900.bins [])) (finT p5900 s5900) = (
      (bif (decide (a0.op = 0)) then
      (bif (decide (a0.n = 0)) then
      some (decide ((a0.args.length : Int) = 0))
      else
      some false)
      else
      some false) : Option (Bool)) := by kernel_rfl
    exact fn_le' (sig := s5900) (p := p5900) (by kernel_rfl) (by kernel_rfl) rfl rfl rfl rfl (e.trans h)

theorem spec_l4Ok_le (a0 : Exp) (a1 : Int) : Tv.Le
  ((bif (decide (a1 < 1)) then
  some false
  else
  (bif (decide (a0.op = 0)) then
  bnd (spec_l6In a0.n 0 99999) fun r1 =>
  (bif r1 then
  some (decide ((a0.args.length : Int) = 0))
  else
  some false)
  else
  (bif (decide (a0.op = 13)) then
  bnd (spec_l6In a0.n 0 3) fun r2 =>
  (bif r2 then
  some (decide ((a0.args.length : Int) = 0))
  else
  some false)
  else
  bnd (spec_OpValid a0.op) fun r3 =>
  (bif r3 then
  (bif (decide (a0.n = 0)) then
  (bif (decide ((a0.args.length : Int) = 2)) then
  bnd (geti a0.args 0) fun e4 =>
  bnd (spec_l4Ok (⟨e4.op, e4.n, e4.args⟩ : Exp) (wrap64 (a1 - 1))) fun r5 =>
  (bif r5 then
  bnd (geti a0.args 1) fun e6 =>
  bnd (spec_l4Ok (⟨e6.op, e6.n, e6.args⟩ : Exp) (wrap64 (a1 - 1))) fun r7 =>
  some r7
  else
  some false)
  else
  some false)
  else
  some false)
  else
  some false)))) : Option (Bool))
  (spec_l4Ok a0 a1) := by
  rewrite [← wrapC_eq]
  exact fun r h => by
    have e : runC (phi Tb GT sg) Tb GT p1800.code (startAT p1800 (mkST p1800.ins [.agg (rowT .exp a0), .int .i64 a1] p1800.bins [])) (finT p1800 s1800) = (
      (bif (decide (a1 < 1)) then
      some false
      else
      (bif (decide (a0.op = 0)) then
      bnd (spec_l6In a0.n 0 99999) fun r1 =>
      (bif r1 then
      some (decide ((a0.args.length : Int) = 0))
      else
      some false)
      else
      (bif (decide (a0.op = 13)) then
      bnd (spec_l6In a0.n 0 3) fun r2 =>
      (bif r2 then
      some (decide ((a0.args.length : Int) = 0))
      else
      some false)
      else
      bnd (spec_OpValid a0.op) fun r3 =>
      (bif r3 then
      (bif (decide (a0.n = 0)) then
      (bif (decide ((a0.args.length : Int) = 2)) then
      bnd (geti a0.args 0) fun e4 =>
      bnd (spec_l4Ok (⟨e4.op, e4.n, e4.args⟩ : Exp) (wrapC (a1 - 1))) fun r5 =>
      (bif r5 then
      bnd (geti a0.args 1) fun e6 =>
      bnd (spec_l4Ok (⟨e6.op, e6.n, e6.args⟩ : Exp) (wrapC (a1 - 1))) fun r7 =>
      some r7
      else
      some false)
      else
      some false)
      else
      some false)
      else
      some false)))) : Option (Bool)) := by kernel_rfl
    exact fn_le' (sig := s1800) (p := p1800) (by kernel_rfl) (by kernel_rfl) rfl rfl rfl rfl (e.trans h)

theorem spec_l92Block_le (a1 : Int) (a2 : Int) (a3 : Int) (a4 : Bool) (a0b : List Int) (a0p : Int) : Tv.Le
  (bnd (spec_l92Block_l1 a1 a2 a3 a4 true ([] : List Stm) 0 a0b a0p) fun r1 =>
  some (r1.1.2, r1.2.1, r1.2.2) : Option (List Stm × List Int × Int))
  (spec_l92Block a1 a2 a3 a4 a0b a0p) := by
  exact fun r h => by
    have e : runC (phi Tb GT sg) Tb GT p4600.code (startAT p4600 (mkST p4600.ins [.bp 0 0, .int .i64 a1, .int .i64 a2, .int .i64 a3, .bool a4] p4600.bins [.var [.sl .share .u8 a0b, .int .i64 a0p]])) (finT p4600 s4600) = (
      bnd (spec_l92Block_l1 a1 a2 a3 a4 true ([] : List Stm) 0 a0b a0p) fun r1 =>
      some (r1.1.2, r1.2.1, r1.2.2) : Option (List Stm × List Int × Int)) := by kernel_rfl
    exact fn_le' (sig := s4600) (p := p4600) (by kernel_rfl) (by kernel_rfl) rfl rfl rfl rfl (e.trans h)

theorem spec_l91Leaf_le (a0b : List Int) (a0p : Int) : Tv.Le
  (bnd (spec_l6Rd_pick 4 a0b a0p) fun r1 =>
  (bif (decide (r1.1 = 0)) then
  bnd (spec_l6Rd_pick 4 r1.2.1 r1.2.2) fun r2 =>
  bnd (spec_l4Leaf 0 r2.1) fun r3 =>
  some (r3.1, r3.2.1, ((Md.dem (Md.dem (Md.dem r3.2.2.1))), r3.2.2.2), r2.2.1, r2.2.2)
  else
  (bif (decide (r1.1 = 1)) then
  bnd (spec_l6Rd_pick 8 r1.2.1 r1.2.2) fun r4 =>
  bnd (geti ([5, 31, 32, 100, 2047, 2048, 65536, 99999] : List Int) r4.1) fun e5 =>
  bnd (spec_l4Leaf 0 e5) fun r6 =>
  some (r6.1, r6.2.1, ((Md.dem (Md.dem (Md.dem r6.2.2.1))), r6.2.2.2), r4.2.1, r4.2.2)
  else
  bnd (spec_l6Rd_pick 4 r1.2.1 r1.2.2) fun r7 =>
  bnd (spec_l4Leaf 13 r7.1) fun r8 =>
  some (r8.1, r8.2.1, ((Md.dem (Md.dem (Md.dem r8.2.2.1))), r8.2.2.2), r7.2.1, r7.2.2))) : Option (Int × Int × (Md × List Exp) × List Int × Int))
  (spec_l91Leaf a0b a0p) := by
  exact fun r h => by
    have e : runC (phi Tb GT sg) Tb GT p400.code (startAT p400 (mkST p400.ins [.bp 0 0] p400.bins [.var [.sl .share .u8 a0b, .int .i64 a0p]])) (finT p400 s400) = (
      bnd (spec_l6Rd_pick 4 a0b a0p) fun r1 =>
      (bif (decide (r1.1 = 0)) then
      bnd (spec_l6Rd_pick 4 r1.2.1 r1.2.2) fun r2 =>
      bnd (spec_l4Leaf 0 r2.1) fun r3 =>
      some (r3.1, r3.2.1, ((Md.dem (Md.dem (Md.dem r3.2.2.1))), r3.2.2.2), r2.2.1, r2.2.2)
      else
      (bif (decide (r1.1 = 1)) then
      bnd (spec_l6Rd_pick 8 r1.2.1 r1.2.2) fun r4 =>
      bnd (geti ([5, 31, 32, 100, 2047, 2048, 65536, 99999] : List Int) r4.1) fun e5 =>
      bnd (spec_l4Leaf 0 e5) fun r6 =>
      some (r6.1, r6.2.1, ((Md.dem (Md.dem (Md.dem r6.2.2.1))), r6.2.2.2), r4.2.1, r4.2.2)
      else
      bnd (spec_l6Rd_pick 4 r1.2.1 r1.2.2) fun r7 =>
      bnd (spec_l4Leaf 13 r7.1) fun r8 =>
      some (r8.1, r8.2.1, ((Md.dem (Md.dem (Md.dem r8.2.2.1))), r8.2.2.2), r7.2.1, r7.2.2))) : Option (Int × Int × (Md × List Exp) × List Int × Int)) := by kernel_rfl
    exact fn_le' (sig := s400) (p := p400) (by kernel_rfl) (by kernel_rfl) rfl rfl rfl rfl (e.trans h)

theorem spec_l91Op_le (a0b : List Int) (a0p : Int) : Tv.Le
  (bnd (spec_l6Rd_pick 12 a0b a0p) fun r1 =>
  some ((wrap64 (1 + r1.1)), r1.2.1, r1.2.2) : Option (Int × List Int × Int))
  (spec_l91Op a0b a0p) := by
  rewrite [← wrapC_eq]
  exact fun r h => by
    have e : runC (phi Tb GT sg) Tb GT p600.code (startAT p600 (mkST p600.ins [.bp 0 0] p600.bins [.var [.sl .share .u8 a0b, .int .i64 a0p]])) (finT p600 s600) = (
      bnd (spec_l6Rd_pick 12 a0b a0p) fun r1 =>
      some ((wrapC (1 + r1.1)), r1.2.1, r1.2.2) : Option (Int × List Int × Int)) := by kernel_rfl
    exact fn_le' (sig := s600) (p := p600) (by kernel_rfl) (by kernel_rfl) rfl rfl rfl rfl (e.trans h)

theorem spec_l4Both_le (a0 : Int) (a1 : Exp) (a2 : Exp) : Tv.Le
  (some (a0, 0, (.full, ([⟨a1.op, a1.n, a1.args⟩, ⟨a2.op, a2.n, a2.args⟩] : List Exp))) : Option (Int × Int × (Md × List Exp)))
  (spec_l4Both a0 a1 a2) := by
  exact fun r h => by
    have e : runC (phi Tb GT sg) Tb GT p500.code (startAT p500 (mkST p500.ins [.int .i64 a0, .agg (rowT .exp a1), .agg (rowT .exp a2)] p500.bins [])) (finT p500 s500) = (
      some (a0, 0, (.full, ([⟨a1.op, a1.n, a1.args⟩, ⟨a2.op, a2.n, a2.args⟩] : List Exp))) : Option (Int × Int × (Md × List Exp))) := by kernel_rfl
    exact fn_le' (sig := s500) (p := p500) (by kernel_rfl) (by kernel_rfl) rfl rfl rfl rfl (e.trans h)

theorem spec_l4Leaf_le (a0 : Int) (a1 : Int) : Tv.Le
  (some (a0, a1, ((.own false), ([] : List Exp))) : Option (Int × Int × (Md × List Exp)))
  (spec_l4Leaf a0 a1) := by
  exact fun r h => by
    have e : runC (phi Tb GT sg) Tb GT p300.code (startAT p300 (mkST p300.ins [.int .i64 a0, .int .i64 a1] p300.bins [])) (finT p300 s300) = (
      some (a0, a1, ((.own false), ([] : List Exp))) : Option (Int × Int × (Md × List Exp))) := by kernel_rfl
    exact fn_le' (sig := s300) (p := p300) (by kernel_rfl) (by kernel_rfl) rfl rfl rfl rfl (e.trans h)

theorem impl_exprValid_le (a0 : Exp) (a1 : Int) : Tv.Le
  ((bif (decide (a0.op = 0)) then
  (bif (decide (0 ≤ a0.n)) then
  (bif (decide (a0.n ≤ 99999)) then
  (bif (decide ((a0.args.length : Int) = 0)) then
  some (decide (0 < a1))
  else
  some false)
  else
  some false)
  else
  some false)
  else
  (bif (decide (a0.op = 13)) then
  (bif (decide (0 ≤ a0.n)) then
  (bif (decide (a0.n < 4)) then
  (bif (decide ((a0.args.length : Int) = 0)) then
  some (decide (0 < a1))
  else
  some false)
  else
  some false)
  else
  some false)
  else
  bnd (impl_OpValid a0.op) fun r1 =>
  (bif r1 then
  (bif (decide (a0.n = 0)) then
  (bif (decide ((a0.args.length : Int) = 2)) then
  (bif (decide (1 < a1)) then
  bnd (geti a0.args 0) fun e2 =>
  bnd (impl_exprValid (⟨e2.op, e2.n, e2.args⟩ : Exp) (wrap64 (a1 - 1))) fun r3 =>
  (bif r3 then
  bnd (geti a0.args 1) fun e4 =>
  bnd (impl_exprValid (⟨e4.op, e4.n, e4.args⟩ : Exp) (wrap64 (a1 - 1))) fun r5 =>
  some r5
  else
  some false)
  else
  some false)
  else
  some false)
  else
  some false)
  else
  some false))) : Option (Bool))
  (impl_exprValid a0 a1) := by
  rewrite [← wrapC_eq]
  exact fun r h => by
    have e : runC (phi Tb GT sg) Tb GT p1100.code (startAT p1100 (mkST p1100.ins [.agg (rowT .exp a0), .int .i64 a1] p1100.bins [])) (finT p1100 s1100) = (
      (bif (decide (a0.op = 0)) then
      (bif (decide (0 ≤ a0.n)) then
      (bif (decide (a0.n ≤ 99999)) then
      (bif (decide ((a0.args.length : Int) = 0)) then
      some (decide (0 < a1))
      else
      some false)
      else
      some false)
      else
      some false)
      else
      (bif (decide (a0.op = 13)) then
      (bif (decide (0 ≤ a0.n)) then
      (bif (decide (a0.n < 4)) then
      (bif (decide ((a0.args.length : Int) = 0)) then
      some (decide (0 < a1))
      else
      some false)
      else
      some false)
      else
      some false)
      else
      bnd (impl_OpValid a0.op) fun r1 =>
      (bif r1 then
      (bif (decide (a0.n = 0)) then
      (bif (decide ((a0.args.length : Int) = 2)) then
      (bif (decide (1 < a1)) then
      bnd (geti a0.args 0) fun e2 =>
      bnd (impl_exprValid (⟨e2.op, e2.n, e2.args⟩ : Exp) (wrapC (a1 - 1))) fun r3 =>
      (bif r3 then
      bnd (geti a0.args 1) fun e4 =>
      bnd (impl_exprValid (⟨e4.op, e4.n, e4.args⟩ : Exp) (wrapC (a1 - 1))) fun r5 =>
      some r5
      else
      some false)
      else
      some false)
      else
      some false)
      else
      some false)
      else
      some false))) : Option (Bool)) := by kernel_rfl
    exact fn_le' (sig := s1100) (p := p1100) (by kernel_rfl) (by kernel_rfl) rfl rfl rfl rfl (e.trans h)

theorem spec_OpValid_le (a0 : Int) : Tv.Le
  (bnd (spec_l6In a0 1 12) fun r1 =>
  some r1 : Option (Bool))
  (spec_OpValid a0) := by
  exact fun r h => by
    have e : runC (phi Tb GT sg) Tb GT p1700.code (startAT p1700 (mkST p1700.ins [.int .i64 a0] p1700.bins [])) (finT p1700 s1700) = (
      bnd (spec_l6In a0 1 12) fun r1 =>
      some r1 : Option (Bool)) := by kernel_rfl
    exact fn_le' (sig := s1700) (p := p1700) (by kernel_rfl) (by kernel_rfl) rfl rfl rfl rfl (e.trans h)

theorem spec_l92Block_l1_le (t1 : Int) (t2 : Int) (t3 : Int) (t4 : Bool) (t11b : Bool) (t11 : List Stm) (t12 : Int) (b0_0 : List Int) (b0_1 : Int) : Tv.Le
  ((bif (decide (t12 < t3)) then
  bnd (spec_l92Stmt t1 t2 t4 b0_0 b0_1) fun r1 =>
  bnd (appL t11 r1.1) fun l2 =>
  spec_l92Block_l1 t1 t2 t3 t4 true l2 (wrap64 (t12 + 1)) r1.2.1 r1.2.2
  else
  some ((t11b, t11), b0_0, b0_1)) : Option ((Bool × List Stm) × List Int × Int))
  (spec_l92Block_l1 t1 t2 t3 t4 t11b t11 t12 b0_0 b0_1) := by
  rewrite [← wrapC_eq]
  exact fun r h => by
    have e : runC (phi Tb GT sg) Tb GT p4601.code ((mkST p4601.ins [.bp 0 0, .int .i64 t1, .int .i64 t2, .int .i64 t3, .bool t4, .sl (.own t11b) .stm t11, .int .i64 t12] p4601.bins [.var [.sl .share .u8 b0_0, .int .i64 b0_1]])) (finL Tb GT 4601 p4601 s4601) = (
      (bif (decide (t12 < t3)) then
      bnd (spec_l92Stmt t1 t2 t4 b0_0 b0_1) fun r1 =>
      bnd (appL t11 r1.1) fun l2 =>
      spec_l92Block_l1 t1 t2 t3 t4 true l2 (wrapC (t12 + 1)) r1.2.1 r1.2.2
      else
      some ((t11b, t11), b0_0, b0_1)) : Option ((Bool × List Stm) × List Int × Int)) := by kernel_rfl
    exact loop_le' (sig := s4601) (p := p4601) (by kernel_rfl) (by kernel_rfl) rfl rfl rfl (e.trans h)

theorem impl_OpValid_le (a0 : Int) : Tv.Le
  ((bif (decide (1 ≤ a0)) then
  some (decide (a0 ≤ 12))
  else
  some false) : Option (Bool))
  (impl_OpValid a0) := by
  exact fun r h => by
    have e : runC (phi Tb GT sg) Tb GT p1000.code (startAT p1000 (mkST p1000.ins [.int .i64 a0] p1000.bins [])) (finT p1000 s1000) = (
      (bif (decide (1 ≤ a0)) then
      some (decide (a0 ≤ 12))
      else
      some false) : Option (Bool)) := by kernel_rfl
    exact fn_le' (sig := s1000) (p := p1000) (by kernel_rfl) (by kernel_rfl) rfl rfl rfl rfl (e.trans h)

end Go.TFnTask
