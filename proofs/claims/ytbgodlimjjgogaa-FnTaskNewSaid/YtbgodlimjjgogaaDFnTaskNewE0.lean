import Derived.Test.YtbgodlimjjgogaaDFnTaskNewP
import Derived.KernelRfl
set_option linter.unusedVariables false
namespace Go.TFnTaskNew
open Go Go.RowKit Go.Vs Go.Tv
theorem laws_FnTaskNew_le (a0 : List Int) : Tv.Le
  ((bif (decide (1048576 < (a0.length : Int))) then
  some true
  else
  bnd (spec_DrawTaskNew a0) fun r1 =>
  bnd (impl_TaskNew r1) fun r2 =>
  bnd (spec_TaskNew r1) fun r3 =>
  (bif (!(r2.2 == r3.2)) then
  (bif (r2.2 == r3.2) then
  bnd (laws_sameTask r2.1 r3.1) fun r4 =>
  some r4
  else
  some false)
  else
  bnd (laws_sameTask r2.1 r3.1) fun r5 =>
  (bif (!r5) then
  (bif (r2.2 == r3.2) then
  bnd (laws_sameTask r2.1 r3.1) fun r6 =>
  some r6
  else
  some false)
  else
  (bif (!r2.2) then
  (bif (r2.2 == r3.2) then
  bnd (laws_sameTask r2.1 r3.1) fun r7 =>
  some r7
  else
  some false)
  else
  bnd (impl_TaskValid r2.1) fun r8 =>
  (bif r8 then
  bnd (laws_sameInts r2.1.vars (List.replicate 4 (zeroD .int))) fun r10 =>
  (bif r10 then
  bnd (laws_sameStmts r2.1.rest r1) fun r11 =>
  some r11
  else
  some false)
  else
  some false))))) : Option (Bool))
  (laws_FnTaskNew a0) := by
  exact fun r h => by
    have e : runC (phi Tb GT sg) Tb GT p10100.code (startAT p10100 (mkST p10100.ins [.sl .share .u8 a0] p10100.bins [])) (finT p10100 s10100) = (
      (bif (decide (1048576 < (a0.length : Int))) then
      some true
      else
      bnd (spec_DrawTaskNew a0) fun r1 =>
      bnd (impl_TaskNew r1) fun r2 =>
      bnd (spec_TaskNew r1) fun r3 =>
      (bif (!(r2.2 == r3.2)) then
      (bif (r2.2 == r3.2) then
      bnd (laws_sameTask r2.1 r3.1) fun r4 =>
      some r4
      else
      some false)
      else
      bnd (laws_sameTask r2.1 r3.1) fun r5 =>
      (bif (!r5) then
      (bif (r2.2 == r3.2) then
      bnd (laws_sameTask r2.1 r3.1) fun r6 =>
      some r6
      else
      some false)
      else
      (bif (!r2.2) then
      (bif (r2.2 == r3.2) then
      bnd (laws_sameTask r2.1 r3.1) fun r7 =>
      some r7
      else
      some false)
      else
      bnd (impl_TaskValid r2.1) fun r8 =>
      (bif r8 then
      bnd (laws_sameInts r2.1.vars (List.replicate 4 (zeroD .int))) fun r10 =>
      (bif r10 then
      bnd (laws_sameStmts r2.1.rest r1) fun r11 =>
      some r11
      else
      some false)
      else
      some false))))) : Option (Bool)) := by kernel_rfl
    exact fn_le' (sig := s10100) (p := p10100) (by kernel_rfl) (by kernel_rfl) rfl rfl rfl rfl (e.trans h)

theorem spec_DrawTaskNew_le (a0 : List Int) : Tv.Le
  (bnd (spec_l6Open a0) fun r1 =>
  bnd (spec_l92Some r1.1 r1.2) fun r2 =>
  some r2.1 : Option (List Stm))
  (spec_DrawTaskNew a0) := by
  exact fun r h => by
    have e : runC (phi Tb GT sg) Tb GT p8900.code (startAT p8900 (mkST p8900.ins [.sl .share .u8 a0] p8900.bins [])) (finT p8900 s8900) = (
      bnd (spec_l6Open a0) fun r1 =>
      bnd (spec_l92Some r1.1 r1.2) fun r2 =>
      some r2.1 : Option (List Stm)) := by kernel_rfl
    exact fn_le' (sig := s8900) (p := p8900) (by kernel_rfl) (by kernel_rfl) rfl rfl rfl rfl (e.trans h)

theorem impl_TaskNew_le (a0 : List Stm) : Tv.Le
  (bnd (impl_StmtsValid a0) fun r1 =>
  (bif (!r1) then
  some (⟨[], []⟩, false)
  else
  bnd (impl_stmtsCopy a0) fun r3 =>
  some (⟨(List.replicate 4 (zeroD .int)), r3⟩, true)) : Option (Tk × Bool))
  (impl_TaskNew a0) := by
  exact fun r h => by
    have e : runC (phi Tb GT sg) Tb GT p9300.code (startAT p9300 (mkST p9300.ins [.sl .share .stm a0] p9300.bins [])) (finT p9300 s9300) = (
      bnd (impl_StmtsValid a0) fun r1 =>
      (bif (!r1) then
      some (⟨[], []⟩, false)
      else
      bnd (impl_stmtsCopy a0) fun r3 =>
      some (⟨(List.replicate 4 (zeroD .int)), r3⟩, true)) : Option (Tk × Bool)) := by kernel_rfl
    exact fn_le' (sig := s9300) (p := p9300) (by kernel_rfl) (by kernel_rfl) rfl rfl rfl rfl (e.trans h)

theorem spec_TaskNew_le (a0 : List Stm) : Tv.Le
  (bnd (spec_StmtsValid a0) fun r1 =>
  (bif (!r1) then
  some (⟨[], []⟩, false)
  else
  bnd (spec_l11Copy a0) fun r3 =>
  some (⟨(List.replicate 4 (zeroD .int)), r3⟩, true)) : Option (Tk × Bool))
  (spec_TaskNew a0) := by
  exact fun r h => by
    have e : runC (phi Tb GT sg) Tb GT p9600.code (startAT p9600 (mkST p9600.ins [.sl .share .stm a0] p9600.bins [])) (finT p9600 s9600) = (
      bnd (spec_StmtsValid a0) fun r1 =>
      (bif (!r1) then
      some (⟨[], []⟩, false)
      else
      bnd (spec_l11Copy a0) fun r3 =>
      some (⟨(List.replicate 4 (zeroD .int)), r3⟩, true)) : Option (Tk × Bool)) := by kernel_rfl
    exact fn_le' (sig := s9600) (p := p9600) (by kernel_rfl) (by kernel_rfl) rfl rfl rfl rfl (e.trans h)

theorem laws_sameTask_le (a0 : Tk) (a1 : Tk) : Tv.Le
  (bnd (laws_sameInts a0.vars a1.vars) fun r1 =>
  (bif r1 then
  bnd (laws_sameStmts a0.rest a1.rest) fun r2 =>
  some r2
  else
  some false) : Option (Bool))
  (laws_sameTask a0 a1) := by
  exact fun r h => by
    have e : runC (phi Tb GT sg) Tb GT p10000.code (startAT p10000 (mkST p10000.ins [.agg (rowT .tk a0), .agg (rowT .tk a1)] p10000.bins [])) (finT p10000 s10000) = (
      bnd (laws_sameInts a0.vars a1.vars) fun r1 =>
      (bif r1 then
      bnd (laws_sameStmts a0.rest a1.rest) fun r2 =>
      some r2
      else
      some false) : Option (Bool)) := by kernel_rfl
    exact fn_le' (sig := s10000) (p := p10000) (by kernel_rfl) (by kernel_rfl) rfl rfl rfl rfl (e.trans h)

theorem impl_TaskValid_le (a0 : Tk) : Tv.Le
  (bnd (impl_taskValid a0 3) fun r1 =>
  some r1 : Option (Bool))
  (impl_TaskValid a0) := by
  exact fun r h => by
    have e : runC (phi Tb GT sg) Tb GT p5600.code (startAT p5600 (mkST p5600.ins [.agg (rowT .tk a0)] p5600.bins [])) (finT p5600 s5600) = (
      bnd (impl_taskValid a0 3) fun r1 =>
      some r1 : Option (Bool)) := by kernel_rfl
    exact fn_le' (sig := s5600) (p := p5600) (by kernel_rfl) (by kernel_rfl) rfl rfl rfl rfl (e.trans h)

theorem laws_sameInts_le (a0 : List Int) (a1 : List Int) : Tv.Le
  ((bif (!decide ((a0.length : Int) = (a1.length : Int))) then
  some false
  else
  bnd (laws_sameInts_l1 a0 a1 0) fun r1 =>
  selm r1 (fun y2 =>
  some true) (fun z3 =>
  some z3)) : Option (Bool))
  (laws_sameInts a0 a1) := by
  exact fun r h => by
    have e : runC (phi Tb GT sg) Tb GT p9700.code (startAT p9700 (mkST p9700.ins [.sl .share .int a0, .sl .share .int a1] p9700.bins [])) (finT p9700 s9700) = (
      (bif (!decide ((a0.length : Int) = (a1.length : Int))) then
      some false
      else
      bnd (laws_sameInts_l1 a0 a1 0) fun r1 =>
      selm r1 (fun y2 =>
      some true) (fun z3 =>
      some z3)) : Option (Bool)) := by kernel_rfl
    exact fn_le' (sig := s9700) (p := p9700) (by kernel_rfl) (by kernel_rfl) rfl rfl rfl rfl (e.trans h)

theorem laws_sameStmts_le (a0 : List Stm) (a1 : List Stm) : Tv.Le
  ((bif (!decide ((a0.length : Int) = (a1.length : Int))) then
  some false
  else
  bnd (laws_sameStmts_l1 a0 a1 0) fun r1 =>
  selm r1 (fun y2 =>
  some true) (fun z3 =>
  some z3)) : Option (Bool))
  (laws_sameStmts a0 a1) := by
  exact fun r h => by
    have e : runC (phi Tb GT sg) Tb GT p9900.code (startAT p9900 (mkST p9900.ins [.sl .share .stm a0, .sl .share .stm a1] p9900.bins [])) (finT p9900 s9900) = (
      (bif (!decide ((a0.length : Int) = (a1.length : Int))) then
      some false
      else
      bnd (laws_sameStmts_l1 a0 a1 0) fun r1 =>
      selm r1 (fun y2 =>
      some true) (fun z3 =>
      some z3)) : Option (Bool)) := by kernel_rfl
    exact fn_le' (sig := s9900) (p := p9900) (by kernel_rfl) (by kernel_rfl) rfl rfl rfl rfl (e.trans h)

theorem spec_l6Open_le (a0 : List Int) : Tv.Le
  ((bif (decide (2000 < (a0.length : Int))) then
  bnd (cutL a0 0 2000) fun l1 =>
  some (l1, 0)
  else
  some (a0, 0)) : Option (List Int × Int))
  (spec_l6Open a0) := by
  exact fun r h => by
    have e : runC (phi Tb GT sg) Tb GT p100.code (startAT p100 (mkST p100.ins [.sl .share .u8 a0] p100.bins [])) (finT p100 s100) = (
      (bif (decide (2000 < (a0.length : Int))) then
      bnd (cutL a0 0 2000) fun l1 =>
      some (l1, 0)
      else
      some (a0, 0)) : Option (List Int × Int)) := by kernel_rfl
    exact fn_le' (sig := s100) (p := p100) (by kernel_rfl) (by kernel_rfl) rfl rfl rfl rfl (e.trans h)

theorem spec_l92Some_le (a0b : List Int) (a0p : Int) : Tv.Le
  (bnd (spec_l92Stmts_p 3 a0b a0p ([] : List Ent)) fun r1 =>
  bnd (spec_l6Rd_pick 24 r1.2.1 r1.2.2.1) fun r2 =>
  (bif (decide (r2.1 = 0)) then
  bnd (spec_l92Endless r2.2.1 r2.2.2) fun r3 =>
  bnd (arApp r1.2.2.2 .stm r1.1.id r1.1.n ([⟨r3.1.kind, r3.1.var, r3.1.box, ⟨r3.1.e.op, r3.1.e.n, r3.1.e.args⟩, r3.1.body, r3.1.els⟩] : List Stm)) fun B4 =>
  bnd (arView B4 .stm (some (List.length r1.2.2.2))) fun l5 =>
  some (l5, r3.2.1, r3.2.2)
  else
  (bif (decide (r2.1 = 1)) then
  bnd (spec_l6Rd_pick 2 r2.2.1 r2.2.2) fun r6 =>
  bnd (geti ([0, 8] : List Int) r6.1) fun e7 =>
  bnd (arApp r1.2.2.2 .stm r1.1.id r1.1.n ([⟨e7, 0, 0, ⟨0, 0, []⟩, [], []⟩] : List Stm)) fun B8 =>
  bnd (arView B8 .stm (some (List.length r1.2.2.2))) fun l9 =>
  some (l9, r6.2.1, r6.2.2)
  else
  (bif (decide (r2.1 = 2)) then
  bnd (spec_l91Leaf r2.2.1 r2.2.2) fun r10 =>
  bnd (arApp r1.2.2.2 .stm r1.1.id r1.1.n ([⟨4, 0, 3, ⟨r10.1, r10.2.1, r10.2.2.1.2⟩, [], []⟩] : List Stm)) fun B11 =>
  bnd (arView B11 .stm (some (List.length r1.2.2.2))) fun l12 =>
  some (l12, r10.2.2.2.1, r10.2.2.2.2)
  else
  (bif (decide (r2.1 = 3)) then
  bnd (arApp r1.2.2.2 .stm r1.1.id r1.1.n ([⟨6, 1, 0, ⟨0, 0, []⟩, [], []⟩] : List Stm)) fun B13 =>
  bnd (arView B13 .stm (some (List.length r1.2.2.2))) fun l14 =>
  some (l14, r2.2.1, r2.2.2)
  else
  (bif (decide (r2.1 = 4)) then
  bnd (spec_l92If 1 1 false r2.2.1 r2.2.2) fun r15 =>
  bnd (arApp r1.2.2.2 .stm r1.1.id r1.1.n ([⟨r15.1.kind, r15.1.var, r15.1.box, ⟨r15.1.e.op, r15.1.e.n, r15.1.e.args⟩, ([⟨2, 0, 0, ⟨0, 0, []⟩, ([⟨2, 0, 0, ⟨0, 0, []⟩, ([⟨2, 0, 0, ⟨0, 0, []⟩, [], []⟩] : List Stm), []⟩] : List Stm), []⟩] : List Stm), r15.1.els⟩] : List Stm)) fun B16 =>
  bnd (arView B16 .stm (some (List.length r1.2.2.2))) fun l17 =>
  some (l17, r15.2.1, r15.2.2)
  else
  (bif (decide (r2.1 = 5)) then
  bnd (spec_l91Leaf r2.2.1 r2.2.2) fun r18 =>
  bnd (arApp r1.2.2.2 .stm r1.1.id r1.1.n ([⟨3, 0, 0, ⟨r18.1, r18.2.1, r18.2.2.1.2⟩, [], ([⟨6, 0, 0, ⟨0, 0, []⟩, [], []⟩] : List Stm)⟩] : List Stm)) fun B19 =>
  bnd (arView B19 .stm (some (List.length r1.2.2.2))) fun l20 =>
  some (l20, r18.2.2.2.1, r18.2.2.2.2)
  else
  bnd (arView r1.2.2.2 .stm r1.1.id) fun l21 =>
  some (l21, r2.2.1, r2.2.2))))))) : Option (List Stm × List Int × Int))
  (spec_l92Some a0b a0p) := by
  exact fun r h => by
    have e : runC (phi Tb GT sg) Tb GT p8800.code (startAT p8800 (mkST p8800.ins [.bp 0 0] p8800.bins [.var [.sl .share .u8 a0b, .int .i64 a0p]])) (finT p8800 s8800) = (
      bnd (spec_l92Stmts_p 3 a0b a0p ([] : List Ent)) fun r1 =>
      bnd (spec_l6Rd_pick 24 r1.2.1 r1.2.2.1) fun r2 =>
      (bif (decide (r2.1 = 0)) then
      bnd (spec_l92Endless r2.2.1 r2.2.2) fun r3 =>
      bnd (arApp r1.2.2.2 .stm r1.1.id r1.1.n ([⟨r3.1.kind, r3.1.var, r3.1.box, ⟨r3.1.e.op, r3.1.e.n, r3.1.e.args⟩, r3.1.body, r3.1.els⟩] : List Stm)) fun B4 =>
      bnd (arView B4 .stm (some (List.length r1.2.2.2))) fun l5 =>
      some (l5, r3.2.1, r3.2.2)
      else
      (bif (decide (r2.1 = 1)) then
      bnd (spec_l6Rd_pick 2 r2.2.1 r2.2.2) fun r6 =>
      bnd (geti ([0, 8] : List Int) r6.1) fun e7 =>
      bnd (arApp r1.2.2.2 .stm r1.1.id r1.1.n ([⟨e7, 0, 0, ⟨0, 0, []⟩, [], []⟩] : List Stm)) fun B8 =>
      bnd (arView B8 .stm (some (List.length r1.2.2.2))) fun l9 =>
      some (l9, r6.2.1, r6.2.2)
      else
      (bif (decide (r2.1 = 2)) then
      bnd (spec_l91Leaf r2.2.1 r2.2.2) fun r10 =>
      bnd (arApp r1.2.2.2 .stm r1.1.id r1.1.n ([⟨4, 0, 3, ⟨r10.1, r10.2.1, r10.2.2.1.2⟩, [], []⟩] : List Stm)) fun B11 =>
      bnd (arView B11 .stm (some (List.length r1.2.2.2))) fun l12 =>
      some (l12, r10.2.2.2.1, r10.2.2.2.2)
      else
      (bif (decide (r2.1 = 3)) then
      bnd (arApp r1.2.2.2 .stm r1.1.id r1.1.n ([⟨6, 1, 0, ⟨0, 0, []⟩, [], []⟩] : List Stm)) fun B13 =>
      bnd (arView B13 .stm (some (List.length r1.2.2.2))) fun l14 =>
      some (l14, r2.2.1, r2.2.2)
      else
      (bif (decide (r2.1 = 4)) then
      bnd (spec_l92If 1 1 false r2.2.1 r2.2.2) fun r15 =>
      bnd (arApp r1.2.2.2 .stm r1.1.id r1.1.n ([⟨r15.1.kind, r15.1.var, r15.1.box, ⟨r15.1.e.op, r15.1.e.n, r15.1.e.args⟩, ([⟨2, 0, 0, ⟨0, 0, []⟩, ([⟨2, 0, 0, ⟨0, 0, []⟩, ([⟨2, 0, 0, ⟨0, 0, []⟩, [], []⟩] : List Stm), []⟩] : List Stm), []⟩] : List Stm), r15.1.els⟩] : List Stm)) fun B16 =>
      bnd (arView B16 .stm (some (List.length r1.2.2.2))) fun l17 =>
      some (l17, r15.2.1, r15.2.2)
      else
      (bif (decide (r2.1 = 5)) then
      bnd (spec_l91Leaf r2.2.1 r2.2.2) fun r18 =>
      bnd (arApp r1.2.2.2 .stm r1.1.id r1.1.n ([⟨3, 0, 0, ⟨r18.1, r18.2.1, r18.2.2.1.2⟩, [], ([⟨6, 0, 0, ⟨0, 0, []⟩, [], []⟩] : List Stm)⟩] : List Stm)) fun B19 =>
      bnd (arView B19 .stm (some (List.length r1.2.2.2))) fun l20 =>
      some (l20, r18.2.2.2.1, r18.2.2.2.2)
      else
      bnd (arView r1.2.2.2 .stm r1.1.id) fun l21 =>
      some (l21, r2.2.1, r2.2.2))))))) : Option (List Stm × List Int × Int)) := by kernel_rfl
    exact fn_le' (sig := s8800) (p := p8800) (by kernel_rfl) (by kernel_rfl) rfl rfl rfl rfl (e.trans h)

theorem impl_StmtsValid_le (a0 : List Stm) : Tv.Le
  (bnd (impl_stmtsValid a0 3) fun r1 =>
  some r1 : Option (Bool))
  (impl_StmtsValid a0) := by
  exact fun r h => by
    have e : runC (phi Tb GT sg) Tb GT p9000.code (startAT p9000 (mkST p9000.ins [.sl .share .stm a0] p9000.bins [])) (finT p9000 s9000) = (
      bnd (impl_stmtsValid a0 3) fun r1 =>
      some r1 : Option (Bool)) := by kernel_rfl
    exact fn_le' (sig := s9000) (p := p9000) (by kernel_rfl) (by kernel_rfl) rfl rfl rfl rfl (e.trans h)

theorem impl_stmtsCopy_le (a0 : List Stm) : Tv.Le
  (bnd (impl_stmtsCopy_l1 false [] a0 (a0.length : Int) 0) fun r1 =>
  some r1.2 : Option (List Stm))
  (impl_stmtsCopy a0) := by
  exact fun r h => by
    have e : runC (phi Tb GT sg) Tb GT p9200.code (startAT p9200 (mkST p9200.ins [.sl .share .stm a0] p9200.bins [])) (finT p9200 s9200) = (
      bnd (impl_stmtsCopy_l1 false [] a0 (a0.length : Int) 0) fun r1 =>
      some r1.2 : Option (List Stm)) := by kernel_rfl
    exact fn_le' (sig := s9200) (p := p9200) (by kernel_rfl) (by kernel_rfl) rfl rfl rfl rfl (e.trans h)

theorem spec_StmtsValid_le (a0 : List Stm) : Tv.Le
  (bnd (spec_l11Blocks a0 3) fun r1 =>
  (bif r1 then
  bnd (spec_l11Count a0) fun r2 =>
  some (decide (r2 ≤ 16))
  else
  some false) : Option (Bool))
  (spec_StmtsValid a0) := by
  exact fun r h => by
    have e : runC (phi Tb GT sg) Tb GT p6300.code (startAT p6300 (mkST p6300.ins [.sl .share .stm a0] p6300.bins [])) (finT p6300 s6300) = (
      bnd (spec_l11Blocks a0 3) fun r1 =>
      (bif r1 then
      bnd (spec_l11Count a0) fun r2 =>
      some (decide (r2 ≤ 16))
      else
      some false) : Option (Bool)) := by kernel_rfl
    exact fn_le' (sig := s6300) (p := p6300) (by kernel_rfl) (by kernel_rfl) rfl rfl rfl rfl (e.trans h)

theorem spec_l11Copy_le (a0 : List Stm) : Tv.Le
  (bnd (spec_l11Copy_l1 a0 true ([] : List Stm) 0) fun r1 =>
  some r1.2 : Option (List Stm))
  (spec_l11Copy a0) := by
  exact fun r h => by
    have e : runC (phi Tb GT sg) Tb GT p9500.code (startAT p9500 (mkST p9500.ins [.sl .share .stm a0] p9500.bins [])) (finT p9500 s9500) = (
      bnd (spec_l11Copy_l1 a0 true ([] : List Stm) 0) fun r1 =>
      some r1.2 : Option (List Stm)) := by kernel_rfl
    exact fn_le' (sig := s9500) (p := p9500) (by kernel_rfl) (by kernel_rfl) rfl rfl rfl rfl (e.trans h)

theorem impl_taskValid_le (a0 : Tk) (a1 : Int) : Tv.Le
  ((bif (!decide ((a0.vars.length : Int) = 4)) then
  some false
  else
  bnd (impl_areWords a0.vars) fun r1 =>
  (bif (!r1) then
  some false
  else
  bnd (impl_taskValid_l1 a1 (a0.rest.length : Int) 0 a0.vars a0.rest) fun r2 =>
  selm r2 (fun y3 =>
  some true) (fun z4 =>
  some z4))) : Option (Bool))
  (impl_taskValid a0 a1) := by
  exact fun r h => by
    have e : runC (phi Tb GT sg) Tb GT p5500.code (startAT p5500 (mkST p5500.ins [.agg (rowT .tk a0), .int .i64 a1] p5500.bins [])) (finT p5500 s5500) = (
      (bif (!decide ((a0.vars.length : Int) = 4)) then
      some false
      else
      bnd (impl_areWords a0.vars) fun r1 =>
      (bif (!r1) then
      some false
      else
      bnd (impl_taskValid_l1 a1 (a0.rest.length : Int) 0 a0.vars a0.rest) fun r2 =>
      selm r2 (fun y3 =>
      some true) (fun z4 =>
      some z4))) : Option (Bool)) := by kernel_rfl
    exact fn_le' (sig := s5500) (p := p5500) (by kernel_rfl) (by kernel_rfl) rfl rfl rfl rfl (e.trans h)

theorem laws_sameInts_l1_le (t0 : List Int) (t1 : List Int) (t5 : Int) : Tv.Le
  ((bif (decide (t5 < (t0.length : Int))) then
  bnd (geti t0 t5) fun e1 =>
  bnd (geti t1 t5) fun e2 =>
  (bif (!decide (e1 = e2)) then
  some (.inr false)
  else
  laws_sameInts_l1 t0 t1 (wrap64 (t5 + 1)))
  else
  some (.inl ())) : Option (Unit ⊕ Bool))
  (laws_sameInts_l1 t0 t1 t5) := by
  rewrite [← wrapC_eq]
  exact fun r h => by
    have e : runC (phi Tb GT sg) Tb GT p9701.code ((mkST p9701.ins [.sl .share .int t0, .sl .share .int t1, .int .i64 t5] p9701.bins [])) (finL Tb GT 9701 p9701 s9701) = (
      (bif (decide (t5 < (t0.length : Int))) then
      bnd (geti t0 t5) fun e1 =>
      bnd (geti t1 t5) fun e2 =>
      (bif (!decide (e1 = e2)) then
      some (.inr false)
      else
      laws_sameInts_l1 t0 t1 (wrapC (t5 + 1)))
      else
      some (.inl ())) : Option (Unit ⊕ Bool)) := by kernel_rfl
    exact loop_le' (sig := s9701) (p := p9701) (by kernel_rfl) (by kernel_rfl) rfl rfl rfl (e.trans h)

theorem laws_sameExpr_le (a0 : Exp) (a1 : Exp) : Tv.Le
  ((bif (!decide (a0.op = a1.op)) then
  some false
  else
  (bif (!decide (a0.n = a1.n)) then
  some false
  else
  (bif (!decide ((a0.args.length : Int) = (a1.args.length : Int))) then
  some false
  else
  bnd (laws_sameExpr_l1 0 a0.op a0.n a0.args a1.op a1.n a1.args) fun r1 =>
  selm r1 (fun y2 =>
  some true) (fun z3 =>
  some z3)))) : Option (Bool))
  (laws_sameExpr a0 a1) := by
  exact fun r h => by
    have e : runC (phi Tb GT sg) Tb GT p9800.code (startAT p9800 (mkST p9800.ins [.agg (rowT .exp a0), .agg (rowT .exp a1)] p9800.bins [])) (finT p9800 s9800) = (
      (bif (!decide (a0.op = a1.op)) then
      some false
      else
      (bif (!decide (a0.n = a1.n)) then
      some false
      else
      (bif (!decide ((a0.args.length : Int) = (a1.args.length : Int))) then
      some false
      else
      bnd (laws_sameExpr_l1 0 a0.op a0.n a0.args a1.op a1.n a1.args) fun r1 =>
      selm r1 (fun y2 =>
      some true) (fun z3 =>
      some z3)))) : Option (Bool)) := by kernel_rfl
    exact fn_le' (sig := s9800) (p := p9800) (by kernel_rfl) (by kernel_rfl) rfl rfl rfl rfl (e.trans h)

theorem laws_sameStmts_l1_le (t0 : List Stm) (t1 : List Stm) (t5 : Int) : Tv.Le
  ((bif (decide (t5 < (t0.length : Int))) then
  bnd (geti t0 t5) fun e1 =>
  bnd (geti t1 t5) fun e2 =>
  (bif (!decide (e1.kind = e2.kind)) then
  some (.inr false)
  else
  (bif (!decide (e1.var = e2.var)) then
  some (.inr false)
  else
  (bif (!decide (e1.box = e2.box)) then
  some (.inr false)
  else
  bnd (laws_sameExpr (⟨e1.e.op, e1.e.n, e1.e.args⟩ : Exp) (⟨e2.e.op, e2.e.n, e2.e.args⟩ : Exp)) fun r3 =>
  (bif (!r3) then
  some (.inr false)
  else
  bnd (laws_sameStmts e1.body e2.body) fun r4 =>
  (bif (!r4) then
  some (.inr false)
  else
  bnd (laws_sameStmts e1.els e2.els) fun r5 =>
  (bif (!r5) then
  some (.inr false)
  else
  laws_sameStmts_l1 t0 t1 (wrap64 (t5 + 1))))))))
  else
  some (.inl ())) : Option (Unit ⊕ Bool))
  (laws_sameStmts_l1 t0 t1 t5) := by
  rewrite [← wrapC_eq]
  exact fun r h => by
    have e : runC (phi Tb GT sg) Tb GT p9901.code ((mkST p9901.ins [.sl .share .stm t0, .sl .share .stm t1, .int .i64 t5] p9901.bins [])) (finL Tb GT 9901 p9901 s9901) = (
      (bif (decide (t5 < (t0.length : Int))) then
      bnd (geti t0 t5) fun e1 =>
      bnd (geti t1 t5) fun e2 =>
      (bif (!decide (e1.kind = e2.kind)) then
      some (.inr false)
      else
      (bif (!decide (e1.var = e2.var)) then
      some (.inr false)
      else
      (bif (!decide (e1.box = e2.box)) then
      some (.inr false)
      else
      bnd (laws_sameExpr (⟨e1.e.op, e1.e.n, e1.e.args⟩ : Exp) (⟨e2.e.op, e2.e.n, e2.e.args⟩ : Exp)) fun r3 =>
      (bif (!r3) then
      some (.inr false)
      else
      bnd (laws_sameStmts e1.body e2.body) fun r4 =>
      (bif (!r4) then
      some (.inr false)
      else
      bnd (laws_sameStmts e1.els e2.els) fun r5 =>
      (bif (!r5) then
      some (.inr false)
      else
      laws_sameStmts_l1 t0 t1 (wrapC (t5 + 1))))))))
      else
      some (.inl ())) : Option (Unit ⊕ Bool)) := by kernel_rfl
    exact loop_le' (sig := s9901) (p := p9901) (by kernel_rfl) (by kernel_rfl) rfl rfl rfl (e.trans h)

theorem spec_l92Stmts_p_le (a1 : Int) (a0b : List Int) (a0p : Int) (A : List Ent) : Tv.Le
  (bnd (spec_l6Rd_pick 6 a0b a0p) fun r1 =>
  bnd (spec_l92Block_p a1 3 (wrap64 (1 + r1.1)) true r1.2.1 r1.2.2 A) fun r2 =>
  bnd (spec_l92Stmts_p_l1 r2.1 r2.2.1 r2.2.2.1 r2.2.2.2) fun r3 =>
  some (r3.1, r3.2.1, r3.2.2.1, r3.2.2.2) : Option (Hd × List Int × Int × List Ent))
  (spec_l92Stmts_p a1 a0b a0p A) := by
  rewrite [← wrapC_eq]
  exact fun r h => by
    have e : runC (phi Tb GT sg) Tb GT p38000.code (startAT p38000 (mkST p38000.ins [.bp 0 0, .int .i64 a1] p38000.bins [.var [.sl .share .u8 a0b, .int .i64 a0p], .ar A])) (finT p38000 s38000) = (
      bnd (spec_l6Rd_pick 6 a0b a0p) fun r1 =>
      bnd (spec_l92Block_p a1 3 (wrapC (1 + r1.1)) true r1.2.1 r1.2.2 A) fun r2 =>
      bnd (spec_l92Stmts_p_l1 r2.1 r2.2.1 r2.2.2.1 r2.2.2.2) fun r3 =>
      some (r3.1, r3.2.1, r3.2.2.1, r3.2.2.2) : Option (Hd × List Int × Int × List Ent)) := by kernel_rfl
    exact fn_le' (sig := s38000) (p := p38000) (by kernel_rfl) (by kernel_rfl) rfl rfl rfl rfl (e.trans h)

theorem spec_l6Rd_pick_le (a1 : Int) (a0b : List Int) (a0p : Int) : Tv.Le
  ((bif (decide (a1 < 1)) then
  some (0, a0b, (wrap64 (a0p + 1)))
  else
  (bif (decide ((a0b.length : Int) = 0)) then
  some (0, a0b, (wrap64 (a0p + 1)))
  else
  (bif (decide ((wrap64 ((wrap64 (a0p + 1)) - 1)) < (a0b.length : Int))) then
  bnd (geti a0b (wrap64 ((wrap64 (a0p + 1)) - 1))) fun e1 =>
  bnd (remI (wrap64 (e1)) a1) fun n2 =>
  some (n2, a0b, (wrap64 (a0p + 1)))
  else
  bnd (remI (wrap64 ((wrap64 (a0p + 1)) - 1)) (a0b.length : Int)) fun n3 =>
  bnd (geti a0b n3) fun e4 =>
  bnd (remI (wrap64 ((wrap64 ((wrap64 ((wrap64 (a0p + 1)) - 1)) * 7)) + 3)) (a0b.length : Int)) fun n5 =>
  bnd (geti a0b n5) fun e6 =>
  bnd (quoI .i64 (wrap64 ((wrap64 (a0p + 1)) - 1)) (a0b.length : Int)) fun n7 =>
  bnd (remI (bits .xor .i64 (wrap64 ((wrap64 ((wrap64 ((wrap64 ((wrap64 (e4)) * 131)) + (wrap64 ((wrap64 (e6)) * 1117)))) + (wrap64 ((wrap64 ((wrap64 (a0p + 1)) - 1)) * 29)))) + (wrap64 (n7 * 53)))) (wrap64 (Int.tdiv (wrap64 ((wrap64 ((wrap64 ((wrap64 ((wrap64 (e4)) * 131)) + (wrap64 ((wrap64 (e6)) * 1117)))) + (wrap64 ((wrap64 ((wrap64 (a0p + 1)) - 1)) * 29)))) + (wrap64 (n7 * 53)))) 64))) a1) fun n8 =>
  some (n8, a0b, (wrap64 (a0p + 1)))))) : Option (Int × List Int × Int))
  (spec_l6Rd_pick a1 a0b a0p) := by
  rewrite [← wrapC_eq]
  exact fun r h => by
    have e : runC (phi Tb GT sg) Tb GT p200.code (startAT p200 (mkST p200.ins [.bp 0 0, .int .i64 a1] p200.bins [.var [.sl .share .u8 a0b, .int .i64 a0p]])) (finT p200 s200) = (
      (bif (decide (a1 < 1)) then
      some (0, a0b, (wrapC (a0p + 1)))
      else
      (bif (decide ((a0b.length : Int) = 0)) then
      some (0, a0b, (wrapC (a0p + 1)))
      else
      (bif (decide ((wrapC ((wrapC (a0p + 1)) - 1)) < (a0b.length : Int))) then
      bnd (geti a0b (wrapC ((wrapC (a0p + 1)) - 1))) fun e1 =>
      bnd (remI (wrapC (e1)) a1) fun n2 =>
      some (n2, a0b, (wrapC (a0p + 1)))
      else
      bnd (remI (wrapC ((wrapC (a0p + 1)) - 1)) (a0b.length : Int)) fun n3 =>
      bnd (geti a0b n3) fun e4 =>
      bnd (remI (wrapC ((wrapC ((wrapC ((wrapC (a0p + 1)) - 1)) * 7)) + 3)) (a0b.length : Int)) fun n5 =>
      bnd (geti a0b n5) fun e6 =>
      bnd (quoI .i64 (wrapC ((wrapC (a0p + 1)) - 1)) (a0b.length : Int)) fun n7 =>
      bnd (remI (bits .xor .i64 (wrapC ((wrapC ((wrapC ((wrapC ((wrapC (e4)) * 131)) + (wrapC ((wrapC (e6)) * 1117)))) + (wrapC ((wrapC ((wrapC (a0p + 1)) - 1)) * 29)))) + (wrapC (n7 * 53)))) (wrapC (Int.tdiv (wrapC ((wrapC ((wrapC ((wrapC ((wrapC (e4)) * 131)) + (wrapC ((wrapC (e6)) * 1117)))) + (wrapC ((wrapC ((wrapC (a0p + 1)) - 1)) * 29)))) + (wrapC (n7 * 53)))) 64))) a1) fun n8 =>
      some (n8, a0b, (wrapC (a0p + 1)))))) : Option (Int × List Int × Int)) := by kernel_rfl
    exact fn_le' (sig := s200) (p := p200) (by kernel_rfl) (by kernel_rfl) rfl rfl rfl rfl (e.trans h)

theorem spec_l92Endless_le (a0b : List Int) (a0p : Int) : Tv.Le
  (bnd (spec_l4Leaf 0 1) fun r1 =>
  bnd (spec_l6Rd_pick 2 a0b a0p) fun r2 =>
  bnd (spec_l92Block 0 1 r2.1 false r2.2.1 r2.2.2) fun r3 =>
  some (⟨3, 0, 0, ⟨r1.1, r1.2.1, r1.2.2.2⟩, r3.1, []⟩, r3.2.1, r3.2.2) : Option (Stm × List Int × Int))
  (spec_l92Endless a0b a0p) := by
  exact fun r h => by
    have e : runC (phi Tb GT sg) Tb GT p8700.code (startAT p8700 (mkST p8700.ins [.bp 0 0] p8700.bins [.var [.sl .share .u8 a0b, .int .i64 a0p]])) (finT p8700 s8700) = (
      bnd (spec_l4Leaf 0 1) fun r1 =>
      bnd (spec_l6Rd_pick 2 a0b a0p) fun r2 =>
      bnd (spec_l92Block 0 1 r2.1 false r2.2.1 r2.2.2) fun r3 =>
      some (⟨3, 0, 0, ⟨r1.1, r1.2.1, r1.2.2.2⟩, r3.1, []⟩, r3.2.1, r3.2.2) : Option (Stm × List Int × Int)) := by kernel_rfl
    exact fn_le' (sig := s8700) (p := p8700) (by kernel_rfl) (by kernel_rfl) rfl rfl rfl rfl (e.trans h)

theorem spec_l91Leaf_le (a0b : List Int) (a0p : Int) : Tv.Le
  (bnd (spec_l6Rd_pick 4 a0b a0p) fun r1 =>
  (bif (decide (r1.1 = 0)) then
  bnd (spec_l6Rd_pick 4 r1.2.1 r1.2.2) fun r2 =>
  bnd (spec_l4Leaf 0 r2.1) fun r3 =>
  some (r3.1, r3.2.1, ((Md.dem (Md.dem (Md.dem r3.2.2.1))), r3.2.2.2), r2.2.1, r2.2.2)
  else
  (bif (decide (r1.1 = 1)) then
  bnd (spec_l6Rd_pick 8 r1.2.1 r1.2.2) fun r4 =>
  bnd (geti ([5, 31, 32, 100, 2047, 2048, 65536, 99999] : List Int) r4.1) fun e5 =>
  bnd (spec_l4Leaf 0 e5) fun r6 =>
  some (r6.1, r6.2.1, ((Md.dem (Md.dem (Md.dem r6.2.2.1))), r6.2.2.2), r4.2.1, r4.2.2)
  else
  bnd (spec_l6Rd_pick 4 r1.2.1 r1.2.2) fun r7 =>
  bnd (spec_l4Leaf 13 r7.1) fun r8 =>
  some (r8.1, r8.2.1, ((Md.dem (Md.dem (Md.dem r8.2.2.1))), r8.2.2.2), r7.2.1, r7.2.2))) : Option (Int × Int × (Md × List Exp) × List Int × Int))
  (spec_l91Leaf a0b a0p) := by
  exact fun r h => by
    have e : runC (phi Tb GT sg) Tb GT p400.code (startAT p400 (mkST p400.ins [.bp 0 0] p400.bins [.var [.sl .share .u8 a0b, .int .i64 a0p]])) (finT p400 s400) = (
      bnd (spec_l6Rd_pick 4 a0b a0p) fun r1 =>
      (bif (decide (r1.1 = 0)) then
      bnd (spec_l6Rd_pick 4 r1.2.1 r1.2.2) fun r2 =>
      bnd (spec_l4Leaf 0 r2.1) fun r3 =>
      some (r3.1, r3.2.1, ((Md.dem (Md.dem (Md.dem r3.2.2.1))), r3.2.2.2), r2.2.1, r2.2.2)
      else
      (bif (decide (r1.1 = 1)) then
      bnd (spec_l6Rd_pick 8 r1.2.1 r1.2.2) fun r4 =>
      bnd (geti ([5, 31, 32, 100, 2047, 2048, 65536, 99999] : List Int) r4.1) fun e5 =>
      bnd (spec_l4Leaf 0 e5) fun r6 =>
      some (r6.1, r6.2.1, ((Md.dem (Md.dem (Md.dem r6.2.2.1))), r6.2.2.2), r4.2.1, r4.2.2)
      else
      bnd (spec_l6Rd_pick 4 r1.2.1 r1.2.2) fun r7 =>
      bnd (spec_l4Leaf 13 r7.1) fun r8 =>
      some (r8.1, r8.2.1, ((Md.dem (Md.dem (Md.dem r8.2.2.1))), r8.2.2.2), r7.2.1, r7.2.2))) : Option (Int × Int × (Md × List Exp) × List Int × Int)) := by kernel_rfl
    exact fn_le' (sig := s400) (p := p400) (by kernel_rfl) (by kernel_rfl) rfl rfl rfl rfl (e.trans h)

theorem spec_l92If_le (a1 : Int) (a2 : Int) (a3 : Bool) (a0b : List Int) (a0p : Int) : Tv.Le
  (bnd (spec_l6Rd_pick 2 a0b a0p) fun r1 =>
  bnd (spec_l91Expr (wrap64 (1 + r1.1)) r1.2.1 r1.2.2) fun r2 =>
  bnd (spec_l6Rd_pick 3 r2.2.2.2.1 r2.2.2.2.2) fun r3 =>
  bnd (spec_l92Block a1 (wrap64 (a2 - 1)) r3.1 a3 r3.2.1 r3.2.2) fun r4 =>
  bnd (spec_l6Rd_pick 3 r4.2.1 r4.2.2) fun r5 =>
  bnd (spec_l92Block a1 (wrap64 (a2 - 1)) r5.1 a3 r5.2.1 r5.2.2) fun r6 =>
  some (⟨2, 0, 0, ⟨r2.1, r2.2.1, r2.2.2.1.2⟩, r4.1, r6.1⟩, r6.2.1, r6.2.2) : Option (Stm × List Int × Int))
  (spec_l92If a1 a2 a3 a0b a0p) := by
  rewrite [← wrapC_eq]
  exact fun r h => by
    have e : runC (phi Tb GT sg) Tb GT p4100.code (startAT p4100 (mkST p4100.ins [.bp 0 0, .int .i64 a1, .int .i64 a2, .bool a3] p4100.bins [.var [.sl .share .u8 a0b, .int .i64 a0p]])) (finT p4100 s4100) = (
      bnd (spec_l6Rd_pick 2 a0b a0p) fun r1 =>
      bnd (spec_l91Expr (wrapC (1 + r1.1)) r1.2.1 r1.2.2) fun r2 =>
      bnd (spec_l6Rd_pick 3 r2.2.2.2.1 r2.2.2.2.2) fun r3 =>
      bnd (spec_l92Block a1 (wrapC (a2 - 1)) r3.1 a3 r3.2.1 r3.2.2) fun r4 =>
      bnd (spec_l6Rd_pick 3 r4.2.1 r4.2.2) fun r5 =>
      bnd (spec_l92Block a1 (wrapC (a2 - 1)) r5.1 a3 r5.2.1 r5.2.2) fun r6 =>
      some (⟨2, 0, 0, ⟨r2.1, r2.2.1, r2.2.2.1.2⟩, r4.1, r6.1⟩, r6.2.1, r6.2.2) : Option (Stm × List Int × Int)) := by kernel_rfl
    exact fn_le' (sig := s4100) (p := p4100) (by kernel_rfl) (by kernel_rfl) rfl rfl rfl rfl (e.trans h)

theorem impl_stmtsValid_le (a0 : List Stm) (a1 : Int) : Tv.Le
  (bnd (impl_blockValid a0 a1 0 0) fun r1 =>
  some r1.1 : Option (Bool))
  (impl_stmtsValid a0 a1) := by
  exact fun r h => by
    have e : runC (phi Tb GT sg) Tb GT p5400.code (startAT p5400 (mkST p5400.ins [.sl .share .stm a0, .int .i64 a1] p5400.bins [])) (finT p5400 s5400) = (
      bnd (impl_blockValid a0 a1 0 0) fun r1 =>
      some r1.1 : Option (Bool)) := by kernel_rfl
    exact fn_le' (sig := s5400) (p := p5400) (by kernel_rfl) (by kernel_rfl) rfl rfl rfl rfl (e.trans h)

theorem impl_exprCopy_le (a0 : Exp) : Tv.Le
  (bnd (impl_exprCopy_l1 a0.args (a0.args.length : Int) 0 0 0 false [] a0.op a0.n false []) fun r1 =>
  some (⟨r1.2.2.2.1, r1.2.2.2.2.1, r1.2.2.2.2.2.2⟩) : Option (Exp))
  (impl_exprCopy a0) := by
  exact fun r h => by
    have e : runC (phi Tb GT sg) Tb GT p9100.code (startAT p9100 (mkST p9100.ins [.agg (rowT .exp a0)] p9100.bins [])) (finT p9100 s9100) = (
      bnd (impl_exprCopy_l1 a0.args (a0.args.length : Int) 0 0 0 false [] a0.op a0.n false []) fun r1 =>
      some (⟨r1.2.2.2.1, r1.2.2.2.2.1, r1.2.2.2.2.2.2⟩) : Option (Exp)) := by kernel_rfl
    exact fn_le' (sig := s9100) (p := p9100) (by kernel_rfl) (by kernel_rfl) rfl rfl rfl rfl (e.trans h)

theorem impl_stmtsCopy_l1_le (t3b : Bool) (t3 : List Stm) (t6 : List Stm) (t7 : Int) (t8 : Int) : Tv.Le
  ((bif (decide (t8 < t7)) then
  bnd (geti t6 t8) fun e1 =>
  bnd (impl_stmtsCopy e1.body) fun r2 =>
  bnd (impl_stmtsCopy e1.els) fun r3 =>
  bnd (impl_exprCopy (⟨e1.e.op, e1.e.n, e1.e.args⟩ : Exp)) fun r4 =>
  bnd (appL t3 ([⟨e1.kind, e1.var, e1.box, ⟨r4.op, r4.n, r4.args⟩, r2, r3⟩] : List Stm)) fun l5 =>
  impl_stmtsCopy_l1 true l5 t6 t7 (wrap64 (t8 + 1))
  else
  some (t3b, t3)) : Option ((Bool × List Stm)))
  (impl_stmtsCopy_l1 t3b t3 t6 t7 t8) := by
  rewrite [← wrapC_eq]
  exact fun r h => by
    have e : runC (phi Tb GT sg) Tb GT p9201.code ((mkST p9201.ins [.sl (.own t3b) .stm t3, .sl .share .stm t6, .int .i64 t7, .int .i64 t8] p9201.bins [])) (finL Tb GT 9201 p9201 s9201) = (
      (bif (decide (t8 < t7)) then
      bnd (geti t6 t8) fun e1 =>
      bnd (impl_stmtsCopy e1.body) fun r2 =>
      bnd (impl_stmtsCopy e1.els) fun r3 =>
      bnd (impl_exprCopy (⟨e1.e.op, e1.e.n, e1.e.args⟩ : Exp)) fun r4 =>
      bnd (appL t3 ([⟨e1.kind, e1.var, e1.box, ⟨r4.op, r4.n, r4.args⟩, r2, r3⟩] : List Stm)) fun l5 =>
      impl_stmtsCopy_l1 true l5 t6 t7 (wrapC (t8 + 1))
      else
      some (t3b, t3)) : Option ((Bool × List Stm))) := by kernel_rfl
    exact loop_le' (sig := s9201) (p := p9201) (by kernel_rfl) (by kernel_rfl) rfl rfl rfl (e.trans h)

theorem spec_l11Blocks_le (a0 : List Stm) (a1 : Int) : Tv.Le
  (bnd (spec_l11Blocks_l1 a0 a1 0) fun r1 =>
  selm r1 (fun y2 =>
  some true) (fun z3 =>
  some z3) : Option (Bool))
  (spec_l11Blocks a0 a1) := by
  exact fun r h => by
    have e : runC (phi Tb GT sg) Tb GT p6200.code (startAT p6200 (mkST p6200.ins [.sl .share .stm a0, .int .i64 a1] p6200.bins [])) (finT p6200 s6200) = (
      bnd (spec_l11Blocks_l1 a0 a1 0) fun r1 =>
      selm r1 (fun y2 =>
      some true) (fun z3 =>
      some z3) : Option (Bool)) := by kernel_rfl
    exact fn_le' (sig := s6200) (p := p6200) (by kernel_rfl) (by kernel_rfl) rfl rfl rfl rfl (e.trans h)

theorem spec_l11Count_le (a0 : List Stm) : Tv.Le
  (bnd (spec_l11Count_l1 a0 0 0) fun r1 =>
  some r1 : Option (Int))
  (spec_l11Count a0) := by
  exact fun r h => by
    have e : runC (phi Tb GT sg) Tb GT p4000.code (startAT p4000 (mkST p4000.ins [.sl .share .stm a0] p4000.bins [])) (finT p4000 s4000) = (
      bnd (spec_l11Count_l1 a0 0 0) fun r1 =>
      some r1 : Option (Int)) := by kernel_rfl
    exact fn_le' (sig := s4000) (p := p4000) (by kernel_rfl) (by kernel_rfl) rfl rfl rfl rfl (e.trans h)

theorem spec_l4Copy_le (a0 : Exp) : Tv.Le
  ((bif (decide ((a0.args.length : Int) = 0)) then
  bnd (spec_l4Leaf a0.op a0.n) fun r1 =>
  some (⟨r1.1, r1.2.1, r1.2.2.2⟩)
  else
  bnd (geti a0.args 0) fun e2 =>
  bnd (spec_l4Copy (⟨e2.op, e2.n, e2.args⟩ : Exp)) fun r3 =>
  bnd (geti a0.args 1) fun e4 =>
  bnd (spec_l4Copy (⟨e4.op, e4.n, e4.args⟩ : Exp)) fun r5 =>
  bnd (spec_l4Both a0.op (⟨r3.op, r3.n, r3.args⟩ : Exp) (⟨r5.op, r5.n, r5.args⟩ : Exp)) fun r6 =>
  some (⟨r6.1, r6.2.1, r6.2.2.2⟩)) : Option (Exp))
  (spec_l4Copy a0) := by
  exact fun r h => by
    have e : runC (phi Tb GT sg) Tb GT p9400.code (startAT p9400 (mkST p9400.ins [.agg (rowT .exp a0)] p9400.bins [])) (finT p9400 s9400) = (
      (bif (decide ((a0.args.length : Int) = 0)) then
      bnd (spec_l4Leaf a0.op a0.n) fun r1 =>
      some (⟨r1.1, r1.2.1, r1.2.2.2⟩)
      else
      bnd (geti a0.args 0) fun e2 =>
      bnd (spec_l4Copy (⟨e2.op, e2.n, e2.args⟩ : Exp)) fun r3 =>
      bnd (geti a0.args 1) fun e4 =>
      bnd (spec_l4Copy (⟨e4.op, e4.n, e4.args⟩ : Exp)) fun r5 =>
      bnd (spec_l4Both a0.op (⟨r3.op, r3.n, r3.args⟩ : Exp) (⟨r5.op, r5.n, r5.args⟩ : Exp)) fun r6 =>
      some (⟨r6.1, r6.2.1, r6.2.2.2⟩)) : Option (Exp)) := by kernel_rfl
    exact fn_le' (sig := s9400) (p := p9400) (by kernel_rfl) (by kernel_rfl) rfl rfl rfl rfl (e.trans h)

theorem spec_l11Copy_l1_le (t0 : List Stm) (t3b : Bool) (t3 : List Stm) (t4 : Int) : Tv.Le
  ((bif (decide (t4 < (t0.length : Int))) then
  bnd (geti t0 t4) fun e1 =>
  bnd (spec_l4Copy (⟨e1.e.op, e1.e.n, e1.e.args⟩ : Exp)) fun r2 =>
  bnd (spec_l11Copy e1.body) fun r3 =>
  bnd (spec_l11Copy e1.els) fun r4 =>
  bnd (appL t3 ([⟨e1.kind, e1.var, e1.box, ⟨r2.op, r2.n, r2.args⟩, r3, r4⟩] : List Stm)) fun l5 =>
  spec_l11Copy_l1 t0 true l5 (wrap64 (t4 + 1))
  else
  some (t3b, t3)) : Option ((Bool × List Stm)))
  (spec_l11Copy_l1 t0 t3b t3 t4) := by
  rewrite [← wrapC_eq]
  exact fun r h => by
    have e : runC (phi Tb GT sg) Tb GT p9501.code ((mkST p9501.ins [.sl .share .stm t0, .sl (.own t3b) .stm t3, .int .i64 t4] p9501.bins [])) (finL Tb GT 9501 p9501 s9501) = (
      (bif (decide (t4 < (t0.length : Int))) then
      bnd (geti t0 t4) fun e1 =>
      bnd (spec_l4Copy (⟨e1.e.op, e1.e.n, e1.e.args⟩ : Exp)) fun r2 =>
      bnd (spec_l11Copy e1.body) fun r3 =>
      bnd (spec_l11Copy e1.els) fun r4 =>
      bnd (appL t3 ([⟨e1.kind, e1.var, e1.box, ⟨r2.op, r2.n, r2.args⟩, r3, r4⟩] : List Stm)) fun l5 =>
      spec_l11Copy_l1 t0 true l5 (wrapC (t4 + 1))
      else
      some (t3b, t3)) : Option ((Bool × List Stm))) := by kernel_rfl
    exact loop_le' (sig := s9501) (p := p9501) (by kernel_rfl) (by kernel_rfl) rfl rfl rfl (e.trans h)

theorem impl_areWords_le (a0 : List Int) : Tv.Le
  (bnd (impl_areWords_l1 a0 (a0.length : Int) 0) fun r1 =>
  selm r1 (fun y2 =>
  some true) (fun z3 =>
  some z3) : Option (Bool))
  (impl_areWords a0) := by
  exact fun r h => by
    have e : runC (phi Tb GT sg) Tb GT p5100.code (startAT p5100 (mkST p5100.ins [.sl .share .int a0] p5100.bins [])) (finT p5100 s5100) = (
      bnd (impl_areWords_l1 a0 (a0.length : Int) 0) fun r1 =>
      selm r1 (fun y2 =>
      some true) (fun z3 =>
      some z3) : Option (Bool)) := by kernel_rfl
    exact fn_le' (sig := s5100) (p := p5100) (by kernel_rfl) (by kernel_rfl) rfl rfl rfl rfl (e.trans h)

theorem impl_taskValid_l1_le (t1 : Int) (t18 : Int) (t19 : Int) (b100_0 : List Int) (b100_1 : List Stm) : Tv.Le
  ((bif (decide (t19 < t18)) then
  bnd (cutL b100_1 t19 (wrap64 (t19 + 1))) fun l1 =>
  bnd (impl_stmtsValid l1 t1) fun r2 =>
  (bif (!r2) then
  some (.inr false)
  else
  impl_taskValid_l1 t1 t18 (wrap64 (t19 + 1)) b100_0 b100_1)
  else
  some (.inl ())) : Option (Unit ⊕ Bool))
  (impl_taskValid_l1 t1 t18 t19 b100_0 b100_1) := by
  rewrite [← wrapC_eq]
  exact fun r h => by
    have e : runC (phi Tb GT sg) Tb GT p5501.code ((mkST p5501.ins [.int .i64 t1, .bp 100 0, .int .i64 t18, .int .i64 t19] p5501.bins [.var [.sl .share .int b100_0, .sl .share .stm b100_1]])) (finL Tb GT 5501 p5501 s5501) = (
      (bif (decide (t19 < t18)) then
      bnd (cutL b100_1 t19 (wrapC (t19 + 1))) fun l1 =>
      bnd (impl_stmtsValid l1 t1) fun r2 =>
      (bif (!r2) then
      some (.inr false)
      else
      impl_taskValid_l1 t1 t18 (wrapC (t19 + 1)) b100_0 b100_1)
      else
      some (.inl ())) : Option (Unit ⊕ Bool)) := by kernel_rfl
    exact loop_le' (sig := s5501) (p := p5501) (by kernel_rfl) (by kernel_rfl) rfl rfl rfl (e.trans h)

theorem laws_sameExpr_l1_le (t5 : Int) (b100_0 : Int) (b100_1 : Int) (b100_2 : List Exp) (b101_0 : Int) (b101_1 : Int) (b101_2 : List Exp) : Tv.Le
  ((bif (decide (t5 < (b100_2.length : Int))) then
  bnd (geti b100_2 t5) fun e1 =>
  bnd (geti b101_2 t5) fun e2 =>
  bnd (laws_sameExpr (⟨e1.op, e1.n, e1.args⟩ : Exp) (⟨e2.op, e2.n, e2.args⟩ : Exp)) fun r3 =>
  (bif (!r3) then
  some (.inr false)
  else
  laws_sameExpr_l1 (wrap64 (t5 + 1)) b100_0 b100_1 b100_2 b101_0 b101_1 b101_2)
  else
  some (.inl ())) : Option (Unit ⊕ Bool))
  (laws_sameExpr_l1 t5 b100_0 b100_1 b100_2 b101_0 b101_1 b101_2) := by
  rewrite [← wrapC_eq]
  exact fun r h => by
    have e : runC (phi Tb GT sg) Tb GT p9801.code ((mkST p9801.ins [.bp 100 0, .bp 101 0, .int .i64 t5] p9801.bins [.var [.int .i64 b100_0, .int .i64 b100_1, .sl .share .exp b100_2], .var [.int .i64 b101_0, .int .i64 b101_1, .sl .share .exp b101_2]])) (finL Tb GT 9801 p9801 s9801) = (
      (bif (decide (t5 < (b100_2.length : Int))) then
      bnd (geti b100_2 t5) fun e1 =>
      bnd (geti b101_2 t5) fun e2 =>
      bnd (laws_sameExpr (⟨e1.op, e1.n, e1.args⟩ : Exp) (⟨e2.op, e2.n, e2.args⟩ : Exp)) fun r3 =>
      (bif (!r3) then
      some (.inr false)
      else
      laws_sameExpr_l1 (wrapC (t5 + 1)) b100_0 b100_1 b100_2 b101_0 b101_1 b101_2)
      else
      some (.inl ())) : Option (Unit ⊕ Bool)) := by kernel_rfl
    exact loop_le' (sig := s9801) (p := p9801) (by kernel_rfl) (by kernel_rfl) rfl rfl rfl (e.trans h)

theorem spec_l92Block_p_le (a1 : Int) (a2 : Int) (a3 : Int) (a4 : Bool) (a0b : List Int) (a0p : Int) (A : List Ent) : Tv.Le
  (bnd (spec_l92Block_p_l1 a1 a2 a3 a4 (⟨(some (List.length A)), 0⟩ : Hd) 0 a0b a0p (arPush A .stm ([] : List Stm))) fun r1 =>
  some (r1.1, r1.2.1, r1.2.2.1, r1.2.2.2) : Option (Hd × List Int × Int × List Ent))
  (spec_l92Block_p a1 a2 a3 a4 a0b a0p A) := by
  exact fun r h => by
    have e : runC (phi Tb GT sg) Tb GT p38100.code (startAT p38100 (mkST p38100.ins [.bp 0 0, .int .i64 a1, .int .i64 a2, .int .i64 a3, .bool a4] p38100.bins [.var [.sl .share .u8 a0b, .int .i64 a0p], .ar A])) (finT p38100 s38100) = (
      bnd (spec_l92Block_p_l1 a1 a2 a3 a4 (⟨(some (List.length A)), 0⟩ : Hd) 0 a0b a0p (arPush A .stm ([] : List Stm))) fun r1 =>
      some (r1.1, r1.2.1, r1.2.2.1, r1.2.2.2) : Option (Hd × List Int × Int × List Ent)) := by kernel_rfl
    exact fn_le' (sig := s38100) (p := p38100) (by kernel_rfl) (by kernel_rfl) rfl rfl rfl rfl (e.trans h)

end Go.TFnTaskNew
