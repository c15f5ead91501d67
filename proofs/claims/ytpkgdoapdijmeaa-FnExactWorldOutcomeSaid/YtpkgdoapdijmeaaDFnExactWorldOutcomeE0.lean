import Derived.Test.YtpkgdoapdijmeaaDFnExactWorldOutcomeP
import Derived.KernelRfl
set_option linter.unusedVariables false
namespace Go.TFnExactWorldOutcome
open Go Go.RowKit Go.Vs Go.Tv
theorem laws_FnExactWorldOutcome_le (a0 : Wld) : Tv.Le
 (bnd (laws_szWorld a0 1048576) fun r1 =>
(bif (decide (r1 < 0)) then
some true
else
bnd (laws_toWorld a0) fun r2 =>
bnd (spec_WorldOutcome r2) fun r3 =>
bnd (laws_toWorld_p a0 ([] : List Ent)) fun r4 =>
bnd (arView r4.2 .tkH r4.1.tasks.id) fun l5 =>
bnd (arView r4.2 .bxH r4.1.boxes.id) fun l6 =>
bnd (arView r4.2 .int r4.1.out.id) fun l7 =>
bnd (impl_WorldOutcome_p (⟨l5, l6, r4.1.turn, r4.1.idle, l7⟩ : Wld) (Go.Vs.blank r4.2)) fun r8 =>
bnd (arJoin r4.2 r8.2) fun B9 =>
bnd (arView B9 .int r8.1.out.id) fun l10 =>
bnd (arView B9 .intsH r8.1.items.id) fun l11 =>
bnd (arView B9 .bool r8.1.ended.id) fun l12 =>
bnd (laws_eqOutcome (⟨l10, l11, l12, r8.1.rest⟩ : Otc) r3) fun r13 =>
(bif (!r13) then
some false
else
bnd (laws_toWorld a0) fun r14 =>
bnd (arView B9 .tkH r4.1.tasks.id) fun l15 =>
bnd (arView B9 .bxH r4.1.boxes.id) fun l16 =>
bnd (arView B9 .int r4.1.out.id) fun l17 =>
bnd (laws_eqWorld (⟨l15, l16, r4.1.turn, r4.1.idle, l17⟩ : Wld) r14) fun r18 =>
(bif (!r18) then
some false
else
bnd (laws_markWorld_p r4.1 1 B9) fun r19 =>
(bif (decide (r19.1 < 0)) then
some false
else
bnd (arView r19.2 .int r8.1.out.id) fun l20 =>
bnd (arView r19.2 .intsH r8.1.items.id) fun l21 =>
bnd (arView r19.2 .bool r8.1.ended.id) fun l22 =>
bnd (laws_eqOutcome (⟨l20, l21, l22, r8.1.rest⟩ : Otc) r3) fun r23 =>
(bif (!r23) then
some false
else
bnd (laws_markOutcome_p r8.1 1 r19.2) fun r24 =>
bnd (arView r24.2 .int r8.1.out.id) fun l25 =>
bnd (arView r24.2 .intsH r8.1.items.id) fun l26 =>
bnd (arView r24.2 .bool r8.1.ended.id) fun l27 =>
bnd (laws_heldOutcome (⟨l25, l26, l27, r8.1.rest⟩ : Otc) 1) fun r28 =>
(bif (decide (r28 < 0)) then
some false
else
(bif (!decide (r28 = r24.1)) then
some false
else
bnd (laws_toWorld a0) fun r29 =>
bnd (impl_WorldOutcome r29) fun r30 =>
bnd (laws_eqOutcome r30 r3) fun r31 =>
(bif (!r31) then
some false
else
bnd (arView r24.2 .int r8.1.out.id) fun l32 =>
bnd (arView r24.2 .intsH r8.1.items.id) fun l33 =>
bnd (arView r24.2 .bool r8.1.ended.id) fun l34 =>
bnd (laws_heldOutcome (⟨l32, l33, l34, r8.1.rest⟩ : Otc) 1) fun r35 =>
(bif (decide (r35 < 0)) then
some false
else
(bif (!decide (r35 = r24.1)) then
some false
else
some true)))))))))) : Option (Bool))
 (laws_FnExactWorldOutcome a0) := by
 exact fun r h => fn_le' (F := Tb) (G := GT) (sg := sg) (sig := s31700) (p := p31700) (by kernel_rfl) (by kernel_rfl) rfl rfl rfl rfl rfl ((show runC (phi Tb GT sg) Tb GT p31700.code (startAT p31700 (mkST p31700.ins [.agg (rowT .wld a0)] p31700.bins [])) (finT p31700 s31700) = _ by kernel_rfl).trans h)

theorem laws_szWorld_le (a0 : Wld) (a1 : Int) : Tv.Le
 (bnd (laws_szTaskS a0.tasks a1) fun r1 =>
(bif (decide (r1 < 0)) then
some (-1)
else
bnd (laws_szBoxS a0.boxes r1) fun r2 =>
(bif (decide (r2 < 0)) then
some (-1)
else
bnd (laws_szIntS a0.out r2) fun r3 =>
(bif (decide (r3 < 0)) then
some (-1)
else
some r3))) : Option (Int))
 (laws_szWorld a0 a1) := by
 exact fun r h => fn_le' (F := Tb) (G := GT) (sg := sg) (sig := s24500) (p := p24500) (by kernel_rfl) (by kernel_rfl) rfl rfl rfl rfl rfl ((show runC (phi Tb GT sg) Tb GT p24500.code (startAT p24500 (mkST p24500.ins [.agg (rowT .wld a0), .int .i64 a1] p24500.bins [])) (finT p24500 s24500) = _ by kernel_rfl).trans h)

theorem laws_toWorld_le (a0 : Wld) : Tv.Le
 (bnd (laws_toTaskS a0.tasks) fun r1 =>
bnd (laws_toBoxS a0.boxes) fun r2 =>
bnd (laws_toIntS a0.out) fun r3 =>
some (⟨r1, r2, a0.turn, a0.idle, r3⟩) : Option (Wld))
 (laws_toWorld a0) := by
 exact fun r h => fn_le' (F := Tb) (G := GT) (sg := sg) (sig := s25100) (p := p25100) (by kernel_rfl) (by kernel_rfl) rfl rfl rfl rfl rfl ((show runC (phi Tb GT sg) Tb GT p25100.code (startAT p25100 (mkST p25100.ins [.agg (rowT .wld a0)] p25100.bins [])) (finT p25100 s25100) = _ by kernel_rfl).trans h)

theorem spec_WorldOutcome_le (a0 : Wld) : Tv.Le
 (bnd (spec_WorldValid a0) fun r1 =>
(bif (!r1) then
some (⟨[], [], [], false⟩)
else
bnd (appL ([] : List Int) a0.out) fun l2 =>
bnd (spec_l16Items a0.boxes) fun r3 =>
bnd (spec_WorldOutcome_l1 0 a0.tasks a0.boxes a0.turn a0.idle a0.out false [] false [] false [] false l2 r3 false ([] : List Bool) (decide (a0.idle = (a0.tasks.length : Int)))) fun r4 =>
some (⟨r4.2.2.2.2.1, r4.2.2.2.2.2.1, r4.2.2.2.2.2.2.1.2, r4.2.2.2.2.2.2.2⟩)) : Option (Otc))
 (spec_WorldOutcome a0) := by
 exact fun r h => fn_le' (F := Tb) (G := GT) (sg := sg) (sig := s30300) (p := p30300) (by kernel_rfl) (by kernel_rfl) rfl rfl rfl rfl rfl ((show runC (phi Tb GT sg) Tb GT p30300.code (startAT p30300 (mkST p30300.ins [.agg (rowT .wld a0)] p30300.bins [])) (finT p30300 s30300) = _ by kernel_rfl).trans h)

theorem laws_toWorld_p_le (a0 : Wld) (A : List Ent) : Tv.Le
 (bnd (laws_toTaskS_p a0.tasks A) fun r1 =>
bnd (laws_toBoxS_p a0.boxes r1.2) fun r2 =>
bnd (laws_toIntS_p a0.out r2.2) fun r3 =>
some (⟨r1.1, r2.1, a0.turn, a0.idle, r3.1⟩, r3.2) : Option (WldH × List Ent))
 (laws_toWorld_p a0 A) := by
 exact fun r h => fn_le' (F := Tb) (G := GT) (sg := sg) (sig := s41900) (p := p41900) (by kernel_rfl) (by kernel_rfl) rfl rfl rfl rfl rfl ((show runC (phi Tb GT sg) Tb GT p41900.code (startAT p41900 (mkST p41900.ins [.agg (rowT .wld a0)] p41900.bins [.ar A])) (finT p41900 s41900) = _ by kernel_rfl).trans h)

theorem impl_WorldOutcome_p_le (a0 : Wld) (A : List Ent) : Tv.Le
 (bnd (impl_WorldValid a0) fun r1 =>
(bif (!r1) then
some (⟨⟨none, 0⟩, ⟨none, 0⟩, ⟨none, 0⟩, false⟩, A)
else
bnd (impl_outcomeOf_p a0.out a0.boxes (decide (a0.idle = (a0.tasks.length : Int))) A) fun r2 =>
bnd (impl_WorldOutcome_p_l1 a0.tasks (a0.tasks.length : Int) 0 (⟨none, 0⟩ : Hd) (⟨none, 0⟩ : Hd) (⟨none, 0⟩ : Hd) false r2.1.out r2.1.items r2.1.ended r2.1.rest r2.2) fun r3 =>
some (⟨r3.2.2.2.2.1, r3.2.2.2.2.2.1, r3.2.2.2.2.2.2.1, r3.2.2.2.2.2.2.2.1⟩, r3.2.2.2.2.2.2.2.2)) : Option (OtcH × List Ent))
 (impl_WorldOutcome_p a0 A) := by
 exact fun r h => fn_le' (F := Tb) (G := GT) (sg := sg) (sig := s42300) (p := p42300) (by kernel_rfl) (by kernel_rfl) rfl rfl rfl rfl rfl ((show runC (phi Tb GT sg) Tb GT p42300.code (startAT p42300 (mkST p42300.ins [.agg (rowT .wld a0)] p42300.bins [.ar A])) (finT p42300 s42300) = _ by kernel_rfl).trans h)

theorem laws_eqOutcome_le (a0 : Otc) (a1 : Otc) : Tv.Le
 (bnd (laws_eqIntS a0.out a1.out) fun r1 =>
(bif (!r1) then
some false
else
bnd (laws_eqIntSS a0.items a1.items) fun r2 =>
(bif (!r2) then
some false
else
bnd (laws_eqBoolS a0.ended a1.ended) fun r3 =>
(bif (!r3) then
some false
else
(bif (!(a0.rest == a1.rest)) then
some false
else
some true)))) : Option (Bool))
 (laws_eqOutcome a0 a1) := by
 exact fun r h => fn_le' (F := Tb) (G := GT) (sg := sg) (sig := s31000) (p := p31000) (by kernel_rfl) (by kernel_rfl) rfl rfl rfl rfl rfl ((show runC (phi Tb GT sg) Tb GT p31000.code (startAT p31000 (mkST p31000.ins [.agg (rowT .otc a0), .agg (rowT .otc a1)] p31000.bins [])) (finT p31000 s31000) = _ by kernel_rfl).trans h)

theorem laws_eqWorld_le (a0 : Wld) (a1 : Wld) : Tv.Le
 (bnd (laws_eqTaskS a0.tasks a1.tasks) fun r1 =>
(bif (!r1) then
some false
else
bnd (laws_eqBoxS a0.boxes a1.boxes) fun r2 =>
(bif (!r2) then
some false
else
(bif (!decide (a0.turn = a1.turn)) then
some false
else
(bif (!decide (a0.idle = a1.idle)) then
some false
else
bnd (laws_eqIntS a0.out a1.out) fun r3 =>
(bif (!r3) then
some false
else
some true))))) : Option (Bool))
 (laws_eqWorld a0 a1) := by
 exact fun r h => fn_le' (F := Tb) (G := GT) (sg := sg) (sig := s25400) (p := p25400) (by kernel_rfl) (by kernel_rfl) rfl rfl rfl rfl rfl ((show runC (phi Tb GT sg) Tb GT p25400.code (startAT p25400 (mkST p25400.ins [.agg (rowT .wld a0), .agg (rowT .wld a1)] p25400.bins [])) (finT p25400 s25400) = _ by kernel_rfl).trans h)

theorem laws_markWorld_p_le (a0 : WldH) (a1 : Int) (A : List Ent) : Tv.Le
 (bnd (laws_markTaskS_p a0.tasks a1 A) fun r1 =>
bnd (laws_markBoxS_p a0.boxes r1.1 r1.2) fun r2 =>
bnd (laws_markIntS_p a0.out r2.1 r2.2) fun r3 =>
some (r3.1, r3.2) : Option (Int × List Ent))
 (laws_markWorld_p a0 a1 A) := by
 exact fun r h => fn_le' (F := Tb) (G := GT) (sg := sg) (sig := s42200) (p := p42200) (by kernel_rfl) (by kernel_rfl) rfl rfl rfl rfl rfl ((show runC (phi Tb GT sg) Tb GT p42200.code (startAT p42200 (mkST p42200.ins [.agg (rowT .wldH a0), .int .i64 a1] p42200.bins [.ar A])) (finT p42200 s42200) = _ by kernel_rfl).trans h)

theorem laws_markOutcome_p_le (a0 : OtcH) (a1 : Int) (A : List Ent) : Tv.Le
 (bnd (laws_markIntS_p a0.out a1 A) fun r1 =>
bnd (laws_markIntSS_p a0.items r1.1 r1.2) fun r2 =>
bnd (laws_markBoolS_p a0.ended r2.1 r2.2) fun r3 =>
some (r3.1, r3.2) : Option (Int × List Ent))
 (laws_markOutcome_p a0 a1 A) := by
 exact fun r h => fn_le' (F := Tb) (G := GT) (sg := sg) (sig := s42400) (p := p42400) (by kernel_rfl) (by kernel_rfl) rfl rfl rfl rfl rfl ((show runC (phi Tb GT sg) Tb GT p42400.code (startAT p42400 (mkST p42400.ins [.agg (rowT .otcH a0), .int .i64 a1] p42400.bins [.ar A])) (finT p42400 s42400) = _ by kernel_rfl).trans h)

theorem laws_heldOutcome_le (a0 : Otc) (a1 : Int) : Tv.Le
 (bnd (laws_heldIntS a0.out a1) fun r1 =>
(bif (decide (r1 < 0)) then
some (-1)
else
bnd (laws_heldIntSS a0.items r1) fun r2 =>
(bif (decide (r2 < 0)) then
some (-1)
else
bnd (laws_heldBoolS a0.ended r2) fun r3 =>
(bif (decide (r3 < 0)) then
some (-1)
else
some r3))) : Option (Int))
 (laws_heldOutcome a0 a1) := by
 exact fun r h => fn_le' (F := Tb) (G := GT) (sg := sg) (sig := s31600) (p := p31600) (by kernel_rfl) (by kernel_rfl) rfl rfl rfl rfl rfl ((show runC (phi Tb GT sg) Tb GT p31600.code (startAT p31600 (mkST p31600.ins [.agg (rowT .otc a0), .int .i64 a1] p31600.bins [])) (finT p31600 s31600) = _ by kernel_rfl).trans h)

theorem impl_WorldOutcome_le (a0 : Wld) : Tv.Le
 (bnd (impl_WorldValid a0) fun r1 =>
(bif (!r1) then
bnd (arView ([] : List Ent) .bool none) fun l2 =>
some (⟨[], [], l2, false⟩)
else
bnd (impl_outcomeOf_o a0.out a0.boxes (decide (a0.idle = (a0.tasks.length : Int))) ([] : List Ent)) fun r3 =>
bnd (impl_WorldOutcome_l1 a0.tasks (a0.tasks.length : Int) 0 false [] false [] (⟨none, 0⟩ : Hd) false r3.1 r3.2.1 r3.2.2.1 r3.2.2.2.1 r3.2.2.2.2) fun r4 =>
bnd (arView r4.2.2.2.2.2.2.2.2 .bool r4.2.2.2.2.2.2.1.id) fun l5 =>
some (⟨r4.2.2.2.2.1, r4.2.2.2.2.2.1, l5, r4.2.2.2.2.2.2.2.1⟩)) : Option (Otc))
 (impl_WorldOutcome a0) := by
 exact fun r h => fn_le' (F := Tb) (G := GT) (sg := sg) (sig := s30100) (p := p30100) (by kernel_rfl) (by kernel_rfl) rfl rfl rfl rfl rfl ((show runC (phi Tb GT sg) Tb GT p30100.code (startAT p30100 (mkST p30100.ins [.agg (rowT .wld a0)] p30100.bins [])) (finT p30100 s30100) = _ by kernel_rfl).trans h)

theorem laws_szTaskS_le (a0 : List Tk) (a1 : Int) : Tv.Le
 ((bif (decide ((wrap64 (a1 - (a0.length : Int))) < 0)) then
some (-1)
else
bnd (laws_szTaskS_l1 a0 (wrap64 (a1 - (a0.length : Int))) 0) fun r1 =>
selm r1 (fun y2 =>
some y2) (fun z3 =>
some z3.2)) : Option (Int))
 (laws_szTaskS a0 a1) := by
 rewrite [← wrapC_eq]
 exact fun r h => fn_le' (F := Tb) (G := GT) (sg := sg) (sig := s24200) (p := p24200) (by kernel_rfl) (by kernel_rfl) rfl rfl rfl rfl rfl ((show runC (phi Tb GT sg) Tb GT p24200.code (startAT p24200 (mkST p24200.ins [.sl .share .tk a0, .int .i64 a1] p24200.bins [])) (finT p24200 s24200) = _ by kernel_rfl).trans h)

theorem laws_szBoxS_le (a0 : List Bx) (a1 : Int) : Tv.Le
 ((bif (decide ((wrap64 (a1 - (a0.length : Int))) < 0)) then
some (-1)
else
bnd (laws_szBoxS_l1 a0 (wrap64 (a1 - (a0.length : Int))) 0) fun r1 =>
selm r1 (fun y2 =>
some y2) (fun z3 =>
some z3.2)) : Option (Int))
 (laws_szBoxS a0 a1) := by
 rewrite [← wrapC_eq]
 exact fun r h => fn_le' (F := Tb) (G := GT) (sg := sg) (sig := s24400) (p := p24400) (by kernel_rfl) (by kernel_rfl) rfl rfl rfl rfl rfl ((show runC (phi Tb GT sg) Tb GT p24400.code (startAT p24400 (mkST p24400.ins [.sl .share .bx a0, .int .i64 a1] p24400.bins [])) (finT p24400 s24400) = _ by kernel_rfl).trans h)

theorem laws_szIntS_le (a0 : List Int) (a1 : Int) : Tv.Le
 ((bif (decide ((wrap64 (a1 - (a0.length : Int))) < 0)) then
some (-1)
else
some (wrap64 (a1 - (a0.length : Int)))) : Option (Int))
 (laws_szIntS a0 a1) := by
 rewrite [← wrapC_eq]
 exact fun r h => fn_le' (F := Tb) (G := GT) (sg := sg) (sig := s7200) (p := p7200) (by kernel_rfl) (by kernel_rfl) rfl rfl rfl rfl rfl ((show runC (phi Tb GT sg) Tb GT p7200.code (startAT p7200 (mkST p7200.ins [.sl .share .int a0, .int .i64 a1] p7200.bins [])) (finT p7200 s7200) = _ by kernel_rfl).trans h)

theorem laws_toTaskS_le (a0 : List Tk) : Tv.Le
 (bnd (made (a0.length : Int)) fun n1 =>
bnd (laws_toTaskS_l1 a0 0 (List.replicate n1 (zeroD .tk))) fun r2 =>
some r2 : Option (List Tk))
 (laws_toTaskS a0) := by
 exact fun r h => fn_le' (F := Tb) (G := GT) (sg := sg) (sig := s24800) (p := p24800) (by kernel_rfl) (by kernel_rfl) rfl rfl rfl rfl rfl ((show runC (phi Tb GT sg) Tb GT p24800.code (startAT p24800 (mkST p24800.ins [.sl .share .tk a0] p24800.bins [])) (finT p24800 s24800) = _ by kernel_rfl).trans h)

theorem laws_toBoxS_le (a0 : List Bx) : Tv.Le
 (bnd (made (a0.length : Int)) fun n1 =>
bnd (laws_toBoxS_l1 a0 0 (List.replicate n1 (zeroD .bx))) fun r2 =>
some r2 : Option (List Bx))
 (laws_toBoxS a0) := by
 exact fun r h => fn_le' (F := Tb) (G := GT) (sg := sg) (sig := s25000) (p := p25000) (by kernel_rfl) (by kernel_rfl) rfl rfl rfl rfl rfl ((show runC (phi Tb GT sg) Tb GT p25000.code (startAT p25000 (mkST p25000.ins [.sl .share .bx a0] p25000.bins [])) (finT p25000 s25000) = _ by kernel_rfl).trans h)

theorem laws_toIntS_le (a0 : List Int) : Tv.Le
 (bnd (made (a0.length : Int)) fun n1 =>
bnd (laws_toIntS_l1 a0 0 (List.replicate n1 (zeroD .int))) fun r2 =>
some r2 : Option (List Int))
 (laws_toIntS a0) := by
 exact fun r h => fn_le' (F := Tb) (G := GT) (sg := sg) (sig := s7800) (p := p7800) (by kernel_rfl) (by kernel_rfl) rfl rfl rfl rfl rfl ((show runC (phi Tb GT sg) Tb GT p7800.code (startAT p7800 (mkST p7800.ins [.sl .share .int a0] p7800.bins [])) (finT p7800 s7800) = _ by kernel_rfl).trans h)

theorem spec_WorldValid_le (a0 : Wld) : Tv.Le
 (bnd (spec_l6In (a0.tasks.length : Int) 1 3) fun r1 =>
(bif (!r1) then
some false
else
bnd (spec_l15Boxes a0.boxes) fun r2 =>
(bif (!r2) then
some false
else
bnd (spec_l6In a0.turn 0 (wrap64 ((a0.tasks.length : Int) - 1))) fun r3 =>
(bif (!r3) then
some false
else
bnd (spec_l6In a0.idle 0 (a0.tasks.length : Int)) fun r4 =>
(bif (!r4) then
some false
else
bnd (spec_WorldValid_l1 (a0.tasks.length : Int) 0 a0.tasks a0.boxes a0.turn a0.idle a0.out) fun r5 =>
selm r5 (fun y6 =>
bnd (spec_l4Words y6.2.2.2.2 (y6.2.2.2.2.length : Int)) fun r8 =>
some r8) (fun z7 =>
some z7.1))))) : Option (Bool))
 (spec_WorldValid a0) := by
 rewrite [← wrapC_eq]
 exact fun r h => fn_le' (F := Tb) (G := GT) (sg := sg) (sig := s24700) (p := p24700) (by kernel_rfl) (by kernel_rfl) rfl rfl rfl rfl rfl ((show runC (phi Tb GT sg) Tb GT p24700.code (startAT p24700 (mkST p24700.ins [.agg (rowT .wld a0)] p24700.bins [])) (finT p24700 s24700) = _ by kernel_rfl).trans h)

theorem spec_l16Items_le (a0 : List Bx) : Tv.Le
 (bnd (spec_l16Items_l1 a0 true ([] : List (List Int)) 0) fun r1 =>
some r1.2 : Option (List (List Int)))
 (spec_l16Items a0) := by
 exact fun r h => fn_le' (F := Tb) (G := GT) (sg := sg) (sig := s30200) (p := p30200) (by kernel_rfl) (by kernel_rfl) rfl rfl rfl rfl rfl ((show runC (phi Tb GT sg) Tb GT p30200.code (startAT p30200 (mkST p30200.ins [.sl .share .bx a0] p30200.bins [])) (finT p30200 s30200) = _ by kernel_rfl).trans h)

theorem spec_WorldOutcome_l1_le (t4 : Int) (b100_0 : List Tk) (b100_1 : List Bx) (b100_2 : Int) (b100_3 : Int) (b100_4 : List Int) (b101_0b : Bool) (b101_0 : List Int) (b101_1b : Bool) (b101_1 : List (List Int)) (b101_2b : Bool) (b101_2 : List Bool) (b101_3 : Bool) (b102_0 : List Int) (b102_1 : List (List Int)) (b102_2b : Bool) (b102_2 : List Bool) (b102_3 : Bool) : Tv.Le
 ((bif (decide (t4 < (b100_0.length : Int))) then
bnd (geti b100_0 t4) fun e1 =>
bnd (appL b102_2 ([(decide ((e1.rest.length : Int) = 0))] : List Bool)) fun l2 =>
spec_WorldOutcome_l1 (wrap64 (t4 + 1)) b100_0 b100_1 b100_2 b100_3 b100_4 b101_0b b101_0 b101_1b b101_1 b101_2b b101_2 b101_3 b102_0 b102_1 true l2 b102_3
else
some ((b101_0b, b101_0), (b101_1b, b101_1), (b101_2b, b101_2), b101_3, b102_0, b102_1, (b102_2b, b102_2), b102_3)) : Option ((Bool × List Int) × (Bool × List (List Int)) × (Bool × List Bool) × Bool × List Int × List (List Int) × (Bool × List Bool) × Bool))
 (spec_WorldOutcome_l1 t4 b100_0 b100_1 b100_2 b100_3 b100_4 b101_0b b101_0 b101_1b b101_1 b101_2b b101_2 b101_3 b102_0 b102_1 b102_2b b102_2 b102_3) := by
 rewrite [← wrapC_eq]
 exact fun r h => loop_le' (F := Tb) (G := GT) (sg := sg) (sig := s30301) (p := p30301) (by kernel_rfl) (by kernel_rfl) rfl rfl rfl ((show runC (phi Tb GT sg) Tb GT p30301.code ((mkST p30301.ins [.bp 100 0, .bp 101 0, .bp 102 0, .int .i64 t4] p30301.bins [.var [.sl .share .tk b100_0, .sl .share .bx b100_1, .int .i64 b100_2, .int .i64 b100_3, .sl .share .int b100_4], .var [.sl (.own b101_0b) .int b101_0, .sl (.own b101_1b) .ints b101_1, .sl (.own b101_2b) .bool b101_2, .bool b101_3], .var [.sl .share .int b102_0, .sl .share .ints b102_1, .sl (.own b102_2b) .bool b102_2, .bool b102_3]])) (finL Tb GT 30301 p30301 s30301) = _ by kernel_rfl).trans h)

theorem laws_toTaskS_p_le (a0 : List Tk) (A : List Ent) : Tv.Le
 (bnd (made (a0.length : Int)) fun n1 =>
bnd (laws_toTaskS_p_l1 a0 (⟨(some (List.length A)), n1⟩ : Hd) 0 (arPush A .tkH (List.replicate n1 (zeroD .tkH)))) fun r2 =>
some (r2.1, r2.2) : Option (Hd × List Ent))
 (laws_toTaskS_p a0 A) := by
 exact fun r h => fn_le' (F := Tb) (G := GT) (sg := sg) (sig := s42600) (p := p42600) (by kernel_rfl) (by kernel_rfl) rfl rfl rfl rfl rfl ((show runC (phi Tb GT sg) Tb GT p42600.code (startAT p42600 (mkST p42600.ins [.sl .share .tk a0] p42600.bins [.ar A])) (finT p42600 s42600) = _ by kernel_rfl).trans h)

theorem laws_toBoxS_p_le (a0 : List Bx) (A : List Ent) : Tv.Le
 (bnd (made (a0.length : Int)) fun n1 =>
bnd (laws_toBoxS_p_l1 a0 (⟨(some (List.length A)), n1⟩ : Hd) 0 (arPush A .bxH (List.replicate n1 (zeroD .bxH)))) fun r2 =>
some (r2.1, r2.2) : Option (Hd × List Ent))
 (laws_toBoxS_p a0 A) := by
 exact fun r h => fn_le' (F := Tb) (G := GT) (sg := sg) (sig := s42700) (p := p42700) (by kernel_rfl) (by kernel_rfl) rfl rfl rfl rfl rfl ((show runC (phi Tb GT sg) Tb GT p42700.code (startAT p42700 (mkST p42700.ins [.sl .share .bx a0] p42700.bins [.ar A])) (finT p42700 s42700) = _ by kernel_rfl).trans h)

theorem laws_toIntS_p_le (a0 : List Int) (A : List Ent) : Tv.Le
 (bnd (made (a0.length : Int)) fun n1 =>
bnd (laws_toIntS_p_l1 a0 (⟨(some (List.length A)), n1⟩ : Hd) 0 (arPush A .int (List.replicate n1 (zeroD .int)))) fun r2 =>
some (r2.1, r2.2) : Option (Hd × List Ent))
 (laws_toIntS_p a0 A) := by
 exact fun r h => fn_le' (F := Tb) (G := GT) (sg := sg) (sig := s39600) (p := p39600) (by kernel_rfl) (by kernel_rfl) rfl rfl rfl rfl rfl ((show runC (phi Tb GT sg) Tb GT p39600.code (startAT p39600 (mkST p39600.ins [.sl .share .int a0] p39600.bins [.ar A])) (finT p39600 s39600) = _ by kernel_rfl).trans h)

theorem impl_WorldValid_le (a0 : Wld) : Tv.Le
 (bnd (impl_turnsValid (a0.tasks.length : Int) a0.turn a0.idle a0.out) fun r1 =>
(bif (!r1) then
some false
else
bnd (impl_boxesValid a0.boxes) fun r2 =>
(bif (!r2) then
some false
else
bnd (impl_WorldValid_l1 a0.tasks (a0.tasks.length : Int) 0 a0.tasks a0.boxes a0.turn a0.idle a0.out) fun r3 =>
selm r3 (fun y4 =>
some true) (fun z5 =>
some z5))) : Option (Bool))
 (impl_WorldValid a0) := by
 exact fun r h => fn_le' (F := Tb) (G := GT) (sg := sg) (sig := s24000) (p := p24000) (by kernel_rfl) (by kernel_rfl) rfl rfl rfl rfl rfl ((show runC (phi Tb GT sg) Tb GT p24000.code (startAT p24000 (mkST p24000.ins [.agg (rowT .wld a0)] p24000.bins [])) (finT p24000 s24000) = _ by kernel_rfl).trans h)

theorem impl_outcomeOf_p_le (a0 : List Int) (a1 : List Bx) (a2 : Bool) (A : List Ent) : Tv.Le
 (bnd (slices_Clone___int_int__p a0 A) fun r1 =>
bnd (impl_outcomeOf_p_l1 a1 (a1.length : Int) 0 (⟨none, 0⟩ : Hd) (⟨none, 0⟩ : Hd) (⟨none, 0⟩ : Hd) false r1.1 (⟨none, 0⟩ : Hd) (⟨none, 0⟩ : Hd) a2 r1.2) fun r2 =>
some (⟨r2.2.2.2.2.1, r2.2.2.2.2.2.1, r2.2.2.2.2.2.2.1, r2.2.2.2.2.2.2.2.1⟩, r2.2.2.2.2.2.2.2.2) : Option (OtcH × List Ent))
 (impl_outcomeOf_p a0 a1 a2 A) := by
 exact fun r h => fn_le' (F := Tb) (G := GT) (sg := sg) (sig := s43200) (p := p43200) (by kernel_rfl) (by kernel_rfl) rfl rfl rfl rfl rfl ((show runC (phi Tb GT sg) Tb GT p43200.code (startAT p43200 (mkST p43200.ins [.sl .share .int a0, .sl .share .bx a1, .bool a2] p43200.bins [.ar A])) (finT p43200 s43200) = _ by kernel_rfl).trans h)

theorem impl_WorldOutcome_p_l1_le (t22 : List Tk) (t23 : Int) (t24 : Int) (b101_0 : Hd) (b101_1 : Hd) (b101_2 : Hd) (b101_3 : Bool) (b102_0 : Hd) (b102_1 : Hd) (b102_2 : Hd) (b102_3 : Bool) (b99 : List Ent) : Tv.Le
 ((bif (decide (t24 < t23)) then
bnd (geti t22 t24) fun e1 =>
bnd (arApp b99 .bool b102_2.id b102_2.n ([(decide ((e1.rest.length : Int) = 0))] : List Bool)) fun B2 =>
impl_WorldOutcome_p_l1 t22 t23 (wrap64 (t24 + 1)) b101_0 b101_1 b101_2 b101_3 b102_0 b102_1 (⟨(some (List.length b99)), (b102_2.n + List.length ([(decide ((e1.rest.length : Int) = 0))] : List Bool))⟩ : Hd) b102_3 B2
else
some (b101_0, b101_1, b101_2, b101_3, b102_0, b102_1, b102_2, b102_3, b99)) : Option (Hd × Hd × Hd × Bool × Hd × Hd × Hd × Bool × List Ent))
 (impl_WorldOutcome_p_l1 t22 t23 t24 b101_0 b101_1 b101_2 b101_3 b102_0 b102_1 b102_2 b102_3 b99) := by
 rewrite [← wrapC_eq]
 exact fun r h => loop_le' (F := Tb) (G := GT) (sg := sg) (sig := s42301) (p := p42301) (by kernel_rfl) (by kernel_rfl) rfl rfl rfl ((show runC (phi Tb GT sg) Tb GT p42301.code ((mkST p42301.ins [.bp 101 0, .bp 102 0, .sl .share .tk t22, .int .i64 t23, .int .i64 t24] p42301.bins [.var [.tr .int b101_0.id b101_0.n, .tr .intsH b101_1.id b101_1.n, .tr .bool b101_2.id b101_2.n, .bool b101_3], .var [.tr .int b102_0.id b102_0.n, .tr .intsH b102_1.id b102_1.n, .tr .bool b102_2.id b102_2.n, .bool b102_3], .ar b99])) (finL Tb GT 42301 p42301 s42301) = _ by kernel_rfl).trans h)

theorem laws_eqIntS_le (a0 : List Int) (a1 : List Int) : Tv.Le
 ((bif (!decide ((a0.length : Int) = (a1.length : Int))) then
some false
else
bnd (laws_eqIntS_l1 a0 a1 0) fun r1 =>
selm r1 (fun y2 =>
some true) (fun z3 =>
some z3)) : Option (Bool))
 (laws_eqIntS a0 a1) := by
 exact fun r h => fn_le' (F := Tb) (G := GT) (sg := sg) (sig := s8400) (p := p8400) (by kernel_rfl) (by kernel_rfl) rfl rfl rfl rfl rfl ((show runC (phi Tb GT sg) Tb GT p8400.code (startAT p8400 (mkST p8400.ins [.sl .share .int a0, .sl .share .int a1] p8400.bins [])) (finT p8400 s8400) = _ by kernel_rfl).trans h)

theorem laws_eqIntSS_le (a0 : List (List Int)) (a1 : List (List Int)) : Tv.Le
 ((bif (!decide ((a0.length : Int) = (a1.length : Int))) then
some false
else
bnd (laws_eqIntSS_l1 a0 a1 0) fun r1 =>
selm r1 (fun y2 =>
some true) (fun z3 =>
some z3)) : Option (Bool))
 (laws_eqIntSS a0 a1) := by
 exact fun r h => fn_le' (F := Tb) (G := GT) (sg := sg) (sig := s30800) (p := p30800) (by kernel_rfl) (by kernel_rfl) rfl rfl rfl rfl rfl ((show runC (phi Tb GT sg) Tb GT p30800.code (startAT p30800 (mkST p30800.ins [.sl .share .ints a0, .sl .share .ints a1] p30800.bins [])) (finT p30800 s30800) = _ by kernel_rfl).trans h)

theorem laws_eqBoolS_le (a0 : List Bool) (a1 : List Bool) : Tv.Le
 ((bif (!decide ((a0.length : Int) = (a1.length : Int))) then
some false
else
bnd (laws_eqBoolS_l1 a0 a1 0) fun r1 =>
selm r1 (fun y2 =>
some true) (fun z3 =>
some z3)) : Option (Bool))
 (laws_eqBoolS a0 a1) := by
 exact fun r h => fn_le' (F := Tb) (G := GT) (sg := sg) (sig := s30900) (p := p30900) (by kernel_rfl) (by kernel_rfl) rfl rfl rfl rfl rfl ((show runC (phi Tb GT sg) Tb GT p30900.code (startAT p30900 (mkST p30900.ins [.sl .share .bool a0, .sl .share .bool a1] p30900.bins [])) (finT p30900 s30900) = _ by kernel_rfl).trans h)

theorem laws_eqTaskS_le (a0 : List Tk) (a1 : List Tk) : Tv.Le
 ((bif (!decide ((a0.length : Int) = (a1.length : Int))) then
some false
else
bnd (laws_eqTaskS_l1 a0 a1 0) fun r1 =>
selm r1 (fun y2 =>
some true) (fun z3 =>
some z3)) : Option (Bool))
 (laws_eqTaskS a0 a1) := by
 exact fun r h => fn_le' (F := Tb) (G := GT) (sg := sg) (sig := s25200) (p := p25200) (by kernel_rfl) (by kernel_rfl) rfl rfl rfl rfl rfl ((show runC (phi Tb GT sg) Tb GT p25200.code (startAT p25200 (mkST p25200.ins [.sl .share .tk a0, .sl .share .tk a1] p25200.bins [])) (finT p25200 s25200) = _ by kernel_rfl).trans h)

theorem laws_eqBoxS_le (a0 : List Bx) (a1 : List Bx) : Tv.Le
 ((bif (!decide ((a0.length : Int) = (a1.length : Int))) then
some false
else
bnd (laws_eqBoxS_l1 a0 a1 0) fun r1 =>
selm r1 (fun y2 =>
some true) (fun z3 =>
some z3)) : Option (Bool))
 (laws_eqBoxS a0 a1) := by
 exact fun r h => fn_le' (F := Tb) (G := GT) (sg := sg) (sig := s25300) (p := p25300) (by kernel_rfl) (by kernel_rfl) rfl rfl rfl rfl rfl ((show runC (phi Tb GT sg) Tb GT p25300.code (startAT p25300 (mkST p25300.ins [.sl .share .bx a0, .sl .share .bx a1] p25300.bins [])) (finT p25300 s25300) = _ by kernel_rfl).trans h)

theorem laws_markTaskS_p_le (a0 : Hd) (a1 : Int) (A : List Ent) : Tv.Le
 (bnd (laws_markTaskS_p_l1 a0 a1 0 A) fun r1 =>
some (r1.1, r1.2) : Option (Int × List Ent))
 (laws_markTaskS_p a0 a1 A) := by
 exact fun r h => fn_le' (F := Tb) (G := GT) (sg := sg) (sig := s43000) (p := p43000) (by kernel_rfl) (by kernel_rfl) rfl rfl rfl rfl rfl ((show runC (phi Tb GT sg) Tb GT p43000.code (startAT p43000 (mkST p43000.ins [.tr .tkH a0.id a0.n, .int .i64 a1] p43000.bins [.ar A])) (finT p43000 s43000) = _ by kernel_rfl).trans h)

theorem laws_markBoxS_p_le (a0 : Hd) (a1 : Int) (A : List Ent) : Tv.Le
 (bnd (laws_markBoxS_p_l1 a0 a1 0 A) fun r1 =>
some (r1.1, r1.2) : Option (Int × List Ent))
 (laws_markBoxS_p a0 a1 A) := by
 exact fun r h => fn_le' (F := Tb) (G := GT) (sg := sg) (sig := s43100) (p := p43100) (by kernel_rfl) (by kernel_rfl) rfl rfl rfl rfl rfl ((show runC (phi Tb GT sg) Tb GT p43100.code (startAT p43100 (mkST p43100.ins [.tr .bxH a0.id a0.n, .int .i64 a1] p43100.bins [.ar A])) (finT p43100 s43100) = _ by kernel_rfl).trans h)

theorem laws_markIntS_p_le (a0 : Hd) (a1 : Int) (A : List Ent) : Tv.Le
 (bnd (laws_markIntS_p_l1 a0 a1 0 A) fun r1 =>
some (r1.1, r1.2) : Option (Int × List Ent))
 (laws_markIntS_p a0 a1 A) := by
 exact fun r h => fn_le' (F := Tb) (G := GT) (sg := sg) (sig := s38700) (p := p38700) (by kernel_rfl) (by kernel_rfl) rfl rfl rfl rfl rfl ((show runC (phi Tb GT sg) Tb GT p38700.code (startAT p38700 (mkST p38700.ins [.tr .int a0.id a0.n, .int .i64 a1] p38700.bins [.ar A])) (finT p38700 s38700) = _ by kernel_rfl).trans h)

theorem laws_markIntSS_p_le (a0 : Hd) (a1 : Int) (A : List Ent) : Tv.Le
 (bnd (laws_markIntSS_p_l1 a0 a1 0 A) fun r1 =>
some (r1.1, r1.2) : Option (Int × List Ent))
 (laws_markIntSS_p a0 a1 A) := by
 exact fun r h => fn_le' (F := Tb) (G := GT) (sg := sg) (sig := s43300) (p := p43300) (by kernel_rfl) (by kernel_rfl) rfl rfl rfl rfl rfl ((show runC (phi Tb GT sg) Tb GT p43300.code (startAT p43300 (mkST p43300.ins [.tr .intsH a0.id a0.n, .int .i64 a1] p43300.bins [.ar A])) (finT p43300 s43300) = _ by kernel_rfl).trans h)

theorem laws_markBoolS_p_le (a0 : Hd) (a1 : Int) (A : List Ent) : Tv.Le
 (bnd (laws_markBoolS_p_l1 a0 a1 0 A) fun r1 =>
some (r1.1, r1.2) : Option (Int × List Ent))
 (laws_markBoolS_p a0 a1 A) := by
 exact fun r h => fn_le' (F := Tb) (G := GT) (sg := sg) (sig := s43400) (p := p43400) (by kernel_rfl) (by kernel_rfl) rfl rfl rfl rfl rfl ((show runC (phi Tb GT sg) Tb GT p43400.code (startAT p43400 (mkST p43400.ins [.tr .bool a0.id a0.n, .int .i64 a1] p43400.bins [.ar A])) (finT p43400 s43400) = _ by kernel_rfl).trans h)

theorem laws_heldIntS_le (a0 : List Int) (a1 : Int) : Tv.Le
 (bnd (laws_heldIntS_l1 a0 a1 0) fun r1 =>
selm r1 (fun y2 =>
some y2) (fun z3 =>
some z3.2) : Option (Int))
 (laws_heldIntS a0 a1) := by
 exact fun r h => fn_le' (F := Tb) (G := GT) (sg := sg) (sig := s10600) (p := p10600) (by kernel_rfl) (by kernel_rfl) rfl rfl rfl rfl rfl ((show runC (phi Tb GT sg) Tb GT p10600.code (startAT p10600 (mkST p10600.ins [.sl .share .int a0, .int .i64 a1] p10600.bins [])) (finT p10600 s10600) = _ by kernel_rfl).trans h)

theorem laws_heldIntSS_le (a0 : List (List Int)) (a1 : Int) : Tv.Le
 (bnd (laws_heldIntSS_l1 a0 a1 0) fun r1 =>
selm r1 (fun y2 =>
some y2) (fun z3 =>
some z3.2) : Option (Int))
 (laws_heldIntSS a0 a1) := by
 exact fun r h => fn_le' (F := Tb) (G := GT) (sg := sg) (sig := s31400) (p := p31400) (by kernel_rfl) (by kernel_rfl) rfl rfl rfl rfl rfl ((show runC (phi Tb GT sg) Tb GT p31400.code (startAT p31400 (mkST p31400.ins [.sl .share .ints a0, .int .i64 a1] p31400.bins [])) (finT p31400 s31400) = _ by kernel_rfl).trans h)

theorem laws_heldBoolS_le (a0 : List Bool) (a1 : Int) : Tv.Le
 (bnd (laws_heldBoolS_l1 a0 a1 0) fun r1 =>
selm r1 (fun y2 =>
some y2) (fun z3 =>
some z3.2) : Option (Int))
 (laws_heldBoolS a0 a1) := by
 exact fun r h => fn_le' (F := Tb) (G := GT) (sg := sg) (sig := s31500) (p := p31500) (by kernel_rfl) (by kernel_rfl) rfl rfl rfl rfl rfl ((show runC (phi Tb GT sg) Tb GT p31500.code (startAT p31500 (mkST p31500.ins [.sl .share .bool a0, .int .i64 a1] p31500.bins [])) (finT p31500 s31500) = _ by kernel_rfl).trans h)

theorem impl_outcomeOf_o_le (a0 : List Int) (a1 : List Bx) (a2 : Bool) (A : List Ent) : Tv.Le
 (bnd (slices_Clone___int_int_ a0) fun r1 =>
bnd (impl_outcomeOf_o_l1 a1 (a1.length : Int) 0 false [] false [] (⟨none, 0⟩ : Hd) false r1 false [] (⟨none, 0⟩ : Hd) a2 A) fun r2 =>
some (r2.2.2.2.2.1, r2.2.2.2.2.2.1.2, r2.2.2.2.2.2.2.1, r2.2.2.2.2.2.2.2.1, r2.2.2.2.2.2.2.2.2) : Option (List Int × List (List Int) × Hd × Bool × List Ent))
 (impl_outcomeOf_o a0 a1 a2 A) := by
 exact fun r h => fn_le' (F := Tb) (G := GT) (sg := sg) (sig := s39800) (p := p39800) (by kernel_rfl) (by kernel_rfl) rfl rfl rfl rfl rfl ((show runC (phi Tb GT sg) Tb GT p39800.code (startAT p39800 (mkST p39800.ins [.sl .share .int a0, .sl .share .bx a1, .bool a2] p39800.bins [.ar A])) (finT p39800 s39800) = _ by kernel_rfl).trans h)

theorem impl_WorldOutcome_l1_le (t22 : List Tk) (t23 : Int) (t24 : Int) (b101_0b : Bool) (b101_0 : List Int) (b101_1b : Bool) (b101_1 : List (List Int)) (b101_2 : Hd) (b101_3 : Bool) (b102_0 : List Int) (b102_1 : List (List Int)) (b102_2 : Hd) (b102_3 : Bool) (b99 : List Ent) : Tv.Le
 ((bif (decide (t24 < t23)) then
bnd (geti t22 t24) fun e1 =>
bnd (arApp b99 .bool b102_2.id b102_2.n ([(decide ((e1.rest.length : Int) = 0))] : List Bool)) fun B2 =>
impl_WorldOutcome_l1 t22 t23 (wrap64 (t24 + 1)) b101_0b b101_0 b101_1b b101_1 b101_2 b101_3 b102_0 b102_1 (⟨(some (List.length b99)), (b102_2.n + List.length ([(decide ((e1.rest.length : Int) = 0))] : List Bool))⟩ : Hd) b102_3 B2
else
some ((b101_0b, b101_0), (b101_1b, b101_1), b101_2, b101_3, b102_0, b102_1, b102_2, b102_3, b99)) : Option ((Bool × List Int) × (Bool × List (List Int)) × Hd × Bool × List Int × List (List Int) × Hd × Bool × List Ent))
 (impl_WorldOutcome_l1 t22 t23 t24 b101_0b b101_0 b101_1b b101_1 b101_2 b101_3 b102_0 b102_1 b102_2 b102_3 b99) := by
 rewrite [← wrapC_eq]
 exact fun r h => loop_le' (F := Tb) (G := GT) (sg := sg) (sig := s30101) (p := p30101) (by kernel_rfl) (by kernel_rfl) rfl rfl rfl ((show runC (phi Tb GT sg) Tb GT p30101.code ((mkST p30101.ins [.bp 101 0, .bp 102 0, .sl .share .tk t22, .int .i64 t23, .int .i64 t24] p30101.bins [.var [.sl (.own b101_0b) .int b101_0, .sl (.own b101_1b) .ints b101_1, .tr .bool b101_2.id b101_2.n, .bool b101_3], .var [.sl .share .int b102_0, .sl .share .ints b102_1, .tr .bool b102_2.id b102_2.n, .bool b102_3], .ar b99])) (finL Tb GT 30101 p30101 s30101) = _ by kernel_rfl).trans h)

theorem laws_szTask_le (a0 : Tk) (a1 : Int) : Tv.Le
 (bnd (laws_szIntS a0.vars a1) fun r1 =>
(bif (decide (r1 < 0)) then
some (-1)
else
bnd (laws_szStmtS a0.rest r1) fun r2 =>
(bif (decide (r2 < 0)) then
some (-1)
else
some r2)) : Option (Int))
 (laws_szTask a0 a1) := by
 exact fun r h => fn_le' (F := Tb) (G := GT) (sg := sg) (sig := s7300) (p := p7300) (by kernel_rfl) (by kernel_rfl) rfl rfl rfl rfl rfl ((show runC (phi Tb GT sg) Tb GT p7300.code (startAT p7300 (mkST p7300.ins [.agg (rowT .tk a0), .int .i64 a1] p7300.bins [])) (finT p7300 s7300) = _ by kernel_rfl).trans h)

theorem laws_szTaskS_l1_le (t0 : List Tk) (t1 : Int) (t5 : Int) : Tv.Le
 ((bif (decide (t5 < (t0.length : Int))) then
bnd (geti t0 t5) fun e1 =>
bnd (laws_szTask e1 t1) fun r2 =>
(bif (decide (r2 < 0)) then
some (.inr (r2, (-1)))
else
laws_szTaskS_l1 t0 r2 (wrap64 (t5 + 1)))
else
some (.inl t1)) : Option (Int ⊕ (Int × Int)))
 (laws_szTaskS_l1 t0 t1 t5) := by
 rewrite [← wrapC_eq]
 exact fun r h => loop_le' (F := Tb) (G := GT) (sg := sg) (sig := s24201) (p := p24201) (by kernel_rfl) (by kernel_rfl) rfl rfl rfl ((show runC (phi Tb GT sg) Tb GT p24201.code ((mkST p24201.ins [.sl .share .tk t0, .int .i64 t1, .int .i64 t5] p24201.bins [])) (finL Tb GT 24201 p24201 s24201) = _ by kernel_rfl).trans h)

theorem laws_szBox_le (a0 : Bx) (a1 : Int) : Tv.Le
 (bnd (laws_szIntS a0.items a1) fun r1 =>
(bif (decide (r1 < 0)) then
some (-1)
else
some r1) : Option (Int))
 (laws_szBox a0 a1) := by
 exact fun r h => fn_le' (F := Tb) (G := GT) (sg := sg) (sig := s24300) (p := p24300) (by kernel_rfl) (by kernel_rfl) rfl rfl rfl rfl rfl ((show runC (phi Tb GT sg) Tb GT p24300.code (startAT p24300 (mkST p24300.ins [.agg (rowT .bx a0), .int .i64 a1] p24300.bins [])) (finT p24300 s24300) = _ by kernel_rfl).trans h)

theorem laws_szBoxS_l1_le (t0 : List Bx) (t1 : Int) (t5 : Int) : Tv.Le
 ((bif (decide (t5 < (t0.length : Int))) then
bnd (geti t0 t5) fun e1 =>
bnd (laws_szBox e1 t1) fun r2 =>
(bif (decide (r2 < 0)) then
some (.inr (r2, (-1)))
else
laws_szBoxS_l1 t0 r2 (wrap64 (t5 + 1)))
else
some (.inl t1)) : Option (Int ⊕ (Int × Int)))
 (laws_szBoxS_l1 t0 t1 t5) := by
 rewrite [← wrapC_eq]
 exact fun r h => loop_le' (F := Tb) (G := GT) (sg := sg) (sig := s24401) (p := p24401) (by kernel_rfl) (by kernel_rfl) rfl rfl rfl ((show runC (phi Tb GT sg) Tb GT p24401.code ((mkST p24401.ins [.sl .share .bx t0, .int .i64 t1, .int .i64 t5] p24401.bins [])) (finL Tb GT 24401 p24401 s24401) = _ by kernel_rfl).trans h)

theorem laws_toTask_le (a0 : Tk) : Tv.Le
 (bnd (laws_toIntS a0.vars) fun r1 =>
bnd (laws_toStmtS a0.rest) fun r2 =>
some (⟨r1, r2⟩) : Option (Tk))
 (laws_toTask a0) := by
 exact fun r h => fn_le' (F := Tb) (G := GT) (sg := sg) (sig := s7900) (p := p7900) (by kernel_rfl) (by kernel_rfl) rfl rfl rfl rfl rfl ((show runC (phi Tb GT sg) Tb GT p7900.code (startAT p7900 (mkST p7900.ins [.agg (rowT .tk a0)] p7900.bins [])) (finT p7900 s7900) = _ by kernel_rfl).trans h)

theorem laws_toTaskS_l1_le (t0 : List Tk) (t4 : Int) (b100 : List Tk) : Tv.Le
 ((bif (decide (t4 < (t0.length : Int))) then
bnd (geti t0 t4) fun e1 =>
bnd (laws_toTask e1) fun r2 =>
bnd (geti b100 t4) fun _ =>
bnd (b100[(Int.toNat t4)]?) fun e4 =>
laws_toTaskS_l1 t0 (wrap64 (t4 + 1)) (b100.set (Int.toNat t4) r2)
else
some b100) : Option (List Tk))
 (laws_toTaskS_l1 t0 t4 b100) := by
 rewrite [← wrapC_eq]
 exact fun r h => loop_le' (F := Tb) (G := GT) (sg := sg) (sig := s24801) (p := p24801) (by kernel_rfl) (by kernel_rfl) rfl rfl rfl ((show runC (phi Tb GT sg) Tb GT p24801.code ((mkST p24801.ins [.sl .share .tk t0, .bs 100, .int .i64 t4] p24801.bins [.rows .tk b100])) (finL Tb GT 24801 p24801 s24801) = _ by kernel_rfl).trans h)

theorem laws_toBox_le (a0 : Bx) : Tv.Le
 (bnd (laws_toIntS a0.items) fun r1 =>
some (⟨a0.room, r1⟩) : Option (Bx))
 (laws_toBox a0) := by
 exact fun r h => fn_le' (F := Tb) (G := GT) (sg := sg) (sig := s24900) (p := p24900) (by kernel_rfl) (by kernel_rfl) rfl rfl rfl rfl rfl ((show runC (phi Tb GT sg) Tb GT p24900.code (startAT p24900 (mkST p24900.ins [.agg (rowT .bx a0)] p24900.bins [])) (finT p24900 s24900) = _ by kernel_rfl).trans h)

end Go.TFnExactWorldOutcome
