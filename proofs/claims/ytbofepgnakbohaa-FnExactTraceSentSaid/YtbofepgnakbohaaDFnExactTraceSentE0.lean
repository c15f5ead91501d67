import Derived.Test.YtbofepgnakbohaaDFnExactTraceSentP
import Derived.KernelRfl
set_option linter.unusedVariables false
namespace Go.TFnExactTraceSent
open Go Go.RowKit Go.Vs Go.Tv
theorem laws_FnExactTraceSent_le (a0 : List Evt) (a1 : Int) : Tv.Le
  (bnd (laws_szEventS a0 1048576) fun r1 =>
  (bif (decide (r1 < 0)) then
  some true
  else
  bnd (laws_toEventS a0) fun r2 =>
  bnd (spec_TraceSent r2 a1) fun r3 =>
  bnd (laws_toEventS_p a0 ([] : List Ent)) fun r4 =>
  bnd (arView r4.2 .event r4.1.id) fun l5 =>
  bnd (impl_TraceSent_p l5 a1 (Go.Vs.blank r4.2)) fun r6 =>
  bnd (arJoin r4.2 r6.2) fun B7 =>
  bnd (arView B7 .int r6.1.id) fun l8 =>
  bnd (laws_eqIntS l8 r3) fun r9 =>
  (bif (!r9) then
  some false
  else
  bnd (laws_toEventS a0) fun r10 =>
  bnd (arView B7 .event r4.1.id) fun l11 =>
  bnd (laws_eqEventS l11 r10) fun r12 =>
  (bif (!r12) then
  some false
  else
  bnd (laws_markEventS_p r4.1 1 B7) fun r13 =>
  (bif (decide (r13.1 < 0)) then
  some false
  else
  bnd (arView r13.2 .int r6.1.id) fun l14 =>
  bnd (laws_eqIntS l14 r3) fun r15 =>
  (bif (!r15) then
  some false
  else
  bnd (laws_markIntS_p r6.1 1 r13.2) fun r16 =>
  bnd (arView r16.2 .int r6.1.id) fun l17 =>
  bnd (laws_heldIntS l17 1) fun r18 =>
  (bif (decide (r18 < 0)) then
  some false
  else
  (bif (!decide (r18 = r16.1)) then
  some false
  else
  bnd (laws_toEventS a0) fun r19 =>
  bnd (impl_TraceSent r19 a1) fun r20 =>
  bnd (laws_eqIntS r20 r3) fun r21 =>
  (bif (!r21) then
  some false
  else
  bnd (arView r16.2 .int r6.1.id) fun l22 =>
  bnd (laws_heldIntS l22 1) fun r23 =>
  (bif (decide (r23 < 0)) then
  some false
  else
  (bif (!decide (r23 = r16.1)) then
  some false
  else
  some true)))))))))) : Option (Bool))
  (laws_FnExactTraceSent a0 a1) := by
  exact fun r h => by
    have e : runC (phi Tb GT sg) Tb GT p14500.code (startAT p14500 (mkST p14500.ins [.sl .share .event a0, .int .i64 a1] p14500.bins [])) (finT p14500 s14500) = (
      bnd (laws_szEventS a0 1048576) fun r1 =>
      (bif (decide (r1 < 0)) then
      some true
      else
      bnd (laws_toEventS a0) fun r2 =>
      bnd (spec_TraceSent r2 a1) fun r3 =>
      bnd (laws_toEventS_p a0 ([] : List Ent)) fun r4 =>
      bnd (arView r4.2 .event r4.1.id) fun l5 =>
      bnd (impl_TraceSent_p l5 a1 (Go.Vs.blank r4.2)) fun r6 =>
      bnd (arJoin r4.2 r6.2) fun B7 =>
      bnd (arView B7 .int r6.1.id) fun l8 =>
      bnd (laws_eqIntS l8 r3) fun r9 =>
      (bif (!r9) then
      some false
      else
      bnd (laws_toEventS a0) fun r10 =>
      bnd (arView B7 .event r4.1.id) fun l11 =>
      bnd (laws_eqEventS l11 r10) fun r12 =>
      (bif (!r12) then
      some false
      else
      bnd (laws_markEventS_p r4.1 1 B7) fun r13 =>
      (bif (decide (r13.1 < 0)) then
      some false
      else
      bnd (arView r13.2 .int r6.1.id) fun l14 =>
      bnd (laws_eqIntS l14 r3) fun r15 =>
      (bif (!r15) then
      some false
      else
      bnd (laws_markIntS_p r6.1 1 r13.2) fun r16 =>
      bnd (arView r16.2 .int r6.1.id) fun l17 =>
      bnd (laws_heldIntS l17 1) fun r18 =>
      (bif (decide (r18 < 0)) then
      some false
      else
      (bif (!decide (r18 = r16.1)) then
      some false
      else
      bnd (laws_toEventS a0) fun r19 =>
      bnd (impl_TraceSent r19 a1) fun r20 =>
      bnd (laws_eqIntS r20 r3) fun r21 =>
      (bif (!r21) then
      some false
      else
      bnd (arView r16.2 .int r6.1.id) fun l22 =>
      bnd (laws_heldIntS l22 1) fun r23 =>
      (bif (decide (r23 < 0)) then
      some false
      else
      (bif (!decide (r23 = r16.1)) then
      some false
      else
      some true)))))))))) : Option (Bool)) := by kernel_rfl
    exact fn_le' (sig := s14500) (p := p14500) (by kernel_rfl) (by kernel_rfl) rfl rfl rfl rfl (e.trans h)

theorem laws_szEventS_le (a0 : List Evt) (a1 : Int) : Tv.Le
  ((bif (decide ((wrap64 (a1 - (a0.length : Int))) < 0)) then
  some (-1)
  else
  some (wrap64 (a1 - (a0.length : Int)))) : Option (Int))
  (laws_szEventS a0 a1) := by
  rewrite [← wrapC_eq]
  exact fun r h => by
    have e : runC (phi Tb GT sg) Tb GT p12500.code (startAT p12500 (mkST p12500.ins [.sl .share .event a0, .int .i64 a1] p12500.bins [])) (finT p12500 s12500) = (
      (bif (decide ((wrapC (a1 - (a0.length : Int))) < 0)) then
      some (-1)
      else
      some (wrapC (a1 - (a0.length : Int)))) : Option (Int)) := by kernel_rfl
    exact fn_le' (sig := s12500) (p := p12500) (by kernel_rfl) (by kernel_rfl) rfl rfl rfl rfl (e.trans h)

theorem laws_toEventS_le (a0 : List Evt) : Tv.Le
  (bnd (made (a0.length : Int)) fun n1 =>
  bnd (laws_toEventS_l1 a0 0 (List.replicate n1 (zeroD .event))) fun r2 =>
  some r2 : Option (List Evt))
  (laws_toEventS a0) := by
  exact fun r h => by
    have e : runC (phi Tb GT sg) Tb GT p12800.code (startAT p12800 (mkST p12800.ins [.sl .share .event a0] p12800.bins [])) (finT p12800 s12800) = (
      bnd (made (a0.length : Int)) fun n1 =>
      bnd (laws_toEventS_l1 a0 0 (List.replicate n1 (zeroD .event))) fun r2 =>
      some r2 : Option (List Evt)) := by kernel_rfl
    exact fn_le' (sig := s12800) (p := p12800) (by kernel_rfl) (by kernel_rfl) rfl rfl rfl rfl (e.trans h)

theorem spec_TraceSent_le (a0 : List Evt) (a1 : Int) : Tv.Le
  (bnd (spec_l17Values a0 1 a1) fun r1 =>
  some r1 : Option (List Int))
  (spec_TraceSent a0 a1) := by
  exact fun r h => by
    have e : runC (phi Tb GT sg) Tb GT p14300.code (startAT p14300 (mkST p14300.ins [.sl .share .event a0, .int .i64 a1] p14300.bins [])) (finT p14300 s14300) = (
      bnd (spec_l17Values a0 1 a1) fun r1 =>
      some r1 : Option (List Int)) := by kernel_rfl
    exact fn_le' (sig := s14300) (p := p14300) (by kernel_rfl) (by kernel_rfl) rfl rfl rfl rfl (e.trans h)

theorem laws_toEventS_p_le (a0 : List Evt) (A : List Ent) : Tv.Le
  (bnd (made (a0.length : Int)) fun n1 =>
  bnd (laws_toEventS_p_l1 a0 (⟨(some (List.length A)), n1⟩ : Hd) 0 (arPush A .event (List.replicate n1 (zeroD .event)))) fun r2 =>
  some (r2.1, r2.2) : Option (Hd × List Ent))
  (laws_toEventS_p a0 A) := by
  exact fun r h => by
    have e : runC (phi Tb GT sg) Tb GT p38300.code (startAT p38300 (mkST p38300.ins [.sl .share .event a0] p38300.bins [.ar A])) (finT p38300 s38300) = (
      bnd (made (a0.length : Int)) fun n1 =>
      bnd (laws_toEventS_p_l1 a0 (⟨(some (List.length A)), n1⟩ : Hd) 0 (arPush A .event (List.replicate n1 (zeroD .event)))) fun r2 =>
      some (r2.1, r2.2) : Option (Hd × List Ent)) := by kernel_rfl
    exact fn_le' (sig := s38300) (p := p38300) (by kernel_rfl) (by kernel_rfl) rfl rfl rfl rfl (e.trans h)

theorem impl_TraceSent_p_le (a0 : List Evt) (a1 : Int) (A : List Ent) : Tv.Le
  (bnd (impl_valuesOf_p_16100 a0 a1 A) fun r1 =>
  some (r1.1, r1.2) : Option (Hd × List Ent))
  (impl_TraceSent_p a0 a1 A) := by
  exact fun r h => by
    have e : runC (phi Tb GT sg) Tb GT p38900.code (startAT p38900 (mkST p38900.ins [.sl .share .event a0, .int .i64 a1] p38900.bins [.ar A])) (finT p38900 s38900) = (
      bnd (impl_valuesOf_p_16100 a0 a1 A) fun r1 =>
      some (r1.1, r1.2) : Option (Hd × List Ent)) := by kernel_rfl
    exact fn_le' (sig := s38900) (p := p38900) (by kernel_rfl) (by kernel_rfl) rfl rfl rfl rfl (e.trans h)

theorem laws_eqIntS_le (a0 : List Int) (a1 : List Int) : Tv.Le
  ((bif (!decide ((a0.length : Int) = (a1.length : Int))) then
  some false
  else
  bnd (laws_eqIntS_l1 a0 a1 0) fun r1 =>
  selm r1 (fun y2 =>
  some true) (fun z3 =>
  some z3)) : Option (Bool))
  (laws_eqIntS a0 a1) := by
  exact fun r h => by
    have e : runC (phi Tb GT sg) Tb GT p8400.code (startAT p8400 (mkST p8400.ins [.sl .share .int a0, .sl .share .int a1] p8400.bins [])) (finT p8400 s8400) = (
      (bif (!decide ((a0.length : Int) = (a1.length : Int))) then
      some false
      else
      bnd (laws_eqIntS_l1 a0 a1 0) fun r1 =>
      selm r1 (fun y2 =>
      some true) (fun z3 =>
      some z3)) : Option (Bool)) := by kernel_rfl
    exact fn_le' (sig := s8400) (p := p8400) (by kernel_rfl) (by kernel_rfl) rfl rfl rfl rfl (e.trans h)

theorem laws_eqEventS_le (a0 : List Evt) (a1 : List Evt) : Tv.Le
  ((bif (!decide ((a0.length : Int) = (a1.length : Int))) then
  some false
  else
  bnd (laws_eqEventS_l1 a0 a1 0) fun r1 =>
  selm r1 (fun y2 =>
  some true) (fun z3 =>
  some z3)) : Option (Bool))
  (laws_eqEventS a0 a1) := by
  exact fun r h => by
    have e : runC (phi Tb GT sg) Tb GT p13100.code (startAT p13100 (mkST p13100.ins [.sl .share .event a0, .sl .share .event a1] p13100.bins [])) (finT p13100 s13100) = (
      (bif (!decide ((a0.length : Int) = (a1.length : Int))) then
      some false
      else
      bnd (laws_eqEventS_l1 a0 a1 0) fun r1 =>
      selm r1 (fun y2 =>
      some true) (fun z3 =>
      some z3)) : Option (Bool)) := by kernel_rfl
    exact fn_le' (sig := s13100) (p := p13100) (by kernel_rfl) (by kernel_rfl) rfl rfl rfl rfl (e.trans h)

theorem laws_markEventS_p_le (a0 : Hd) (a1 : Int) (A : List Ent) : Tv.Le
  (bnd (laws_markEventS_p_l1 a0 a1 0 A) fun r1 =>
  some (r1.1, r1.2) : Option (Int × List Ent))
  (laws_markEventS_p a0 a1 A) := by
  exact fun r h => by
    have e : runC (phi Tb GT sg) Tb GT p38500.code (startAT p38500 (mkST p38500.ins [.tr .event a0.id a0.n, .int .i64 a1] p38500.bins [.ar A])) (finT p38500 s38500) = (
      bnd (laws_markEventS_p_l1 a0 a1 0 A) fun r1 =>
      some (r1.1, r1.2) : Option (Int × List Ent)) := by kernel_rfl
    exact fn_le' (sig := s38500) (p := p38500) (by kernel_rfl) (by kernel_rfl) rfl rfl rfl rfl (e.trans h)

theorem laws_markIntS_p_le (a0 : Hd) (a1 : Int) (A : List Ent) : Tv.Le
  (bnd (laws_markIntS_p_l1 a0 a1 0 A) fun r1 =>
  some (r1.1, r1.2) : Option (Int × List Ent))
  (laws_markIntS_p a0 a1 A) := by
  exact fun r h => by
    have e : runC (phi Tb GT sg) Tb GT p38700.code (startAT p38700 (mkST p38700.ins [.tr .int a0.id a0.n, .int .i64 a1] p38700.bins [.ar A])) (finT p38700 s38700) = (
      bnd (laws_markIntS_p_l1 a0 a1 0 A) fun r1 =>
      some (r1.1, r1.2) : Option (Int × List Ent)) := by kernel_rfl
    exact fn_le' (sig := s38700) (p := p38700) (by kernel_rfl) (by kernel_rfl) rfl rfl rfl rfl (e.trans h)

theorem laws_heldIntS_le (a0 : List Int) (a1 : Int) : Tv.Le
  (bnd (laws_heldIntS_l1 a0 a1 0) fun r1 =>
  selm r1 (fun y2 =>
  some y2) (fun z3 =>
  some z3.2) : Option (Int))
  (laws_heldIntS a0 a1) := by
  exact fun r h => by
    have e : runC (phi Tb GT sg) Tb GT p10600.code (startAT p10600 (mkST p10600.ins [.sl .share .int a0, .int .i64 a1] p10600.bins [])) (finT p10600 s10600) = (
      bnd (laws_heldIntS_l1 a0 a1 0) fun r1 =>
      selm r1 (fun y2 =>
      some y2) (fun z3 =>
      some z3.2) : Option (Int)) := by kernel_rfl
    exact fn_le' (sig := s10600) (p := p10600) (by kernel_rfl) (by kernel_rfl) rfl rfl rfl rfl (e.trans h)

theorem impl_TraceSent_le (a0 : List Evt) (a1 : Int) : Tv.Le
  (bnd (impl_valuesOf_16100 a0 a1) fun r1 =>
  some r1 : Option (List Int))
  (impl_TraceSent a0 a1) := by
  exact fun r h => by
    have e : runC (phi Tb GT sg) Tb GT p14400.code (startAT p14400 (mkST p14400.ins [.sl .share .event a0, .int .i64 a1] p14400.bins [])) (finT p14400 s14400) = (
      bnd (impl_valuesOf_16100 a0 a1) fun r1 =>
      some r1 : Option (List Int)) := by kernel_rfl
    exact fn_le' (sig := s14400) (p := p14400) (by kernel_rfl) (by kernel_rfl) rfl rfl rfl rfl (e.trans h)

theorem laws_toEvent_le (a0 : Evt) : Tv.Le
  (some a0 : Option (Evt))
  (laws_toEvent a0) := by
  exact fun r h => by
    have e : runC (phi Tb GT sg) Tb GT p12700.code (startAT p12700 (mkST p12700.ins [.agg (rowT .event a0)] p12700.bins [])) (finT p12700 s12700) = (
      some a0 : Option (Evt)) := by kernel_rfl
    exact fn_le' (sig := s12700) (p := p12700) (by kernel_rfl) (by kernel_rfl) rfl rfl rfl rfl (e.trans h)

theorem laws_toEventS_l1_le (t0 : List Evt) (t4 : Int) (b100 : List Evt) : Tv.Le
  ((bif (decide (t4 < (t0.length : Int))) then
  bnd (geti t0 t4) fun e1 =>
  bnd (laws_toEvent e1) fun r2 =>
  bnd (geti b100 t4) fun _ =>
  bnd (b100[(Int.toNat t4)]?) fun e4 =>
  laws_toEventS_l1 t0 (wrap64 (t4 + 1)) (b100.set (Int.toNat t4) r2)
  else
  some b100) : Option (List Evt))
  (laws_toEventS_l1 t0 t4 b100) := by
  rewrite [← wrapC_eq]
  exact fun r h => by
    have e : runC (phi Tb GT sg) Tb GT p12801.code ((mkST p12801.ins [.sl .share .event t0, .bs 100, .int .i64 t4] p12801.bins [.rows .event b100])) (finL Tb GT 12801 p12801 s12801) = (
      (bif (decide (t4 < (t0.length : Int))) then
      bnd (geti t0 t4) fun e1 =>
      bnd (laws_toEvent e1) fun r2 =>
      bnd (geti b100 t4) fun _ =>
      bnd (b100[(Int.toNat t4)]?) fun e4 =>
      laws_toEventS_l1 t0 (wrapC (t4 + 1)) (b100.set (Int.toNat t4) r2)
      else
      some b100) : Option (List Evt)) := by kernel_rfl
    exact loop_le' (sig := s12801) (p := p12801) (by kernel_rfl) (by kernel_rfl) rfl rfl rfl (e.trans h)

theorem spec_l17Values_le (a0 : List Evt) (a1 : Int) (a2 : Int) : Tv.Le
  (bnd (spec_l17Values_l1 a0 a1 a2 true ([] : List Int) 0) fun r1 =>
  some r1.2 : Option (List Int))
  (spec_l17Values a0 a1 a2) := by
  exact fun r h => by
    have e : runC (phi Tb GT sg) Tb GT p13900.code (startAT p13900 (mkST p13900.ins [.sl .share .event a0, .int .i64 a1, .int .i64 a2] p13900.bins [])) (finT p13900 s13900) = (
      bnd (spec_l17Values_l1 a0 a1 a2 true ([] : List Int) 0) fun r1 =>
      some r1.2 : Option (List Int)) := by kernel_rfl
    exact fn_le' (sig := s13900) (p := p13900) (by kernel_rfl) (by kernel_rfl) rfl rfl rfl rfl (e.trans h)

theorem laws_toEventS_p_l1_le (t0 : List Evt) (t3 : Hd) (t4 : Int) (b99 : List Ent) : Tv.Le
  ((bif (decide (t4 < (t0.length : Int))) then
  bnd (geti t0 t4) fun e1 =>
  bnd (laws_toEvent e1) fun r2 =>
  bnd (idxN t3.n t4) fun i3 =>
  bnd (arRow b99 .event t3.id i3) fun e4 =>
  laws_toEventS_p_l1 t0 t3 (wrap64 (t4 + 1)) (arSet b99 .event t3.id i3 r2)
  else
  some (t3, b99)) : Option (Hd × List Ent))
  (laws_toEventS_p_l1 t0 t3 t4 b99) := by
  rewrite [← wrapC_eq]
  exact fun r h => by
    have e : runC (phi Tb GT sg) Tb GT p38301.code ((mkST p38301.ins [.sl .share .event t0, .tr .event t3.id t3.n, .int .i64 t4] p38301.bins [.ar b99])) (finL Tb GT 38301 p38301 s38301) = (
      (bif (decide (t4 < (t0.length : Int))) then
      bnd (geti t0 t4) fun e1 =>
      bnd (laws_toEvent e1) fun r2 =>
      bnd (idxN t3.n t4) fun i3 =>
      bnd (arRow b99 .event t3.id i3) fun e4 =>
      laws_toEventS_p_l1 t0 t3 (wrapC (t4 + 1)) (arSet b99 .event t3.id i3 r2)
      else
      some (t3, b99)) : Option (Hd × List Ent)) := by kernel_rfl
    exact loop_le' (sig := s38301) (p := p38301) (by kernel_rfl) (by kernel_rfl) rfl rfl rfl (e.trans h)

theorem impl_valuesOf_p_16100_le (a0 : List Evt) (a1_0_0 : Int) (A : List Ent) : Tv.Le
  (bnd (impl_valuesOf_p_16100_l1_16100 a1_0_0 (⟨none, 0⟩ : Hd) a0 (a0.length : Int) 0 A) fun r1 =>
  some (r1.1, r1.2) : Option (Hd × List Ent))
  (impl_valuesOf_p_16100 a0 a1_0_0 A) := by
  exact fun r h => by
    have e : runC (phi Tb GT sg) Tb GT p39000.code (startAT p39000 (mkST p39000.ins [.sl .share .event a0, .fn 16100 [.rp [.int .i64 a1_0_0] 0]] p39000.bins [.ar A])) (finT p39000 s39000) = (
      bnd (impl_valuesOf_p_16100_l1_16100 a1_0_0 (⟨none, 0⟩ : Hd) a0 (a0.length : Int) 0 A) fun r1 =>
      some (r1.1, r1.2) : Option (Hd × List Ent)) := by kernel_rfl
    exact fn_le' (sig := s39000) (p := p39000) (by kernel_rfl) (by kernel_rfl) rfl rfl rfl rfl (e.trans h)

theorem laws_eqIntS_l1_le (t0 : List Int) (t1 : List Int) (t5 : Int) : Tv.Le
  ((bif (decide (t5 < (t0.length : Int))) then
  bnd (geti t0 t5) fun e1 =>
  bnd (geti t1 t5) fun e2 =>
  (bif (!decide (e1 = e2)) then
  some (.inr false)
  else
  laws_eqIntS_l1 t0 t1 (wrap64 (t5 + 1)))
  else
  some (.inl ())) : Option (Unit ⊕ Bool))
  (laws_eqIntS_l1 t0 t1 t5) := by
  rewrite [← wrapC_eq]
  exact fun r h => by
    have e : runC (phi Tb GT sg) Tb GT p8401.code ((mkST p8401.ins [.sl .share .int t0, .sl .share .int t1, .int .i64 t5] p8401.bins [])) (finL Tb GT 8401 p8401 s8401) = (
      (bif (decide (t5 < (t0.length : Int))) then
      bnd (geti t0 t5) fun e1 =>
      bnd (geti t1 t5) fun e2 =>
      (bif (!decide (e1 = e2)) then
      some (.inr false)
      else
      laws_eqIntS_l1 t0 t1 (wrapC (t5 + 1)))
      else
      some (.inl ())) : Option (Unit ⊕ Bool)) := by kernel_rfl
    exact loop_le' (sig := s8401) (p := p8401) (by kernel_rfl) (by kernel_rfl) rfl rfl rfl (e.trans h)

theorem laws_eqEvent_le (a0 : Evt) (a1 : Evt) : Tv.Le
  ((bif (!decide (a0.task = a1.task)) then
  some false
  else
  (bif (!decide (a0.kind = a1.kind)) then
  some false
  else
  (bif (!decide (a0.box = a1.box)) then
  some false
  else
  (bif (!decide (a0.value = a1.value)) then
  some false
  else
  some true)))) : Option (Bool))
  (laws_eqEvent a0 a1) := by
  exact fun r h => by
    have e : runC (phi Tb GT sg) Tb GT p13000.code (startAT p13000 (mkST p13000.ins [.agg (rowT .event a0), .agg (rowT .event a1)] p13000.bins [])) (finT p13000 s13000) = (
      (bif (!decide (a0.task = a1.task)) then
      some false
      else
      (bif (!decide (a0.kind = a1.kind)) then
      some false
      else
      (bif (!decide (a0.box = a1.box)) then
      some false
      else
      (bif (!decide (a0.value = a1.value)) then
      some false
      else
      some true)))) : Option (Bool)) := by kernel_rfl
    exact fn_le' (sig := s13000) (p := p13000) (by kernel_rfl) (by kernel_rfl) rfl rfl rfl rfl (e.trans h)

theorem laws_eqEventS_l1_le (t0 : List Evt) (t1 : List Evt) (t5 : Int) : Tv.Le
  ((bif (decide (t5 < (t0.length : Int))) then
  bnd (geti t0 t5) fun e1 =>
  bnd (geti t1 t5) fun e2 =>
  bnd (laws_eqEvent e1 e2) fun r3 =>
  (bif (!r3) then
  some (.inr false)
  else
  laws_eqEventS_l1 t0 t1 (wrap64 (t5 + 1)))
  else
  some (.inl ())) : Option (Unit ⊕ Bool))
  (laws_eqEventS_l1 t0 t1 t5) := by
  rewrite [← wrapC_eq]
  exact fun r h => by
    have e : runC (phi Tb GT sg) Tb GT p13101.code ((mkST p13101.ins [.sl .share .event t0, .sl .share .event t1, .int .i64 t5] p13101.bins [])) (finL Tb GT 13101 p13101 s13101) = (
      (bif (decide (t5 < (t0.length : Int))) then
      bnd (geti t0 t5) fun e1 =>
      bnd (geti t1 t5) fun e2 =>
      bnd (laws_eqEvent e1 e2) fun r3 =>
      (bif (!r3) then
      some (.inr false)
      else
      laws_eqEventS_l1 t0 t1 (wrapC (t5 + 1)))
      else
      some (.inl ())) : Option (Unit ⊕ Bool)) := by kernel_rfl
    exact loop_le' (sig := s13101) (p := p13101) (by kernel_rfl) (by kernel_rfl) rfl rfl rfl (e.trans h)

theorem laws_markEventS_p_l1_le (t0 : Hd) (t1 : Int) (t5 : Int) (b99 : List Ent) : Tv.Le
  ((bif (decide (t5 < ((t0.n : Nat) : Int))) then
  bnd (idxN t0.n t5) fun i1 =>
  bnd (arRow b99 .event t0.id i1) fun e2 =>
  bnd (idxN t0.n t5) fun i3 =>
  bnd (arRow (arSet b99 .event t0.id i1 (⟨t1, e2.kind, e2.box, e2.value⟩ : Evt)) .event t0.id i3) fun e4 =>
  bnd (idxN t0.n t5) fun i5 =>
  bnd (arRow (arSet (arSet b99 .event t0.id i1 (⟨t1, e2.kind, e2.box, e2.value⟩ : Evt)) .event t0.id i3 (⟨e4.task, (wrap64 (t1 + 1)), e4.box, e4.value⟩ : Evt)) .event t0.id i5) fun e6 =>
  bnd (idxN t0.n t5) fun i7 =>
  bnd (arRow (arSet (arSet (arSet b99 .event t0.id i1 (⟨t1, e2.kind, e2.box, e2.value⟩ : Evt)) .event t0.id i3 (⟨e4.task, (wrap64 (t1 + 1)), e4.box, e4.value⟩ : Evt)) .event t0.id i5 (⟨e6.task, e6.kind, (wrap64 ((wrap64 (t1 + 1)) + 1)), e6.value⟩ : Evt)) .event t0.id i7) fun e8 =>
  laws_markEventS_p_l1 t0 (wrap64 ((wrap64 ((wrap64 ((wrap64 (t1 + 1)) + 1)) + 1)) + 1)) (wrap64 (t5 + 1)) (arSet (arSet (arSet (arSet b99 .event t0.id i1 (⟨t1, e2.kind, e2.box, e2.value⟩ : Evt)) .event t0.id i3 (⟨e4.task, (wrap64 (t1 + 1)), e4.box, e4.value⟩ : Evt)) .event t0.id i5 (⟨e6.task, e6.kind, (wrap64 ((wrap64 (t1 + 1)) + 1)), e6.value⟩ : Evt)) .event t0.id i7 (⟨e8.task, e8.kind, e8.box, (wrap64 ((wrap64 ((wrap64 (t1 + 1)) + 1)) + 1))⟩ : Evt))
  else
  some (t1, b99)) : Option (Int × List Ent))
  (laws_markEventS_p_l1 t0 t1 t5 b99) := by
  rewrite [← wrapC_eq]
  exact fun r h => by
    have e : runC (phi Tb GT sg) Tb GT p38501.code ((mkST p38501.ins [.tr .event t0.id t0.n, .int .i64 t1, .int .i64 t5] p38501.bins [.ar b99])) (finL Tb GT 38501 p38501 s38501) = (
      (bif (decide (t5 < ((t0.n : Nat) : Int))) then
      bnd (idxN t0.n t5) fun i1 =>
      bnd (arRow b99 .event t0.id i1) fun e2 =>
      bnd (idxN t0.n t5) fun i3 =>
      bnd (arRow (arSet b99 .event t0.id i1 (⟨t1, e2.kind, e2.box, e2.value⟩ : Evt)) .event t0.id i3) fun e4 =>
      bnd (idxN t0.n t5) fun i5 =>
      bnd (arRow (arSet (arSet b99 .event t0.id i1 (⟨t1, e2.kind, e2.box, e2.value⟩ : Evt)) .event t0.id i3 (⟨e4.task, (wrapC (t1 + 1)), e4.box, e4.value⟩ : Evt)) .event t0.id i5) fun e6 =>
      bnd (idxN t0.n t5) fun i7 =>
      bnd (arRow (arSet (arSet (arSet b99 .event t0.id i1 (⟨t1, e2.kind, e2.box, e2.value⟩ : Evt)) .event t0.id i3 (⟨e4.task, (wrapC (t1 + 1)), e4.box, e4.value⟩ : Evt)) .event t0.id i5 (⟨e6.task, e6.kind, (wrapC ((wrapC (t1 + 1)) + 1)), e6.value⟩ : Evt)) .event t0.id i7) fun e8 =>
      laws_markEventS_p_l1 t0 (wrapC ((wrapC ((wrapC ((wrapC (t1 + 1)) + 1)) + 1)) + 1)) (wrapC (t5 + 1)) (arSet (arSet (arSet (arSet b99 .event t0.id i1 (⟨t1, e2.kind, e2.box, e2.value⟩ : Evt)) .event t0.id i3 (⟨e4.task, (wrapC (t1 + 1)), e4.box, e4.value⟩ : Evt)) .event t0.id i5 (⟨e6.task, e6.kind, (wrapC ((wrapC (t1 + 1)) + 1)), e6.value⟩ : Evt)) .event t0.id i7 (⟨e8.task, e8.kind, e8.box, (wrapC ((wrapC ((wrapC (t1 + 1)) + 1)) + 1))⟩ : Evt))
      else
      some (t1, b99)) : Option (Int × List Ent)) := by kernel_rfl
    exact loop_le' (sig := s38501) (p := p38501) (by kernel_rfl) (by kernel_rfl) rfl rfl rfl (e.trans h)

theorem laws_markIntS_p_l1_le (t0 : Hd) (t1 : Int) (t5 : Int) (b99 : List Ent) : Tv.Le
  ((bif (decide (t5 < ((t0.n : Nat) : Int))) then
  bnd (idxN t0.n t5) fun i1 =>
  bnd (arRow b99 .int t0.id i1) fun e2 =>
  laws_markIntS_p_l1 t0 (wrap64 (t1 + 1)) (wrap64 (t5 + 1)) (arSet b99 .int t0.id i1 t1)
  else
  some (t1, b99)) : Option (Int × List Ent))
  (laws_markIntS_p_l1 t0 t1 t5 b99) := by
  rewrite [← wrapC_eq]
  exact fun r h => by
    have e : runC (phi Tb GT sg) Tb GT p38701.code ((mkST p38701.ins [.tr .int t0.id t0.n, .int .i64 t1, .int .i64 t5] p38701.bins [.ar b99])) (finL Tb GT 38701 p38701 s38701) = (
      (bif (decide (t5 < ((t0.n : Nat) : Int))) then
      bnd (idxN t0.n t5) fun i1 =>
      bnd (arRow b99 .int t0.id i1) fun e2 =>
      laws_markIntS_p_l1 t0 (wrapC (t1 + 1)) (wrapC (t5 + 1)) (arSet b99 .int t0.id i1 t1)
      else
      some (t1, b99)) : Option (Int × List Ent)) := by kernel_rfl
    exact loop_le' (sig := s38701) (p := p38701) (by kernel_rfl) (by kernel_rfl) rfl rfl rfl (e.trans h)

theorem laws_heldIntS_l1_le (t0 : List Int) (t1 : Int) (t5 : Int) : Tv.Le
  ((bif (decide (t5 < (t0.length : Int))) then
  bnd (geti t0 t5) fun e1 =>
  (bif (!decide (e1 = t1)) then
  some (.inr (t1, (-1)))
  else
  laws_heldIntS_l1 t0 (wrap64 (t1 + 1)) (wrap64 (t5 + 1)))
  else
  some (.inl t1)) : Option (Int ⊕ (Int × Int)))
  (laws_heldIntS_l1 t0 t1 t5) := by
  rewrite [← wrapC_eq]
  exact fun r h => by
    have e : runC (phi Tb GT sg) Tb GT p10601.code ((mkST p10601.ins [.sl .share .int t0, .int .i64 t1, .int .i64 t5] p10601.bins [])) (finL Tb GT 10601 p10601 s10601) = (
      (bif (decide (t5 < (t0.length : Int))) then
      bnd (geti t0 t5) fun e1 =>
      (bif (!decide (e1 = t1)) then
      some (.inr (t1, (-1)))
      else
      laws_heldIntS_l1 t0 (wrapC (t1 + 1)) (wrapC (t5 + 1)))
      else
      some (.inl t1)) : Option (Int ⊕ (Int × Int))) := by kernel_rfl
    exact loop_le' (sig := s10601) (p := p10601) (by kernel_rfl) (by kernel_rfl) rfl rfl rfl (e.trans h)

theorem impl_valuesOf_16100_le (a0 : List Evt) (a1_0_0 : Int) : Tv.Le
  (bnd (impl_valuesOf_16100_l1_16100 a1_0_0 false [] a0 (a0.length : Int) 0) fun r1 =>
  some r1.2 : Option (List Int))
  (impl_valuesOf_16100 a0 a1_0_0) := by
  exact fun r h => by
    have e : runC (phi Tb GT sg) Tb GT p13600.code (startAT p13600 (mkST p13600.ins [.sl .share .event a0, .fn 16100 [.rp [.int .i64 a1_0_0] 0]] p13600.bins [])) (finT p13600 s13600) = (
      bnd (impl_valuesOf_16100_l1_16100 a1_0_0 false [] a0 (a0.length : Int) 0) fun r1 =>
      some r1.2 : Option (List Int)) := by kernel_rfl
    exact fn_le' (sig := s13600) (p := p13600) (by kernel_rfl) (by kernel_rfl) rfl rfl rfl rfl (e.trans h)

theorem spec_l17Values_l1_le (t0 : List Evt) (t1 : Int) (t2 : Int) (t7b : Bool) (t7 : List Int) (t8 : Int) : Tv.Le
  ((bif (decide (t8 < (t0.length : Int))) then
  bnd (geti t0 t8) fun e1 =>
  (bif (decide (e1.kind = t1)) then
  bnd (geti t0 t8) fun e2 =>
  (bif (decide (e2.box = t2)) then
  bnd (geti t0 t8) fun e3 =>
  bnd (appL t7 ([e3.value] : List Int)) fun l4 =>
  spec_l17Values_l1 t0 t1 t2 true l4 (wrap64 (t8 + 1))
  else
  spec_l17Values_l1 t0 t1 t2 t7b t7 (wrap64 (t8 + 1)))
  else
  spec_l17Values_l1 t0 t1 t2 t7b t7 (wrap64 (t8 + 1)))
  else
  some (t7b, t7)) : Option ((Bool × List Int)))
  (spec_l17Values_l1 t0 t1 t2 t7b t7 t8) := by
  rewrite [← wrapC_eq]
  exact fun r h => by
    have e : runC (phi Tb GT sg) Tb GT p13901.code ((mkST p13901.ins [.sl .share .event t0, .int .i64 t1, .int .i64 t2, .sl (.own t7b) .int t7, .int .i64 t8] p13901.bins [])) (finL Tb GT 13901 p13901 s13901) = (
      (bif (decide (t8 < (t0.length : Int))) then
      bnd (geti t0 t8) fun e1 =>
      (bif (decide (e1.kind = t1)) then
      bnd (geti t0 t8) fun e2 =>
      (bif (decide (e2.box = t2)) then
      bnd (geti t0 t8) fun e3 =>
      bnd (appL t7 ([e3.value] : List Int)) fun l4 =>
      spec_l17Values_l1 t0 t1 t2 true l4 (wrapC (t8 + 1))
      else
      spec_l17Values_l1 t0 t1 t2 t7b t7 (wrapC (t8 + 1)))
      else
      spec_l17Values_l1 t0 t1 t2 t7b t7 (wrapC (t8 + 1)))
      else
      some (t7b, t7)) : Option ((Bool × List Int))) := by kernel_rfl
    exact loop_le' (sig := s13901) (p := p13901) (by kernel_rfl) (by kernel_rfl) rfl rfl rfl (e.trans h)

theorem impl_TraceSent_1_le (a0 : Evt) (a1_0 : Int) : Tv.Le
  ((bif (decide (a0.kind = 1)) then
  some (decide (a0.box = a1_0))
  else
  some false) : Option (Bool))
  (impl_TraceSent_1 a0 a1_0) := by
  exact fun r h => by
    have e : runC (phi Tb GT sg) Tb GT p16100.code (startAT p16100 (mkST p16100.ins [.agg (rowT .event a0), .rp [.int .i64 a1_0] 0] p16100.bins [])) (finT p16100 s16100) = (
      (bif (decide (a0.kind = 1)) then
      some (decide (a0.box = a1_0))
      else
      some false) : Option (Bool)) := by kernel_rfl
    exact fn_le' (sig := s16100) (p := p16100) (by kernel_rfl) (by kernel_rfl) rfl rfl rfl rfl (e.trans h)

theorem impl_valuesOf_p_16100_l1_16100_le (t1_0_0 : Int) (t5 : Hd) (t8 : List Evt) (t9 : Int) (t10 : Int) (b99 : List Ent) : Tv.Le
  ((bif (decide (t10 < t9)) then
  bnd (geti t8 t10) fun e1 =>
  bnd (impl_TraceSent_1 e1 t1_0_0) fun r2 =>
  (bif r2 then
  bnd (arApp b99 .int t5.id t5.n ([e1.value] : List Int)) fun B3 =>
  impl_valuesOf_p_16100_l1_16100 t1_0_0 (⟨(some (List.length b99)), (t5.n + List.length ([e1.value] : List Int))⟩ : Hd) t8 t9 (wrap64 (t10 + 1)) B3
  else
  impl_valuesOf_p_16100_l1_16100 t1_0_0 t5 t8 t9 (wrap64 (t10 + 1)) b99)
  else
  some (t5, b99)) : Option (Hd × List Ent))
  (impl_valuesOf_p_16100_l1_16100 t1_0_0 t5 t8 t9 t10 b99) := by
  rewrite [← wrapC_eq]
  exact fun r h => by
    have e : runC (phi Tb GT sg) Tb GT p39001.code ((mkST p39001.ins [.fn 16100 [.rp [.int .i64 t1_0_0] 0], .tr .int t5.id t5.n, .sl .share .event t8, .int .i64 t9, .int .i64 t10] p39001.bins [.ar b99])) (finL Tb GT 39001 p39001 s39001) = (
      (bif (decide (t10 < t9)) then
      bnd (geti t8 t10) fun e1 =>
      bnd (impl_TraceSent_1 e1 t1_0_0) fun r2 =>
      (bif r2 then
      bnd (arApp b99 .int t5.id t5.n ([e1.value] : List Int)) fun B3 =>
      impl_valuesOf_p_16100_l1_16100 t1_0_0 (⟨(some (List.length b99)), (t5.n + List.length ([e1.value] : List Int))⟩ : Hd) t8 t9 (wrapC (t10 + 1)) B3
      else
      impl_valuesOf_p_16100_l1_16100 t1_0_0 t5 t8 t9 (wrapC (t10 + 1)) b99)
      else
      some (t5, b99)) : Option (Hd × List Ent)) := by kernel_rfl
    exact loop_le' (sig := s39001) (p := p39001) (by kernel_rfl) (by kernel_rfl) rfl rfl rfl (e.trans h)

theorem impl_valuesOf_16100_l1_16100_le (t1_0_0 : Int) (t5b : Bool) (t5 : List Int) (t8 : List Evt) (t9 : Int) (t10 : Int) : Tv.Le
  ((bif (decide (t10 < t9)) then
  bnd (geti t8 t10) fun e1 =>
  bnd (impl_TraceSent_1 e1 t1_0_0) fun r2 =>
  (bif r2 then
  bnd (appL t5 ([e1.value] : List Int)) fun l3 =>
  impl_valuesOf_16100_l1_16100 t1_0_0 true l3 t8 t9 (wrap64 (t10 + 1))
  else
  impl_valuesOf_16100_l1_16100 t1_0_0 t5b t5 t8 t9 (wrap64 (t10 + 1)))
  else
  some (t5b, t5)) : Option ((Bool × List Int)))
  (impl_valuesOf_16100_l1_16100 t1_0_0 t5b t5 t8 t9 t10) := by
  rewrite [← wrapC_eq]
  exact fun r h => by
    have e : runC (phi Tb GT sg) Tb GT p13601.code ((mkST p13601.ins [.fn 16100 [.rp [.int .i64 t1_0_0] 0], .sl (.own t5b) .int t5, .sl .share .event t8, .int .i64 t9, .int .i64 t10] p13601.bins [])) (finL Tb GT 13601 p13601 s13601) = (
      (bif (decide (t10 < t9)) then
      bnd (geti t8 t10) fun e1 =>
      bnd (impl_TraceSent_1 e1 t1_0_0) fun r2 =>
      (bif r2 then
      bnd (appL t5 ([e1.value] : List Int)) fun l3 =>
      impl_valuesOf_16100_l1_16100 t1_0_0 true l3 t8 t9 (wrapC (t10 + 1))
      else
      impl_valuesOf_16100_l1_16100 t1_0_0 t5b t5 t8 t9 (wrapC (t10 + 1)))
      else
      some (t5b, t5)) : Option ((Bool × List Int))) := by kernel_rfl
    exact loop_le' (sig := s13601) (p := p13601) (by kernel_rfl) (by kernel_rfl) rfl rfl rfl (e.trans h)

end Go.TFnExactTraceSent
