import Derived.Test.YtpkgdoapdijmeaaDFnTracePartsP
import Derived.KernelRfl
set_option linter.unusedVariables false
namespace Go.TFnTraceParts
open Go Go.RowKit Go.Vs Go.Tv
theorem laws_FnTraceParts_le (a0 : List Int) (a1 : List Int) : Tv.Le
  ((bif (decide (1048576 < (a0.length : Int))) then
  some true
  else
  (bif (decide (1048576 < (a1.length : Int))) then
  some true
  else
  bnd (spec_DrawTraceSent a0) fun r1 =>
  bnd (impl_TraceSent r1.1 r1.2) fun r2 =>
  bnd (spec_TraceSent r1.1 r1.2) fun r3 =>
  bnd (laws_sameInts r2 r3) fun r4 =>
  (bif (!r4) then
  some false
  else
  bnd (remI (a1.length : Int) (wrap64 ((r1.1.length : Int) + 1))) fun n5 =>
  bnd (cutL r1.1 0 n5) fun l6 =>
  bnd (impl_TraceSent l6 r1.2) fun r7 =>
  bnd (appL ([] : List Int) r7) fun l8 =>
  bnd (cutL r1.1 n5 (r1.1.length : Int)) fun l9 =>
  bnd (impl_TraceSent l9 r1.2) fun r10 =>
  bnd (appL l8 r10) fun l11 =>
  bnd (cutL r1.1 0 n5) fun l12 =>
  bnd (impl_TraceGot l12 r1.2) fun r13 =>
  bnd (appL ([] : List Int) r13) fun l14 =>
  bnd (cutL r1.1 n5 (r1.1.length : Int)) fun l15 =>
  bnd (impl_TraceGot l15 r1.2) fun r16 =>
  bnd (appL l14 r16) fun l17 =>
  bnd (cutL r1.1 0 n5) fun l18 =>
  bnd (impl_TraceOf l18 r1.2) fun r19 =>
  bnd (appL ([] : List Evt) r19) fun l20 =>
  bnd (cutL r1.1 n5 (r1.1.length : Int)) fun l21 =>
  bnd (impl_TraceOf l21 r1.2) fun r22 =>
  bnd (appL l20 r22) fun l23 =>
  bnd (laws_sameInts l11 r2) fun r24 =>
  (bif r24 then
  bnd (impl_TraceGot r1.1 r1.2) fun r25 =>
  bnd (laws_sameInts l17 r25) fun r26 =>
  (bif r26 then
  bnd (impl_TraceOf r1.1 r1.2) fun r27 =>
  bnd (laws_sameEvents l23 r27) fun r28 =>
  some r28
  else
  some false)
  else
  some false)))) : Option (Bool))
  (laws_FnTraceParts a0 a1) := by
  rewrite [← wrapC_eq]
  exact fun r h => by
    have e : runC (phi Tb GT sg) Tb GT p27900.code (startAT p27900 (mkST p27900.ins [.sl .share .u8 a0, .sl .share .u8 a1] p27900.bins [])) (finT p27900 s27900) = (
      (bif (decide (1048576 < (a0.length : Int))) then
      some true
      else
      (bif (decide (1048576 < (a1.length : Int))) then
      some true
      else
      bnd (spec_DrawTraceSent a0) fun r1 =>
      bnd (impl_TraceSent r1.1 r1.2) fun r2 =>
      bnd (spec_TraceSent r1.1 r1.2) fun r3 =>
      bnd (laws_sameInts r2 r3) fun r4 =>
      (bif (!r4) then
      some false
      else
      bnd (remI (a1.length : Int) (wrapC ((r1.1.length : Int) + 1))) fun n5 =>
      bnd (cutL r1.1 0 n5) fun l6 =>
      bnd (impl_TraceSent l6 r1.2) fun r7 =>
      bnd (appL ([] : List Int) r7) fun l8 =>
      bnd (cutL r1.1 n5 (r1.1.length : Int)) fun l9 =>
      bnd (impl_TraceSent l9 r1.2) fun r10 =>
      bnd (appL l8 r10) fun l11 =>
      bnd (cutL r1.1 0 n5) fun l12 =>
      bnd (impl_TraceGot l12 r1.2) fun r13 =>
      bnd (appL ([] : List Int) r13) fun l14 =>
      bnd (cutL r1.1 n5 (r1.1.length : Int)) fun l15 =>
      bnd (impl_TraceGot l15 r1.2) fun r16 =>
      bnd (appL l14 r16) fun l17 =>
      bnd (cutL r1.1 0 n5) fun l18 =>
      bnd (impl_TraceOf l18 r1.2) fun r19 =>
      bnd (appL ([] : List Evt) r19) fun l20 =>
      bnd (cutL r1.1 n5 (r1.1.length : Int)) fun l21 =>
      bnd (impl_TraceOf l21 r1.2) fun r22 =>
      bnd (appL l20 r22) fun l23 =>
      bnd (laws_sameInts l11 r2) fun r24 =>
      (bif r24 then
      bnd (impl_TraceGot r1.1 r1.2) fun r25 =>
      bnd (laws_sameInts l17 r25) fun r26 =>
      (bif r26 then
      bnd (impl_TraceOf r1.1 r1.2) fun r27 =>
      bnd (laws_sameEvents l23 r27) fun r28 =>
      some r28
      else
      some false)
      else
      some false)))) : Option (Bool)) := by kernel_rfl
    exact fn_le' (sig := s27900) (p := p27900) (by kernel_rfl) (by kernel_rfl) rfl rfl rfl rfl rfl (e.trans h)

theorem spec_DrawTraceSent_le (a0 : List Int) : Tv.Le
  (bnd (spec_l6Open a0) fun r1 =>
  bnd (spec_l92Events_p r1.1 r1.2 ([] : List Ent)) fun r2 =>
  bnd (spec_l6Rd_pick 2 r2.2.1 r2.2.2.1) fun r3 =>
  bnd (spec_l6Rd_pick 3 r3.2.1 r3.2.2) fun r4 =>
  (bif (decide (0 < r4.1)) then
  bnd (spec_l6Rd_pick 3 r4.2.1 r4.2.2) fun r5 =>
  bnd (spec_l6Rd_pick 2 r5.2.1 r5.2.2) fun r6 =>
  bnd (spec_l91Word r6.2.1 r6.2.2) fun r7 =>
  bnd (spec_l6Rd_pick 3 r7.2.1 r7.2.2) fun r8 =>
  bnd (spec_l6Rd_pick 2 r8.2.1 r8.2.2) fun r9 =>
  bnd (spec_l6Rd_pick 9 r9.2.1 r9.2.2) fun r10 =>
  bnd (arApp r2.2.2.2 .event r2.1.id r2.1.n ([⟨r5.1, (wrap64 (1 + r6.1)), r3.1, r7.1⟩, ⟨r8.1, (wrap64 (1 + r9.1)), r3.1, r10.1⟩] : List Evt)) fun B11 =>
  bnd (arView B11 .event (some (List.length r2.2.2.2))) fun l12 =>
  some (l12, r3.1)
  else
  bnd (arView r2.2.2.2 .event r2.1.id) fun l13 =>
  some (l13, r3.1)) : Option (List Evt × Int))
  (spec_DrawTraceSent a0) := by
  rewrite [← wrapC_eq]
  exact fun r h => by
    have e : runC (phi Tb GT sg) Tb GT p27800.code (startAT p27800 (mkST p27800.ins [.sl .share .u8 a0] p27800.bins [])) (finT p27800 s27800) = (
      bnd (spec_l6Open a0) fun r1 =>
      bnd (spec_l92Events_p r1.1 r1.2 ([] : List Ent)) fun r2 =>
      bnd (spec_l6Rd_pick 2 r2.2.1 r2.2.2.1) fun r3 =>
      bnd (spec_l6Rd_pick 3 r3.2.1 r3.2.2) fun r4 =>
      (bif (decide (0 < r4.1)) then
      bnd (spec_l6Rd_pick 3 r4.2.1 r4.2.2) fun r5 =>
      bnd (spec_l6Rd_pick 2 r5.2.1 r5.2.2) fun r6 =>
      bnd (spec_l91Word r6.2.1 r6.2.2) fun r7 =>
      bnd (spec_l6Rd_pick 3 r7.2.1 r7.2.2) fun r8 =>
      bnd (spec_l6Rd_pick 2 r8.2.1 r8.2.2) fun r9 =>
      bnd (spec_l6Rd_pick 9 r9.2.1 r9.2.2) fun r10 =>
      bnd (arApp r2.2.2.2 .event r2.1.id r2.1.n ([⟨r5.1, (wrapC (1 + r6.1)), r3.1, r7.1⟩, ⟨r8.1, (wrapC (1 + r9.1)), r3.1, r10.1⟩] : List Evt)) fun B11 =>
      bnd (arView B11 .event (some (List.length r2.2.2.2))) fun l12 =>
      some (l12, r3.1)
      else
      bnd (arView r2.2.2.2 .event r2.1.id) fun l13 =>
      some (l13, r3.1)) : Option (List Evt × Int)) := by kernel_rfl
    exact fn_le' (sig := s27800) (p := p27800) (by kernel_rfl) (by kernel_rfl) rfl rfl rfl rfl rfl (e.trans h)

theorem impl_TraceSent_le (a0 : List Evt) (a1 : Int) : Tv.Le
  (bnd (impl_valuesOf_16100 a0 a1) fun r1 =>
  some r1 : Option (List Int))
  (impl_TraceSent a0 a1) := by
  exact fun r h => by
    have e : runC (phi Tb GT sg) Tb GT p14400.code (startAT p14400 (mkST p14400.ins [.sl .share .event a0, .int .i64 a1] p14400.bins [])) (finT p14400 s14400) = (
      bnd (impl_valuesOf_16100 a0 a1) fun r1 =>
      some r1 : Option (List Int)) := by kernel_rfl
    exact fn_le' (sig := s14400) (p := p14400) (by kernel_rfl) (by kernel_rfl) rfl rfl rfl rfl rfl (e.trans h)

theorem spec_TraceSent_le (a0 : List Evt) (a1 : Int) : Tv.Le
  (bnd (spec_l17Values a0 1 a1) fun r1 =>
  some r1 : Option (List Int))
  (spec_TraceSent a0 a1) := by
  exact fun r h => by
    have e : runC (phi Tb GT sg) Tb GT p14300.code (startAT p14300 (mkST p14300.ins [.sl .share .event a0, .int .i64 a1] p14300.bins [])) (finT p14300 s14300) = (
      bnd (spec_l17Values a0 1 a1) fun r1 =>
      some r1 : Option (List Int)) := by kernel_rfl
    exact fn_le' (sig := s14300) (p := p14300) (by kernel_rfl) (by kernel_rfl) rfl rfl rfl rfl rfl (e.trans h)

theorem laws_sameInts_le (a0 : List Int) (a1 : List Int) : Tv.Le
  ((bif (!decide ((a0.length : Int) = (a1.length : Int))) then
  some false
  else
  bnd (laws_sameInts_l1 a0 a1 0) fun r1 =>
  selm r1 (fun y2 =>
  some true) (fun z3 =>
  some z3)) : Option (Bool))
  (laws_sameInts a0 a1) := by
  exact fun r h => by
    have e : runC (phi Tb GT sg) Tb GT p9700.code (startAT p9700 (mkST p9700.ins [.sl .share .int a0, .sl .share .int a1] p9700.bins [])) (finT p9700 s9700) = (
      (bif (!decide ((a0.length : Int) = (a1.length : Int))) then
      some false
      else
      bnd (laws_sameInts_l1 a0 a1 0) fun r1 =>
      selm r1 (fun y2 =>
      some true) (fun z3 =>
      some z3)) : Option (Bool)) := by kernel_rfl
    exact fn_le' (sig := s9700) (p := p9700) (by kernel_rfl) (by kernel_rfl) rfl rfl rfl rfl rfl (e.trans h)

theorem impl_TraceGot_le (a0 : List Evt) (a1 : Int) : Tv.Le
  (bnd (impl_valuesOf_16000 a0 a1) fun r1 =>
  some r1 : Option (List Int))
  (impl_TraceGot a0 a1) := by
  exact fun r h => by
    have e : runC (phi Tb GT sg) Tb GT p14100.code (startAT p14100 (mkST p14100.ins [.sl .share .event a0, .int .i64 a1] p14100.bins [])) (finT p14100 s14100) = (
      bnd (impl_valuesOf_16000 a0 a1) fun r1 =>
      some r1 : Option (List Int)) := by kernel_rfl
    exact fn_le' (sig := s14100) (p := p14100) (by kernel_rfl) (by kernel_rfl) rfl rfl rfl rfl rfl (e.trans h)

theorem impl_TraceOf_le (a0 : List Evt) (a1 : Int) : Tv.Le
  (bnd (impl_TraceOf_l1 a1 false [] a0 (a0.length : Int) 0) fun r1 =>
  some r1.2 : Option (List Evt))
  (impl_TraceOf a0 a1) := by
  exact fun r h => by
    have e : runC (phi Tb GT sg) Tb GT p12900.code (startAT p12900 (mkST p12900.ins [.sl .share .event a0, .int .i64 a1] p12900.bins [])) (finT p12900 s12900) = (
      bnd (impl_TraceOf_l1 a1 false [] a0 (a0.length : Int) 0) fun r1 =>
      some r1.2 : Option (List Evt)) := by kernel_rfl
    exact fn_le' (sig := s12900) (p := p12900) (by kernel_rfl) (by kernel_rfl) rfl rfl rfl rfl rfl (e.trans h)

theorem laws_sameEvents_le (a0 : List Evt) (a1 : List Evt) : Tv.Le
  ((bif (!decide ((a0.length : Int) = (a1.length : Int))) then
  some false
  else
  bnd (laws_sameEvents_l1 a0 a1 0) fun r1 =>
  selm r1 (fun y2 =>
  some true) (fun z3 =>
  some z3)) : Option (Bool))
  (laws_sameEvents a0 a1) := by
  exact fun r h => by
    have e : runC (phi Tb GT sg) Tb GT p27600.code (startAT p27600 (mkST p27600.ins [.sl .share .event a0, .sl .share .event a1] p27600.bins [])) (finT p27600 s27600) = (
      (bif (!decide ((a0.length : Int) = (a1.length : Int))) then
      some false
      else
      bnd (laws_sameEvents_l1 a0 a1 0) fun r1 =>
      selm r1 (fun y2 =>
      some true) (fun z3 =>
      some z3)) : Option (Bool)) := by kernel_rfl
    exact fn_le' (sig := s27600) (p := p27600) (by kernel_rfl) (by kernel_rfl) rfl rfl rfl rfl rfl (e.trans h)

theorem spec_l6Open_le (a0 : List Int) : Tv.Le
  ((bif (decide (2000 < (a0.length : Int))) then
  bnd (cutL a0 0 2000) fun l1 =>
  some (l1, 0)
  else
  some (a0, 0)) : Option (List Int × Int))
  (spec_l6Open a0) := by
  exact fun r h => by
    have e : runC (phi Tb GT sg) Tb GT p100.code (startAT p100 (mkST p100.ins [.sl .share .u8 a0] p100.bins [])) (finT p100 s100) = (
      (bif (decide (2000 < (a0.length : Int))) then
      bnd (cutL a0 0 2000) fun l1 =>
      some (l1, 0)
      else
      some (a0, 0)) : Option (List Int × Int)) := by kernel_rfl
    exact fn_le' (sig := s100) (p := p100) (by kernel_rfl) (by kernel_rfl) rfl rfl rfl rfl rfl (e.trans h)

theorem spec_l92Events_p_le (a0b : List Int) (a0p : Int) (A : List Ent) : Tv.Le
  (bnd (spec_l92Program a0b a0p) fun r1 =>
  bnd (spec_WorldNew r1.1) fun r2 =>
  bnd (spec_WorldTrace_p r2.1 40 A) fun r3 =>
  bnd (spec_l6Rd_pick 4 r1.2.1 r1.2.2) fun r4 =>
  (bif (decide (r4.1 = 0)) then
  bnd (spec_l6Rd_pick 4 r4.2.1 r4.2.2) fun r5 =>
  bnd (spec_l6Rd_pick 5 r5.2.1 r5.2.2) fun r6 =>
  bnd (spec_l6Rd_pick 4 r6.2.1 r6.2.2) fun r7 =>
  bnd (spec_l6Rd_pick 9 r7.2.1 r7.2.2) fun r8 =>
  bnd (arApp r3.2.2 .event r3.1.id r3.1.n ([⟨r5.1, r6.1, r7.1, r8.1⟩] : List Evt)) fun B9 =>
  some (⟨(some (List.length r3.2.2)), (r3.1.n + List.length ([⟨r5.1, r6.1, r7.1, r8.1⟩] : List Evt))⟩, r8.2.1, r8.2.2, B9)
  else
  some (r3.1, r4.2.1, r4.2.2, r3.2.2)) : Option (Hd × List Int × Int × List Ent))
  (spec_l92Events_p a0b a0p A) := by
  exact fun r h => by
    have e : runC (phi Tb GT sg) Tb GT p39700.code (startAT p39700 (mkST p39700.ins [.bp 0 0] p39700.bins [.var [.sl .share .u8 a0b, .int .i64 a0p], .ar A])) (finT p39700 s39700) = (
      bnd (spec_l92Program a0b a0p) fun r1 =>
      bnd (spec_WorldNew r1.1) fun r2 =>
      bnd (spec_WorldTrace_p r2.1 40 A) fun r3 =>
      bnd (spec_l6Rd_pick 4 r1.2.1 r1.2.2) fun r4 =>
      (bif (decide (r4.1 = 0)) then
      bnd (spec_l6Rd_pick 4 r4.2.1 r4.2.2) fun r5 =>
      bnd (spec_l6Rd_pick 5 r5.2.1 r5.2.2) fun r6 =>
      bnd (spec_l6Rd_pick 4 r6.2.1 r6.2.2) fun r7 =>
      bnd (spec_l6Rd_pick 9 r7.2.1 r7.2.2) fun r8 =>
      bnd (arApp r3.2.2 .event r3.1.id r3.1.n ([⟨r5.1, r6.1, r7.1, r8.1⟩] : List Evt)) fun B9 =>
      some (⟨(some (List.length r3.2.2)), (r3.1.n + List.length ([⟨r5.1, r6.1, r7.1, r8.1⟩] : List Evt))⟩, r8.2.1, r8.2.2, B9)
      else
      some (r3.1, r4.2.1, r4.2.2, r3.2.2)) : Option (Hd × List Int × Int × List Ent)) := by kernel_rfl
    exact fn_le' (sig := s39700) (p := p39700) (by kernel_rfl) (by kernel_rfl) rfl rfl rfl rfl rfl (e.trans h)

theorem spec_l6Rd_pick_le (a1 : Int) (a0b : List Int) (a0p : Int) : Tv.Le
  ((bif (decide (a1 < 1)) then
  some (0, a0b, (wrap64 (a0p + 1)))
  else
  (bif (decide ((a0b.length : Int) = 0)) then
  some (0, a0b, (wrap64 (a0p + 1)))
  else
  (bif (decide ((wrap64 ((wrap64 (a0p + 1)) - 1)) < (a0b.length : Int))) then
  bnd (geti a0b (wrap64 ((wrap64 (a0p + 1)) - 1))) fun e1 =>
  bnd (remI (wrap64 (e1)) a1) fun n2 =>
  some (n2, a0b, (wrap64 (a0p + 1)))
  else
  bnd (remI (wrap64 ((wrap64 (a0p + 1)) - 1)) (a0b.length : Int)) fun n3 =>
  bnd (geti a0b n3) fun e4 =>
  bnd (remI (wrap64 ((wrap64 ((wrap64 ((wrap64 (a0p + 1)) - 1)) * 7)) + 3)) (a0b.length : Int)) fun n5 =>
  bnd (geti a0b n5) fun e6 =>
  bnd (quoI .i64 (wrap64 ((wrap64 (a0p + 1)) - 1)) (a0b.length : Int)) fun n7 =>
  bnd (remI (bits .xor .i64 (wrap64 ((wrap64 ((wrap64 ((wrap64 ((wrap64 (e4)) * 131)) + (wrap64 ((wrap64 (e6)) * 1117)))) + (wrap64 ((wrap64 ((wrap64 (a0p + 1)) - 1)) * 29)))) + (wrap64 (n7 * 53)))) (wrap64 (Int.tdiv (wrap64 ((wrap64 ((wrap64 ((wrap64 ((wrap64 (e4)) * 131)) + (wrap64 ((wrap64 (e6)) * 1117)))) + (wrap64 ((wrap64 ((wrap64 (a0p + 1)) - 1)) * 29)))) + (wrap64 (n7 * 53)))) 64))) a1) fun n8 =>
  some (n8, a0b, (wrap64 (a0p + 1)))))) : Option (Int × List Int × Int))
  (spec_l6Rd_pick a1 a0b a0p) := by
  rewrite [← wrapC_eq]
  exact fun r h => by
    have e : runC (phi Tb GT sg) Tb GT p200.code (startAT p200 (mkST p200.ins [.bp 0 0, .int .i64 a1] p200.bins [.var [.sl .share .u8 a0b, .int .i64 a0p]])) (finT p200 s200) = (
      (bif (decide (a1 < 1)) then
      some (0, a0b, (wrapC (a0p + 1)))
      else
      (bif (decide ((a0b.length : Int) = 0)) then
      some (0, a0b, (wrapC (a0p + 1)))
      else
      (bif (decide ((wrapC ((wrapC (a0p + 1)) - 1)) < (a0b.length : Int))) then
      bnd (geti a0b (wrapC ((wrapC (a0p + 1)) - 1))) fun e1 =>
      bnd (remI (wrapC (e1)) a1) fun n2 =>
      some (n2, a0b, (wrapC (a0p + 1)))
      else
      bnd (remI (wrapC ((wrapC (a0p + 1)) - 1)) (a0b.length : Int)) fun n3 =>
      bnd (geti a0b n3) fun e4 =>
      bnd (remI (wrapC ((wrapC ((wrapC ((wrapC (a0p + 1)) - 1)) * 7)) + 3)) (a0b.length : Int)) fun n5 =>
      bnd (geti a0b n5) fun e6 =>
      bnd (quoI .i64 (wrapC ((wrapC (a0p + 1)) - 1)) (a0b.length : Int)) fun n7 =>
      bnd (remI (bits .xor .i64 (wrapC ((wrapC ((wrapC ((wrapC ((wrapC (e4)) * 131)) + (wrapC ((wrapC (e6)) * 1117)))) + (wrapC ((wrapC ((wrapC (a0p + 1)) - 1)) * 29)))) + (wrapC (n7 * 53)))) (wrapC (Int.tdiv (wrapC ((wrapC ((wrapC ((wrapC ((wrapC (e4)) * 131)) + (wrapC ((wrapC (e6)) * 1117)))) + (wrapC ((wrapC ((wrapC (a0p + 1)) - 1)) * 29)))) + (wrapC (n7 * 53)))) 64))) a1) fun n8 =>
      some (n8, a0b, (wrapC (a0p + 1)))))) : Option (Int × List Int × Int)) := by kernel_rfl
    exact fn_le' (sig := s200) (p := p200) (by kernel_rfl) (by kernel_rfl) rfl rfl rfl rfl rfl (e.trans h)

theorem spec_l91Word_le (a0b : List Int) (a0p : Int) : Tv.Le
  (bnd (spec_l6Rd_pick 6 a0b a0p) fun r1 =>
  (bif (decide (r1.1 = 0)) then
  bnd (spec_l6Rd_pick 8 r1.2.1 r1.2.2) fun r2 =>
  bnd (geti ([(-2147483648), 2147483647, (-1), 0, 1, (-2147483647), 65536, (-65536)] : List Int) r2.1) fun e3 =>
  some (e3, r2.2.1, r2.2.2)
  else
  (bif (decide (r1.1 = 1)) then
  bnd (spec_l6Rd_pick 256 r1.2.1 r1.2.2) fun r4 =>
  bnd (spec_l6Rd_pick 256 r4.2.1 r4.2.2) fun r5 =>
  bnd (spec_l6Rd_pick 256 r5.2.1 r5.2.2) fun r6 =>
  bnd (spec_l6Rd_pick 200 r6.2.1 r6.2.2) fun r7 =>
  bnd (spec_Wrap (wrap64 ((wrap64 ((wrap64 ((wrap64 (r4.1 * 65536)) + (wrap64 (r5.1 * 256)))) + r6.1)) * (wrap64 (1 + r7.1))))) fun r8 =>
  some (r8, r7.2.1, r7.2.2)
  else
  (bif (decide (r1.1 = 2)) then
  bnd (spec_l6Rd_pick 200 r1.2.1 r1.2.2) fun r9 =>
  some ((wrap64 (0 - r9.1)), r9.2.1, r9.2.2)
  else
  bnd (spec_l6Rd_pick 20 r1.2.1 r1.2.2) fun r10 =>
  some (r10.1, r10.2.1, r10.2.2)))) : Option (Int × List Int × Int))
  (spec_l91Word a0b a0p) := by
  rewrite [← wrapC_eq]
  exact fun r h => by
    have e : runC (phi Tb GT sg) Tb GT p3800.code (startAT p3800 (mkST p3800.ins [.bp 0 0] p3800.bins [.var [.sl .share .u8 a0b, .int .i64 a0p]])) (finT p3800 s3800) = (
      bnd (spec_l6Rd_pick 6 a0b a0p) fun r1 =>
      (bif (decide (r1.1 = 0)) then
      bnd (spec_l6Rd_pick 8 r1.2.1 r1.2.2) fun r2 =>
      bnd (geti ([(-2147483648), 2147483647, (-1), 0, 1, (-2147483647), 65536, (-65536)] : List Int) r2.1) fun e3 =>
      some (e3, r2.2.1, r2.2.2)
      else
      (bif (decide (r1.1 = 1)) then
      bnd (spec_l6Rd_pick 256 r1.2.1 r1.2.2) fun r4 =>
      bnd (spec_l6Rd_pick 256 r4.2.1 r4.2.2) fun r5 =>
      bnd (spec_l6Rd_pick 256 r5.2.1 r5.2.2) fun r6 =>
      bnd (spec_l6Rd_pick 200 r6.2.1 r6.2.2) fun r7 =>
      bnd (spec_Wrap (wrapC ((wrapC ((wrapC ((wrapC (r4.1 * 65536)) + (wrapC (r5.1 * 256)))) + r6.1)) * (wrapC (1 + r7.1))))) fun r8 =>
      some (r8, r7.2.1, r7.2.2)
      else
      (bif (decide (r1.1 = 2)) then
      bnd (spec_l6Rd_pick 200 r1.2.1 r1.2.2) fun r9 =>
      some ((wrapC (0 - r9.1)), r9.2.1, r9.2.2)
      else
      bnd (spec_l6Rd_pick 20 r1.2.1 r1.2.2) fun r10 =>
      some (r10.1, r10.2.1, r10.2.2)))) : Option (Int × List Int × Int)) := by kernel_rfl
    exact fn_le' (sig := s3800) (p := p3800) (by kernel_rfl) (by kernel_rfl) rfl rfl rfl rfl rfl (e.trans h)

theorem impl_valuesOf_16100_le (a0 : List Evt) (a1_0_0 : Int) : Tv.Le
  (bnd (impl_valuesOf_16100_l1_16100 a1_0_0 false [] a0 (a0.length : Int) 0) fun r1 =>
  some r1.2 : Option (List Int))
  (impl_valuesOf_16100 a0 a1_0_0) := by
  exact fun r h => by
    have e : runC (phi Tb GT sg) Tb GT p13600.code (startAT p13600 (mkST p13600.ins [.sl .share .event a0, .fn 16100 [.rp [.int .i64 a1_0_0] 0]] p13600.bins [])) (finT p13600 s13600) = (
      bnd (impl_valuesOf_16100_l1_16100 a1_0_0 false [] a0 (a0.length : Int) 0) fun r1 =>
      some r1.2 : Option (List Int)) := by kernel_rfl
    exact fn_le' (sig := s13600) (p := p13600) (by kernel_rfl) (by kernel_rfl) rfl rfl rfl rfl rfl (e.trans h)

theorem spec_l17Values_le (a0 : List Evt) (a1 : Int) (a2 : Int) : Tv.Le
  (bnd (spec_l17Values_l1 a0 a1 a2 true ([] : List Int) 0) fun r1 =>
  some r1.2 : Option (List Int))
  (spec_l17Values a0 a1 a2) := by
  exact fun r h => by
    have e : runC (phi Tb GT sg) Tb GT p13900.code (startAT p13900 (mkST p13900.ins [.sl .share .event a0, .int .i64 a1, .int .i64 a2] p13900.bins [])) (finT p13900 s13900) = (
      bnd (spec_l17Values_l1 a0 a1 a2 true ([] : List Int) 0) fun r1 =>
      some r1.2 : Option (List Int)) := by kernel_rfl
    exact fn_le' (sig := s13900) (p := p13900) (by kernel_rfl) (by kernel_rfl) rfl rfl rfl rfl rfl (e.trans h)

theorem laws_sameInts_l1_le (t0 : List Int) (t1 : List Int) (t5 : Int) : Tv.Le
  ((bif (decide (t5 < (t0.length : Int))) then
  bnd (geti t0 t5) fun e1 =>
  bnd (geti t1 t5) fun e2 =>
  (bif (!decide (e1 = e2)) then
  some (.inr false)
  else
  laws_sameInts_l1 t0 t1 (wrap64 (t5 + 1)))
  else
  some (.inl ())) : Option (Unit ⊕ Bool))
  (laws_sameInts_l1 t0 t1 t5) := by
  rewrite [← wrapC_eq]
  exact fun r h => by
    have e : runC (phi Tb GT sg) Tb GT p9701.code ((mkST p9701.ins [.sl .share .int t0, .sl .share .int t1, .int .i64 t5] p9701.bins [])) (finL Tb GT 9701 p9701 s9701) = (
      (bif (decide (t5 < (t0.length : Int))) then
      bnd (geti t0 t5) fun e1 =>
      bnd (geti t1 t5) fun e2 =>
      (bif (!decide (e1 = e2)) then
      some (.inr false)
      else
      laws_sameInts_l1 t0 t1 (wrapC (t5 + 1)))
      else
      some (.inl ())) : Option (Unit ⊕ Bool)) := by kernel_rfl
    exact loop_le' (sig := s9701) (p := p9701) (by kernel_rfl) (by kernel_rfl) rfl rfl rfl (e.trans h)

theorem impl_valuesOf_16000_le (a0 : List Evt) (a1_0_0 : Int) : Tv.Le
  (bnd (impl_valuesOf_16000_l1_16000 a1_0_0 false [] a0 (a0.length : Int) 0) fun r1 =>
  some r1.2 : Option (List Int))
  (impl_valuesOf_16000 a0 a1_0_0) := by
  exact fun r h => by
    have e : runC (phi Tb GT sg) Tb GT p13600.code (startAT p13600 (mkST p13600.ins [.sl .share .event a0, .fn 16000 [.rp [.int .i64 a1_0_0] 0]] p13600.bins [])) (finT p13600 s13600) = (
      bnd (impl_valuesOf_16000_l1_16000 a1_0_0 false [] a0 (a0.length : Int) 0) fun r1 =>
      some r1.2 : Option (List Int)) := by kernel_rfl
    exact fn_le' (sig := s13600) (p := p13600) (by kernel_rfl) (by kernel_rfl) rfl rfl rfl rfl rfl (e.trans h)

theorem impl_TraceOf_l1_le (t1 : Int) (t5b : Bool) (t5 : List Evt) (t8 : List Evt) (t9 : Int) (t10 : Int) : Tv.Le
  ((bif (decide (t10 < t9)) then
  bnd (geti t8 t10) fun e1 =>
  (bif (decide (e1.task = t1)) then
  bnd (appL t5 ([e1] : List Evt)) fun l2 =>
  impl_TraceOf_l1 t1 true l2 t8 t9 (wrap64 (t10 + 1))
  else
  impl_TraceOf_l1 t1 t5b t5 t8 t9 (wrap64 (t10 + 1)))
  else
  some (t5b, t5)) : Option ((Bool × List Evt)))
  (impl_TraceOf_l1 t1 t5b t5 t8 t9 t10) := by
  rewrite [← wrapC_eq]
  exact fun r h => by
    have e : runC (phi Tb GT sg) Tb GT p12901.code ((mkST p12901.ins [.int .i64 t1, .sl (.own t5b) .event t5, .sl .share .event t8, .int .i64 t9, .int .i64 t10] p12901.bins [])) (finL Tb GT 12901 p12901 s12901) = (
      (bif (decide (t10 < t9)) then
      bnd (geti t8 t10) fun e1 =>
      (bif (decide (e1.task = t1)) then
      bnd (appL t5 ([e1] : List Evt)) fun l2 =>
      impl_TraceOf_l1 t1 true l2 t8 t9 (wrapC (t10 + 1))
      else
      impl_TraceOf_l1 t1 t5b t5 t8 t9 (wrapC (t10 + 1)))
      else
      some (t5b, t5)) : Option ((Bool × List Evt))) := by kernel_rfl
    exact loop_le' (sig := s12901) (p := p12901) (by kernel_rfl) (by kernel_rfl) rfl rfl rfl (e.trans h)

theorem laws_sameEvents_l1_le (t0 : List Evt) (t1 : List Evt) (t5 : Int) : Tv.Le
  ((bif (decide (t5 < (t0.length : Int))) then
  bnd (geti t0 t5) fun e1 =>
  bnd (geti t1 t5) fun e2 =>
  (bif (!(decide (e1.task = e2.task) && (decide (e1.kind = e2.kind) && (decide (e1.box = e2.box) && (decide (e1.value = e2.value) && true))))) then
  some (.inr false)
  else
  laws_sameEvents_l1 t0 t1 (wrap64 (t5 + 1)))
  else
  some (.inl ())) : Option (Unit ⊕ Bool))
  (laws_sameEvents_l1 t0 t1 t5) := by
  rewrite [← wrapC_eq]
  exact fun r h => by
    have e : runC (phi Tb GT sg) Tb GT p27601.code ((mkST p27601.ins [.sl .share .event t0, .sl .share .event t1, .int .i64 t5] p27601.bins [])) (finL Tb GT 27601 p27601 s27601) = (
      (bif (decide (t5 < (t0.length : Int))) then
      bnd (geti t0 t5) fun e1 =>
      bnd (geti t1 t5) fun e2 =>
      (bif (!(decide (e1.task = e2.task) && (decide (e1.kind = e2.kind) && (decide (e1.box = e2.box) && (decide (e1.value = e2.value) && true))))) then
      some (.inr false)
      else
      laws_sameEvents_l1 t0 t1 (wrapC (t5 + 1)))
      else
      some (.inl ())) : Option (Unit ⊕ Bool)) := by kernel_rfl
    exact loop_le' (sig := s27601) (p := p27601) (by kernel_rfl) (by kernel_rfl) rfl rfl rfl (e.trans h)

theorem spec_l92Program_le (a0b : List Int) (a0p : Int) : Tv.Le
  (bnd (spec_l92Rooms a0b a0p) fun r1 =>
  bnd (spec_l6Rd_pick 3 r1.2.1 r1.2.2) fun r2 =>
  bnd (spec_l92Program_l1 (wrap64 (1 + r2.1)) 0 r2.2.1 r2.2.2 false [] (⟨none, 0⟩ : Hd) r1.1 (⟨(some (List.length ([] : List Ent))), 0⟩ : Hd) (arPush ([] : List Ent) .stms ([] : List (List Stm)))) fun r3 =>
  bnd (spec_l6Rd_pick 16 r3.1 r3.2.1) fun r4 =>
  (bif (decide (r4.1 = 0)) then
  bnd (spec_l92Endless r4.2.1 r4.2.2) fun r5 =>
  bnd (idxN r3.2.2.2.2.2.1.n 0) fun i6 =>
  bnd (arRow r3.2.2.2.2.2.2 .stms r3.2.2.2.2.2.1.id i6) fun e7 =>
  bnd (arView (arSet r3.2.2.2.2.2.2 .stms r3.2.2.2.2.2.1.id i6 ([⟨r5.1.kind, r5.1.var, r5.1.box, ⟨r5.1.e.op, r5.1.e.n, r5.1.e.args⟩, r5.1.body, r5.1.els⟩] : List Stm)) .stms r3.2.2.2.2.2.1.id) fun l8 =>
  some (⟨r3.2.2.2.2.1, l8⟩, r5.2.1, r5.2.2)
  else
  bnd (arView r3.2.2.2.2.2.2 .stms r3.2.2.2.2.2.1.id) fun l9 =>
  some (⟨r3.2.2.2.2.1, l9⟩, r4.2.1, r4.2.2)) : Option (Prg × List Int × Int))
  (spec_l92Program a0b a0p) := by
  rewrite [← wrapC_eq]
  exact fun r h => by
    have e : runC (phi Tb GT sg) Tb GT p22400.code (startAT p22400 (mkST p22400.ins [.bp 0 0] p22400.bins [.var [.sl .share .u8 a0b, .int .i64 a0p]])) (finT p22400 s22400) = (
      bnd (spec_l92Rooms a0b a0p) fun r1 =>
      bnd (spec_l6Rd_pick 3 r1.2.1 r1.2.2) fun r2 =>
      bnd (spec_l92Program_l1 (wrapC (1 + r2.1)) 0 r2.2.1 r2.2.2 false [] (⟨none, 0⟩ : Hd) r1.1 (⟨(some (List.length ([] : List Ent))), 0⟩ : Hd) (arPush ([] : List Ent) .stms ([] : List (List Stm)))) fun r3 =>
      bnd (spec_l6Rd_pick 16 r3.1 r3.2.1) fun r4 =>
      (bif (decide (r4.1 = 0)) then
      bnd (spec_l92Endless r4.2.1 r4.2.2) fun r5 =>
      bnd (idxN r3.2.2.2.2.2.1.n 0) fun i6 =>
      bnd (arRow r3.2.2.2.2.2.2 .stms r3.2.2.2.2.2.1.id i6) fun e7 =>
      bnd (arView (arSet r3.2.2.2.2.2.2 .stms r3.2.2.2.2.2.1.id i6 ([⟨r5.1.kind, r5.1.var, r5.1.box, ⟨r5.1.e.op, r5.1.e.n, r5.1.e.args⟩, r5.1.body, r5.1.els⟩] : List Stm)) .stms r3.2.2.2.2.2.1.id) fun l8 =>
      some (⟨r3.2.2.2.2.1, l8⟩, r5.2.1, r5.2.2)
      else
      bnd (arView r3.2.2.2.2.2.2 .stms r3.2.2.2.2.2.1.id) fun l9 =>
      some (⟨r3.2.2.2.2.1, l9⟩, r4.2.1, r4.2.2)) : Option (Prg × List Int × Int)) := by kernel_rfl
    exact fn_le' (sig := s22400) (p := p22400) (by kernel_rfl) (by kernel_rfl) rfl rfl rfl rfl rfl (e.trans h)

theorem spec_WorldNew_le (a0 : Prg) : Tv.Le
  (bnd (spec_ProgramValid a0) fun r1 =>
  (bif (!r1) then
  some (⟨[], [], 0, 0, []⟩, false)
  else
  bnd (spec_l16Empty a0.rooms) fun r2 =>
  bnd (spec_WorldNew_l1 0 a0.rooms a0.tasks false [] false [] 0 0 false [] false ([] : List Tk) r2 0 0 false ([] : List Int)) fun r3 =>
  some (⟨r3.2.2.2.2.2.1.2, r3.2.2.2.2.2.2.1, r3.2.2.2.2.2.2.2.1, r3.2.2.2.2.2.2.2.2.1, r3.2.2.2.2.2.2.2.2.2.2⟩, true)) : Option (Wld × Bool))
  (spec_WorldNew a0) := by
  exact fun r h => by
    have e : runC (phi Tb GT sg) Tb GT p23500.code (startAT p23500 (mkST p23500.ins [.agg (rowT .prg a0)] p23500.bins [])) (finT p23500 s23500) = (
      bnd (spec_ProgramValid a0) fun r1 =>
      (bif (!r1) then
      some (⟨[], [], 0, 0, []⟩, false)
      else
      bnd (spec_l16Empty a0.rooms) fun r2 =>
      bnd (spec_WorldNew_l1 0 a0.rooms a0.tasks false [] false [] 0 0 false [] false ([] : List Tk) r2 0 0 false ([] : List Int)) fun r3 =>
      some (⟨r3.2.2.2.2.2.1.2, r3.2.2.2.2.2.2.1, r3.2.2.2.2.2.2.2.1, r3.2.2.2.2.2.2.2.2.1, r3.2.2.2.2.2.2.2.2.2.2⟩, true)) : Option (Wld × Bool)) := by kernel_rfl
    exact fn_le' (sig := s23500) (p := p23500) (by kernel_rfl) (by kernel_rfl) rfl rfl rfl rfl rfl (e.trans h)

theorem spec_WorldTrace_p_le (a0 : Wld) (a1 : Int) (A : List Ent) : Tv.Le
  (bnd (spec_WorldValid a0) fun r1 =>
  (bif (!r1) then
  some (⟨(some (List.length A)), 0⟩, false, (arPush A .event ([] : List Evt)))
  else
  bnd (spec_l6In a1 0 100000) fun r2 =>
  (bif (!r2) then
  some (⟨(some (List.length A)), 0⟩, false, (arPush A .event ([] : List Evt)))
  else
  bnd (spec_l16Copy a0) fun r3 =>
  bnd (spec_WorldTrace_p_l1 a1 (⟨(some (List.length A)), 0⟩ : Hd) 0 r3.tasks r3.boxes r3.turn r3.idle r3.out (arPush A .event ([] : List Evt))) fun r4 =>
  some (r4.1, true, r4.2))) : Option (Hd × Bool × List Ent))
  (spec_WorldTrace_p a0 a1 A) := by
  exact fun r h => by
    have e : runC (phi Tb GT sg) Tb GT p40000.code (startAT p40000 (mkST p40000.ins [.agg (rowT .wld a0), .int .i64 a1] p40000.bins [.ar A])) (finT p40000 s40000) = (
      bnd (spec_WorldValid a0) fun r1 =>
      (bif (!r1) then
      some (⟨(some (List.length A)), 0⟩, false, (arPush A .event ([] : List Evt)))
      else
      bnd (spec_l6In a1 0 100000) fun r2 =>
      (bif (!r2) then
      some (⟨(some (List.length A)), 0⟩, false, (arPush A .event ([] : List Evt)))
      else
      bnd (spec_l16Copy a0) fun r3 =>
      bnd (spec_WorldTrace_p_l1 a1 (⟨(some (List.length A)), 0⟩ : Hd) 0 r3.tasks r3.boxes r3.turn r3.idle r3.out (arPush A .event ([] : List Evt))) fun r4 =>
      some (r4.1, true, r4.2))) : Option (Hd × Bool × List Ent)) := by kernel_rfl
    exact fn_le' (sig := s40000) (p := p40000) (by kernel_rfl) (by kernel_rfl) rfl rfl rfl rfl rfl (e.trans h)

theorem spec_Wrap_le (a0 : Int) : Tv.Le
  ((bif (decide (2147483647 < (Int.tmod a0 4294967296))) then
  some (wrap64 ((Int.tmod a0 4294967296) - 4294967296))
  else
  (bif (decide ((Int.tmod a0 4294967296) < (-2147483648))) then
  some (wrap64 ((Int.tmod a0 4294967296) + 4294967296))
  else
  some (Int.tmod a0 4294967296))) : Option (Int))
  (spec_Wrap a0) := by
  rewrite [← wrapC_eq]
  exact fun r h => by
    have e : runC (phi Tb GT sg) Tb GT p3700.code (startAT p3700 (mkST p3700.ins [.int .i64 a0] p3700.bins [])) (finT p3700 s3700) = (
      (bif (decide (2147483647 < (Int.tmod a0 4294967296))) then
      some (wrapC ((Int.tmod a0 4294967296) - 4294967296))
      else
      (bif (decide ((Int.tmod a0 4294967296) < (-2147483648))) then
      some (wrapC ((Int.tmod a0 4294967296) + 4294967296))
      else
      some (Int.tmod a0 4294967296))) : Option (Int)) := by kernel_rfl
    exact fn_le' (sig := s3700) (p := p3700) (by kernel_rfl) (by kernel_rfl) rfl rfl rfl rfl rfl (e.trans h)

theorem impl_TraceSent_1_le (a0 : Evt) (a1_0 : Int) : Tv.Le
  ((bif (decide (a0.kind = 1)) then
  some (decide (a0.box = a1_0))
  else
  some false) : Option (Bool))
  (impl_TraceSent_1 a0 a1_0) := by
  exact fun r h => by
    have e : runC (phi Tb GT sg) Tb GT p16100.code (startAT p16100 (mkST p16100.ins [.agg (rowT .event a0), .rp [.int .i64 a1_0] 0] p16100.bins [])) (finT p16100 s16100) = (
      (bif (decide (a0.kind = 1)) then
      some (decide (a0.box = a1_0))
      else
      some false) : Option (Bool)) := by kernel_rfl
    exact fn_le' (sig := s16100) (p := p16100) (by kernel_rfl) (by kernel_rfl) rfl rfl rfl rfl rfl (e.trans h)

theorem impl_valuesOf_16100_l1_16100_le (t1_0_0 : Int) (t5b : Bool) (t5 : List Int) (t8 : List Evt) (t9 : Int) (t10 : Int) : Tv.Le
  ((bif (decide (t10 < t9)) then
  bnd (geti t8 t10) fun e1 =>
  bnd (impl_TraceSent_1 e1 t1_0_0) fun r2 =>
  (bif r2 then
  bnd (appL t5 ([e1.value] : List Int)) fun l3 =>
  impl_valuesOf_16100_l1_16100 t1_0_0 true l3 t8 t9 (wrap64 (t10 + 1))
  else
  impl_valuesOf_16100_l1_16100 t1_0_0 t5b t5 t8 t9 (wrap64 (t10 + 1)))
  else
  some (t5b, t5)) : Option ((Bool × List Int)))
  (impl_valuesOf_16100_l1_16100 t1_0_0 t5b t5 t8 t9 t10) := by
  rewrite [← wrapC_eq]
  exact fun r h => by
    have e : runC (phi Tb GT sg) Tb GT p13601.code ((mkST p13601.ins [.fn 16100 [.rp [.int .i64 t1_0_0] 0], .sl (.own t5b) .int t5, .sl .share .event t8, .int .i64 t9, .int .i64 t10] p13601.bins [])) (finL Tb GT 13601 p13601 s13601) = (
      (bif (decide (t10 < t9)) then
      bnd (geti t8 t10) fun e1 =>
      bnd (impl_TraceSent_1 e1 t1_0_0) fun r2 =>
      (bif r2 then
      bnd (appL t5 ([e1.value] : List Int)) fun l3 =>
      impl_valuesOf_16100_l1_16100 t1_0_0 true l3 t8 t9 (wrapC (t10 + 1))
      else
      impl_valuesOf_16100_l1_16100 t1_0_0 t5b t5 t8 t9 (wrapC (t10 + 1)))
      else
      some (t5b, t5)) : Option ((Bool × List Int))) := by kernel_rfl
    exact loop_le' (sig := s13601) (p := p13601) (by kernel_rfl) (by kernel_rfl) rfl rfl rfl (e.trans h)

theorem spec_l17Values_l1_le (t0 : List Evt) (t1 : Int) (t2 : Int) (t7b : Bool) (t7 : List Int) (t8 : Int) : Tv.Le
  ((bif (decide (t8 < (t0.length : Int))) then
  bnd (geti t0 t8) fun e1 =>
  (bif (decide (e1.kind = t1)) then
  bnd (geti t0 t8) fun e2 =>
  (bif (decide (e2.box = t2)) then
  bnd (geti t0 t8) fun e3 =>
  bnd (appL t7 ([e3.value] : List Int)) fun l4 =>
  spec_l17Values_l1 t0 t1 t2 true l4 (wrap64 (t8 + 1))
  else
  spec_l17Values_l1 t0 t1 t2 t7b t7 (wrap64 (t8 + 1)))
  else
  spec_l17Values_l1 t0 t1 t2 t7b t7 (wrap64 (t8 + 1)))
  else
  some (t7b, t7)) : Option ((Bool × List Int)))
  (spec_l17Values_l1 t0 t1 t2 t7b t7 t8) := by
  rewrite [← wrapC_eq]
  exact fun r h => by
    have e : runC (phi Tb GT sg) Tb GT p13901.code ((mkST p13901.ins [.sl .share .event t0, .int .i64 t1, .int .i64 t2, .sl (.own t7b) .int t7, .int .i64 t8] p13901.bins [])) (finL Tb GT 13901 p13901 s13901) = (
      (bif (decide (t8 < (t0.length : Int))) then
      bnd (geti t0 t8) fun e1 =>
      (bif (decide (e1.kind = t1)) then
      bnd (geti t0 t8) fun e2 =>
      (bif (decide (e2.box = t2)) then
      bnd (geti t0 t8) fun e3 =>
      bnd (appL t7 ([e3.value] : List Int)) fun l4 =>
      spec_l17Values_l1 t0 t1 t2 true l4 (wrapC (t8 + 1))
      else
      spec_l17Values_l1 t0 t1 t2 t7b t7 (wrapC (t8 + 1)))
      else
      spec_l17Values_l1 t0 t1 t2 t7b t7 (wrapC (t8 + 1)))
      else
      some (t7b, t7)) : Option ((Bool × List Int))) := by kernel_rfl
    exact loop_le' (sig := s13901) (p := p13901) (by kernel_rfl) (by kernel_rfl) rfl rfl rfl (e.trans h)

theorem impl_TraceGot_1_le (a0 : Evt) (a1_0 : Int) : Tv.Le
  ((bif (decide (a0.kind = 2)) then
  some (decide (a0.box = a1_0))
  else
  some false) : Option (Bool))
  (impl_TraceGot_1 a0 a1_0) := by
  exact fun r h => by
    have e : runC (phi Tb GT sg) Tb GT p16000.code (startAT p16000 (mkST p16000.ins [.agg (rowT .event a0), .rp [.int .i64 a1_0] 0] p16000.bins [])) (finT p16000 s16000) = (
      (bif (decide (a0.kind = 2)) then
      some (decide (a0.box = a1_0))
      else
      some false) : Option (Bool)) := by kernel_rfl
    exact fn_le' (sig := s16000) (p := p16000) (by kernel_rfl) (by kernel_rfl) rfl rfl rfl rfl rfl (e.trans h)

theorem impl_valuesOf_16000_l1_16000_le (t1_0_0 : Int) (t5b : Bool) (t5 : List Int) (t8 : List Evt) (t9 : Int) (t10 : Int) : Tv.Le
  ((bif (decide (t10 < t9)) then
  bnd (geti t8 t10) fun e1 =>
  bnd (impl_TraceGot_1 e1 t1_0_0) fun r2 =>
  (bif r2 then
  bnd (appL t5 ([e1.value] : List Int)) fun l3 =>
  impl_valuesOf_16000_l1_16000 t1_0_0 true l3 t8 t9 (wrap64 (t10 + 1))
  else
  impl_valuesOf_16000_l1_16000 t1_0_0 t5b t5 t8 t9 (wrap64 (t10 + 1)))
  else
  some (t5b, t5)) : Option ((Bool × List Int)))
  (impl_valuesOf_16000_l1_16000 t1_0_0 t5b t5 t8 t9 t10) := by
  rewrite [← wrapC_eq]
  exact fun r h => by
    have e : runC (phi Tb GT sg) Tb GT p13601.code ((mkST p13601.ins [.fn 16000 [.rp [.int .i64 t1_0_0] 0], .sl (.own t5b) .int t5, .sl .share .event t8, .int .i64 t9, .int .i64 t10] p13601.bins [])) (finL Tb GT 13601 p13601 s13601) = (
      (bif (decide (t10 < t9)) then
      bnd (geti t8 t10) fun e1 =>
      bnd (impl_TraceGot_1 e1 t1_0_0) fun r2 =>
      (bif r2 then
      bnd (appL t5 ([e1.value] : List Int)) fun l3 =>
      impl_valuesOf_16000_l1_16000 t1_0_0 true l3 t8 t9 (wrapC (t10 + 1))
      else
      impl_valuesOf_16000_l1_16000 t1_0_0 t5b t5 t8 t9 (wrapC (t10 + 1)))
      else
      some (t5b, t5)) : Option ((Bool × List Int))) := by kernel_rfl
    exact loop_le' (sig := s13601) (p := p13601) (by kernel_rfl) (by kernel_rfl) rfl rfl rfl (e.trans h)

theorem spec_l92Rooms_le (a0b : List Int) (a0p : Int) : Tv.Le
  (bnd (spec_l6Rd_pick 6 a0b a0p) fun r1 =>
  bnd (geti ([0, 1, 1, 2, 2, 3] : List Int) r1.1) fun e2 =>
  bnd (spec_l92Rooms_l1 true ([] : List Int) e2 0 r1.2.1 r1.2.2) fun r3 =>
  some (r3.1.2, r3.2.1, r3.2.2) : Option (List Int × List Int × Int))
  (spec_l92Rooms a0b a0p) := by
  exact fun r h => by
    have e : runC (phi Tb GT sg) Tb GT p22300.code (startAT p22300 (mkST p22300.ins [.bp 0 0] p22300.bins [.var [.sl .share .u8 a0b, .int .i64 a0p]])) (finT p22300 s22300) = (
      bnd (spec_l6Rd_pick 6 a0b a0p) fun r1 =>
      bnd (geti ([0, 1, 1, 2, 2, 3] : List Int) r1.1) fun e2 =>
      bnd (spec_l92Rooms_l1 true ([] : List Int) e2 0 r1.2.1 r1.2.2) fun r3 =>
      some (r3.1.2, r3.2.1, r3.2.2) : Option (List Int × List Int × Int)) := by kernel_rfl
    exact fn_le' (sig := s22300) (p := p22300) (by kernel_rfl) (by kernel_rfl) rfl rfl rfl rfl rfl (e.trans h)

theorem spec_l92Stmts_le (a1 : Int) (a0b : List Int) (a0p : Int) : Tv.Le
  (bnd (spec_l6Rd_pick 6 a0b a0p) fun r1 =>
  bnd (spec_l92Block a1 3 (wrap64 (1 + r1.1)) true r1.2.1 r1.2.2) fun r2 =>
  bnd (spec_l92Stmts_l1 (.own true) r2.1 r2.2.1 r2.2.2) fun r3 =>
  some (((Md.res r3.1.1), r3.1.2), r3.2.1, r3.2.2) : Option ((Md × List Stm) × List Int × Int))
  (spec_l92Stmts a1 a0b a0p) := by
  rewrite [← wrapC_eq]
  exact fun r h => by
    have e : runC (phi Tb GT sg) Tb GT p4700.code (startAT p4700 (mkST p4700.ins [.bp 0 0, .int .i64 a1] p4700.bins [.var [.sl .share .u8 a0b, .int .i64 a0p]])) (finT p4700 s4700) = (
      bnd (spec_l6Rd_pick 6 a0b a0p) fun r1 =>
      bnd (spec_l92Block a1 3 (wrapC (1 + r1.1)) true r1.2.1 r1.2.2) fun r2 =>
      bnd (spec_l92Stmts_l1 (.own true) r2.1 r2.2.1 r2.2.2) fun r3 =>
      some (((Md.res r3.1.1), r3.1.2), r3.2.1, r3.2.2) : Option ((Md × List Stm) × List Int × Int)) := by kernel_rfl
    exact fn_le' (sig := s4700) (p := p4700) (by kernel_rfl) (by kernel_rfl) rfl rfl rfl rfl rfl (e.trans h)

theorem spec_l92Program_l1_le (t4 : Int) (t5 : Int) (b0_0 : List Int) (b0_1 : Int) (b100_0b : Bool) (b100_0 : List Int) (b100_1 : Hd) (b101_0 : List Int) (b101_1 : Hd) (b99 : List Ent) : Tv.Le
  ((bif (decide (t5 < t4)) then
  bnd (spec_l92Stmts (b101_0.length : Int) b0_0 b0_1) fun r1 =>
  bnd (arApp b99 .stms b101_1.id b101_1.n ([r1.1.2] : List (List Stm))) fun B2 =>
  spec_l92Program_l1 t4 (wrap64 (t5 + 1)) r1.2.1 r1.2.2 b100_0b b100_0 b100_1 b101_0 (⟨(some (List.length b99)), (b101_1.n + List.length ([r1.1.2] : List (List Stm)))⟩ : Hd) B2
  else
  some (b0_0, b0_1, (b100_0b, b100_0), b100_1, b101_0, b101_1, b99)) : Option (List Int × Int × (Bool × List Int) × Hd × List Int × Hd × List Ent))
  (spec_l92Program_l1 t4 t5 b0_0 b0_1 b100_0b b100_0 b100_1 b101_0 b101_1 b99) := by
  rewrite [← wrapC_eq]
  exact fun r h => by
    have e : runC (phi Tb GT sg) Tb GT p22401.code ((mkST p22401.ins [.bp 0 0, .bp 100 0, .bp 101 0, .int .i64 t4, .int .i64 t5] p22401.bins [.var [.sl .share .u8 b0_0, .int .i64 b0_1], .var [.sl (.own b100_0b) .int b100_0, .tr .stms b100_1.id b100_1.n], .var [.sl .share .int b101_0, .tr .stms b101_1.id b101_1.n], .ar b99])) (finL Tb GT 22401 p22401 s22401) = (
      (bif (decide (t5 < t4)) then
      bnd (spec_l92Stmts (b101_0.length : Int) b0_0 b0_1) fun r1 =>
      bnd (arApp b99 .stms b101_1.id b101_1.n ([r1.1.2] : List (List Stm))) fun B2 =>
      spec_l92Program_l1 t4 (wrapC (t5 + 1)) r1.2.1 r1.2.2 b100_0b b100_0 b100_1 b101_0 (⟨(some (List.length b99)), (b101_1.n + List.length ([r1.1.2] : List (List Stm)))⟩ : Hd) B2
      else
      some (b0_0, b0_1, (b100_0b, b100_0), b100_1, b101_0, b101_1, b99)) : Option (List Int × Int × (Bool × List Int) × Hd × List Int × Hd × List Ent)) := by kernel_rfl
    exact loop_le' (sig := s22401) (p := p22401) (by kernel_rfl) (by kernel_rfl) rfl rfl rfl (e.trans h)

theorem spec_l92Endless_le (a0b : List Int) (a0p : Int) : Tv.Le
  (bnd (spec_l4Leaf 0 1) fun r1 =>
  bnd (spec_l6Rd_pick 2 a0b a0p) fun r2 =>
  bnd (spec_l92Block 0 1 r2.1 false r2.2.1 r2.2.2) fun r3 =>
  some (⟨3, 0, 0, ⟨r1.1, r1.2.1, r1.2.2.2⟩, r3.1, []⟩, r3.2.1, r3.2.2) : Option (Stm × List Int × Int))
  (spec_l92Endless a0b a0p) := by
  exact fun r h => by
    have e : runC (phi Tb GT sg) Tb GT p8700.code (startAT p8700 (mkST p8700.ins [.bp 0 0] p8700.bins [.var [.sl .share .u8 a0b, .int .i64 a0p]])) (finT p8700 s8700) = (
      bnd (spec_l4Leaf 0 1) fun r1 =>
      bnd (spec_l6Rd_pick 2 a0b a0p) fun r2 =>
      bnd (spec_l92Block 0 1 r2.1 false r2.2.1 r2.2.2) fun r3 =>
      some (⟨3, 0, 0, ⟨r1.1, r1.2.1, r1.2.2.2⟩, r3.1, []⟩, r3.2.1, r3.2.2) : Option (Stm × List Int × Int)) := by kernel_rfl
    exact fn_le' (sig := s8700) (p := p8700) (by kernel_rfl) (by kernel_rfl) rfl rfl rfl rfl rfl (e.trans h)

theorem spec_ProgramValid_le (a0 : Prg) : Tv.Le
  (bnd (spec_l12Rooms a0.rooms) fun r1 =>
  (bif (!r1) then
  some false
  else
  bnd (spec_l6In (a0.tasks.length : Int) 1 3) fun r2 =>
  (bif (!r2) then
  some false
  else
  bnd (spec_ProgramValid_l1 0 a0.rooms a0.tasks) fun r3 =>
  selm r3 (fun y4 =>
  some true) (fun z5 =>
  some z5))) : Option (Bool))
  (spec_ProgramValid a0) := by
  exact fun r h => by
    have e : runC (phi Tb GT sg) Tb GT p23300.code (startAT p23300 (mkST p23300.ins [.agg (rowT .prg a0)] p23300.bins [])) (finT p23300 s23300) = (
      bnd (spec_l12Rooms a0.rooms) fun r1 =>
      (bif (!r1) then
      some false
      else
      bnd (spec_l6In (a0.tasks.length : Int) 1 3) fun r2 =>
      (bif (!r2) then
      some false
      else
      bnd (spec_ProgramValid_l1 0 a0.rooms a0.tasks) fun r3 =>
      selm r3 (fun y4 =>
      some true) (fun z5 =>
      some z5))) : Option (Bool)) := by kernel_rfl
    exact fn_le' (sig := s23300) (p := p23300) (by kernel_rfl) (by kernel_rfl) rfl rfl rfl rfl rfl (e.trans h)

theorem spec_l16Empty_le (a0 : List Int) : Tv.Le
  (bnd (spec_l16Empty_l1 a0 true ([] : List Bx) 0) fun r1 =>
  some r1.2 : Option (List Bx))
  (spec_l16Empty a0) := by
  exact fun r h => by
    have e : runC (phi Tb GT sg) Tb GT p23400.code (startAT p23400 (mkST p23400.ins [.sl .share .int a0] p23400.bins [])) (finT p23400 s23400) = (
      bnd (spec_l16Empty_l1 a0 true ([] : List Bx) 0) fun r1 =>
      some r1.2 : Option (List Bx)) := by kernel_rfl
    exact fn_le' (sig := s23400) (p := p23400) (by kernel_rfl) (by kernel_rfl) rfl rfl rfl rfl rfl (e.trans h)

theorem spec_TaskNew_le (a0 : List Stm) : Tv.Le
  (bnd (spec_StmtsValid a0) fun r1 =>
  (bif (!r1) then
  some (⟨[], []⟩, false)
  else
  bnd (spec_l11Copy a0) fun r3 =>
  some (⟨(List.replicate 4 (zeroD .int)), r3⟩, true)) : Option (Tk × Bool))
  (spec_TaskNew a0) := by
  exact fun r h => by
    have e : runC (phi Tb GT sg) Tb GT p9600.code (startAT p9600 (mkST p9600.ins [.sl .share .stm a0] p9600.bins [])) (finT p9600 s9600) = (
      bnd (spec_StmtsValid a0) fun r1 =>
      (bif (!r1) then
      some (⟨[], []⟩, false)
      else
      bnd (spec_l11Copy a0) fun r3 =>
      some (⟨(List.replicate 4 (zeroD .int)), r3⟩, true)) : Option (Tk × Bool)) := by kernel_rfl
    exact fn_le' (sig := s9600) (p := p9600) (by kernel_rfl) (by kernel_rfl) rfl rfl rfl rfl rfl (e.trans h)

theorem spec_WorldNew_l1_le (t5 : Int) (b100_0 : List Int) (b100_1 : List (List Stm)) (b101_0b : Bool) (b101_0 : List Tk) (b101_1b : Bool) (b101_1 : List Bx) (b101_2 : Int) (b101_3 : Int) (b101_4b : Bool) (b101_4 : List Int) (b102_0b : Bool) (b102_0 : List Tk) (b102_1 : List Bx) (b102_2 : Int) (b102_3 : Int) (b102_4b : Bool) (b102_4 : List Int) : Tv.Le
  ((bif (decide (t5 < (b100_1.length : Int))) then
  bnd (geti b100_1 t5) fun e1 =>
  bnd (spec_TaskNew e1) fun r2 =>
  bnd (appL b102_0 ([r2.1] : List Tk)) fun l3 =>
  spec_WorldNew_l1 (wrap64 (t5 + 1)) b100_0 b100_1 b101_0b b101_0 b101_1b b101_1 b101_2 b101_3 b101_4b b101_4 true l3 b102_1 b102_2 b102_3 b102_4b b102_4
  else
  some ((b101_0b, b101_0), (b101_1b, b101_1), b101_2, b101_3, (b101_4b, b101_4), (b102_0b, b102_0), b102_1, b102_2, b102_3, (b102_4b, b102_4))) : Option ((Bool × List Tk) × (Bool × List Bx) × Int × Int × (Bool × List Int) × (Bool × List Tk) × List Bx × Int × Int × (Bool × List Int)))
  (spec_WorldNew_l1 t5 b100_0 b100_1 b101_0b b101_0 b101_1b b101_1 b101_2 b101_3 b101_4b b101_4 b102_0b b102_0 b102_1 b102_2 b102_3 b102_4b b102_4) := by
  rewrite [← wrapC_eq]
  exact fun r h => by
    have e : runC (phi Tb GT sg) Tb GT p23501.code ((mkST p23501.ins [.bp 100 0, .bp 101 0, .bp 102 0, .int .i64 t5] p23501.bins [.var [.sl .share .int b100_0, .sl .share .stms b100_1], .var [.sl (.own b101_0b) .tk b101_0, .sl (.own b101_1b) .bx b101_1, .int .i64 b101_2, .int .i64 b101_3, .sl (.own b101_4b) .int b101_4], .var [.sl (.own b102_0b) .tk b102_0, .sl .share .bx b102_1, .int .i64 b102_2, .int .i64 b102_3, .sl (.own b102_4b) .int b102_4]])) (finL Tb GT 23501 p23501 s23501) = (
      (bif (decide (t5 < (b100_1.length : Int))) then
      bnd (geti b100_1 t5) fun e1 =>
      bnd (spec_TaskNew e1) fun r2 =>
      bnd (appL b102_0 ([r2.1] : List Tk)) fun l3 =>
      spec_WorldNew_l1 (wrapC (t5 + 1)) b100_0 b100_1 b101_0b b101_0 b101_1b b101_1 b101_2 b101_3 b101_4b b101_4 true l3 b102_1 b102_2 b102_3 b102_4b b102_4
      else
      some ((b101_0b, b101_0), (b101_1b, b101_1), b101_2, b101_3, (b101_4b, b101_4), (b102_0b, b102_0), b102_1, b102_2, b102_3, (b102_4b, b102_4))) : Option ((Bool × List Tk) × (Bool × List Bx) × Int × Int × (Bool × List Int) × (Bool × List Tk) × List Bx × Int × Int × (Bool × List Int))) := by kernel_rfl
    exact loop_le' (sig := s23501) (p := p23501) (by kernel_rfl) (by kernel_rfl) rfl rfl rfl (e.trans h)

theorem spec_WorldValid_le (a0 : Wld) : Tv.Le
  (bnd (spec_l6In (a0.tasks.length : Int) 1 3) fun r1 =>
  (bif (!r1) then
  some false
  else
  bnd (spec_l15Boxes a0.boxes) fun r2 =>
  (bif (!r2) then
  some false
  else
  bnd (spec_l6In a0.turn 0 (wrap64 ((a0.tasks.length : Int) - 1))) fun r3 =>
  (bif (!r3) then
  some false
  else
  bnd (spec_l6In a0.idle 0 (a0.tasks.length : Int)) fun r4 =>
  (bif (!r4) then
  some false
  else
  bnd (spec_WorldValid_l1 (a0.tasks.length : Int) 0 a0.tasks a0.boxes a0.turn a0.idle a0.out) fun r5 =>
  selm r5 (fun y6 =>
  bnd (spec_l4Words y6.2.2.2.2 (y6.2.2.2.2.length : Int)) fun r8 =>
  some r8) (fun z7 =>
  some z7.1))))) : Option (Bool))
  (spec_WorldValid a0) := by
  rewrite [← wrapC_eq]
  exact fun r h => by
    have e : runC (phi Tb GT sg) Tb GT p24700.code (startAT p24700 (mkST p24700.ins [.agg (rowT .wld a0)] p24700.bins [])) (finT p24700 s24700) = (
      bnd (spec_l6In (a0.tasks.length : Int) 1 3) fun r1 =>
      (bif (!r1) then
      some false
      else
      bnd (spec_l15Boxes a0.boxes) fun r2 =>
      (bif (!r2) then
      some false
      else
      bnd (spec_l6In a0.turn 0 (wrapC ((a0.tasks.length : Int) - 1))) fun r3 =>
      (bif (!r3) then
      some false
      else
      bnd (spec_l6In a0.idle 0 (a0.tasks.length : Int)) fun r4 =>
      (bif (!r4) then
      some false
      else
      bnd (spec_WorldValid_l1 (a0.tasks.length : Int) 0 a0.tasks a0.boxes a0.turn a0.idle a0.out) fun r5 =>
      selm r5 (fun y6 =>
      bnd (spec_l4Words y6.2.2.2.2 (y6.2.2.2.2.length : Int)) fun r8 =>
      some r8) (fun z7 =>
      some z7.1))))) : Option (Bool)) := by kernel_rfl
    exact fn_le' (sig := s24700) (p := p24700) (by kernel_rfl) (by kernel_rfl) rfl rfl rfl rfl rfl (e.trans h)

theorem spec_l6In_le (a0 : Int) (a1 : Int) (a2 : Int) : Tv.Le
  ((bif (decide (a1 ≤ a0)) then
  some (decide (a0 ≤ a2))
  else
  some false) : Option (Bool))
  (spec_l6In a0 a1 a2) := by
  exact fun r h => by
    have e : runC (phi Tb GT sg) Tb GT p1600.code (startAT p1600 (mkST p1600.ins [.int .i64 a0, .int .i64 a1, .int .i64 a2] p1600.bins [])) (finT p1600 s1600) = (
      (bif (decide (a1 ≤ a0)) then
      some (decide (a0 ≤ a2))
      else
      some false) : Option (Bool)) := by kernel_rfl
    exact fn_le' (sig := s1600) (p := p1600) (by kernel_rfl) (by kernel_rfl) rfl rfl rfl rfl rfl (e.trans h)

theorem spec_l16Copy_le (a0 : Wld) : Tv.Le
  (bnd (spec_l15BoxesCopy a0.boxes) fun r1 =>
  bnd (appL ([] : List Int) a0.out) fun l2 =>
  bnd (spec_l16Copy_l1 0 a0.tasks a0.boxes a0.turn a0.idle a0.out false [] false [] 0 0 false [] false ([] : List Tk) r1 a0.turn a0.idle l2) fun r3 =>
  some (⟨r3.2.2.2.2.2.1.2, r3.2.2.2.2.2.2.1, r3.2.2.2.2.2.2.2.1, r3.2.2.2.2.2.2.2.2.1, r3.2.2.2.2.2.2.2.2.2⟩) : Option (Wld))
  (spec_l16Copy a0) := by
  exact fun r h => by
    have e : runC (phi Tb GT sg) Tb GT p25800.code (startAT p25800 (mkST p25800.ins [.agg (rowT .wld a0)] p25800.bins [])) (finT p25800 s25800) = (
      bnd (spec_l15BoxesCopy a0.boxes) fun r1 =>
      bnd (appL ([] : List Int) a0.out) fun l2 =>
      bnd (spec_l16Copy_l1 0 a0.tasks a0.boxes a0.turn a0.idle a0.out false [] false [] 0 0 false [] false ([] : List Tk) r1 a0.turn a0.idle l2) fun r3 =>
      some (⟨r3.2.2.2.2.2.1.2, r3.2.2.2.2.2.2.1, r3.2.2.2.2.2.2.2.1, r3.2.2.2.2.2.2.2.2.1, r3.2.2.2.2.2.2.2.2.2⟩) : Option (Wld)) := by kernel_rfl
    exact fn_le' (sig := s25800) (p := p25800) (by kernel_rfl) (by kernel_rfl) rfl rfl rfl rfl rfl (e.trans h)

theorem spec_l17Event_le (a0 : Wld) : Tv.Le
  (bnd (geti a0.tasks a0.turn) fun e1 =>
  bnd (spec_TaskStep e1 a0.boxes) fun r2 =>
  (bif (!decide (r2.2.2.2 = 1)) then
  some ([] : List Evt)
  else
  bnd (geti e1.rest 0) fun e3 =>
  (bif (decide (e3.kind = 4)) then
  bnd (spec_l4Eval (⟨e3.e.op, e3.e.n, e3.e.args⟩ : Exp) e1.vars) fun r4 =>
  some ([⟨a0.turn, 1, e3.box, r4⟩] : List Evt)
  else
  (bif (decide (e3.kind = 5)) then
  bnd (geti a0.boxes e3.box) fun e5 =>
  bnd (geti e5.items 0) fun e6 =>
  some ([⟨a0.turn, 2, e3.box, e6⟩] : List Evt)
  else
  (bif (decide (e3.kind = 7)) then
  bnd (geti r2.2.2.1 0) fun e7 =>
  some ([⟨a0.turn, 3, 0, e7⟩] : List Evt)
  else
  some ([] : List Evt))))) : Option (List Evt))
  (spec_l17Event a0) := by
  exact fun r h => by
    have e : runC (phi Tb GT sg) Tb GT p27100.code (startAT p27100 (mkST p27100.ins [.agg (rowT .wld a0)] p27100.bins [])) (finT p27100 s27100) = (
      bnd (geti a0.tasks a0.turn) fun e1 =>
      bnd (spec_TaskStep e1 a0.boxes) fun r2 =>
      (bif (!decide (r2.2.2.2 = 1)) then
      some ([] : List Evt)
      else
      bnd (geti e1.rest 0) fun e3 =>
      (bif (decide (e3.kind = 4)) then
      bnd (spec_l4Eval (⟨e3.e.op, e3.e.n, e3.e.args⟩ : Exp) e1.vars) fun r4 =>
      some ([⟨a0.turn, 1, e3.box, r4⟩] : List Evt)
      else
      (bif (decide (e3.kind = 5)) then
      bnd (geti a0.boxes e3.box) fun e5 =>
      bnd (geti e5.items 0) fun e6 =>
      some ([⟨a0.turn, 2, e3.box, e6⟩] : List Evt)
      else
      (bif (decide (e3.kind = 7)) then
      bnd (geti r2.2.2.1 0) fun e7 =>
      some ([⟨a0.turn, 3, 0, e7⟩] : List Evt)
      else
      some ([] : List Evt))))) : Option (List Evt)) := by kernel_rfl
    exact fn_le' (sig := s27100) (p := p27100) (by kernel_rfl) (by kernel_rfl) rfl rfl rfl rfl rfl (e.trans h)

theorem spec_l16Step_le (a0 : Wld) : Tv.Le
  (bnd (spec_l16Copy_t a0 ([] : List Ent)) fun r1 =>
  bnd (geti a0.tasks a0.turn) fun e2 =>
  bnd (spec_TaskStep e2 a0.boxes) fun r3 =>
  bnd (idxN r1.1.n a0.turn) fun i4 =>
  bnd (arRow r1.2.2.2.2.2 .tk r1.1.id i4) fun e5 =>
  bnd (arApp (arSet r1.2.2.2.2.2 .tk r1.1.id i4 r3.1) .int r1.2.2.2.2.1.id r1.2.2.2.2.1.n r3.2.2.1) fun B6 =>
  bnd (spec_NextTurn (a0.tasks.length : Int) a0.turn a0.idle r3.2.2.2) fun r7 =>
  bnd (arView B6 .tk r1.1.id) fun l8 =>
  bnd (arView B6 .int (some (List.length (arSet r1.2.2.2.2.2 .tk r1.1.id i4 r3.1)))) fun l9 =>
  some (⟨l8, r3.2.1, r7.1, r7.2.1, l9⟩) : Option (Wld))
  (spec_l16Step a0) := by
  exact fun r h => by
    have e : runC (phi Tb GT sg) Tb GT p27200.code (startAT p27200 (mkST p27200.ins [.agg (rowT .wld a0)] p27200.bins [])) (finT p27200 s27200) = (
      bnd (spec_l16Copy_t a0 ([] : List Ent)) fun r1 =>
      bnd (geti a0.tasks a0.turn) fun e2 =>
      bnd (spec_TaskStep e2 a0.boxes) fun r3 =>
      bnd (idxN r1.1.n a0.turn) fun i4 =>
      bnd (arRow r1.2.2.2.2.2 .tk r1.1.id i4) fun e5 =>
      bnd (arApp (arSet r1.2.2.2.2.2 .tk r1.1.id i4 r3.1) .int r1.2.2.2.2.1.id r1.2.2.2.2.1.n r3.2.2.1) fun B6 =>
      bnd (spec_NextTurn (a0.tasks.length : Int) a0.turn a0.idle r3.2.2.2) fun r7 =>
      bnd (arView B6 .tk r1.1.id) fun l8 =>
      bnd (arView B6 .int (some (List.length (arSet r1.2.2.2.2.2 .tk r1.1.id i4 r3.1)))) fun l9 =>
      some (⟨l8, r3.2.1, r7.1, r7.2.1, l9⟩) : Option (Wld)) := by kernel_rfl
    exact fn_le' (sig := s27200) (p := p27200) (by kernel_rfl) (by kernel_rfl) rfl rfl rfl rfl rfl (e.trans h)

theorem spec_WorldTrace_p_l1_le (t1 : Int) (t6 : Hd) (t8 : Int) (b101_0 : List Tk) (b101_1 : List Bx) (b101_2 : Int) (b101_3 : Int) (b101_4 : List Int) (b99 : List Ent) : Tv.Le
  ((bif (decide (t8 < t1)) then
  (bif (decide (b101_3 < (b101_0.length : Int))) then
  bnd (spec_l17Event (⟨b101_0, b101_1, b101_2, b101_3, b101_4⟩ : Wld)) fun r1 =>
  bnd (arApp b99 .event t6.id t6.n r1) fun B2 =>
  bnd (spec_l16Step (⟨b101_0, b101_1, b101_2, b101_3, b101_4⟩ : Wld)) fun r3 =>
  spec_WorldTrace_p_l1 t1 (⟨(some (List.length b99)), (t6.n + List.length r1)⟩ : Hd) (wrap64 (t8 + 1)) r3.tasks r3.boxes r3.turn r3.idle r3.out B2
  else
  some (t6, b99))
  else
  some (t6, b99)) : Option (Hd × List Ent))
  (spec_WorldTrace_p_l1 t1 t6 t8 b101_0 b101_1 b101_2 b101_3 b101_4 b99) := by
  rewrite [← wrapC_eq]
  exact fun r h => by
    have e : runC (phi Tb GT sg) Tb GT p40001.code ((mkST p40001.ins [.int .i64 t1, .tr .event t6.id t6.n, .bp 101 0, .int .i64 t8] p40001.bins [.var [.sl .share .tk b101_0, .sl .share .bx b101_1, .int .i64 b101_2, .int .i64 b101_3, .sl .share .int b101_4], .ar b99])) (finL Tb GT 40001 p40001 s40001) = (
      (bif (decide (t8 < t1)) then
      (bif (decide (b101_3 < (b101_0.length : Int))) then
      bnd (spec_l17Event (⟨b101_0, b101_1, b101_2, b101_3, b101_4⟩ : Wld)) fun r1 =>
      bnd (arApp b99 .event t6.id t6.n r1) fun B2 =>
      bnd (spec_l16Step (⟨b101_0, b101_1, b101_2, b101_3, b101_4⟩ : Wld)) fun r3 =>
      spec_WorldTrace_p_l1 t1 (⟨(some (List.length b99)), (t6.n + List.length r1)⟩ : Hd) (wrapC (t8 + 1)) r3.tasks r3.boxes r3.turn r3.idle r3.out B2
      else
      some (t6, b99))
      else
      some (t6, b99)) : Option (Hd × List Ent)) := by kernel_rfl
    exact loop_le' (sig := s40001) (p := p40001) (by kernel_rfl) (by kernel_rfl) rfl rfl rfl (e.trans h)

theorem spec_l92Rooms_l1_le (t3b : Bool) (t3 : List Int) (t4 : Int) (t5 : Int) (b0_0 : List Int) (b0_1 : Int) : Tv.Le
  ((bif (decide (t5 < t4)) then
  bnd (spec_l6Rd_pick 5 b0_0 b0_1) fun r1 =>
  bnd (geti ([1, 1, 2, 3, 4] : List Int) r1.1) fun e2 =>
  bnd (appL t3 ([e2] : List Int)) fun l3 =>
  spec_l92Rooms_l1 true l3 t4 (wrap64 (t5 + 1)) r1.2.1 r1.2.2
  else
  some ((t3b, t3), b0_0, b0_1)) : Option ((Bool × List Int) × List Int × Int))
  (spec_l92Rooms_l1 t3b t3 t4 t5 b0_0 b0_1) := by
  rewrite [← wrapC_eq]
  exact fun r h => by
    have e : runC (phi Tb GT sg) Tb GT p22301.code ((mkST p22301.ins [.bp 0 0, .sl (.own t3b) .int t3, .int .i64 t4, .int .i64 t5] p22301.bins [.var [.sl .share .u8 b0_0, .int .i64 b0_1]])) (finL Tb GT 22301 p22301 s22301) = (
      (bif (decide (t5 < t4)) then
      bnd (spec_l6Rd_pick 5 b0_0 b0_1) fun r1 =>
      bnd (geti ([1, 1, 2, 3, 4] : List Int) r1.1) fun e2 =>
      bnd (appL t3 ([e2] : List Int)) fun l3 =>
      spec_l92Rooms_l1 true l3 t4 (wrapC (t5 + 1)) r1.2.1 r1.2.2
      else
      some ((t3b, t3), b0_0, b0_1)) : Option ((Bool × List Int) × List Int × Int)) := by kernel_rfl
    exact loop_le' (sig := s22301) (p := p22301) (by kernel_rfl) (by kernel_rfl) rfl rfl rfl (e.trans h)

theorem spec_l92Block_le (a1 : Int) (a2 : Int) (a3 : Int) (a4 : Bool) (a0b : List Int) (a0p : Int) : Tv.Le
  (bnd (spec_l92Block_l1 a1 a2 a3 a4 true ([] : List Stm) 0 a0b a0p) fun r1 =>
  some (r1.1.2, r1.2.1, r1.2.2) : Option (List Stm × List Int × Int))
  (spec_l92Block a1 a2 a3 a4 a0b a0p) := by
  exact fun r h => by
    have e : runC (phi Tb GT sg) Tb GT p4600.code (startAT p4600 (mkST p4600.ins [.bp 0 0, .int .i64 a1, .int .i64 a2, .int .i64 a3, .bool a4] p4600.bins [.var [.sl .share .u8 a0b, .int .i64 a0p]])) (finT p4600 s4600) = (
      bnd (spec_l92Block_l1 a1 a2 a3 a4 true ([] : List Stm) 0 a0b a0p) fun r1 =>
      some (r1.1.2, r1.2.1, r1.2.2) : Option (List Stm × List Int × Int)) := by kernel_rfl
    exact fn_le' (sig := s4600) (p := p4600) (by kernel_rfl) (by kernel_rfl) rfl rfl rfl rfl rfl (e.trans h)

theorem spec_l11Count_le (a0 : List Stm) : Tv.Le
  (bnd (spec_l11Count_l1 a0 0 0) fun r1 =>
  some r1 : Option (Int))
  (spec_l11Count a0) := by
  exact fun r h => by
    have e : runC (phi Tb GT sg) Tb GT p4000.code (startAT p4000 (mkST p4000.ins [.sl .share .stm a0] p4000.bins [])) (finT p4000 s4000) = (
      bnd (spec_l11Count_l1 a0 0 0) fun r1 =>
      some r1 : Option (Int)) := by kernel_rfl
    exact fn_le' (sig := s4000) (p := p4000) (by kernel_rfl) (by kernel_rfl) rfl rfl rfl rfl rfl (e.trans h)

theorem spec_l92Stmts_l1_le (t5m : Md) (t5 : List Stm) (b0_0 : List Int) (b0_1 : Int) : Tv.Le
  (bnd (spec_l11Count t5) fun r1 =>
  (bif (decide (16 < r1)) then
  bnd (cutL t5 0 (wrap64 ((t5.length : Int) - 1))) fun l2 =>
  spec_l92Stmts_l1 .share l2 b0_0 b0_1
  else
  some ((t5m, t5), b0_0, b0_1)) : Option ((Md × List Stm) × List Int × Int))
  (spec_l92Stmts_l1 t5m t5 b0_0 b0_1) := by
  rewrite [← wrapC_eq]
  exact fun r h => by
    have e : runC (phi Tb GT sg) Tb GT p4701.code ((mkST p4701.ins [.bp 0 0, .sl t5m .stm t5] p4701.bins [.var [.sl .share .u8 b0_0, .int .i64 b0_1]])) (finL Tb GT 4701 p4701 s4701) = (
      bnd (spec_l11Count t5) fun r1 =>
      (bif (decide (16 < r1)) then
      bnd (cutL t5 0 (wrapC ((t5.length : Int) - 1))) fun l2 =>
      spec_l92Stmts_l1 .share l2 b0_0 b0_1
      else
      some ((t5m, t5), b0_0, b0_1)) : Option ((Md × List Stm) × List Int × Int)) := by kernel_rfl
    exact loop_le' (sig := s4701) (p := p4701) (by kernel_rfl) (by kernel_rfl) rfl rfl rfl (e.trans h)

theorem spec_l4Leaf_le (a0 : Int) (a1 : Int) : Tv.Le
  (some (a0, a1, ((.own false), ([] : List Exp))) : Option (Int × Int × (Md × List Exp)))
  (spec_l4Leaf a0 a1) := by
  exact fun r h => by
    have e : runC (phi Tb GT sg) Tb GT p300.code (startAT p300 (mkST p300.ins [.int .i64 a0, .int .i64 a1] p300.bins [])) (finT p300 s300) = (
      some (a0, a1, ((.own false), ([] : List Exp))) : Option (Int × Int × (Md × List Exp))) := by kernel_rfl
    exact fn_le' (sig := s300) (p := p300) (by kernel_rfl) (by kernel_rfl) rfl rfl rfl rfl rfl (e.trans h)

theorem spec_l12Rooms_le (a0 : List Int) : Tv.Le
  (bnd (spec_l12Rooms_l1 a0 0) fun r1 =>
  selm r1 (fun y2 =>
  some (decide ((y2.length : Int) ≤ 3))) (fun z3 =>
  some z3.2) : Option (Bool))
  (spec_l12Rooms a0) := by
  exact fun r h => by
    have e : runC (phi Tb GT sg) Tb GT p23200.code (startAT p23200 (mkST p23200.ins [.sl .share .int a0] p23200.bins [])) (finT p23200 s23200) = (
      bnd (spec_l12Rooms_l1 a0 0) fun r1 =>
      selm r1 (fun y2 =>
      some (decide ((y2.length : Int) ≤ 3))) (fun z3 =>
      some z3.2) : Option (Bool)) := by kernel_rfl
    exact fn_le' (sig := s23200) (p := p23200) (by kernel_rfl) (by kernel_rfl) rfl rfl rfl rfl rfl (e.trans h)

theorem spec_StmtsValid_le (a0 : List Stm) : Tv.Le
  (bnd (spec_l11Blocks a0 3) fun r1 =>
  (bif r1 then
  bnd (spec_l11Count a0) fun r2 =>
  some (decide (r2 ≤ 16))
  else
  some false) : Option (Bool))
  (spec_StmtsValid a0) := by
  exact fun r h => by
    have e : runC (phi Tb GT sg) Tb GT p6300.code (startAT p6300 (mkST p6300.ins [.sl .share .stm a0] p6300.bins [])) (finT p6300 s6300) = (
      bnd (spec_l11Blocks a0 3) fun r1 =>
      (bif r1 then
      bnd (spec_l11Count a0) fun r2 =>
      some (decide (r2 ≤ 16))
      else
      some false) : Option (Bool)) := by kernel_rfl
    exact fn_le' (sig := s6300) (p := p6300) (by kernel_rfl) (by kernel_rfl) rfl rfl rfl rfl rfl (e.trans h)

theorem spec_l12Boxes_le (a0 : List Stm) (a1 : Int) : Tv.Le
  (bnd (spec_l12Boxes_l1 a0 a1 0) fun r1 =>
  selm r1 (fun y2 =>
  some true) (fun z3 =>
  some z3) : Option (Bool))
  (spec_l12Boxes a0 a1) := by
  exact fun r h => by
    have e : runC (phi Tb GT sg) Tb GT p23100.code (startAT p23100 (mkST p23100.ins [.sl .share .stm a0, .int .i64 a1] p23100.bins [])) (finT p23100 s23100) = (
      bnd (spec_l12Boxes_l1 a0 a1 0) fun r1 =>
      selm r1 (fun y2 =>
      some true) (fun z3 =>
      some z3) : Option (Bool)) := by kernel_rfl
    exact fn_le' (sig := s23100) (p := p23100) (by kernel_rfl) (by kernel_rfl) rfl rfl rfl rfl rfl (e.trans h)

theorem spec_ProgramValid_l1_le (t3 : Int) (b100_0 : List Int) (b100_1 : List (List Stm)) : Tv.Le
  ((bif (decide (t3 < (b100_1.length : Int))) then
  bnd (geti b100_1 t3) fun e1 =>
  bnd (spec_StmtsValid e1) fun r2 =>
  (bif (!r2) then
  some (.inr false)
  else
  bnd (geti b100_1 t3) fun e3 =>
  bnd (spec_l12Boxes e3 (b100_0.length : Int)) fun r4 =>
  (bif (!r4) then
  some (.inr false)
  else
  spec_ProgramValid_l1 (wrap64 (t3 + 1)) b100_0 b100_1))
  else
  some (.inl ())) : Option (Unit ⊕ Bool))
  (spec_ProgramValid_l1 t3 b100_0 b100_1) := by
  rewrite [← wrapC_eq]
  exact fun r h => by
    have e : runC (phi Tb GT sg) Tb GT p23301.code ((mkST p23301.ins [.bp 100 0, .int .i64 t3] p23301.bins [.var [.sl .share .int b100_0, .sl .share .stms b100_1]])) (finL Tb GT 23301 p23301 s23301) = (
      (bif (decide (t3 < (b100_1.length : Int))) then
      bnd (geti b100_1 t3) fun e1 =>
      bnd (spec_StmtsValid e1) fun r2 =>
      (bif (!r2) then
      some (.inr false)
      else
      bnd (geti b100_1 t3) fun e3 =>
      bnd (spec_l12Boxes e3 (b100_0.length : Int)) fun r4 =>
      (bif (!r4) then
      some (.inr false)
      else
      spec_ProgramValid_l1 (wrapC (t3 + 1)) b100_0 b100_1))
      else
      some (.inl ())) : Option (Unit ⊕ Bool)) := by kernel_rfl
    exact loop_le' (sig := s23301) (p := p23301) (by kernel_rfl) (by kernel_rfl) rfl rfl rfl (e.trans h)

theorem spec_l16Empty_l1_le (t0 : List Int) (t3b : Bool) (t3 : List Bx) (t4 : Int) : Tv.Le
  ((bif (decide (t4 < (t0.length : Int))) then
  bnd (geti t0 t4) fun e1 =>
  bnd (appL t3 ([⟨e1, ([] : List Int)⟩] : List Bx)) fun l2 =>
  spec_l16Empty_l1 t0 true l2 (wrap64 (t4 + 1))
  else
  some (t3b, t3)) : Option ((Bool × List Bx)))
  (spec_l16Empty_l1 t0 t3b t3 t4) := by
  rewrite [← wrapC_eq]
  exact fun r h => by
    have e : runC (phi Tb GT sg) Tb GT p23401.code ((mkST p23401.ins [.sl .share .int t0, .sl (.own t3b) .bx t3, .int .i64 t4] p23401.bins [])) (finL Tb GT 23401 p23401 s23401) = (
      (bif (decide (t4 < (t0.length : Int))) then
      bnd (geti t0 t4) fun e1 =>
      bnd (appL t3 ([⟨e1, ([] : List Int)⟩] : List Bx)) fun l2 =>
      spec_l16Empty_l1 t0 true l2 (wrapC (t4 + 1))
      else
      some (t3b, t3)) : Option ((Bool × List Bx))) := by kernel_rfl
    exact loop_le' (sig := s23401) (p := p23401) (by kernel_rfl) (by kernel_rfl) rfl rfl rfl (e.trans h)

theorem spec_l11Copy_le (a0 : List Stm) : Tv.Le
  (bnd (spec_l11Copy_l1 a0 true ([] : List Stm) 0) fun r1 =>
  some r1.2 : Option (List Stm))
  (spec_l11Copy a0) := by
  exact fun r h => by
    have e : runC (phi Tb GT sg) Tb GT p9500.code (startAT p9500 (mkST p9500.ins [.sl .share .stm a0] p9500.bins [])) (finT p9500 s9500) = (
      bnd (spec_l11Copy_l1 a0 true ([] : List Stm) 0) fun r1 =>
      some r1.2 : Option (List Stm)) := by kernel_rfl
    exact fn_le' (sig := s9500) (p := p9500) (by kernel_rfl) (by kernel_rfl) rfl rfl rfl rfl rfl (e.trans h)

theorem spec_l15Boxes_le (a0 : List Bx) : Tv.Le
  (bnd (spec_l15Boxes_l1 a0 0) fun r1 =>
  selm r1 (fun y2 =>
  some (decide ((y2.length : Int) ≤ 3))) (fun z3 =>
  some z3.2) : Option (Bool))
  (spec_l15Boxes a0) := by
  exact fun r h => by
    have e : runC (phi Tb GT sg) Tb GT p24600.code (startAT p24600 (mkST p24600.ins [.sl .share .bx a0] p24600.bins [])) (finT p24600 s24600) = (
      bnd (spec_l15Boxes_l1 a0 0) fun r1 =>
      selm r1 (fun y2 =>
      some (decide ((y2.length : Int) ≤ 3))) (fun z3 =>
      some z3.2) : Option (Bool)) := by kernel_rfl
    exact fn_le' (sig := s24600) (p := p24600) (by kernel_rfl) (by kernel_rfl) rfl rfl rfl rfl rfl (e.trans h)

theorem spec_TaskValid_le (a0 : Tk) : Tv.Le
  (bnd (spec_TaskValid_l1 0 a0.vars a0.rest) fun r1 =>
  selm r1 (fun y2 =>
  bnd (spec_l4Words y2.1 4) fun r4 =>
  some r4) (fun z3 =>
  some z3.1) : Option (Bool))
  (spec_TaskValid a0) := by
  exact fun r h => by
    have e : runC (phi Tb GT sg) Tb GT p6600.code (startAT p6600 (mkST p6600.ins [.agg (rowT .tk a0)] p6600.bins [])) (finT p6600 s6600) = (
      bnd (spec_TaskValid_l1 0 a0.vars a0.rest) fun r1 =>
      selm r1 (fun y2 =>
      bnd (spec_l4Words y2.1 4) fun r4 =>
      some r4) (fun z3 =>
      some z3.1) : Option (Bool)) := by kernel_rfl
    exact fn_le' (sig := s6600) (p := p6600) (by kernel_rfl) (by kernel_rfl) rfl rfl rfl rfl rfl (e.trans h)

theorem spec_WorldValid_l1_le (t3 : Int) (t4 : Int) (b100_0 : List Tk) (b100_1 : List Bx) (b100_2 : Int) (b100_3 : Int) (b100_4 : List Int) : Tv.Le
  ((bif (decide (t4 < t3)) then
  bnd (geti b100_0 t4) fun e1 =>
  bnd (spec_TaskValid e1) fun r2 =>
  (bif (!r2) then
  some (.inr (false, b100_0, b100_1, b100_2, b100_3, b100_4))
  else
  bnd (geti b100_0 t4) fun e3 =>
  bnd (spec_l12Boxes e3.rest (b100_1.length : Int)) fun r4 =>
  (bif (!r4) then
  some (.inr (false, b100_0, b100_1, b100_2, b100_3, b100_4))
  else
  spec_WorldValid_l1 t3 (wrap64 (t4 + 1)) b100_0 b100_1 b100_2 b100_3 b100_4))
  else
  some (.inl (b100_0, b100_1, b100_2, b100_3, b100_4))) : Option ((List Tk × List Bx × Int × Int × List Int) ⊕ (Bool × List Tk × List Bx × Int × Int × List Int)))
  (spec_WorldValid_l1 t3 t4 b100_0 b100_1 b100_2 b100_3 b100_4) := by
  rewrite [← wrapC_eq]
  exact fun r h => by
    have e : runC (phi Tb GT sg) Tb GT p24701.code ((mkST p24701.ins [.bp 100 0, .int .i64 t3, .int .i64 t4] p24701.bins [.var [.sl .share .tk b100_0, .sl .share .bx b100_1, .int .i64 b100_2, .int .i64 b100_3, .sl .share .int b100_4]])) (finL Tb GT 24701 p24701 s24701) = (
      (bif (decide (t4 < t3)) then
      bnd (geti b100_0 t4) fun e1 =>
      bnd (spec_TaskValid e1) fun r2 =>
      (bif (!r2) then
      some (.inr (false, b100_0, b100_1, b100_2, b100_3, b100_4))
      else
      bnd (geti b100_0 t4) fun e3 =>
      bnd (spec_l12Boxes e3.rest (b100_1.length : Int)) fun r4 =>
      (bif (!r4) then
      some (.inr (false, b100_0, b100_1, b100_2, b100_3, b100_4))
      else
      spec_WorldValid_l1 t3 (wrapC (t4 + 1)) b100_0 b100_1 b100_2 b100_3 b100_4))
      else
      some (.inl (b100_0, b100_1, b100_2, b100_3, b100_4))) : Option ((List Tk × List Bx × Int × Int × List Int) ⊕ (Bool × List Tk × List Bx × Int × Int × List Int))) := by kernel_rfl
    exact loop_le' (sig := s24701) (p := p24701) (by kernel_rfl) (by kernel_rfl) rfl rfl rfl (e.trans h)

end Go.TFnTraceParts
