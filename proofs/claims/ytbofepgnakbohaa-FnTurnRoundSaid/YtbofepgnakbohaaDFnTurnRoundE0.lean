import Derived.Test.YtbofepgnakbohaaDFnTurnRoundP
import Derived.KernelRfl
set_option linter.unusedVariables false
namespace Go.TFnTurnRound
open Go Go.RowKit Go.Vs Go.Tv
theorem laws_FnTurnRound_le (a0 : List Int) : Tv.Le
  ((bif (decide (1048576 < (a0.length : Int))) then
  some true
  else
  bnd (spec_DrawNextTurn a0) fun r1 =>
  bnd (impl_NextTurn r1.1 r1.2.1 r1.2.2.1 r1.2.2.2) fun r2 =>
  bnd (spec_NextTurn r1.1 r1.2.1 r1.2.2.1 r1.2.2.2) fun r3 =>
  (bif (!(r2.2.2 == r3.2.2)) then
  (bif (r2.2.2 == r3.2.2) then
  (bif (decide (r2.2.1 = r3.2.1)) then
  some (decide (r2.1 = r3.1))
  else
  some false)
  else
  some false)
  else
  (bif (!decide (r2.2.1 = r3.2.1)) then
  (bif (r2.2.2 == r3.2.2) then
  (bif (decide (r2.2.1 = r3.2.1)) then
  some (decide (r2.1 = r3.1))
  else
  some false)
  else
  some false)
  else
  (bif (!decide (r2.1 = r3.1)) then
  (bif (r2.2.2 == r3.2.2) then
  (bif (decide (r2.2.1 = r3.2.1)) then
  some (decide (r2.1 = r3.1))
  else
  some false)
  else
  some false)
  else
  (bif (!r2.2.2) then
  (bif (r2.2.2 == r3.2.2) then
  (bif (decide (r2.2.1 = r3.2.1)) then
  some (decide (r2.1 = r3.1))
  else
  some false)
  else
  some false)
  else
  bnd (laws_FnTurnRound_l1 r1.1 r1.2.1 r1.2.1 0 0) fun r4 =>
  selm r4 (fun y5 =>
  bnd (impl_NextTurn y5.1 y5.2.2.1 y5.2.2.2 3) fun r7 =>
  (bif (decide (y5.2.2.1 = y5.2.1)) then
  (bif (decide (y5.2.2.2 = y5.1)) then
  some (!r7.2.2)
  else
  some false)
  else
  some false)) (fun z6 =>
  some z6.1)))))) : Option (Bool))
  (laws_FnTurnRound a0) := fun r h => by
  have e : runC (phi Tb GT sg) Tb GT p11700.code (mkST p11700.ins [.sl .share .u8 a0] p11700.bins []) (finT p11700 s11700) = (
  (bif (decide (1048576 < (a0.length : Int))) then
  some true
  else
  bnd (spec_DrawNextTurn a0) fun r1 =>
  bnd (impl_NextTurn r1.1 r1.2.1 r1.2.2.1 r1.2.2.2) fun r2 =>
  bnd (spec_NextTurn r1.1 r1.2.1 r1.2.2.1 r1.2.2.2) fun r3 =>
  (bif (!(r2.2.2 == r3.2.2)) then
  (bif (r2.2.2 == r3.2.2) then
  (bif (decide (r2.2.1 = r3.2.1)) then
  some (decide (r2.1 = r3.1))
  else
  some false)
  else
  some false)
  else
  (bif (!decide (r2.2.1 = r3.2.1)) then
  (bif (r2.2.2 == r3.2.2) then
  (bif (decide (r2.2.1 = r3.2.1)) then
  some (decide (r2.1 = r3.1))
  else
  some false)
  else
  some false)
  else
  (bif (!decide (r2.1 = r3.1)) then
  (bif (r2.2.2 == r3.2.2) then
  (bif (decide (r2.2.1 = r3.2.1)) then
  some (decide (r2.1 = r3.1))
  else
  some false)
  else
  some false)
  else
  (bif (!r2.2.2) then
  (bif (r2.2.2 == r3.2.2) then
  (bif (decide (r2.2.1 = r3.2.1)) then
  some (decide (r2.1 = r3.1))
  else
  some false)
  else
  some false)
  else
  bnd (laws_FnTurnRound_l1 r1.1 r1.2.1 r1.2.1 0 0) fun r4 =>
  selm r4 (fun y5 =>
  bnd (impl_NextTurn y5.1 y5.2.2.1 y5.2.2.2 3) fun r7 =>
  (bif (decide (y5.2.2.1 = y5.2.1)) then
  (bif (decide (y5.2.2.2 = y5.1)) then
  some (!r7.2.2)
  else
  some false)
  else
  some false)) (fun z6 =>
  some z6.1)))))) : Option (Bool)) := by kernel_rfl
  exact fn_le' (sig := s11700) (p := p11700) (by kernel_rfl) (by kernel_rfl) rfl rfl rfl (e.trans h)

theorem spec_DrawNextTurn_le (a0 : List Int) : Tv.Le
  (bnd (spec_l6Open a0) fun r1 =>
  bnd (spec_l6Rd_pick 3 r1.1 r1.2) fun r2 =>
  bnd (spec_l6Rd_pick (wrap64 (1 + r2.1)) r2.2.1 r2.2.2) fun r3 =>
  bnd (spec_l6Rd_pick (wrap64 (1 + r2.1)) r3.2.1 r3.2.2) fun r4 =>
  bnd (spec_l6Rd_pick 4 r4.2.1 r4.2.2) fun r5 =>
  bnd (spec_l6Rd_pick 24 r5.2.1 r5.2.2) fun r6 =>
  (bif (decide (r6.1 = 0)) then
  bnd (spec_l6Rd_pick 2 r6.2.1 r6.2.2) fun r7 =>
  bnd (geti ([0, 4] : List Int) r7.1) fun e8 =>
  some (e8, r3.1, r4.1, (wrap64 (1 + r5.1)))
  else
  (bif (decide (r6.1 = 1)) then
  some ((wrap64 (1 + r2.1)), (wrap64 (1 + r2.1)), r4.1, (wrap64 (1 + r5.1)))
  else
  (bif (decide (r6.1 = 2)) then
  some ((wrap64 (1 + r2.1)), r3.1, (wrap64 (1 + r2.1)), (wrap64 (1 + r5.1)))
  else
  (bif (decide (r6.1 = 3)) then
  bnd (spec_l6Rd_pick 2 r6.2.1 r6.2.2) fun r9 =>
  bnd (geti ([0, 5] : List Int) r9.1) fun e10 =>
  some ((wrap64 (1 + r2.1)), r3.1, r4.1, e10)
  else
  some ((wrap64 (1 + r2.1)), r3.1, r4.1, (wrap64 (1 + r5.1))))))) : Option (Int × Int × Int × Int))
  (spec_DrawNextTurn a0) := fun r h => by
  have e : runC (phi Tb GT sg) Tb GT p11500.code (mkST p11500.ins [.sl .share .u8 a0] p11500.bins []) (finT p11500 s11500) = (
  bnd (spec_l6Open a0) fun r1 =>
  bnd (spec_l6Rd_pick 3 r1.1 r1.2) fun r2 =>
  bnd (spec_l6Rd_pick (wrap64 (1 + r2.1)) r2.2.1 r2.2.2) fun r3 =>
  bnd (spec_l6Rd_pick (wrap64 (1 + r2.1)) r3.2.1 r3.2.2) fun r4 =>
  bnd (spec_l6Rd_pick 4 r4.2.1 r4.2.2) fun r5 =>
  bnd (spec_l6Rd_pick 24 r5.2.1 r5.2.2) fun r6 =>
  (bif (decide (r6.1 = 0)) then
  bnd (spec_l6Rd_pick 2 r6.2.1 r6.2.2) fun r7 =>
  bnd (geti ([0, 4] : List Int) r7.1) fun e8 =>
  some (e8, r3.1, r4.1, (wrap64 (1 + r5.1)))
  else
  (bif (decide (r6.1 = 1)) then
  some ((wrap64 (1 + r2.1)), (wrap64 (1 + r2.1)), r4.1, (wrap64 (1 + r5.1)))
  else
  (bif (decide (r6.1 = 2)) then
  some ((wrap64 (1 + r2.1)), r3.1, (wrap64 (1 + r2.1)), (wrap64 (1 + r5.1)))
  else
  (bif (decide (r6.1 = 3)) then
  bnd (spec_l6Rd_pick 2 r6.2.1 r6.2.2) fun r9 =>
  bnd (geti ([0, 5] : List Int) r9.1) fun e10 =>
  some ((wrap64 (1 + r2.1)), r3.1, r4.1, e10)
  else
  some ((wrap64 (1 + r2.1)), r3.1, r4.1, (wrap64 (1 + r5.1))))))) : Option (Int × Int × Int × Int)) := by kernel_rfl
  exact fn_le' (sig := s11500) (p := p11500) (by kernel_rfl) (by kernel_rfl) rfl rfl rfl (e.trans h)

theorem impl_NextTurn_le (a0 : Int) (a1 : Int) (a2 : Int) (a3 : Int) : Tv.Le
  ((bif (decide (a0 < 1)) then
  some (0, 0, false)
  else
  (bif (decide (3 < a0)) then
  some (0, 0, false)
  else
  (bif (decide (a1 < 0)) then
  some (0, 0, false)
  else
  (bif (decide (a0 ≤ a1)) then
  some (0, 0, false)
  else
  (bif (decide (a2 < 0)) then
  some (0, 0, false)
  else
  (bif (decide (a0 ≤ a2)) then
  some (0, 0, false)
  else
  (bif (decide (a3 = 1)) then
  some (a1, 0, true)
  else
  (bif (decide (a3 = 2)) then
  bnd (remI (wrap64 (a1 + 1)) a0) fun n1 =>
  some (n1, 0, true)
  else
  (bif (decide (a3 = 3)) then
  bnd (remI (wrap64 (a1 + 1)) a0) fun n2 =>
  some (n2, (wrap64 (a2 + 1)), true)
  else
  (bif (decide (a3 = 4)) then
  bnd (remI (wrap64 (a1 + 1)) a0) fun n3 =>
  some (n3, (wrap64 (a2 + 1)), true)
  else
  some (0, 0, false))))))))))) : Option (Int × Int × Bool))
  (impl_NextTurn a0 a1 a2 a3) := fun r h => by
  have e : runC (phi Tb GT sg) Tb GT p11300.code (mkST p11300.ins [.int .i64 a0, .int .i64 a1, .int .i64 a2, .int .i64 a3] p11300.bins []) (finT p11300 s11300) = (
  (bif (decide (a0 < 1)) then
  some (0, 0, false)
  else
  (bif (decide (3 < a0)) then
  some (0, 0, false)
  else
  (bif (decide (a1 < 0)) then
  some (0, 0, false)
  else
  (bif (decide (a0 ≤ a1)) then
  some (0, 0, false)
  else
  (bif (decide (a2 < 0)) then
  some (0, 0, false)
  else
  (bif (decide (a0 ≤ a2)) then
  some (0, 0, false)
  else
  (bif (decide (a3 = 1)) then
  some (a1, 0, true)
  else
  (bif (decide (a3 = 2)) then
  bnd (remI (wrap64 (a1 + 1)) a0) fun n1 =>
  some (n1, 0, true)
  else
  (bif (decide (a3 = 3)) then
  bnd (remI (wrap64 (a1 + 1)) a0) fun n2 =>
  some (n2, (wrap64 (a2 + 1)), true)
  else
  (bif (decide (a3 = 4)) then
  bnd (remI (wrap64 (a1 + 1)) a0) fun n3 =>
  some (n3, (wrap64 (a2 + 1)), true)
  else
  some (0, 0, false))))))))))) : Option (Int × Int × Bool)) := by kernel_rfl
  exact fn_le' (sig := s11300) (p := p11300) (by kernel_rfl) (by kernel_rfl) rfl rfl rfl (e.trans h)

theorem spec_NextTurn_le (a0 : Int) (a1 : Int) (a2 : Int) (a3 : Int) : Tv.Le
  (bnd (spec_l6In a0 1 3) fun r1 =>
  (bif (!r1) then
  some (0, 0, false)
  else
  bnd (spec_l6In a1 0 (wrap64 (a0 - 1))) fun r2 =>
  (bif (!r2) then
  some (0, 0, false)
  else
  bnd (spec_l6In a2 0 (wrap64 (a0 - 1))) fun r3 =>
  (bif (!r3) then
  some (0, 0, false)
  else
  (bif (decide (a3 = 1)) then
  some (a1, 0, true)
  else
  (bif (decide (a3 = 2)) then
  bnd (remI (wrap64 (a1 + 1)) a0) fun n4 =>
  some (n4, 0, true)
  else
  (bif (decide (a3 = 3)) then
  bnd (remI (wrap64 (a1 + 1)) a0) fun n5 =>
  some (n5, (wrap64 (a2 + 1)), true)
  else
  (bif (decide (a3 = 4)) then
  bnd (remI (wrap64 (a1 + 1)) a0) fun n6 =>
  some (n6, (wrap64 (a2 + 1)), true)
  else
  some (0, 0, false)))))))) : Option (Int × Int × Bool))
  (spec_NextTurn a0 a1 a2 a3) := fun r h => by
  have e : runC (phi Tb GT sg) Tb GT p11200.code (mkST p11200.ins [.int .i64 a0, .int .i64 a1, .int .i64 a2, .int .i64 a3] p11200.bins []) (finT p11200 s11200) = (
  bnd (spec_l6In a0 1 3) fun r1 =>
  (bif (!r1) then
  some (0, 0, false)
  else
  bnd (spec_l6In a1 0 (wrap64 (a0 - 1))) fun r2 =>
  (bif (!r2) then
  some (0, 0, false)
  else
  bnd (spec_l6In a2 0 (wrap64 (a0 - 1))) fun r3 =>
  (bif (!r3) then
  some (0, 0, false)
  else
  (bif (decide (a3 = 1)) then
  some (a1, 0, true)
  else
  (bif (decide (a3 = 2)) then
  bnd (remI (wrap64 (a1 + 1)) a0) fun n4 =>
  some (n4, 0, true)
  else
  (bif (decide (a3 = 3)) then
  bnd (remI (wrap64 (a1 + 1)) a0) fun n5 =>
  some (n5, (wrap64 (a2 + 1)), true)
  else
  (bif (decide (a3 = 4)) then
  bnd (remI (wrap64 (a1 + 1)) a0) fun n6 =>
  some (n6, (wrap64 (a2 + 1)), true)
  else
  some (0, 0, false)))))))) : Option (Int × Int × Bool)) := by kernel_rfl
  exact fn_le' (sig := s11200) (p := p11200) (by kernel_rfl) (by kernel_rfl) rfl rfl rfl (e.trans h)

theorem laws_FnTurnRound_l1_le (t3 : Int) (t4 : Int) (t13 : Int) (t14 : Int) (t15 : Int) : Tv.Le
  ((bif (decide (t15 < t3)) then
  bnd (impl_NextTurn t3 t13 t14 3) fun r1 =>
  (bif (!r1.2.2) then
  some (.inr (false, t3, t4, t13, t14))
  else
  laws_FnTurnRound_l1 t3 t4 r1.1 r1.2.1 (wrap64 (t15 + 1)))
  else
  some (.inl (t3, t4, t13, t14))) : Option ((Int × Int × Int × Int) ⊕ (Bool × Int × Int × Int × Int)))
  (laws_FnTurnRound_l1 t3 t4 t13 t14 t15) := fun r h => by
  have e : runC (phi Tb GT sg) Tb GT p11701.code (mkST p11701.ins [.int .i64 t3, .int .i64 t4, .int .i64 t13, .int .i64 t14, .int .i64 t15] p11701.bins []) (finL Tb GT 11701 p11701 s11701) = (
  (bif (decide (t15 < t3)) then
  bnd (impl_NextTurn t3 t13 t14 3) fun r1 =>
  (bif (!r1.2.2) then
  some (.inr (false, t3, t4, t13, t14))
  else
  laws_FnTurnRound_l1 t3 t4 r1.1 r1.2.1 (wrap64 (t15 + 1)))
  else
  some (.inl (t3, t4, t13, t14))) : Option ((Int × Int × Int × Int) ⊕ (Bool × Int × Int × Int × Int))) := by kernel_rfl
  exact loop_le' (sig := s11701) (p := p11701) (by kernel_rfl) (by kernel_rfl) rfl rfl rfl (e.trans h)

theorem spec_l6Open_le (a0 : List Int) : Tv.Le
  ((bif (decide (2000 < (a0.length : Int))) then
  bnd (cutL a0 0 2000) fun l1 =>
  some (l1, 0)
  else
  some (a0, 0)) : Option (List Int × Int))
  (spec_l6Open a0) := fun r h => by
  have e : runC (phi Tb GT sg) Tb GT p100.code (mkST p100.ins [.sl .share .u8 a0] p100.bins []) (finT p100 s100) = (
  (bif (decide (2000 < (a0.length : Int))) then
  bnd (cutL a0 0 2000) fun l1 =>
  some (l1, 0)
  else
  some (a0, 0)) : Option (List Int × Int)) := by kernel_rfl
  exact fn_le' (sig := s100) (p := p100) (by kernel_rfl) (by kernel_rfl) rfl rfl rfl (e.trans h)

theorem spec_l6Rd_pick_le (a1 : Int) (a0b : List Int) (a0p : Int) : Tv.Le
  ((bif (decide (a1 < 1)) then
  some (0, a0b, (wrap64 (a0p + 1)))
  else
  (bif (decide ((a0b.length : Int) = 0)) then
  some (0, a0b, (wrap64 (a0p + 1)))
  else
  (bif (decide ((wrap64 ((wrap64 (a0p + 1)) - 1)) < (a0b.length : Int))) then
  bnd (geti a0b (wrap64 ((wrap64 (a0p + 1)) - 1))) fun e1 =>
  bnd (remI (wrap64 (e1)) a1) fun n2 =>
  some (n2, a0b, (wrap64 (a0p + 1)))
  else
  bnd (remI (wrap64 ((wrap64 (a0p + 1)) - 1)) (a0b.length : Int)) fun n3 =>
  bnd (geti a0b n3) fun e4 =>
  bnd (remI (wrap64 ((wrap64 ((wrap64 ((wrap64 (a0p + 1)) - 1)) * 7)) + 3)) (a0b.length : Int)) fun n5 =>
  bnd (geti a0b n5) fun e6 =>
  bnd (quoI .i64 (wrap64 ((wrap64 (a0p + 1)) - 1)) (a0b.length : Int)) fun n7 =>
  bnd (remI (bits .xor .i64 (wrap64 ((wrap64 ((wrap64 ((wrap64 ((wrap64 (e4)) * 131)) + (wrap64 ((wrap64 (e6)) * 1117)))) + (wrap64 ((wrap64 ((wrap64 (a0p + 1)) - 1)) * 29)))) + (wrap64 (n7 * 53)))) (wrap64 (Int.tdiv (wrap64 ((wrap64 ((wrap64 ((wrap64 ((wrap64 (e4)) * 131)) + (wrap64 ((wrap64 (e6)) * 1117)))) + (wrap64 ((wrap64 ((wrap64 (a0p + 1)) - 1)) * 29)))) + (wrap64 (n7 * 53)))) 64))) a1) fun n8 =>
  some (n8, a0b, (wrap64 (a0p + 1)))))) : Option (Int × List Int × Int))
  (spec_l6Rd_pick a1 a0b a0p) := fun r h => by
  have e : runC (phi Tb GT sg) Tb GT p200.code (mkST p200.ins [.bp 0 0, .int .i64 a1] p200.bins [.var [.sl .share .u8 a0b, .int .i64 a0p]]) (finT p200 s200) = (
  (bif (decide (a1 < 1)) then
  some (0, a0b, (wrap64 (a0p + 1)))
  else
  (bif (decide ((a0b.length : Int) = 0)) then
  some (0, a0b, (wrap64 (a0p + 1)))
  else
  (bif (decide ((wrap64 ((wrap64 (a0p + 1)) - 1)) < (a0b.length : Int))) then
  bnd (geti a0b (wrap64 ((wrap64 (a0p + 1)) - 1))) fun e1 =>
  bnd (remI (wrap64 (e1)) a1) fun n2 =>
  some (n2, a0b, (wrap64 (a0p + 1)))
  else
  bnd (remI (wrap64 ((wrap64 (a0p + 1)) - 1)) (a0b.length : Int)) fun n3 =>
  bnd (geti a0b n3) fun e4 =>
  bnd (remI (wrap64 ((wrap64 ((wrap64 ((wrap64 (a0p + 1)) - 1)) * 7)) + 3)) (a0b.length : Int)) fun n5 =>
  bnd (geti a0b n5) fun e6 =>
  bnd (quoI .i64 (wrap64 ((wrap64 (a0p + 1)) - 1)) (a0b.length : Int)) fun n7 =>
  bnd (remI (bits .xor .i64 (wrap64 ((wrap64 ((wrap64 ((wrap64 ((wrap64 (e4)) * 131)) + (wrap64 ((wrap64 (e6)) * 1117)))) + (wrap64 ((wrap64 ((wrap64 (a0p + 1)) - 1)) * 29)))) + (wrap64 (n7 * 53)))) (wrap64 (Int.tdiv (wrap64 ((wrap64 ((wrap64 ((wrap64 ((wrap64 (e4)) * 131)) + (wrap64 ((wrap64 (e6)) * 1117)))) + (wrap64 ((wrap64 ((wrap64 (a0p + 1)) - 1)) * 29)))) + (wrap64 (n7 * 53)))) 64))) a1) fun n8 =>
  some (n8, a0b, (wrap64 (a0p + 1)))))) : Option (Int × List Int × Int)) := by kernel_rfl
  exact fn_le' (sig := s200) (p := p200) (by kernel_rfl) (by kernel_rfl) rfl rfl rfl (e.trans h)

theorem spec_l6In_le (a0 : Int) (a1 : Int) (a2 : Int) : Tv.Le
  ((bif (decide (a1 ≤ a0)) then
  some (decide (a0 ≤ a2))
  else
  some false) : Option (Bool))
  (spec_l6In a0 a1 a2) := fun r h => by
  have e : runC (phi Tb GT sg) Tb GT p1600.code (mkST p1600.ins [.int .i64 a0, .int .i64 a1, .int .i64 a2] p1600.bins []) (finT p1600 s1600) = (
  (bif (decide (a1 ≤ a0)) then
  some (decide (a0 ≤ a2))
  else
  some false) : Option (Bool)) := by kernel_rfl
  exact fn_le' (sig := s1600) (p := p1600) (by kernel_rfl) (by kernel_rfl) rfl rfl rfl (e.trans h)

end Go.TFnTurnRound
