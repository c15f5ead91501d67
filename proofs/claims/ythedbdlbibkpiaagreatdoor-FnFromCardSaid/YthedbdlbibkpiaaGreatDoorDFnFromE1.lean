import Derived.Test.YthedbdlbibkpiaaGreatDoorDFnFromP
import Derived.KernelRfl
set_option linter.unusedVariables false
namespace Go.TFnFrom
open Go Go.RowKit Go.Vs Go.Tv
theorem spec_l5Op_le (a0 : List UInt8) : Tv.Le
  (bnd (spec_l5Op_l1 a0 1) fun r1 =>
  selm r1 (fun y2 =>
  some 0) (fun z3 =>
  some z3) : Option (Int))
  (spec_l5Op a0) := by
  exact fun r h => by
    have e : runC (phi Tb GT sg) Tb GT p32800.code (mkST p32800.ins [.str a0] p32800.bins []) (finT p32800 s32800) = (
      bnd (spec_l5Op_l1 a0 1) fun r1 =>
      selm r1 (fun y2 =>
      some 0) (fun z3 =>
      some z3) : Option (Int)) := by kernel_rfl
    exact fn_le' (sig := s32800) (p := p32800) (by kernel_rfl) (by kernel_rfl) rfl rfl rfl (e.trans h)

theorem spec_OpLevel_le (a0 : Int) : Tv.Le
  (bnd (spec_OpValid a0) fun r1 =>
  (bif (!r1) then
  some 0
  else
  bnd (geti ([1, 2, 3, 4, 5, 6, 6, 7, 7, 8, 8, 8] : List Int) (wrap64 (a0 - 1))) fun e2 =>
  some e2) : Option (Int))
  (spec_OpLevel a0) := by
  rewrite [← wrapC_eq]
  exact fun r h => by
    have e : runC (phi Tb GT sg) Tb GT p32700.code (mkST p32700.ins [.int .i64 a0] p32700.bins []) (finT p32700 s32700) = (
      bnd (spec_OpValid a0) fun r1 =>
      (bif (!r1) then
      some 0
      else
      bnd (geti ([1, 2, 3, 4, 5, 6, 6, 7, 7, 8, 8, 8] : List Int) (wrapC (a0 - 1))) fun e2 =>
      some e2) : Option (Int)) := by kernel_rfl
    exact fn_le' (sig := s32700) (p := p32700) (by kernel_rfl) (by kernel_rfl) rfl rfl rfl (e.trans h)

theorem spec_l5Parse_l1_le (t0 : List (List UInt8)) (t2 : Int) (t9 : Int) (b100_0 : Int) (b100_1 : Int) (b100_2b : Bool) (b100_2 : List Exp) (b101_0 : Int) (b101_1 : Int) (b101_2m : Md) (b101_2 : List Exp) : Tv.Le
  ((bif (decide (0 ≤ t9)) then
  (bif (decide (t9 < (t0.length : Int))) then
  bnd (geti t0 t9) fun e1 =>
  bnd (spec_l5Op e1) fun r2 =>
  bnd (spec_OpLevel r2) fun r3 =>
  (bif (decide (r3 = t2)) then
  bnd (geti t0 t9) fun e4 =>
  bnd (spec_l5Op e4) fun r5 =>
  bnd (spec_l5Parse t0 (wrap64 (t9 + 1)) (wrap64 (t2 + 1))) fun r6 =>
  bnd (spec_l4Both r5 (⟨b101_0, b101_1, b101_2⟩ : Exp) (⟨r6.1.op, r6.1.n, r6.1.args⟩ : Exp)) fun r7 =>
  spec_l5Parse_l1 t0 t2 r6.2 b100_0 b100_1 b100_2b b100_2 r7.1 r7.2.1 (Md.dem r7.2.2.1) r7.2.2.2
  else
  some (t9, b100_0, b100_1, (b100_2b, b100_2), b101_0, b101_1, (b101_2m, b101_2)))
  else
  some (t9, b100_0, b100_1, (b100_2b, b100_2), b101_0, b101_1, (b101_2m, b101_2)))
  else
  some (t9, b100_0, b100_1, (b100_2b, b100_2), b101_0, b101_1, (b101_2m, b101_2))) : Option (Int × Int × Int × (Bool × List Exp) × Int × Int × (Md × List Exp)))
  (spec_l5Parse_l1 t0 t2 t9 b100_0 b100_1 b100_2b b100_2 b101_0 b101_1 b101_2m b101_2) := by
  rewrite [← wrapC_eq]
  exact fun r h => by
    have e : runC (phi Tb GT sg) Tb GT p32901.code (mkST p32901.ins [.sl .share .str t0, .int .i64 t2, .bp 100 0, .bp 101 0, .int .i64 t9] p32901.bins [.var [.int .i64 b100_0, .int .i64 b100_1, .sl (.own b100_2b) .exp b100_2], .var [.int .i64 b101_0, .int .i64 b101_1, .sl b101_2m .exp b101_2]]) (finL Tb GT 32901 p32901 s32901) = (
      (bif (decide (0 ≤ t9)) then
      (bif (decide (t9 < (t0.length : Int))) then
      bnd (geti t0 t9) fun e1 =>
      bnd (spec_l5Op e1) fun r2 =>
      bnd (spec_OpLevel r2) fun r3 =>
      (bif (decide (r3 = t2)) then
      bnd (geti t0 t9) fun e4 =>
      bnd (spec_l5Op e4) fun r5 =>
      bnd (spec_l5Parse t0 (wrapC (t9 + 1)) (wrapC (t2 + 1))) fun r6 =>
      bnd (spec_l4Both r5 (⟨b101_0, b101_1, b101_2⟩ : Exp) (⟨r6.1.op, r6.1.n, r6.1.args⟩ : Exp)) fun r7 =>
      spec_l5Parse_l1 t0 t2 r6.2 b100_0 b100_1 b100_2b b100_2 r7.1 r7.2.1 (Md.dem r7.2.2.1) r7.2.2.2
      else
      some (t9, b100_0, b100_1, (b100_2b, b100_2), b101_0, b101_1, (b101_2m, b101_2)))
      else
      some (t9, b100_0, b100_1, (b100_2b, b100_2), b101_0, b101_1, (b101_2m, b101_2)))
      else
      some (t9, b100_0, b100_1, (b100_2b, b100_2), b101_0, b101_1, (b101_2m, b101_2))) : Option (Int × Int × Int × (Bool × List Exp) × Int × Int × (Md × List Exp))) := by kernel_rfl
    exact loop_le' (sig := s32901) (p := p32901) (by kernel_rfl) (by kernel_rfl) rfl rfl rfl (e.trans h)

theorem spec_l4Ok_le (a0 : Exp) (a1 : Int) : Tv.Le
  ((bif (decide (a1 < 1)) then
  some false
  else
  (bif (decide (a0.op = 0)) then
  bnd (spec_l6In a0.n 0 99999) fun r1 =>
  (bif r1 then
  some (decide ((a0.args.length : Int) = 0))
  else
  some false)
  else
  (bif (decide (a0.op = 13)) then
  bnd (spec_l6In a0.n 0 3) fun r2 =>
  (bif r2 then
  some (decide ((a0.args.length : Int) = 0))
  else
  some false)
  else
  bnd (spec_OpValid a0.op) fun r3 =>
  (bif r3 then
  (bif (decide (a0.n = 0)) then
  (bif (decide ((a0.args.length : Int) = 2)) then
  bnd (geti a0.args 0) fun e4 =>
  bnd (spec_l4Ok (⟨e4.op, e4.n, e4.args⟩ : Exp) (wrap64 (a1 - 1))) fun r5 =>
  (bif r5 then
  bnd (geti a0.args 1) fun e6 =>
  bnd (spec_l4Ok (⟨e6.op, e6.n, e6.args⟩ : Exp) (wrap64 (a1 - 1))) fun r7 =>
  some r7
  else
  some false)
  else
  some false)
  else
  some false)
  else
  some false)))) : Option (Bool))
  (spec_l4Ok a0 a1) := by
  rewrite [← wrapC_eq]
  exact fun r h => by
    have e : runC (phi Tb GT sg) Tb GT p1800.code (mkST p1800.ins [.agg (rowT .exp a0), .int .i64 a1] p1800.bins []) (finT p1800 s1800) = (
      (bif (decide (a1 < 1)) then
      some false
      else
      (bif (decide (a0.op = 0)) then
      bnd (spec_l6In a0.n 0 99999) fun r1 =>
      (bif r1 then
      some (decide ((a0.args.length : Int) = 0))
      else
      some false)
      else
      (bif (decide (a0.op = 13)) then
      bnd (spec_l6In a0.n 0 3) fun r2 =>
      (bif r2 then
      some (decide ((a0.args.length : Int) = 0))
      else
      some false)
      else
      bnd (spec_OpValid a0.op) fun r3 =>
      (bif r3 then
      (bif (decide (a0.n = 0)) then
      (bif (decide ((a0.args.length : Int) = 2)) then
      bnd (geti a0.args 0) fun e4 =>
      bnd (spec_l4Ok (⟨e4.op, e4.n, e4.args⟩ : Exp) (wrapC (a1 - 1))) fun r5 =>
      (bif r5 then
      bnd (geti a0.args 1) fun e6 =>
      bnd (spec_l4Ok (⟨e6.op, e6.n, e6.args⟩ : Exp) (wrapC (a1 - 1))) fun r7 =>
      some r7
      else
      some false)
      else
      some false)
      else
      some false)
      else
      some false)))) : Option (Bool)) := by kernel_rfl
    exact fn_le' (sig := s1800) (p := p1800) (by kernel_rfl) (by kernel_rfl) rfl rfl rfl (e.trans h)

theorem strconv_Itoa_le (a0 : Int) : Tv.Le (if -9223372036854775808 ≤ a0 ∧ a0 ≤ 9223372036854775807 then some (Lib.itoa a0) else none : Option (List UInt8)) (strconv_Itoa a0) := fun r h => by
  exact prim_le (F := Tb) (G := GT) (sg := fun _ => s22000) (g := 22000) (p := p22000) (x := r) (tv := [.int .i64 a0]) (v := .str r) (by kernel_rfl) rfl (itoa_pf h) rfl

theorem impl_varText_le (a0 : Int) : Tv.Le
  (bnd (rune (wrap32 ((wrap64 (97 + a0))))) fun s1 =>
  some s1 : Option (List UInt8))
  (impl_varText a0) := by
  rewrite [← wrapC_eq]
  exact fun r h => by
    have e : runC (phi Tb GT sg) Tb GT p36400.code (mkST p36400.ins [.int .i64 a0] p36400.bins []) (finT p36400 s36400) = (
      bnd (rune (wrap32 ((wrapC (97 + a0))))) fun s1 =>
      some s1 : Option (List UInt8)) := by kernel_rfl
    exact fn_le' (sig := s36400) (p := p36400) (by kernel_rfl) (by kernel_rfl) rfl rfl rfl (e.trans h)

theorem impl_operandTokens_le (a0 : Exp) (a1 : Int) (a2 : List (List UInt8)) : Tv.Le
  (bnd (impl_OpValid a0.op) fun r1 =>
  (bif (!r1) then
  bnd (impl_exprTokens (⟨a0.op, a0.n, a0.args⟩ : Exp) a2) fun r2 =>
  some r2
  else
  bnd (impl_OpLevel a0.op) fun r3 =>
  (bif (decide (a1 ≤ r3)) then
  bnd (impl_exprTokens (⟨a0.op, a0.n, a0.args⟩ : Exp) a2) fun r4 =>
  some r4
  else
  bnd (appL a2 ([[40]] : List (List UInt8))) fun l5 =>
  bnd (impl_exprTokens (⟨a0.op, a0.n, a0.args⟩ : Exp) l5) fun r6 =>
  bnd (appL r6 ([[41]] : List (List UInt8))) fun l7 =>
  some l7)) : Option (List (List UInt8)))
  (impl_operandTokens a0 a1 a2) := by
  exact fun r h => by
    have e : runC (phi Tb GT sg) Tb GT p36500.code (mkST p36500.ins [.agg (rowT .exp a0), .int .i64 a1, .sl (.own true) .str a2] p36500.bins []) (finT p36500 s36500) = (
      bnd (impl_OpValid a0.op) fun r1 =>
      (bif (!r1) then
      bnd (impl_exprTokens (⟨a0.op, a0.n, a0.args⟩ : Exp) a2) fun r2 =>
      some r2
      else
      bnd (impl_OpLevel a0.op) fun r3 =>
      (bif (decide (a1 ≤ r3)) then
      bnd (impl_exprTokens (⟨a0.op, a0.n, a0.args⟩ : Exp) a2) fun r4 =>
      some r4
      else
      bnd (appL a2 ([[40]] : List (List UInt8))) fun l5 =>
      bnd (impl_exprTokens (⟨a0.op, a0.n, a0.args⟩ : Exp) l5) fun r6 =>
      bnd (appL r6 ([[41]] : List (List UInt8))) fun l7 =>
      some l7)) : Option (List (List UInt8))) := by kernel_rfl
    exact fn_le' (sig := s36500) (p := p36500) (by kernel_rfl) (by kernel_rfl) rfl rfl rfl (e.trans h)

theorem impl_OpText_le (a0 : Int) : Tv.Le
  (bnd (impl_OpValid a0) fun r1 =>
  (bif (!r1) then
  some []
  else
  bnd (geti ([[124], [94], [38], [61, 61], [60], [60, 60], [62, 62], [43], [45], [42], [47], [37]] : List (List UInt8)) (wrap64 (a0 - 1))) fun _ =>
  bnd (([[124], [94], [38], [61, 61], [60], [60, 60], [62, 62], [43], [45], [42], [47], [37]] : List (List UInt8))[(Int.toNat (wrap64 (a0 - 1)))]?) fun s2 =>
  some s2) : Option (List UInt8))
  (impl_OpText a0) := by
  rewrite [← wrapC_eq]
  exact fun r h => by
    have e : runC (phi Tb GT sg) Tb GT p21000.code (mkST p21000.ins [.int .i64 a0] p21000.bins []) (finT p21000 s21000) = (
      bnd (impl_OpValid a0) fun r1 =>
      (bif (!r1) then
      some []
      else
      bnd (geti ([[124], [94], [38], [61, 61], [60], [60, 60], [62, 62], [43], [45], [42], [47], [37]] : List (List UInt8)) (wrapC (a0 - 1))) fun _ =>
      bnd (([[124], [94], [38], [61, 61], [60], [60, 60], [62, 62], [43], [45], [42], [47], [37]] : List (List UInt8))[(Int.toNat (wrapC (a0 - 1)))]?) fun s2 =>
      some s2) : Option (List UInt8)) := by kernel_rfl
    exact fn_le' (sig := s21000) (p := p21000) (by kernel_rfl) (by kernel_rfl) rfl rfl rfl (e.trans h)

theorem impl_TokenValid_le (a0 : List UInt8) : Tv.Le
  ((bif (!(a0 == [])) then
  bnd (impl_tokenLength a0) fun r1 =>
  some (decide (r1 = (a0.length : Int)))
  else
  some false) : Option (Bool))
  (impl_TokenValid a0) := by
  exact fun r h => by
    have e : runC (phi Tb GT sg) Tb GT p36200.code (mkST p36200.ins [.str a0] p36200.bins []) (finT p36200 s36200) = (
      (bif (!(a0 == [])) then
      bnd (impl_tokenLength a0) fun r1 =>
      some (decide (r1 = (a0.length : Int)))
      else
      some false) : Option (Bool)) := by kernel_rfl
    exact fn_le' (sig := s36200) (p := p36200) (by kernel_rfl) (by kernel_rfl) rfl rfl rfl (e.trans h)

theorem impl_TokensText_l1_le (t0 : List (List UInt8)) (t5 : List (List UInt8)) (t6 : Int) (t7 : Int) : Tv.Le
  ((bif (decide (t7 < t6)) then
  bnd (geti t5 t7) fun e1 =>
  bnd (impl_TokenValid e1) fun r2 =>
  (bif (!r2) then
  some (.inr (t0, []))
  else
  impl_TokensText_l1 t0 t5 t6 (wrap64 (t7 + 1)))
  else
  some (.inl t0)) : Option (List (List UInt8) ⊕ (List (List UInt8) × List UInt8)))
  (impl_TokensText_l1 t0 t5 t6 t7) := by
  rewrite [← wrapC_eq]
  exact fun r h => by
    have e : runC (phi Tb GT sg) Tb GT p36301.code (mkST p36301.ins [.sl .share .str t0, .sl .share .str t5, .int .i64 t6, .int .i64 t7] p36301.bins []) (finL Tb GT 36301 p36301 s36301) = (
      (bif (decide (t7 < t6)) then
      bnd (geti t5 t7) fun e1 =>
      bnd (impl_TokenValid e1) fun r2 =>
      (bif (!r2) then
      some (.inr (t0, []))
      else
      impl_TokensText_l1 t0 t5 t6 (wrapC (t7 + 1)))
      else
      some (.inl t0)) : Option (List (List UInt8) ⊕ (List (List UInt8) × List UInt8))) := by kernel_rfl
    exact loop_le' (sig := s36301) (p := p36301) (by kernel_rfl) (by kernel_rfl) rfl rfl rfl (e.trans h)

theorem strings_Join_le (a0 : List (List UInt8)) (a1 : List UInt8) : Tv.Le (if a0.length ≤ Vs.LIM ∧ (Lib.join a0 a1).length ≤ Vs.LIM then some (Lib.join a0 a1) else none : Option (List UInt8)) (strings_Join a0 a1) := fun r h => by
  exact prim_le (F := Tb) (G := GT) (sg := fun _ => s37800) (g := 37800) (p := p37800) (x := r) (tv := [.sl .share .str a0, .str a1]) (v := .str r) (by kernel_rfl) rfl (join_pf h) rfl

theorem impl_OpValid_le (a0 : Int) : Tv.Le
  ((bif (decide (1 ≤ a0)) then
  some (decide (a0 ≤ 12))
  else
  some false) : Option (Bool))
  (impl_OpValid a0) := by
  exact fun r h => by
    have e : runC (phi Tb GT sg) Tb GT p1000.code (mkST p1000.ins [.int .i64 a0] p1000.bins []) (finT p1000 s1000) = (
      (bif (decide (1 ≤ a0)) then
      some (decide (a0 ≤ 12))
      else
      some false) : Option (Bool)) := by kernel_rfl
    exact fn_le' (sig := s1000) (p := p1000) (by kernel_rfl) (by kernel_rfl) rfl rfl rfl (e.trans h)

theorem spec_l4Leaf_le (a0 : Int) (a1 : Int) : Tv.Le
  (some (a0, a1, ((.own false), ([] : List Exp))) : Option (Int × Int × (Md × List Exp)))
  (spec_l4Leaf a0 a1) := by
  exact fun r h => by
    have e : runC (phi Tb GT sg) Tb GT p300.code (mkST p300.ins [.int .i64 a0, .int .i64 a1] p300.bins []) (finT p300 s300) = (
      some (a0, a1, ((.own false), ([] : List Exp))) : Option (Int × Int × (Md × List Exp))) := by kernel_rfl
    exact fn_le' (sig := s300) (p := p300) (by kernel_rfl) (by kernel_rfl) rfl rfl rfl (e.trans h)

theorem spec_l5Name_le (a0 : Int) : Tv.Le
  (some (Tv.bytes ([(((wrap64 (97 + a0))) % 256)] : List Int)) : Option (List UInt8))
  (spec_l5Name a0) := by
  rewrite [← wrapC_eq]
  exact fun r h => by
    have e : runC (phi Tb GT sg) Tb GT p32400.code (mkST p32400.ins [.int .i64 a0] p32400.bins []) (finT p32400 s32400) = (
      some (Tv.bytes ([(((wrapC (97 + a0))) % 256)] : List Int)) : Option (List UInt8)) := by kernel_rfl
    exact fn_le' (sig := s32400) (p := p32400) (by kernel_rfl) (by kernel_rfl) rfl rfl rfl (e.trans h)

theorem spec_l5Level_le (a0 : Exp) : Tv.Le
  ((bif (decide ((a0.args.length : Int) = 0)) then
  some 9
  else
  bnd (spec_OpLevel a0.op) fun r1 =>
  some r1) : Option (Int))
  (spec_l5Level a0) := by
  exact fun r h => by
    have e : runC (phi Tb GT sg) Tb GT p35200.code (mkST p35200.ins [.agg (rowT .exp a0)] p35200.bins []) (finT p35200 s35200) = (
      (bif (decide ((a0.args.length : Int) = 0)) then
      some 9
      else
      bnd (spec_OpLevel a0.op) fun r1 =>
      some r1) : Option (Int)) := by kernel_rfl
    exact fn_le' (sig := s35200) (p := p35200) (by kernel_rfl) (by kernel_rfl) rfl rfl rfl (e.trans h)

theorem spec_l5Wrap_le (a0 : List (List UInt8)) (a1 : Bool) : Tv.Le
  ((bif (!a1) then
  some a0
  else
  bnd (appL ([[40]] : List (List UInt8)) a0) fun l1 =>
  bnd (appL l1 ([[41]] : List (List UInt8))) fun l2 =>
  some l2) : Option (List (List UInt8)))
  (spec_l5Wrap a0 a1) := by
  exact fun r h => by
    have e : runC (phi Tb GT sg) Tb GT p35100.code (mkST p35100.ins [.sl (.own true) .str a0, .bool a1] p35100.bins []) (finT p35100 s35100) = (
      (bif (!a1) then
      some a0
      else
      bnd (appL ([[40]] : List (List UInt8)) a0) fun l1 =>
      bnd (appL l1 ([[41]] : List (List UInt8))) fun l2 =>
      some l2) : Option (List (List UInt8))) := by kernel_rfl
    exact fn_le' (sig := s35100) (p := p35100) (by kernel_rfl) (by kernel_rfl) rfl rfl rfl (e.trans h)

theorem spec_OpText_le (a0 : Int) : Tv.Le
  (bnd (spec_OpValid a0) fun r1 =>
  (bif (!r1) then
  some []
  else
  bnd (geti ([[124], [94], [38], [61, 61], [60], [60, 60], [62, 62], [43], [45], [42], [47], [37]] : List (List UInt8)) (wrap64 (a0 - 1))) fun e2 =>
  some e2) : Option (List UInt8))
  (spec_OpText a0) := by
  rewrite [← wrapC_eq]
  exact fun r h => by
    have e : runC (phi Tb GT sg) Tb GT p20700.code (mkST p20700.ins [.int .i64 a0] p20700.bins []) (finT p20700 s20700) = (
      bnd (spec_OpValid a0) fun r1 =>
      (bif (!r1) then
      some []
      else
      bnd (geti ([[124], [94], [38], [61, 61], [60], [60, 60], [62, 62], [43], [45], [42], [47], [37]] : List (List UInt8)) (wrapC (a0 - 1))) fun e2 =>
      some e2) : Option (List UInt8)) := by kernel_rfl
    exact fn_le' (sig := s20700) (p := p20700) (by kernel_rfl) (by kernel_rfl) rfl rfl rfl (e.trans h)

theorem impl_isDigit_le (a0 : Int) : Tv.Le
  ((bif (decide (48 ≤ a0)) then
  some (decide (a0 ≤ 57))
  else
  some false) : Option (Bool))
  (impl_isDigit a0) := by
  exact fun r h => by
    have e : runC (phi Tb GT sg) Tb GT p33100.code (mkST p33100.ins [.int .u8 a0] p33100.bins []) (finT p33100 s33100) = (
      (bif (decide (48 ≤ a0)) then
      some (decide (a0 ≤ 57))
      else
      some false) : Option (Bool)) := by kernel_rfl
    exact fn_le' (sig := s33100) (p := p33100) (by kernel_rfl) (by kernel_rfl) rfl rfl rfl (e.trans h)

theorem impl_tokenLength_l1_l2_33100_le (t0 : List UInt8) (t5 : Int) (t9 : Int) (t10 : Int) : Tv.Le
  ((bif (decide (t5 < (t0.length : Int))) then
  bnd (geti t0 t5) fun c1 =>
  bnd (impl_isDigit (c1.toNat : Int)) fun r2 =>
  (bif r2 then
  impl_tokenLength_l1_l2_33100 t0 (wrap64 (t5 + 1)) t9 t10
  else
  some (t0, t5, t9, t10))
  else
  some (t0, t5, t9, t10)) : Option (List UInt8 × Int × Int × Int))
  (impl_tokenLength_l1_l2_33100 t0 t5 t9 t10) := by
  rewrite [← wrapC_eq]
  exact fun r h => by
    have e : runC (phi Tb GT sg) Tb GT p33302.code (mkST p33302.ins [.str t0, .fn 33100 [], .int .i64 t5, .sl .full .fn ([33100, 33200] : List Nat), .int .i64 t9, .int .i64 t10] p33302.bins []) (finL Tb GT 33302 p33302 s33302) = (
      (bif (decide (t5 < (t0.length : Int))) then
      bnd (geti t0 t5) fun c1 =>
      bnd (impl_isDigit (c1.toNat : Int)) fun r2 =>
      (bif r2 then
      impl_tokenLength_l1_l2_33100 t0 (wrapC (t5 + 1)) t9 t10
      else
      some (t0, t5, t9, t10))
      else
      some (t0, t5, t9, t10)) : Option (List UInt8 × Int × Int × Int)) := by kernel_rfl
    exact loop_le' (sig := s33302) (p := p33302) (by kernel_rfl) (by kernel_rfl) rfl rfl rfl (e.trans h)

theorem impl_isLetter_le (a0 : Int) : Tv.Le
  ((bif (decide (97 ≤ a0)) then
  some (decide (a0 ≤ 122))
  else
  some false) : Option (Bool))
  (impl_isLetter a0) := by
  exact fun r h => by
    have e : runC (phi Tb GT sg) Tb GT p33200.code (mkST p33200.ins [.int .u8 a0] p33200.bins []) (finT p33200 s33200) = (
      (bif (decide (97 ≤ a0)) then
      some (decide (a0 ≤ 122))
      else
      some false) : Option (Bool)) := by kernel_rfl
    exact fn_le' (sig := s33200) (p := p33200) (by kernel_rfl) (by kernel_rfl) rfl rfl rfl (e.trans h)

theorem impl_tokenLength_l1_l2_33200_le (t0 : List UInt8) (t5 : Int) (t9 : Int) (t10 : Int) : Tv.Le
  ((bif (decide (t5 < (t0.length : Int))) then
  bnd (geti t0 t5) fun c1 =>
  bnd (impl_isLetter (c1.toNat : Int)) fun r2 =>
  (bif r2 then
  impl_tokenLength_l1_l2_33200 t0 (wrap64 (t5 + 1)) t9 t10
  else
  some (t0, t5, t9, t10))
  else
  some (t0, t5, t9, t10)) : Option (List UInt8 × Int × Int × Int))
  (impl_tokenLength_l1_l2_33200 t0 t5 t9 t10) := by
  rewrite [← wrapC_eq]
  exact fun r h => by
    have e : runC (phi Tb GT sg) Tb GT p33302.code (mkST p33302.ins [.str t0, .fn 33200 [], .int .i64 t5, .sl .full .fn ([33100, 33200] : List Nat), .int .i64 t9, .int .i64 t10] p33302.bins []) (finL Tb GT 33302 p33302 s33302) = (
      (bif (decide (t5 < (t0.length : Int))) then
      bnd (geti t0 t5) fun c1 =>
      bnd (impl_isLetter (c1.toNat : Int)) fun r2 =>
      (bif r2 then
      impl_tokenLength_l1_l2_33200 t0 (wrapC (t5 + 1)) t9 t10
      else
      some (t0, t5, t9, t10))
      else
      some (t0, t5, t9, t10)) : Option (List UInt8 × Int × Int × Int)) := by kernel_rfl
    exact loop_le' (sig := s33302) (p := p33302) (by kernel_rfl) (by kernel_rfl) rfl rfl rfl (e.trans h)

theorem impl_tokenLength_l1_le (t0 : List UInt8) (t9 : Int) (t10 : Int) : Tv.Le
  ((bif (decide (t10 < t9)) then
  (bif (decide (t10 = 0)) then
  bnd (impl_tokenLength_l1_l2_33100 t0 0 t9 t10) fun r2 =>
  (bif (decide (0 < r2.2.1)) then
  some (.inr (r2.1, r2.2.1))
  else
  impl_tokenLength_l1 r2.1 r2.2.2.1 (wrap64 (r2.2.2.2 + 1)))
  else
  (bif (decide ((t10 - 1) = 0)) then
  bnd (impl_tokenLength_l1_l2_33200 t0 0 t9 t10) fun r3 =>
  (bif (decide (0 < r3.2.1)) then
  some (.inr (r3.1, r3.2.1))
  else
  impl_tokenLength_l1 r3.1 r3.2.2.1 (wrap64 (r3.2.2.2 + 1)))
  else
  none))
  else
  some (.inl t0)) : Option (List UInt8 ⊕ (List UInt8 × Int)))
  (impl_tokenLength_l1 t0 t9 t10) := by
  rewrite [← wrapC_eq]
  exact fun r h => by
    have e : runC (phi Tb GT sg) Tb GT p33301.code (mkST p33301.ins [.str t0, .sl .full .fn ([33100, 33200] : List Nat), .int .i64 t9, .int .i64 t10] p33301.bins []) (finL Tb GT 33301 p33301 s33301) = (
      (bif (decide (t10 < t9)) then
      (bif (decide (t10 = 0)) then
      bnd (impl_tokenLength_l1_l2_33100 t0 0 t9 t10) fun r2 =>
      (bif (decide (0 < r2.2.1)) then
      some (.inr (r2.1, r2.2.1))
      else
      impl_tokenLength_l1 r2.1 r2.2.2.1 (wrapC (r2.2.2.2 + 1)))
      else
      (bif (decide ((t10 - 1) = 0)) then
      bnd (impl_tokenLength_l1_l2_33200 t0 0 t9 t10) fun r3 =>
      (bif (decide (0 < r3.2.1)) then
      some (.inr (r3.1, r3.2.1))
      else
      impl_tokenLength_l1 r3.1 r3.2.2.1 (wrapC (r3.2.2.2 + 1)))
      else
      none))
      else
      some (.inl t0)) : Option (List UInt8 ⊕ (List UInt8 × Int))) := by kernel_rfl
    exact loop_le' (sig := s33301) (p := p33301) (by kernel_rfl) (by kernel_rfl) rfl rfl rfl (e.trans h)

theorem strings_HasPrefix_le (a0 a1 : List UInt8) : Tv.Le (some (Lib.hasPrefix a0 a1) : Option (Bool)) (strings_HasPrefix a0 a1) := fun r h => by
  exact prim_le (F := Tb) (G := GT) (sg := fun _ => s37500) (g := 37500) (p := p37500) (x := r) (tv := [.str a0, .str a1]) (v := .bool r) (by kernel_rfl) rfl (prefix_pf h) rfl

theorem impl_tokenLength_l3_le (t0 : List UInt8) (t31m : Md) (t31 : List (List UInt8)) (t32 : Int) (t33 : Int) : Tv.Le
  ((bif (decide (t33 < t32)) then
  bnd (geti t31 t33) fun e1 =>
  bnd (strings_HasPrefix t0 e1) fun r2 =>
  (bif r2 then
  some (.inr (t0, 2))
  else
  impl_tokenLength_l3 t0 t31m t31 t32 (wrap64 (t33 + 1)))
  else
  some (.inl t0)) : Option (List UInt8 ⊕ (List UInt8 × Int)))
  (impl_tokenLength_l3 t0 t31m t31 t32 t33) := by
  rewrite [← wrapC_eq]
  exact fun r h => by
    have e : runC (phi Tb GT sg) Tb GT p33303.code (mkST p33303.ins [.str t0, .sl t31m .str t31, .int .i64 t32, .int .i64 t33] p33303.bins []) (finL Tb GT 33303 p33303 s33303) = (
      (bif (decide (t33 < t32)) then
      bnd (geti t31 t33) fun e1 =>
      bnd (strings_HasPrefix t0 e1) fun r2 =>
      (bif r2 then
      some (.inr (t0, 2))
      else
      impl_tokenLength_l3 t0 t31m t31 t32 (wrapC (t33 + 1)))
      else
      some (.inl t0)) : Option (List UInt8 ⊕ (List UInt8 × Int))) := by kernel_rfl
    exact loop_le' (sig := s33303) (p := p33303) (by kernel_rfl) (by kernel_rfl) rfl rfl rfl (e.trans h)

theorem strings_IndexByte_le (a0 : List UInt8) (a1 : Int) : Tv.Le (some (Lib.indexByte a0 a1.toNat.toUInt8) : Option (Int)) (strings_IndexByte a0 a1) := fun r h => by
  exact prim_le (F := Tb) (G := GT) (sg := fun _ => s37600) (g := 37600) (p := p37600) (x := r) (tv := [.str a0, .int .u8 a1]) (v := .int .i64 r) (by kernel_rfl) rfl (index_pf h) rfl

theorem impl_parser_need_le (a1 : List UInt8) (a0tokens : List (List UInt8)) (a0at : Int) (a0failed : Bool) : Tv.Le
  (bnd (impl_parser_accept a1 a0tokens a0at a0failed) fun r1 =>
  (bif (!r1.1) then
  some (r1.2.1, r1.2.2.1, true)
  else
  some (r1.2.1, r1.2.2.1, r1.2.2.2)) : Option (List (List UInt8) × Int × Bool))
  (impl_parser_need a1 a0tokens a0at a0failed) := by
  exact fun r h => by
    have e : runC (phi Tb GT sg) Tb GT p33700.code (mkST p33700.ins [.bp 0 0, .str a1] p33700.bins [.var [.sl .share .str a0tokens, .int .i64 a0at, .bool a0failed]]) (finT p33700 s33700) = (
      bnd (impl_parser_accept a1 a0tokens a0at a0failed) fun r1 =>
      (bif (!r1.1) then
      some (r1.2.1, r1.2.2.1, true)
      else
      some (r1.2.1, r1.2.2.1, r1.2.2.2)) : Option (List (List UInt8) × Int × Bool)) := by kernel_rfl
    exact fn_le' (sig := s33700) (p := p33700) (by kernel_rfl) (by kernel_rfl) rfl rfl rfl (e.trans h)

theorem impl_parser_number_le (a0tokens : List (List UInt8)) (a0at : Int) (a0failed : Bool) : Tv.Le
  (bnd (impl_parser_take a0tokens a0at a0failed) fun r1 =>
  (bif (r1.1 == []) then
  some (0, r1.2.1, r1.2.2.1, true)
  else
  (bif (decide (5 < (r1.1.length : Int))) then
  some (0, r1.2.1, r1.2.2.1, true)
  else
  bnd (geti r1.1 0) fun c2 =>
  bnd (impl_isDigit (c2.toNat : Int)) fun r3 =>
  (bif (!r3) then
  some (0, r1.2.1, r1.2.2.1, true)
  else
  bnd (strconv_Atoi r1.1) fun r4 =>
  some (r4, r1.2.1, r1.2.2.1, r1.2.2.2)))) : Option (Int × List (List UInt8) × Int × Bool))
  (impl_parser_number a0tokens a0at a0failed) := by
  exact fun r h => by
    have e : runC (phi Tb GT sg) Tb GT p33900.code (mkST p33900.ins [.bp 0 0] p33900.bins [.var [.sl .share .str a0tokens, .int .i64 a0at, .bool a0failed]]) (finT p33900 s33900) = (
      bnd (impl_parser_take a0tokens a0at a0failed) fun r1 =>
      (bif (r1.1 == []) then
      some (0, r1.2.1, r1.2.2.1, true)
      else
      (bif (decide (5 < (r1.1.length : Int))) then
      some (0, r1.2.1, r1.2.2.1, true)
      else
      bnd (geti r1.1 0) fun c2 =>
      bnd (impl_isDigit (c2.toNat : Int)) fun r3 =>
      (bif (!r3) then
      some (0, r1.2.1, r1.2.2.1, true)
      else
      bnd (strconv_Atoi r1.1) fun r4 =>
      some (r4, r1.2.1, r1.2.2.1, r1.2.2.2)))) : Option (Int × List (List UInt8) × Int × Bool)) := by kernel_rfl
    exact fn_le' (sig := s33900) (p := p33900) (by kernel_rfl) (by kernel_rfl) rfl rfl rfl (e.trans h)

theorem impl_parser_variable_le (a0tokens : List (List UInt8)) (a0at : Int) (a0failed : Bool) : Tv.Le
  (bnd (impl_parser_take a0tokens a0at a0failed) fun r1 =>
  (bif (!decide ((r1.1.length : Int) = 1)) then
  some (0, r1.2.1, r1.2.2.1, true)
  else
  bnd (geti r1.1 0) fun c2 =>
  (bif (decide ((c2.toNat : Int) < 97)) then
  some (0, r1.2.1, r1.2.2.1, true)
  else
  bnd (geti r1.1 0) fun c3 =>
  (bif (decide (101 ≤ (c3.toNat : Int))) then
  some (0, r1.2.1, r1.2.2.1, true)
  else
  bnd (geti r1.1 0) fun c4 =>
  some ((wrap64 ((((c4.toNat : Int) - 97) % 256))), r1.2.1, r1.2.2.1, r1.2.2.2)))) : Option (Int × List (List UInt8) × Int × Bool))
  (impl_parser_variable a0tokens a0at a0failed) := by
  rewrite [← wrapC_eq]
  exact fun r h => by
    have e : runC (phi Tb GT sg) Tb GT p34000.code (mkST p34000.ins [.bp 0 0] p34000.bins [.var [.sl .share .str a0tokens, .int .i64 a0at, .bool a0failed]]) (finT p34000 s34000) = (
      bnd (impl_parser_take a0tokens a0at a0failed) fun r1 =>
      (bif (!decide ((r1.1.length : Int) = 1)) then
      some (0, r1.2.1, r1.2.2.1, true)
      else
      bnd (geti r1.1 0) fun c2 =>
      (bif (decide ((c2.toNat : Int) < 97)) then
      some (0, r1.2.1, r1.2.2.1, true)
      else
      bnd (geti r1.1 0) fun c3 =>
      (bif (decide (101 ≤ (c3.toNat : Int))) then
      some (0, r1.2.1, r1.2.2.1, true)
      else
      bnd (geti r1.1 0) fun c4 =>
      some ((wrapC ((((c4.toNat : Int) - 97) % 256))), r1.2.1, r1.2.2.1, r1.2.2.2)))) : Option (Int × List (List UInt8) × Int × Bool)) := by kernel_rfl
    exact fn_le' (sig := s34000) (p := p34000) (by kernel_rfl) (by kernel_rfl) rfl rfl rfl (e.trans h)

theorem impl_opFrom_l1_le (t0 : List UInt8) (t6 : Int) : Tv.Le
  ((bif (decide (t6 < 12)) then
  bnd (geti ([[124], [94], [38], [61, 61], [60], [60, 60], [62, 62], [43], [45], [42], [47], [37]] : List (List UInt8)) t6) fun s1 =>
  (bif (s1 == t0) then
  some (.inr (wrap64 (1 + t6)))
  else
  impl_opFrom_l1 t0 (wrap64 (t6 + 1)))
  else
  some (.inl ())) : Option (Unit ⊕ Int))
  (impl_opFrom_l1 t0 t6) := by
  rewrite [← wrapC_eq]
  exact fun r h => by
    have e : runC (phi Tb GT sg) Tb GT p34201.code (mkST p34201.ins [.str t0, .agg [.str [124], .str [94], .str [38], .str ([61, 61]), .str [60], .str ([60, 60]), .str ([62, 62]), .str [43], .str [45], .str [42], .str [47], .str [37]], .int .i64 t6] p34201.bins []) (finL Tb GT 34201 p34201 s34201) = (
      (bif (decide (t6 < 12)) then
      bnd (geti ([[124], [94], [38], [61, 61], [60], [60, 60], [62, 62], [43], [45], [42], [47], [37]] : List (List UInt8)) t6) fun s1 =>
      (bif (s1 == t0) then
      some (.inr (wrapC (1 + t6)))
      else
      impl_opFrom_l1 t0 (wrapC (t6 + 1)))
      else
      some (.inl ())) : Option (Unit ⊕ Int)) := by kernel_rfl
    exact loop_le' (sig := s34201) (p := p34201) (by kernel_rfl) (by kernel_rfl) rfl rfl rfl (e.trans h)

theorem spec_l3Kind_l1_le (t0 : Int) (t3 : List UInt8) (t4 : Int) : Tv.Le
  ((bif (decide (t4 < (t3.length : Int))) then
  bnd (geti t3 t4) fun c1 =>
  (bif (decide ((c1.toNat : Int) = t0)) then
  some (.inr 4)
  else
  spec_l3Kind_l1 t0 t3 (wrap64 (t4 + 1)))
  else
  some (.inl ())) : Option (Unit ⊕ Int))
  (spec_l3Kind_l1 t0 t3 t4) := by
  rewrite [← wrapC_eq]
  exact fun r h => by
    have e : runC (phi Tb GT sg) Tb GT p31801.code (mkST p31801.ins [.int .u8 t0, .str t3, .int .i64 t4] p31801.bins []) (finL Tb GT 31801 p31801 s31801) = (
      (bif (decide (t4 < (t3.length : Int))) then
      bnd (geti t3 t4) fun c1 =>
      (bif (decide ((c1.toNat : Int) = t0)) then
      some (.inr 4)
      else
      spec_l3Kind_l1 t0 t3 (wrapC (t4 + 1)))
      else
      some (.inl ())) : Option (Unit ⊕ Int)) := by kernel_rfl
    exact loop_le' (sig := s31801) (p := p31801) (by kernel_rfl) (by kernel_rfl) rfl rfl rfl (e.trans h)

theorem spec_l3Run_le (a0 : List UInt8) (a1 : Int) : Tv.Le
  (bnd (spec_l3Run_l1 a0 a1 a1) fun r1 =>
  some r1 : Option (Int))
  (spec_l3Run a0 a1) := by
  exact fun r h => by
    have e : runC (phi Tb GT sg) Tb GT p31900.code (mkST p31900.ins [.str a0, .int .i64 a1] p31900.bins []) (finT p31900 s31900) = (
      bnd (spec_l3Run_l1 a0 a1 a1) fun r1 =>
      some r1 : Option (Int)) := by kernel_rfl
    exact fn_le' (sig := s31900) (p := p31900) (by kernel_rfl) (by kernel_rfl) rfl rfl rfl (e.trans h)

theorem spec_l3Two_le (a0 : List UInt8) : Tv.Le
  ((bif (a0 == ([60, 60])) then
  some true
  else
  (bif (a0 == ([62, 62])) then
  some true
  else
  some (a0 == ([61, 61])))) : Option (Bool))
  (spec_l3Two a0) := by
  exact fun r h => by
    have e : runC (phi Tb GT sg) Tb GT p32000.code (mkST p32000.ins [.str a0] p32000.bins []) (finT p32000 s32000) = (
      (bif (a0 == ([60, 60])) then
      some true
      else
      (bif (a0 == ([62, 62])) then
      some true
      else
      some (a0 == ([61, 61])))) : Option (Bool)) := by kernel_rfl
    exact fn_le' (sig := s32000) (p := p32000) (by kernel_rfl) (by kernel_rfl) rfl rfl rfl (e.trans h)

theorem spec_l5Number_le (a0 : List UInt8) : Tv.Le
  (bnd (spec_l6In (a0.length : Int) 1 5) fun r1 =>
  (bif (!r1) then
  some (-1)
  else
  bnd (spec_l5Number_l1 a0 0 0) fun r2 =>
  selm r2 (fun y3 =>
  some y3) (fun z4 =>
  some z4.1)) : Option (Int))
  (spec_l5Number a0) := by
  exact fun r h => by
    have e : runC (phi Tb GT sg) Tb GT p32300.code (mkST p32300.ins [.str a0] p32300.bins []) (finT p32300 s32300) = (
      bnd (spec_l6In (a0.length : Int) 1 5) fun r1 =>
      (bif (!r1) then
      some (-1)
      else
      bnd (spec_l5Number_l1 a0 0 0) fun r2 =>
      selm r2 (fun y3 =>
      some y3) (fun z4 =>
      some z4.1)) : Option (Int)) := by kernel_rfl
    exact fn_le' (sig := s32300) (p := p32300) (by kernel_rfl) (by kernel_rfl) rfl rfl rfl (e.trans h)

theorem spec_l5Var_le (a0 : List UInt8) : Tv.Le
  (bnd (spec_l5Var_l1 a0 0) fun r1 =>
  selm r1 (fun y2 =>
  some (-1)) (fun z3 =>
  some z3) : Option (Int))
  (spec_l5Var a0) := by
  exact fun r h => by
    have e : runC (phi Tb GT sg) Tb GT p32500.code (mkST p32500.ins [.str a0] p32500.bins []) (finT p32500 s32500) = (
      bnd (spec_l5Var_l1 a0 0) fun r1 =>
      selm r1 (fun y2 =>
      some (-1)) (fun z3 =>
      some z3) : Option (Int)) := by kernel_rfl
    exact fn_le' (sig := s32500) (p := p32500) (by kernel_rfl) (by kernel_rfl) rfl rfl rfl (e.trans h)

theorem spec_l5Op_l1_le (t0 : List UInt8) (t3 : Int) : Tv.Le
  ((bif (decide (t3 ≤ 12)) then
  bnd (spec_OpText t3) fun r1 =>
  (bif (t0 == r1) then
  some (.inr t3)
  else
  spec_l5Op_l1 t0 (wrap64 (t3 + 1)))
  else
  some (.inl ())) : Option (Unit ⊕ Int))
  (spec_l5Op_l1 t0 t3) := by
  rewrite [← wrapC_eq]
  exact fun r h => by
    have e : runC (phi Tb GT sg) Tb GT p32801.code (mkST p32801.ins [.str t0, .int .i64 t3] p32801.bins []) (finL Tb GT 32801 p32801 s32801) = (
      (bif (decide (t3 ≤ 12)) then
      bnd (spec_OpText t3) fun r1 =>
      (bif (t0 == r1) then
      some (.inr t3)
      else
      spec_l5Op_l1 t0 (wrapC (t3 + 1)))
      else
      some (.inl ())) : Option (Unit ⊕ Int)) := by kernel_rfl
    exact loop_le' (sig := s32801) (p := p32801) (by kernel_rfl) (by kernel_rfl) rfl rfl rfl (e.trans h)

theorem spec_OpValid_le (a0 : Int) : Tv.Le
  (bnd (spec_l6In a0 1 12) fun r1 =>
  some r1 : Option (Bool))
  (spec_OpValid a0) := by
  exact fun r h => by
    have e : runC (phi Tb GT sg) Tb GT p1700.code (mkST p1700.ins [.int .i64 a0] p1700.bins []) (finT p1700 s1700) = (
      bnd (spec_l6In a0 1 12) fun r1 =>
      some r1 : Option (Bool)) := by kernel_rfl
    exact fn_le' (sig := s1700) (p := p1700) (by kernel_rfl) (by kernel_rfl) rfl rfl rfl (e.trans h)

theorem spec_l6In_le (a0 : Int) (a1 : Int) (a2 : Int) : Tv.Le
  ((bif (decide (a1 ≤ a0)) then
  some (decide (a0 ≤ a2))
  else
  some false) : Option (Bool))
  (spec_l6In a0 a1 a2) := by
  exact fun r h => by
    have e : runC (phi Tb GT sg) Tb GT p1600.code (mkST p1600.ins [.int .i64 a0, .int .i64 a1, .int .i64 a2] p1600.bins []) (finT p1600 s1600) = (
      (bif (decide (a1 ≤ a0)) then
      some (decide (a0 ≤ a2))
      else
      some false) : Option (Bool)) := by kernel_rfl
    exact fn_le' (sig := s1600) (p := p1600) (by kernel_rfl) (by kernel_rfl) rfl rfl rfl (e.trans h)

theorem impl_parser_accept_le (a1 : List UInt8) (a0tokens : List (List UInt8)) (a0at : Int) (a0failed : Bool) : Tv.Le
  (bnd (impl_parser_peek a0tokens a0at a0failed) fun r1 =>
  (bif (!(r1.1 == a1)) then
  some (false, r1.2.1, r1.2.2.1, r1.2.2.2)
  else
  some (true, r1.2.1, (wrap64 (r1.2.2.1 + 1)), r1.2.2.2)) : Option (Bool × List (List UInt8) × Int × Bool))
  (impl_parser_accept a1 a0tokens a0at a0failed) := by
  rewrite [← wrapC_eq]
  exact fun r h => by
    have e : runC (phi Tb GT sg) Tb GT p33600.code (mkST p33600.ins [.bp 0 0, .str a1] p33600.bins [.var [.sl .share .str a0tokens, .int .i64 a0at, .bool a0failed]]) (finT p33600 s33600) = (
      bnd (impl_parser_peek a0tokens a0at a0failed) fun r1 =>
      (bif (!(r1.1 == a1)) then
      some (false, r1.2.1, r1.2.2.1, r1.2.2.2)
      else
      some (true, r1.2.1, (wrapC (r1.2.2.1 + 1)), r1.2.2.2)) : Option (Bool × List (List UInt8) × Int × Bool)) := by kernel_rfl
    exact fn_le' (sig := s33600) (p := p33600) (by kernel_rfl) (by kernel_rfl) rfl rfl rfl (e.trans h)

theorem impl_parser_take_le (a0tokens : List (List UInt8)) (a0at : Int) (a0failed : Bool) : Tv.Le
  (bnd (impl_parser_peek a0tokens a0at a0failed) fun r1 =>
  (bif (r1.1 == []) then
  some (r1.1, r1.2.1, (wrap64 (r1.2.2.1 + 1)), true)
  else
  some (r1.1, r1.2.1, (wrap64 (r1.2.2.1 + 1)), r1.2.2.2)) : Option (List UInt8 × List (List UInt8) × Int × Bool))
  (impl_parser_take a0tokens a0at a0failed) := by
  rewrite [← wrapC_eq]
  exact fun r h => by
    have e : runC (phi Tb GT sg) Tb GT p33800.code (mkST p33800.ins [.bp 0 0] p33800.bins [.var [.sl .share .str a0tokens, .int .i64 a0at, .bool a0failed]]) (finT p33800 s33800) = (
      bnd (impl_parser_peek a0tokens a0at a0failed) fun r1 =>
      (bif (r1.1 == []) then
      some (r1.1, r1.2.1, (wrapC (r1.2.2.1 + 1)), true)
      else
      some (r1.1, r1.2.1, (wrapC (r1.2.2.1 + 1)), r1.2.2.2)) : Option (List UInt8 × List (List UInt8) × Int × Bool)) := by kernel_rfl
    exact fn_le' (sig := s33800) (p := p33800) (by kernel_rfl) (by kernel_rfl) rfl rfl rfl (e.trans h)

theorem strconv_Atoi_le (a0 : List UInt8) : Tv.Le (if a0.length ≤ 18 then Lib.atoi a0 else none : Option (Int)) (strconv_Atoi a0) := fun r h => by
  exact prim_le (F := Tb) (G := GT) (sg := fun _ => s37700) (g := 37700) (p := p37700) (x := r) (tv := [.str a0]) (v := .tup [.int .i64 r, .undef]) (by kernel_rfl) rfl (atoi_pf h) rfl

theorem spec_l3Run_l1_le (t0 : List UInt8) (t1 : Int) (t5 : Int) : Tv.Le
  ((bif (decide (t5 < (t0.length : Int))) then
  bnd (geti t0 t5) fun c1 =>
  bnd (spec_l3Kind (c1.toNat : Int)) fun r2 =>
  bnd (geti t0 t1) fun c3 =>
  bnd (spec_l3Kind (c3.toNat : Int)) fun r4 =>
  (bif (decide (r2 = r4)) then
  spec_l3Run_l1 t0 t1 (wrap64 (t5 + 1))
  else
  some t5)
  else
  some t5) : Option (Int))
  (spec_l3Run_l1 t0 t1 t5) := by
  rewrite [← wrapC_eq]
  exact fun r h => by
    have e : runC (phi Tb GT sg) Tb GT p31901.code (mkST p31901.ins [.str t0, .int .i64 t1, .int .i64 t5] p31901.bins []) (finL Tb GT 31901 p31901 s31901) = (
      (bif (decide (t5 < (t0.length : Int))) then
      bnd (geti t0 t5) fun c1 =>
      bnd (spec_l3Kind (c1.toNat : Int)) fun r2 =>
      bnd (geti t0 t1) fun c3 =>
      bnd (spec_l3Kind (c3.toNat : Int)) fun r4 =>
      (bif (decide (r2 = r4)) then
      spec_l3Run_l1 t0 t1 (wrapC (t5 + 1))
      else
      some t5)
      else
      some t5) : Option (Int)) := by kernel_rfl
    exact loop_le' (sig := s31901) (p := p31901) (by kernel_rfl) (by kernel_rfl) rfl rfl rfl (e.trans h)

theorem spec_l5Number_l1_le (t0 : List UInt8) (t3 : Int) (t4 : Int) : Tv.Le
  ((bif (decide (t4 < (t0.length : Int))) then
  bnd (geti t0 t4) fun c1 =>
  (bif (decide ((c1.toNat : Int) < 48)) then
  some (.inr ((-1), t3))
  else
  bnd (geti t0 t4) fun c2 =>
  (bif (decide (57 < (c2.toNat : Int))) then
  some (.inr ((-1), t3))
  else
  bnd (geti t0 t4) fun c3 =>
  spec_l5Number_l1 t0 (wrap64 ((wrap64 (10 * t3)) + (wrap64 ((((c3.toNat : Int) - 48) % 256))))) (wrap64 (t4 + 1))))
  else
  some (.inl t3)) : Option (Int ⊕ (Int × Int)))
  (spec_l5Number_l1 t0 t3 t4) := by
  rewrite [← wrapC_eq]
  exact fun r h => by
    have e : runC (phi Tb GT sg) Tb GT p32301.code (mkST p32301.ins [.str t0, .int .i64 t3, .int .i64 t4] p32301.bins []) (finL Tb GT 32301 p32301 s32301) = (
      (bif (decide (t4 < (t0.length : Int))) then
      bnd (geti t0 t4) fun c1 =>
      (bif (decide ((c1.toNat : Int) < 48)) then
      some (.inr ((-1), t3))
      else
      bnd (geti t0 t4) fun c2 =>
      (bif (decide (57 < (c2.toNat : Int))) then
      some (.inr ((-1), t3))
      else
      bnd (geti t0 t4) fun c3 =>
      spec_l5Number_l1 t0 (wrapC ((wrapC (10 * t3)) + (wrapC ((((c3.toNat : Int) - 48) % 256))))) (wrapC (t4 + 1))))
      else
      some (.inl t3)) : Option (Int ⊕ (Int × Int))) := by kernel_rfl
    exact loop_le' (sig := s32301) (p := p32301) (by kernel_rfl) (by kernel_rfl) rfl rfl rfl (e.trans h)

theorem spec_l5Var_l1_le (t0 : List UInt8) (t3 : Int) : Tv.Le
  ((bif (decide (t3 < 4)) then
  bnd (spec_l5Name t3) fun r1 =>
  (bif (t0 == r1) then
  some (.inr t3)
  else
  spec_l5Var_l1 t0 (wrap64 (t3 + 1)))
  else
  some (.inl ())) : Option (Unit ⊕ Int))
  (spec_l5Var_l1 t0 t3) := by
  rewrite [← wrapC_eq]
  exact fun r h => by
    have e : runC (phi Tb GT sg) Tb GT p32501.code (mkST p32501.ins [.str t0, .int .i64 t3] p32501.bins []) (finL Tb GT 32501 p32501 s32501) = (
      (bif (decide (t3 < 4)) then
      bnd (spec_l5Name t3) fun r1 =>
      (bif (t0 == r1) then
      some (.inr t3)
      else
      spec_l5Var_l1 t0 (wrapC (t3 + 1)))
      else
      some (.inl ())) : Option (Unit ⊕ Int)) := by kernel_rfl
    exact loop_le' (sig := s32501) (p := p32501) (by kernel_rfl) (by kernel_rfl) rfl rfl rfl (e.trans h)

end Go.TFnFrom
