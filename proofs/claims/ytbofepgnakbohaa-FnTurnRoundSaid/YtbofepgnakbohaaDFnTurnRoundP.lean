import Derived.Test.YtbofepgnakbohaaTv6

set_option linter.unusedVariables false
namespace Go.TFnTurnRound
open Go Go.RowKit Go.Vs Go.Tv

noncomputable def p100 : ProcT := { kind := .fn, ins := [0], bins := [], res := [.tmp 2], code := (.seq (.region false [⟨some 2, .mv (.const (.con .nilp)), none, []⟩])
 (.seq (.seq (.region false [⟨some 3, .mv (.tmp 0), none, []⟩,
  ⟨some 4, .len (.tmp 3), none, []⟩,
  ⟨some 5, .bin .gtr (.tmp 4) (.const (.int .i64 2000)), none, []⟩])
 (.cond (.tmp 5) (.region false [⟨some 6, .mv (.tmp 0), none, []⟩,
  ⟨some 7, .slc 1 (.tmp 6) none (some (.const (.int .i64 2000))) none, none, []⟩,
  ⟨some 0, .mv (.take 7), none, []⟩]) .skip))
 (.seq (.region false [⟨some 8, .mv (.tmp 0), none, []⟩,
  ⟨some 9, .build [.sl (.own false) .u8 [], .int .i64 0] [(0, 1, .tmp 8)], none, []⟩,
  ⟨some 10, .box 100 (.tmp 9), none, []⟩,
  ⟨some 2, .mv (.tmp 10), none, []⟩])
 .ret))) }
noncomputable def p200 : ProcT := { kind := .fn, ins := [0, 1], bins := [0], res := [.tmp 4], code := (.seq (.region false [⟨some 4, .mv (.const (.int .i64 0)), none, []⟩])
 (.seq (.region false [⟨some 7, .mv (.tmp 0), none, []⟩,
  ⟨some 8, .mv (.tmp 0), none, []⟩,
  ⟨some 9, .nilck (.tmp 8), none, []⟩,
  ⟨some 10, .fadr 1 (.tmp 9), none, []⟩,
  ⟨some 11, .load 1 false false (.tmp 10), none, []⟩,
  ⟨some 12, .bin .add (.tmp 11) (.const (.int .i64 1)), none, []⟩,
  ⟨some 13, .nilck (.tmp 7), none, []⟩,
  ⟨some 14, .fadr 1 (.tmp 13), none, []⟩,
  ⟨none, .store 1 (.tmp 14) (.tmp 12), none, []⟩])
 (.seq (.seq (.region false [⟨some 15, .mv (.tmp 1), none, []⟩,
  ⟨some 16, .bin .lss (.tmp 15) (.const (.int .i64 1)), none, []⟩,
  ⟨some 17, .mv (.tmp 16), none, []⟩,
  ⟨some 18, .mv (.tmp 0), some (17, false), []⟩,
  ⟨some 19, .nilck (.tmp 18), some (17, false), []⟩,
  ⟨some 20, .fadr 0 (.tmp 19), some (17, false), []⟩,
  ⟨some 21, .load 1 false false (.tmp 20), some (17, false), []⟩,
  ⟨some 22, .len (.tmp 21), some (17, false), []⟩,
  ⟨some 23, .bin .eql (.tmp 22) (.const (.int .i64 0)), some (17, false), []⟩,
  ⟨some 24, .pick (.tmp 17) (.const (.bool true)) (.tmp 23), none, []⟩])
 (.cond (.tmp 24) (.seq (.region false [⟨some 4, .mv (.const (.int .i64 0)), none, []⟩])
 .ret) .skip))
 (.seq (.region false [⟨some 25, .mv (.tmp 0), none, []⟩,
  ⟨some 26, .nilck (.tmp 25), none, []⟩,
  ⟨some 27, .fadr 1 (.tmp 26), none, []⟩,
  ⟨some 28, .load 1 false false (.tmp 27), none, []⟩,
  ⟨some 29, .bin .sub (.tmp 28) (.const (.int .i64 1)), none, []⟩,
  ⟨some 5, .mv (.tmp 29), none, []⟩])
 (.seq (.seq (.region false [⟨some 30, .mv (.tmp 5), none, []⟩,
  ⟨some 31, .mv (.tmp 0), none, []⟩,
  ⟨some 32, .nilck (.tmp 31), none, []⟩,
  ⟨some 33, .fadr 0 (.tmp 32), none, []⟩,
  ⟨some 34, .load 1 false false (.tmp 33), none, []⟩,
  ⟨some 35, .len (.tmp 34), none, []⟩,
  ⟨some 36, .bin .lss (.tmp 30) (.tmp 35), none, []⟩])
 (.cond (.tmp 36) (.seq (.region false [⟨some 37, .mv (.tmp 0), none, []⟩,
  ⟨some 38, .nilck (.tmp 37), none, []⟩,
  ⟨some 39, .fadr 0 (.tmp 38), none, []⟩,
  ⟨some 40, .load 1 false false (.tmp 39), none, []⟩,
  ⟨some 41, .mv (.tmp 5), none, []⟩,
  ⟨some 42, .iadr 1 (.tmp 40) (.tmp 41), none, []⟩,
  ⟨some 43, .load 1 false false (.tmp 42), none, []⟩,
  ⟨some 44, .conv (.int .i64) (.tmp 43), none, []⟩,
  ⟨some 45, .mv (.tmp 1), none, []⟩,
  ⟨some 46, .bin .rem (.tmp 44) (.tmp 45), none, []⟩,
  ⟨some 4, .mv (.tmp 46), none, []⟩])
 .ret) .skip))
 (.seq (.region true [⟨some 47, .mv (.tmp 0), none, []⟩,
  ⟨some 48, .nilck (.tmp 47), none, [0]⟩,
  ⟨some 49, .fadr 0 (.tmp 48), none, [0]⟩,
  ⟨some 50, .load 1 false false (.tmp 49), none, [0]⟩,
  ⟨some 51, .mv (.tmp 5), none, []⟩,
  ⟨some 52, .mv (.tmp 0), none, []⟩,
  ⟨some 53, .nilck (.tmp 52), none, [0]⟩,
  ⟨some 54, .fadr 0 (.tmp 53), none, [0]⟩,
  ⟨some 55, .load 1 false false (.tmp 54), none, [0]⟩,
  ⟨some 56, .len (.tmp 55), none, []⟩,
  ⟨some 57, .bin .rem (.tmp 51) (.tmp 56), none, []⟩,
  ⟨some 58, .iadr 1 (.tmp 50) (.tmp 57), none, []⟩,
  ⟨some 59, .load 1 false false (.tmp 58), none, []⟩,
  ⟨some 60, .conv (.int .i64) (.tmp 59), none, []⟩,
  ⟨some 61, .bin .mul (.tmp 60) (.const (.int .i64 131)), none, []⟩,
  ⟨some 62, .mv (.tmp 0), none, []⟩,
  ⟨some 63, .nilck (.tmp 62), none, [0]⟩,
  ⟨some 64, .fadr 0 (.tmp 63), none, [0]⟩,
  ⟨some 65, .load 1 false false (.tmp 64), none, [0]⟩,
  ⟨some 66, .mv (.tmp 5), none, []⟩,
  ⟨some 67, .bin .mul (.tmp 66) (.const (.int .i64 7)), none, []⟩,
  ⟨some 68, .bin .add (.tmp 67) (.const (.int .i64 3)), none, []⟩,
  ⟨some 69, .mv (.tmp 0), none, []⟩,
  ⟨some 70, .nilck (.tmp 69), none, [0]⟩,
  ⟨some 71, .fadr 0 (.tmp 70), none, [0]⟩,
  ⟨some 72, .load 1 false false (.tmp 71), none, [0]⟩,
  ⟨some 73, .len (.tmp 72), none, []⟩,
  ⟨some 74, .bin .rem (.tmp 68) (.tmp 73), none, []⟩,
  ⟨some 75, .iadr 1 (.tmp 65) (.tmp 74), none, []⟩,
  ⟨some 76, .load 1 false false (.tmp 75), none, []⟩,
  ⟨some 77, .conv (.int .i64) (.tmp 76), none, []⟩,
  ⟨some 78, .bin .mul (.tmp 77) (.const (.int .i64 1117)), none, []⟩,
  ⟨some 79, .bin .add (.tmp 61) (.tmp 78), none, []⟩,
  ⟨some 80, .mv (.tmp 5), none, []⟩,
  ⟨some 81, .bin .mul (.tmp 80) (.const (.int .i64 29)), none, []⟩,
  ⟨some 82, .bin .add (.tmp 79) (.tmp 81), none, []⟩,
  ⟨some 83, .mv (.tmp 5), none, []⟩,
  ⟨some 84, .mv (.tmp 0), none, []⟩,
  ⟨some 85, .nilck (.tmp 84), none, [0]⟩,
  ⟨some 86, .fadr 0 (.tmp 85), none, [0]⟩,
  ⟨some 87, .load 1 false false (.tmp 86), none, [0]⟩,
  ⟨some 88, .len (.tmp 87), none, []⟩,
  ⟨some 89, .bin .quo (.tmp 83) (.tmp 88), none, []⟩,
  ⟨some 90, .bin .mul (.tmp 89) (.const (.int .i64 53)), none, []⟩,
  ⟨some 91, .bin .add (.tmp 82) (.tmp 90), none, []⟩,
  ⟨some 6, .mv (.tmp 91), none, []⟩])
 (.seq (.region false [⟨some 92, .mv (.tmp 6), none, []⟩,
  ⟨some 93, .mv (.tmp 6), none, []⟩,
  ⟨some 94, .bin .quo (.tmp 93) (.const (.int .i64 64)), none, []⟩,
  ⟨some 95, .bin .xor (.tmp 92) (.tmp 94), none, []⟩,
  ⟨some 6, .mv (.tmp 95), none, []⟩])
 (.seq (.region false [⟨some 96, .mv (.tmp 6), none, []⟩,
  ⟨some 97, .mv (.tmp 1), none, []⟩,
  ⟨some 98, .bin .rem (.tmp 96) (.tmp 97), none, []⟩,
  ⟨some 4, .mv (.tmp 98), none, []⟩])
 .ret)))))))) }
noncomputable def p1600 : ProcT := { kind := .fn, ins := [0, 1, 2], bins := [], res := [.tmp 6], code := (.seq (.region false [⟨some 6, .mv (.const (.bool false)), none, []⟩])
 (.seq (.region false [⟨some 7, .mv (.tmp 0), none, []⟩,
  ⟨some 8, .mv (.tmp 1), none, []⟩,
  ⟨some 9, .bin .geq (.tmp 7) (.tmp 8), none, []⟩,
  ⟨some 10, .mv (.tmp 9), none, []⟩,
  ⟨some 11, .mv (.tmp 0), some (10, true), []⟩,
  ⟨some 12, .mv (.tmp 2), some (10, true), []⟩,
  ⟨some 13, .bin .leq (.tmp 11) (.tmp 12), some (10, true), []⟩,
  ⟨some 14, .pick (.tmp 10) (.tmp 13) (.const (.bool false)), none, []⟩,
  ⟨some 6, .mv (.tmp 14), none, []⟩])
 .ret)) }
noncomputable def p11200 : ProcT := { kind := .fn, ins := [0, 1, 2, 3], bins := [], res := [.tmp 8, .tmp 9, .tmp 10], code := (.seq (.region false [⟨some 8, .mv (.const (.int .i64 0)), none, []⟩,
  ⟨some 9, .mv (.const (.int .i64 0)), none, []⟩,
  ⟨some 10, .mv (.const (.bool false)), none, []⟩])
 (.seq (.seq (.region false [⟨some 11, .mv (.tmp 0), none, []⟩,
  ⟨some 12, .call 1600 0 [.tmp 11, .const (.int .i64 1), .const (.int .i64 3)], none, []⟩,
  ⟨some 13, .un .not (.tmp 12), none, []⟩,
  ⟨some 14, .mv (.tmp 13), none, []⟩,
  ⟨some 15, .mv (.tmp 1), some (14, false), []⟩,
  ⟨some 16, .mv (.tmp 0), some (14, false), []⟩,
  ⟨some 17, .bin .sub (.tmp 16) (.const (.int .i64 1)), some (14, false), []⟩,
  ⟨some 18, .call 1600 0 [.tmp 15, .const (.int .i64 0), .tmp 17], some (14, false), []⟩,
  ⟨some 19, .un .not (.tmp 18), some (14, false), []⟩,
  ⟨some 20, .pick (.tmp 14) (.const (.bool true)) (.tmp 19), none, []⟩,
  ⟨some 21, .mv (.tmp 20), none, []⟩,
  ⟨some 22, .mv (.tmp 2), some (21, false), []⟩,
  ⟨some 23, .mv (.tmp 0), some (21, false), []⟩,
  ⟨some 24, .bin .sub (.tmp 23) (.const (.int .i64 1)), some (21, false), []⟩,
  ⟨some 25, .call 1600 0 [.tmp 22, .const (.int .i64 0), .tmp 24], some (21, false), []⟩,
  ⟨some 26, .un .not (.tmp 25), some (21, false), []⟩,
  ⟨some 27, .pick (.tmp 21) (.const (.bool true)) (.tmp 26), none, []⟩])
 (.cond (.tmp 27) (.seq (.region false [⟨some 8, .mv (.const (.int .i64 0)), none, []⟩,
  ⟨some 9, .mv (.const (.int .i64 0)), none, []⟩,
  ⟨some 10, .mv (.const (.bool false)), none, []⟩])
 .ret) .skip))
 (.seq (.seq (.region false [⟨some 28, .mv (.tmp 3), none, []⟩])
 (.block 0 (.seq (.region false [⟨some 30, .bin .eql (.tmp 28) (.const (.int .i64 1)), none, []⟩,
  ⟨some 29, .mv (.tmp 30), none, []⟩])
 (.cond (.tmp 29) (.seq (.region false [⟨some 31, .mv (.tmp 1), none, []⟩,
  ⟨some 8, .mv (.tmp 31), none, []⟩,
  ⟨some 9, .mv (.const (.int .i64 0)), none, []⟩,
  ⟨some 10, .mv (.const (.bool true)), none, []⟩])
 .ret) (.seq (.region false [⟨some 33, .bin .eql (.tmp 28) (.const (.int .i64 2)), none, []⟩,
  ⟨some 32, .mv (.tmp 33), none, []⟩])
 (.cond (.tmp 32) (.seq (.region false [⟨some 34, .mv (.tmp 1), none, []⟩,
  ⟨some 35, .bin .add (.tmp 34) (.const (.int .i64 1)), none, []⟩,
  ⟨some 36, .mv (.tmp 0), none, []⟩,
  ⟨some 37, .bin .rem (.tmp 35) (.tmp 36), none, []⟩,
  ⟨some 8, .mv (.tmp 37), none, []⟩,
  ⟨some 9, .mv (.const (.int .i64 0)), none, []⟩,
  ⟨some 10, .mv (.const (.bool true)), none, []⟩])
 .ret) (.seq (.seq (.region false [⟨some 39, .bin .eql (.tmp 28) (.const (.int .i64 3)), none, []⟩,
  ⟨some 38, .mv (.tmp 39), none, []⟩])
 (.cond (.tmp 38) .skip (.region false [⟨some 40, .bin .eql (.tmp 28) (.const (.int .i64 4)), none, []⟩,
  ⟨some 38, .mv (.tmp 40), none, []⟩])))
 (.cond (.tmp 38) (.seq (.region false [⟨some 41, .mv (.tmp 1), none, []⟩,
  ⟨some 42, .bin .add (.tmp 41) (.const (.int .i64 1)), none, []⟩,
  ⟨some 43, .mv (.tmp 0), none, []⟩,
  ⟨some 44, .bin .rem (.tmp 42) (.tmp 43), none, []⟩,
  ⟨some 45, .mv (.tmp 2), none, []⟩,
  ⟨some 46, .bin .add (.tmp 45) (.const (.int .i64 1)), none, []⟩,
  ⟨some 8, .mv (.tmp 44), none, []⟩,
  ⟨some 9, .mv (.tmp 46), none, []⟩,
  ⟨some 10, .mv (.const (.bool true)), none, []⟩])
 .ret) .skip))))))))
 (.seq (.region false [⟨some 8, .mv (.const (.int .i64 0)), none, []⟩,
  ⟨some 9, .mv (.const (.int .i64 0)), none, []⟩,
  ⟨some 10, .mv (.const (.bool false)), none, []⟩])
 .ret)))) }
noncomputable def p11300 : ProcT := { kind := .fn, ins := [0, 1, 2, 3], bins := [], res := [.tmp 8, .tmp 9, .tmp 10], code := (.seq (.region false [⟨some 8, .mv (.const (.int .i64 0)), none, []⟩,
  ⟨some 9, .mv (.const (.int .i64 0)), none, []⟩,
  ⟨some 10, .mv (.const (.bool false)), none, []⟩])
 (.seq (.seq (.region false [⟨some 11, .mv (.tmp 0), none, []⟩,
  ⟨some 12, .bin .lss (.tmp 11) (.const (.int .i64 1)), none, []⟩,
  ⟨some 13, .mv (.tmp 12), none, []⟩,
  ⟨some 14, .mv (.tmp 0), some (13, false), []⟩,
  ⟨some 15, .bin .gtr (.tmp 14) (.const (.int .i64 3)), some (13, false), []⟩,
  ⟨some 16, .pick (.tmp 13) (.const (.bool true)) (.tmp 15), none, []⟩,
  ⟨some 17, .mv (.tmp 16), none, []⟩,
  ⟨some 18, .mv (.tmp 1), some (17, false), []⟩,
  ⟨some 19, .bin .lss (.tmp 18) (.const (.int .i64 0)), some (17, false), []⟩,
  ⟨some 20, .pick (.tmp 17) (.const (.bool true)) (.tmp 19), none, []⟩,
  ⟨some 21, .mv (.tmp 20), none, []⟩,
  ⟨some 22, .mv (.tmp 1), some (21, false), []⟩,
  ⟨some 23, .mv (.tmp 0), some (21, false), []⟩,
  ⟨some 24, .bin .geq (.tmp 22) (.tmp 23), some (21, false), []⟩,
  ⟨some 25, .pick (.tmp 21) (.const (.bool true)) (.tmp 24), none, []⟩,
  ⟨some 26, .mv (.tmp 25), none, []⟩,
  ⟨some 27, .mv (.tmp 2), some (26, false), []⟩,
  ⟨some 28, .bin .lss (.tmp 27) (.const (.int .i64 0)), some (26, false), []⟩,
  ⟨some 29, .pick (.tmp 26) (.const (.bool true)) (.tmp 28), none, []⟩,
  ⟨some 30, .mv (.tmp 29), none, []⟩,
  ⟨some 31, .mv (.tmp 2), some (30, false), []⟩,
  ⟨some 32, .mv (.tmp 0), some (30, false), []⟩,
  ⟨some 33, .bin .geq (.tmp 31) (.tmp 32), some (30, false), []⟩,
  ⟨some 34, .pick (.tmp 30) (.const (.bool true)) (.tmp 33), none, []⟩])
 (.cond (.tmp 34) (.seq (.region false [⟨some 8, .mv (.const (.int .i64 0)), none, []⟩,
  ⟨some 9, .mv (.const (.int .i64 0)), none, []⟩,
  ⟨some 10, .mv (.const (.bool false)), none, []⟩])
 .ret) .skip))
 (.seq (.seq (.region false [⟨some 35, .mv (.tmp 3), none, []⟩])
 (.block 0 (.seq (.region false [⟨some 37, .bin .eql (.tmp 35) (.const (.int .i64 1)), none, []⟩,
  ⟨some 36, .mv (.tmp 37), none, []⟩])
 (.cond (.tmp 36) (.seq (.region false [⟨some 38, .mv (.tmp 1), none, []⟩,
  ⟨some 8, .mv (.tmp 38), none, []⟩,
  ⟨some 9, .mv (.const (.int .i64 0)), none, []⟩,
  ⟨some 10, .mv (.const (.bool true)), none, []⟩])
 .ret) (.seq (.region false [⟨some 40, .bin .eql (.tmp 35) (.const (.int .i64 2)), none, []⟩,
  ⟨some 39, .mv (.tmp 40), none, []⟩])
 (.cond (.tmp 39) (.seq (.region false [⟨some 41, .mv (.tmp 1), none, []⟩,
  ⟨some 42, .bin .add (.tmp 41) (.const (.int .i64 1)), none, []⟩,
  ⟨some 43, .mv (.tmp 0), none, []⟩,
  ⟨some 44, .bin .rem (.tmp 42) (.tmp 43), none, []⟩,
  ⟨some 8, .mv (.tmp 44), none, []⟩,
  ⟨some 9, .mv (.const (.int .i64 0)), none, []⟩,
  ⟨some 10, .mv (.const (.bool true)), none, []⟩])
 .ret) (.seq (.seq (.region false [⟨some 46, .bin .eql (.tmp 35) (.const (.int .i64 3)), none, []⟩,
  ⟨some 45, .mv (.tmp 46), none, []⟩])
 (.cond (.tmp 45) .skip (.region false [⟨some 47, .bin .eql (.tmp 35) (.const (.int .i64 4)), none, []⟩,
  ⟨some 45, .mv (.tmp 47), none, []⟩])))
 (.cond (.tmp 45) (.seq (.region false [⟨some 48, .mv (.tmp 1), none, []⟩,
  ⟨some 49, .bin .add (.tmp 48) (.const (.int .i64 1)), none, []⟩,
  ⟨some 50, .mv (.tmp 0), none, []⟩,
  ⟨some 51, .bin .rem (.tmp 49) (.tmp 50), none, []⟩,
  ⟨some 52, .mv (.tmp 2), none, []⟩,
  ⟨some 53, .bin .add (.tmp 52) (.const (.int .i64 1)), none, []⟩,
  ⟨some 8, .mv (.tmp 51), none, []⟩,
  ⟨some 9, .mv (.tmp 53), none, []⟩,
  ⟨some 10, .mv (.const (.bool true)), none, []⟩])
 .ret) .skip))))))))
 (.seq (.region false [⟨some 8, .mv (.const (.int .i64 0)), none, []⟩,
  ⟨some 9, .mv (.const (.int .i64 0)), none, []⟩,
  ⟨some 10, .mv (.const (.bool false)), none, []⟩])
 .ret)))) }
noncomputable def p11500 : ProcT := { kind := .fn, ins := [0], bins := [], res := [.tmp 2, .tmp 3, .tmp 4, .tmp 5], code := (.seq (.region false [⟨some 2, .mv (.const (.int .i64 0)), none, []⟩,
  ⟨some 3, .mv (.const (.int .i64 0)), none, []⟩,
  ⟨some 4, .mv (.const (.int .i64 0)), none, []⟩,
  ⟨some 5, .mv (.const (.int .i64 0)), none, []⟩])
 (.seq (.region false [⟨some 11, .mv (.tmp 0), none, []⟩,
  ⟨some 12, .call 100 100 [.tmp 11], none, []⟩,
  ⟨some 6, .mv (.tmp 12), none, []⟩])
 (.seq (.region false [⟨some 13, .mv (.tmp 6), none, []⟩,
  ⟨some 14, .call 200 0 [.tmp 13, .const (.int .i64 3)], none, []⟩,
  ⟨some 15, .bin .add (.const (.int .i64 1)) (.tmp 14), none, []⟩,
  ⟨some 7, .mv (.tmp 15), none, []⟩])
 (.seq (.region false [⟨some 16, .mv (.tmp 6), none, []⟩,
  ⟨some 17, .mv (.tmp 7), none, []⟩,
  ⟨some 18, .call 200 0 [.tmp 16, .tmp 17], none, []⟩,
  ⟨some 8, .mv (.tmp 18), none, []⟩])
 (.seq (.region false [⟨some 19, .mv (.tmp 6), none, []⟩,
  ⟨some 20, .mv (.tmp 7), none, []⟩,
  ⟨some 21, .call 200 0 [.tmp 19, .tmp 20], none, []⟩,
  ⟨some 9, .mv (.tmp 21), none, []⟩])
 (.seq (.region false [⟨some 22, .mv (.tmp 6), none, []⟩,
  ⟨some 23, .call 200 0 [.tmp 22, .const (.int .i64 4)], none, []⟩,
  ⟨some 24, .bin .add (.const (.int .i64 1)) (.tmp 23), none, []⟩,
  ⟨some 10, .mv (.tmp 24), none, []⟩])
 (.seq (.seq (.region false [⟨some 25, .mv (.tmp 6), none, []⟩,
  ⟨some 26, .call 200 0 [.tmp 25, .const (.int .i64 24)], none, []⟩])
 (.block 0 (.seq (.region false [⟨some 28, .bin .eql (.tmp 26) (.const (.int .i64 0)), none, []⟩,
  ⟨some 27, .mv (.tmp 28), none, []⟩])
 (.cond (.tmp 27) (.region false [⟨some 29, .buildS .int [.const (.int .i64 0), .const (.int .i64 4)], none, []⟩,
  ⟨some 30, .mv (.tmp 6), none, []⟩,
  ⟨some 31, .call 200 0 [.tmp 30, .const (.int .i64 2)], none, []⟩,
  ⟨some 32, .iadr 1 (.tmp 29) (.tmp 31), none, []⟩,
  ⟨some 33, .load 1 false false (.tmp 32), none, []⟩,
  ⟨some 7, .mv (.tmp 33), none, []⟩]) (.seq (.region false [⟨some 35, .bin .eql (.tmp 26) (.const (.int .i64 1)), none, []⟩,
  ⟨some 34, .mv (.tmp 35), none, []⟩])
 (.cond (.tmp 34) (.region false [⟨some 36, .mv (.tmp 7), none, []⟩,
  ⟨some 8, .mv (.tmp 36), none, []⟩]) (.seq (.region false [⟨some 38, .bin .eql (.tmp 26) (.const (.int .i64 2)), none, []⟩,
  ⟨some 37, .mv (.tmp 38), none, []⟩])
 (.cond (.tmp 37) (.region false [⟨some 39, .mv (.tmp 7), none, []⟩,
  ⟨some 9, .mv (.tmp 39), none, []⟩]) (.seq (.region false [⟨some 41, .bin .eql (.tmp 26) (.const (.int .i64 3)), none, []⟩,
  ⟨some 40, .mv (.tmp 41), none, []⟩])
 (.cond (.tmp 40) (.region false [⟨some 42, .buildS .int [.const (.int .i64 0), .const (.int .i64 5)], none, []⟩,
  ⟨some 43, .mv (.tmp 6), none, []⟩,
  ⟨some 44, .call 200 0 [.tmp 43, .const (.int .i64 2)], none, []⟩,
  ⟨some 45, .iadr 1 (.tmp 42) (.tmp 44), none, []⟩,
  ⟨some 46, .load 1 false false (.tmp 45), none, []⟩,
  ⟨some 10, .mv (.tmp 46), none, []⟩]) .skip))))))))))
 (.seq (.region false [⟨some 47, .mv (.tmp 7), none, []⟩,
  ⟨some 48, .mv (.tmp 8), none, []⟩,
  ⟨some 49, .mv (.tmp 9), none, []⟩,
  ⟨some 50, .mv (.tmp 10), none, []⟩,
  ⟨some 2, .mv (.tmp 47), none, []⟩,
  ⟨some 3, .mv (.tmp 48), none, []⟩,
  ⟨some 4, .mv (.tmp 49), none, []⟩,
  ⟨some 5, .mv (.tmp 50), none, []⟩])
 .ret)))))))) }
noncomputable def p11700 : ProcT := { kind := .fn, ins := [0], bins := [], res := [.tmp 2], code := (.seq (.region false [⟨some 2, .mv (.const (.bool false)), none, []⟩])
 (.seq (.seq (.region false [⟨some 22, .mv (.tmp 0), none, []⟩,
  ⟨some 23, .len (.tmp 22), none, []⟩,
  ⟨some 24, .bin .gtr (.tmp 23) (.const (.int .i64 1048576)), none, []⟩])
 (.cond (.tmp 24) (.seq (.region false [⟨some 2, .mv (.const (.bool true)), none, []⟩])
 .ret) .skip))
 (.seq (.region false [⟨some 26, .mv (.tmp 0), none, []⟩,
  ⟨some 27, .call 11500 0 [.tmp 26], none, []⟩,
  ⟨some 25, .mv (.tmp 27), none, []⟩,
  ⟨some 28, .ext 0 (.tmp 25), none, []⟩,
  ⟨some 29, .ext 1 (.tmp 25), none, []⟩,
  ⟨some 30, .ext 2 (.tmp 25), none, []⟩,
  ⟨some 31, .ext 3 (.tmp 25), none, []⟩,
  ⟨some 3, .mv (.tmp 28), none, []⟩,
  ⟨some 4, .mv (.tmp 29), none, []⟩,
  ⟨some 5, .mv (.tmp 30), none, []⟩,
  ⟨some 6, .mv (.tmp 31), none, []⟩])
 (.seq (.region false [⟨some 33, .mv (.tmp 3), none, []⟩,
  ⟨some 34, .mv (.tmp 4), none, []⟩,
  ⟨some 35, .mv (.tmp 5), none, []⟩,
  ⟨some 36, .mv (.tmp 6), none, []⟩,
  ⟨some 37, .call 11300 0 [.tmp 33, .tmp 34, .tmp 35, .tmp 36], none, []⟩,
  ⟨some 32, .mv (.tmp 37), none, []⟩,
  ⟨some 38, .ext 0 (.tmp 32), none, []⟩,
  ⟨some 39, .ext 1 (.tmp 32), none, []⟩,
  ⟨some 40, .ext 2 (.tmp 32), none, []⟩,
  ⟨some 7, .mv (.tmp 38), none, []⟩,
  ⟨some 8, .mv (.tmp 39), none, []⟩,
  ⟨some 9, .mv (.tmp 40), none, []⟩])
 (.seq (.region false [⟨some 42, .mv (.tmp 3), none, []⟩,
  ⟨some 43, .mv (.tmp 4), none, []⟩,
  ⟨some 44, .mv (.tmp 5), none, []⟩,
  ⟨some 45, .mv (.tmp 6), none, []⟩,
  ⟨some 46, .call 11200 0 [.tmp 42, .tmp 43, .tmp 44, .tmp 45], none, []⟩,
  ⟨some 41, .mv (.tmp 46), none, []⟩,
  ⟨some 47, .ext 0 (.tmp 41), none, []⟩,
  ⟨some 48, .ext 1 (.tmp 41), none, []⟩,
  ⟨some 49, .ext 2 (.tmp 41), none, []⟩,
  ⟨some 10, .mv (.tmp 47), none, []⟩,
  ⟨some 11, .mv (.tmp 48), none, []⟩,
  ⟨some 12, .mv (.tmp 49), none, []⟩])
 (.seq (.seq (.region false [⟨some 50, .mv (.tmp 9), none, []⟩,
  ⟨some 51, .mv (.tmp 12), none, []⟩,
  ⟨some 52, .eqb true (.tmp 50) (.tmp 51), none, []⟩,
  ⟨some 53, .mv (.tmp 52), none, []⟩,
  ⟨some 54, .mv (.tmp 8), some (53, false), []⟩,
  ⟨some 55, .mv (.tmp 11), some (53, false), []⟩,
  ⟨some 56, .bin .neq (.tmp 54) (.tmp 55), some (53, false), []⟩,
  ⟨some 57, .pick (.tmp 53) (.const (.bool true)) (.tmp 56), none, []⟩,
  ⟨some 58, .mv (.tmp 57), none, []⟩,
  ⟨some 59, .mv (.tmp 7), some (58, false), []⟩,
  ⟨some 60, .mv (.tmp 10), some (58, false), []⟩,
  ⟨some 61, .bin .neq (.tmp 59) (.tmp 60), some (58, false), []⟩,
  ⟨some 62, .pick (.tmp 58) (.const (.bool true)) (.tmp 61), none, []⟩,
  ⟨some 63, .mv (.tmp 62), none, []⟩,
  ⟨some 64, .mv (.tmp 9), some (63, false), []⟩,
  ⟨some 65, .un .not (.tmp 64), some (63, false), []⟩,
  ⟨some 66, .pick (.tmp 63) (.const (.bool true)) (.tmp 65), none, []⟩])
 (.cond (.tmp 66) (.seq (.region false [⟨some 67, .mv (.tmp 9), none, []⟩,
  ⟨some 68, .mv (.tmp 12), none, []⟩,
  ⟨some 69, .eqb false (.tmp 67) (.tmp 68), none, []⟩,
  ⟨some 70, .mv (.tmp 69), none, []⟩,
  ⟨some 71, .mv (.tmp 8), some (70, true), []⟩,
  ⟨some 72, .mv (.tmp 11), some (70, true), []⟩,
  ⟨some 73, .bin .eql (.tmp 71) (.tmp 72), some (70, true), []⟩,
  ⟨some 74, .pick (.tmp 70) (.tmp 73) (.const (.bool false)), none, []⟩,
  ⟨some 75, .mv (.tmp 74), none, []⟩,
  ⟨some 76, .mv (.tmp 7), some (75, true), []⟩,
  ⟨some 77, .mv (.tmp 10), some (75, true), []⟩,
  ⟨some 78, .bin .eql (.tmp 76) (.tmp 77), some (75, true), []⟩,
  ⟨some 79, .pick (.tmp 75) (.tmp 78) (.const (.bool false)), none, []⟩,
  ⟨some 2, .mv (.tmp 79), none, []⟩])
 .ret) .skip))
 (.seq (.region false [⟨some 80, .mv (.tmp 4), none, []⟩,
  ⟨some 13, .mv (.tmp 80), none, []⟩])
 (.seq (.region false [⟨some 14, .mv (.const (.int .i64 0)), none, []⟩])
 (.seq (.seq (.region false [⟨some 15, .mv (.const (.int .i64 0)), none, []⟩])
 (.block 0 (.label 11701)))
 (.seq (.region false [⟨some 99, .mv (.tmp 3), none, []⟩,
  ⟨some 100, .mv (.tmp 13), none, []⟩,
  ⟨some 101, .mv (.tmp 14), none, []⟩,
  ⟨some 102, .call 11300 0 [.tmp 99, .tmp 100, .tmp 101, .const (.int .i64 3)], none, []⟩,
  ⟨some 98, .mv (.tmp 102), none, []⟩,
  ⟨some 103, .ext 0 (.tmp 98), none, []⟩,
  ⟨some 104, .ext 1 (.tmp 98), none, []⟩,
  ⟨some 105, .ext 2 (.tmp 98), none, []⟩,
  ⟨some 19, .mv (.tmp 103), none, []⟩,
  ⟨some 20, .mv (.tmp 104), none, []⟩,
  ⟨some 21, .mv (.tmp 105), none, []⟩])
 (.seq (.region false [⟨some 106, .mv (.tmp 13), none, []⟩,
  ⟨some 107, .mv (.tmp 4), none, []⟩,
  ⟨some 108, .bin .eql (.tmp 106) (.tmp 107), none, []⟩,
  ⟨some 109, .mv (.tmp 108), none, []⟩,
  ⟨some 110, .mv (.tmp 14), some (109, true), []⟩,
  ⟨some 111, .mv (.tmp 3), some (109, true), []⟩,
  ⟨some 112, .bin .eql (.tmp 110) (.tmp 111), some (109, true), []⟩,
  ⟨some 113, .pick (.tmp 109) (.tmp 112) (.const (.bool false)), none, []⟩,
  ⟨some 114, .mv (.tmp 113), none, []⟩,
  ⟨some 115, .mv (.tmp 21), some (114, true), []⟩,
  ⟨some 116, .un .not (.tmp 115), some (114, true), []⟩,
  ⟨some 117, .pick (.tmp 114) (.tmp 116) (.const (.bool false)), none, []⟩,
  ⟨some 2, .mv (.tmp 117), none, []⟩])
 .ret))))))))))) }
noncomputable def p11701 : ProcT := { kind := .loop, ins := [3, 4, 13, 14, 15], bins := [], outs := [2, 3, 4, 13, 14], bouts := [], code := (.seq (.seq (.region false [⟨some 81, .mv (.tmp 15), none, []⟩,
  ⟨some 82, .mv (.tmp 3), none, []⟩,
  ⟨some 83, .bin .lss (.tmp 81) (.tmp 82), none, []⟩])
 (.cond (.tmp 83) .skip (.exit 0)))
 (.seq (.block 1 (.seq (.region false [⟨some 87, .mv (.tmp 3), none, []⟩,
  ⟨some 88, .mv (.tmp 13), none, []⟩,
  ⟨some 89, .mv (.tmp 14), none, []⟩,
  ⟨some 90, .call 11300 0 [.tmp 87, .tmp 88, .tmp 89, .const (.int .i64 3)], none, []⟩,
  ⟨some 86, .mv (.tmp 90), none, []⟩,
  ⟨some 91, .ext 0 (.tmp 86), none, []⟩,
  ⟨some 92, .ext 1 (.tmp 86), none, []⟩,
  ⟨some 93, .ext 2 (.tmp 86), none, []⟩,
  ⟨some 16, .mv (.tmp 91), none, []⟩,
  ⟨some 17, .mv (.tmp 92), none, []⟩,
  ⟨some 18, .mv (.tmp 93), none, []⟩])
 (.seq (.seq (.region false [⟨some 94, .mv (.tmp 18), none, []⟩,
  ⟨some 95, .un .not (.tmp 94), none, []⟩])
 (.cond (.tmp 95) (.seq (.region false [⟨some 2, .mv (.const (.bool false)), none, []⟩])
 .ret) .skip))
 (.seq (.region false [⟨some 96, .mv (.tmp 16), none, []⟩,
  ⟨some 13, .mv (.tmp 96), none, []⟩])
 (.region false [⟨some 97, .mv (.tmp 17), none, []⟩,
  ⟨some 14, .mv (.tmp 97), none, []⟩])))))
 (.region false [⟨some 84, .mv (.tmp 15), none, []⟩,
  ⟨some 85, .bin .add (.tmp 84) (.const (.int .i64 1)), none, []⟩,
  ⟨some 15, .mv (.tmp 85), none, []⟩]))) }
noncomputable def tab : List (Nat × ProcT) := [(100, p100), (200, p200), (1600, p1600), (11200, p11200), (11300, p11300), (11500, p11500), (11700, p11700), (11701, p11701)]
noncomputable abbrev Tb : Nat → Option ProcT := (Vs.look · tab)
@[reducible] def s100 : Sig := [⟨.ret, [.np 2], [], [.h (.sl .u8), .h (.int .i64)]⟩]
@[reducible] def s200 : Sig := [⟨.ret, [.one], [.var 2], [.h (.int .i64), .h (.sl .u8), .h (.int .i64)]⟩]
@[reducible] def s1600 : Sig := [⟨.ret, [.one], [], [.h (.bool)]⟩]
@[reducible] def s11200 : Sig := [⟨.ret, [.tup 3], [], [.h (.int .i64), .h (.int .i64), .h (.bool)]⟩]
@[reducible] def s11300 : Sig := [⟨.ret, [.tup 3], [], [.h (.int .i64), .h (.int .i64), .h (.bool)]⟩]
@[reducible] def s11500 : Sig := [⟨.ret, [.tup 4], [], [.h (.int .i64), .h (.int .i64), .h (.int .i64), .h (.int .i64)]⟩]
@[reducible] def s11700 : Sig := [⟨.ret, [.one], [], [.h (.bool)]⟩]
@[reducible] def s11701 : Sig := [⟨.exit 0, [.one, .one, .one, .one, .one], [], [.undef, .h (.int .i64), .h (.int .i64), .h (.int .i64), .h (.int .i64)]⟩, ⟨.ret, [.one, .one, .one, .one, .one], [], [.h (.bool), .h (.int .i64), .h (.int .i64), .h (.int .i64), .h (.int .i64)]⟩]
def sgs : List (Nat × Sig) := [(100, s100), (200, s200), (1600, s1600), (11200, s11200), (11300, s11300), (11500, s11500), (11700, s11700), (11701, s11701)]
def sg (g : Nat) : Sig := (Vs.look g sgs).getD []
def GT (i : Nat) : List TV := []
noncomputable def laws_FnTurnRound (a0 : List Int) : Option (Bool) := callTy Tb GT s11700 11700 [.sl .share .u8 a0] []
noncomputable def spec_DrawNextTurn (a0 : List Int) : Option (Int × Int × Int × Int) := callTy Tb GT s11500 11500 [.sl .share .u8 a0] []
noncomputable def impl_NextTurn (a0 : Int) (a1 : Int) (a2 : Int) (a3 : Int) : Option (Int × Int × Bool) := callTy Tb GT s11300 11300 [.int .i64 a0, .int .i64 a1, .int .i64 a2, .int .i64 a3] []
noncomputable def spec_NextTurn (a0 : Int) (a1 : Int) (a2 : Int) (a3 : Int) : Option (Int × Int × Bool) := callTy Tb GT s11200 11200 [.int .i64 a0, .int .i64 a1, .int .i64 a2, .int .i64 a3] []
noncomputable def laws_FnTurnRound_l1 (t3 : Int) (t4 : Int) (t13 : Int) (t14 : Int) (t15 : Int) : Option ((Int × Int × Int × Int) ⊕ (Bool × Int × Int × Int × Int)) := callTy Tb GT s11701 11701 [.int .i64 t3, .int .i64 t4, .int .i64 t13, .int .i64 t14, .int .i64 t15] []
noncomputable def spec_l6Open (a0 : List Int) : Option (List Int × Int) := callTy Tb GT s100 100 [.sl .share .u8 a0] []
noncomputable def spec_l6Rd_pick (a1 : Int) (a0b : List Int) (a0p : Int) : Option (Int × List Int × Int) := callTy Tb GT s200 200 [.bp 0 0, .int .i64 a1] [.var [.sl .share .u8 a0b, .int .i64 a0p]]
noncomputable def spec_l6In (a0 : Int) (a1 : Int) (a2 : Int) : Option (Bool) := callTy Tb GT s1600 1600 [.int .i64 a0, .int .i64 a1, .int .i64 a2] []
end Go.TFnTurnRound
