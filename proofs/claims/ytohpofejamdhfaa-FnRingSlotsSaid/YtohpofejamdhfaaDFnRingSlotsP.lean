import Derived.Test.YtohpofejamdhfaaLkA
import Derived.Test.YtohpofejamdhfaaPm2
import Derived.Test.YtohpofejamdhfaaPm4

set_option linter.unusedVariables false
namespace Go.TFnRingSlots
open Go Go.RowKit Go.Vs Go.Tv

noncomputable def p100 : ProcT := { kind := .fn, ins := [0], bins := [], res := [.tmp 2], code := (.seq (.region false [⟨some 2, .mv (.const (.con .nilp)), none, []⟩])
 (.seq (.seq (.region false [⟨some 3, .mv (.tmp 0), none, []⟩,
  ⟨some 4, .len (.tmp 3), none, []⟩,
  ⟨some 5, .bin .gtr (.tmp 4) (.const (.int .i64 2000)), none, []⟩])
 (.cond (.tmp 5) (.region false [⟨some 6, .mv (.tmp 0), none, []⟩,
  ⟨some 7, .slc 1 (.tmp 6) none (some (.const (.int .i64 2000))) none, none, []⟩,
  ⟨some 0, .mv (.take 7), none, []⟩]) .skip))
 (.seq (.region false [⟨some 8, .mv (.tmp 0), none, []⟩,
  ⟨some 9, .build [.sl (.own false) .u8 [], .int .i64 0] [(0, 1, .tmp 8)], none, []⟩,
  ⟨some 10, .box 100 (.tmp 9), none, []⟩,
  ⟨some 2, .mv (.tmp 10), none, []⟩])
 .ret))) }
noncomputable def p200 : ProcT := { kind := .fn, ins := [0, 1], bins := [0], res := [.tmp 4], code := (.seq (.region false [⟨some 4, .mv (.const (.int .i64 0)), none, []⟩])
 (.seq (.region false [⟨some 7, .mv (.tmp 0), none, []⟩,
  ⟨some 8, .mv (.tmp 0), none, []⟩,
  ⟨some 9, .nilck (.tmp 8), none, []⟩,
  ⟨some 10, .fadr 1 (.tmp 9), none, []⟩,
  ⟨some 11, .load 1 false false (.tmp 10), none, []⟩,
  ⟨some 12, .bin .add (.tmp 11) (.const (.int .i64 1)), none, []⟩,
  ⟨some 13, .nilck (.tmp 7), none, []⟩,
  ⟨some 14, .fadr 1 (.tmp 13), none, []⟩,
  ⟨none, .store 1 (.tmp 14) (.tmp 12), none, []⟩])
 (.seq (.seq (.region false [⟨some 15, .mv (.tmp 1), none, []⟩,
  ⟨some 16, .bin .lss (.tmp 15) (.const (.int .i64 1)), none, []⟩,
  ⟨some 17, .mv (.tmp 16), none, []⟩,
  ⟨some 18, .mv (.tmp 0), some (17, false), []⟩,
  ⟨some 19, .nilck (.tmp 18), some (17, false), []⟩,
  ⟨some 20, .fadr 0 (.tmp 19), some (17, false), []⟩,
  ⟨some 21, .load 1 false false (.tmp 20), some (17, false), []⟩,
  ⟨some 22, .len (.tmp 21), some (17, false), []⟩,
  ⟨some 23, .bin .eql (.tmp 22) (.const (.int .i64 0)), some (17, false), []⟩,
  ⟨some 24, .pick (.tmp 17) (.const (.bool true)) (.tmp 23), none, []⟩])
 (.cond (.tmp 24) (.seq (.region false [⟨some 4, .mv (.const (.int .i64 0)), none, []⟩])
 .ret) .skip))
 (.seq (.region false [⟨some 25, .mv (.tmp 0), none, []⟩,
  ⟨some 26, .nilck (.tmp 25), none, []⟩,
  ⟨some 27, .fadr 1 (.tmp 26), none, []⟩,
  ⟨some 28, .load 1 false false (.tmp 27), none, []⟩,
  ⟨some 29, .bin .sub (.tmp 28) (.const (.int .i64 1)), none, []⟩,
  ⟨some 5, .mv (.tmp 29), none, []⟩])
 (.seq (.seq (.region false [⟨some 30, .mv (.tmp 5), none, []⟩,
  ⟨some 31, .mv (.tmp 0), none, []⟩,
  ⟨some 32, .nilck (.tmp 31), none, []⟩,
  ⟨some 33, .fadr 0 (.tmp 32), none, []⟩,
  ⟨some 34, .load 1 false false (.tmp 33), none, []⟩,
  ⟨some 35, .len (.tmp 34), none, []⟩,
  ⟨some 36, .bin .lss (.tmp 30) (.tmp 35), none, []⟩])
 (.cond (.tmp 36) (.seq (.region false [⟨some 37, .mv (.tmp 0), none, []⟩,
  ⟨some 38, .nilck (.tmp 37), none, []⟩,
  ⟨some 39, .fadr 0 (.tmp 38), none, []⟩,
  ⟨some 40, .load 1 false false (.tmp 39), none, []⟩,
  ⟨some 41, .mv (.tmp 5), none, []⟩,
  ⟨some 42, .iadr 1 (.tmp 40) (.tmp 41), none, []⟩,
  ⟨some 43, .load 1 false false (.tmp 42), none, []⟩,
  ⟨some 44, .conv (.int .i64) (.tmp 43), none, []⟩,
  ⟨some 45, .mv (.tmp 1), none, []⟩,
  ⟨some 46, .bin .rem (.tmp 44) (.tmp 45), none, []⟩,
  ⟨some 4, .mv (.tmp 46), none, []⟩])
 .ret) .skip))
 (.seq (.region true [⟨some 47, .mv (.tmp 0), none, []⟩,
  ⟨some 48, .nilck (.tmp 47), none, [0]⟩,
  ⟨some 49, .fadr 0 (.tmp 48), none, [0]⟩,
  ⟨some 50, .load 1 false false (.tmp 49), none, [0]⟩,
  ⟨some 51, .mv (.tmp 5), none, []⟩,
  ⟨some 52, .mv (.tmp 0), none, []⟩,
  ⟨some 53, .nilck (.tmp 52), none, [0]⟩,
  ⟨some 54, .fadr 0 (.tmp 53), none, [0]⟩,
  ⟨some 55, .load 1 false false (.tmp 54), none, [0]⟩,
  ⟨some 56, .len (.tmp 55), none, []⟩,
  ⟨some 57, .bin .rem (.tmp 51) (.tmp 56), none, []⟩,
  ⟨some 58, .iadr 1 (.tmp 50) (.tmp 57), none, []⟩,
  ⟨some 59, .load 1 false false (.tmp 58), none, []⟩,
  ⟨some 60, .conv (.int .i64) (.tmp 59), none, []⟩,
  ⟨some 61, .bin .mul (.tmp 60) (.const (.int .i64 131)), none, []⟩,
  ⟨some 62, .mv (.tmp 0), none, []⟩,
  ⟨some 63, .nilck (.tmp 62), none, [0]⟩,
  ⟨some 64, .fadr 0 (.tmp 63), none, [0]⟩,
  ⟨some 65, .load 1 false false (.tmp 64), none, [0]⟩,
  ⟨some 66, .mv (.tmp 5), none, []⟩,
  ⟨some 67, .bin .mul (.tmp 66) (.const (.int .i64 7)), none, []⟩,
  ⟨some 68, .bin .add (.tmp 67) (.const (.int .i64 3)), none, []⟩,
  ⟨some 69, .mv (.tmp 0), none, []⟩,
  ⟨some 70, .nilck (.tmp 69), none, [0]⟩,
  ⟨some 71, .fadr 0 (.tmp 70), none, [0]⟩,
  ⟨some 72, .load 1 false false (.tmp 71), none, [0]⟩,
  ⟨some 73, .len (.tmp 72), none, []⟩,
  ⟨some 74, .bin .rem (.tmp 68) (.tmp 73), none, []⟩,
  ⟨some 75, .iadr 1 (.tmp 65) (.tmp 74), none, []⟩,
  ⟨some 76, .load 1 false false (.tmp 75), none, []⟩,
  ⟨some 77, .conv (.int .i64) (.tmp 76), none, []⟩,
  ⟨some 78, .bin .mul (.tmp 77) (.const (.int .i64 1117)), none, []⟩,
  ⟨some 79, .bin .add (.tmp 61) (.tmp 78), none, []⟩,
  ⟨some 80, .mv (.tmp 5), none, []⟩,
  ⟨some 81, .bin .mul (.tmp 80) (.const (.int .i64 29)), none, []⟩,
  ⟨some 82, .bin .add (.tmp 79) (.tmp 81), none, []⟩,
  ⟨some 83, .mv (.tmp 5), none, []⟩,
  ⟨some 84, .mv (.tmp 0), none, []⟩,
  ⟨some 85, .nilck (.tmp 84), none, [0]⟩,
  ⟨some 86, .fadr 0 (.tmp 85), none, [0]⟩,
  ⟨some 87, .load 1 false false (.tmp 86), none, [0]⟩,
  ⟨some 88, .len (.tmp 87), none, []⟩,
  ⟨some 89, .bin .quo (.tmp 83) (.tmp 88), none, []⟩,
  ⟨some 90, .bin .mul (.tmp 89) (.const (.int .i64 53)), none, []⟩,
  ⟨some 91, .bin .add (.tmp 82) (.tmp 90), none, []⟩,
  ⟨some 6, .mv (.tmp 91), none, []⟩])
 (.seq (.region false [⟨some 92, .mv (.tmp 6), none, []⟩,
  ⟨some 93, .mv (.tmp 6), none, []⟩,
  ⟨some 94, .bin .quo (.tmp 93) (.const (.int .i64 64)), none, []⟩,
  ⟨some 95, .bin .xor (.tmp 92) (.tmp 94), none, []⟩,
  ⟨some 6, .mv (.tmp 95), none, []⟩])
 (.seq (.region false [⟨some 96, .mv (.tmp 6), none, []⟩,
  ⟨some 97, .mv (.tmp 1), none, []⟩,
  ⟨some 98, .bin .rem (.tmp 96) (.tmp 97), none, []⟩,
  ⟨some 4, .mv (.tmp 98), none, []⟩])
 .ret)))))))) }
noncomputable def p1600 : ProcT := { kind := .fn, ins := [0, 1, 2], bins := [], res := [.tmp 6], code := (.seq (.region false [⟨some 6, .mv (.const (.bool false)), none, []⟩])
 (.seq (.region false [⟨some 7, .mv (.tmp 0), none, []⟩,
  ⟨some 8, .mv (.tmp 1), none, []⟩,
  ⟨some 9, .bin .geq (.tmp 7) (.tmp 8), none, []⟩,
  ⟨some 10, .mv (.tmp 9), none, []⟩,
  ⟨some 11, .mv (.tmp 0), some (10, true), []⟩,
  ⟨some 12, .mv (.tmp 2), some (10, true), []⟩,
  ⟨some 13, .bin .leq (.tmp 11) (.tmp 12), some (10, true), []⟩,
  ⟨some 14, .pick (.tmp 10) (.tmp 13) (.const (.bool false)), none, []⟩,
  ⟨some 6, .mv (.tmp 14), none, []⟩])
 .ret)) }
noncomputable def p3700 : ProcT := { kind := .fn, ins := [0], bins := [], res := [.tmp 2], code := (.seq (.region false [⟨some 2, .mv (.const (.int .i64 0)), none, []⟩])
 (.seq (.region false [⟨some 4, .mv (.tmp 0), none, []⟩,
  ⟨some 5, .bin .rem (.tmp 4) (.const (.int .i64 4294967296)), none, []⟩,
  ⟨some 3, .mv (.tmp 5), none, []⟩])
 (.seq (.seq (.region false [⟨some 6, .mv (.tmp 3), none, []⟩,
  ⟨some 7, .bin .gtr (.tmp 6) (.const (.int .i64 2147483647)), none, []⟩])
 (.cond (.tmp 7) (.seq (.region false [⟨some 8, .mv (.tmp 3), none, []⟩,
  ⟨some 9, .bin .sub (.tmp 8) (.const (.int .i64 4294967296)), none, []⟩,
  ⟨some 2, .mv (.tmp 9), none, []⟩])
 .ret) .skip))
 (.seq (.seq (.region false [⟨some 10, .mv (.tmp 3), none, []⟩,
  ⟨some 11, .bin .lss (.tmp 10) (.const (.int .i64 (-2147483648))), none, []⟩])
 (.cond (.tmp 11) (.seq (.region false [⟨some 12, .mv (.tmp 3), none, []⟩,
  ⟨some 13, .bin .add (.tmp 12) (.const (.int .i64 4294967296)), none, []⟩,
  ⟨some 2, .mv (.tmp 13), none, []⟩])
 .ret) .skip))
 (.seq (.region false [⟨some 14, .mv (.tmp 3), none, []⟩,
  ⟨some 2, .mv (.tmp 14), none, []⟩])
 .ret))))) }
noncomputable def p3800 : ProcT := { kind := .fn, ins := [0], bins := [0], res := [.tmp 2], code := (.seq (.region false [⟨some 2, .mv (.const (.int .i64 0)), none, []⟩])
 (.seq (.seq (.region false [⟨some 3, .mv (.tmp 0), none, []⟩,
  ⟨some 4, .call 200 0 [.tmp 3, .const (.int .i64 6)], none, []⟩])
 (.block 0 (.seq (.region false [⟨some 6, .bin .eql (.tmp 4) (.const (.int .i64 0)), none, []⟩,
  ⟨some 5, .mv (.tmp 6), none, []⟩])
 (.cond (.tmp 5) (.seq (.region false [⟨some 7, .buildS .full .int [.const (.int .i64 (-2147483648)), .const (.int .i64 2147483647), .const (.int .i64 (-1)), .const (.int .i64 0), .const (.int .i64 1), .const (.int .i64 (-2147483647)), .const (.int .i64 65536), .const (.int .i64 (-65536))], none, []⟩,
  ⟨some 8, .mv (.tmp 0), none, []⟩,
  ⟨some 9, .call 200 0 [.tmp 8, .const (.int .i64 8)], none, []⟩,
  ⟨some 10, .iadr 1 (.tmp 7) (.tmp 9), none, []⟩,
  ⟨some 11, .load 1 false false (.tmp 10), none, []⟩,
  ⟨some 2, .mv (.tmp 11), none, []⟩])
 .ret) (.seq (.region false [⟨some 13, .bin .eql (.tmp 4) (.const (.int .i64 1)), none, []⟩,
  ⟨some 12, .mv (.tmp 13), none, []⟩])
 (.cond (.tmp 12) (.seq (.region false [⟨some 14, .mv (.tmp 0), none, []⟩,
  ⟨some 15, .call 200 0 [.tmp 14, .const (.int .i64 256)], none, []⟩,
  ⟨some 16, .bin .mul (.tmp 15) (.const (.int .i64 65536)), none, []⟩,
  ⟨some 17, .mv (.tmp 0), none, []⟩,
  ⟨some 18, .call 200 0 [.tmp 17, .const (.int .i64 256)], none, []⟩,
  ⟨some 19, .bin .mul (.tmp 18) (.const (.int .i64 256)), none, []⟩,
  ⟨some 20, .bin .add (.tmp 16) (.tmp 19), none, []⟩,
  ⟨some 21, .mv (.tmp 0), none, []⟩,
  ⟨some 22, .call 200 0 [.tmp 21, .const (.int .i64 256)], none, []⟩,
  ⟨some 23, .bin .add (.tmp 20) (.tmp 22), none, []⟩,
  ⟨some 24, .mv (.tmp 0), none, []⟩,
  ⟨some 25, .call 200 0 [.tmp 24, .const (.int .i64 200)], none, []⟩,
  ⟨some 26, .bin .add (.const (.int .i64 1)) (.tmp 25), none, []⟩,
  ⟨some 27, .bin .mul (.tmp 23) (.tmp 26), none, []⟩,
  ⟨some 28, .call 3700 0 [.tmp 27], none, []⟩,
  ⟨some 2, .mv (.tmp 28), none, []⟩])
 .ret) (.seq (.region false [⟨some 30, .bin .eql (.tmp 4) (.const (.int .i64 2)), none, []⟩,
  ⟨some 29, .mv (.tmp 30), none, []⟩])
 (.cond (.tmp 29) (.seq (.region false [⟨some 31, .mv (.tmp 0), none, []⟩,
  ⟨some 32, .call 200 0 [.tmp 31, .const (.int .i64 200)], none, []⟩,
  ⟨some 33, .bin .sub (.const (.int .i64 0)) (.tmp 32), none, []⟩,
  ⟨some 2, .mv (.tmp 33), none, []⟩])
 .ret) .skip))))))))
 (.seq (.region false [⟨some 34, .mv (.tmp 0), none, []⟩,
  ⟨some 35, .call 200 0 [.tmp 34, .const (.int .i64 20)], none, []⟩,
  ⟨some 2, .mv (.tmp 35), none, []⟩])
 .ret))) }
noncomputable def p5000 : ProcT := { kind := .fn, ins := [0], bins := [], res := [.tmp 2], code := (.seq (.region false [⟨some 2, .mv (.const (.bool false)), none, []⟩])
 (.seq (.region false [⟨some 3, .mv (.tmp 0), none, []⟩,
  ⟨some 4, .bin .geq (.tmp 3) (.const (.int .i64 (-2147483648))), none, []⟩,
  ⟨some 5, .mv (.tmp 4), none, []⟩,
  ⟨some 6, .mv (.tmp 0), some (5, true), []⟩,
  ⟨some 7, .bin .leq (.tmp 6) (.const (.int .i64 2147483647)), some (5, true), []⟩,
  ⟨some 8, .pick (.tmp 5) (.tmp 7) (.const (.bool false)), none, []⟩,
  ⟨some 2, .mv (.tmp 8), none, []⟩])
 .ret)) }
noncomputable def p5100 : ProcT := { kind := .fn, ins := [0], bins := [], res := [.tmp 2], code := (.seq (.region false [⟨some 2, .mv (.const (.bool false)), none, []⟩])
 (.seq (.seq (.region false [⟨some 5, .mv (.tmp 0), none, []⟩,
  ⟨some 6, .len (.tmp 5), none, []⟩,
  ⟨some 7, .mv (.const (.int .i64 0)), none, []⟩])
 (.block 0 (.label 5101)))
 (.seq (.region false [⟨some 2, .mv (.const (.bool true)), none, []⟩])
 .ret))) }
noncomputable def p5101 : ProcT := { kind := .loop, ins := [5, 6, 7], bins := [], outs := [2], bouts := [], code := (.seq (.region false [⟨some 8, .bin .lss (.tmp 7) (.tmp 6), none, []⟩])
 (.seq (.cond (.tmp 8) .skip (.exit 0))
 (.seq (.block 1 (.seq (.region false [⟨some 9, .iadr 1 (.tmp 5) (.tmp 7), none, []⟩,
  ⟨some 10, .load 1 false false (.tmp 9), none, []⟩,
  ⟨some 4, .mv (.tmp 10), none, []⟩])
 (.seq (.region false [⟨some 11, .mv (.tmp 4), none, []⟩,
  ⟨some 12, .call 5000 0 [.tmp 11], none, []⟩,
  ⟨some 13, .un .not (.tmp 12), none, []⟩])
 (.cond (.tmp 13) (.seq (.region false [⟨some 2, .mv (.const (.bool false)), none, []⟩])
 .ret) .skip))))
 (.region false [⟨some 14, .bin .add (.tmp 7) (.const (.int .i64 1)), none, []⟩,
  ⟨some 7, .mv (.tmp 14), none, []⟩])))) }
noncomputable def p6400 : ProcT := { kind := .fn, ins := [0], bins := [], res := [.tmp 2], code := (.seq (.region false [⟨some 2, .mv (.const (.bool false)), none, []⟩])
 (.seq (.region false [⟨some 3, .mv (.tmp 0), none, []⟩,
  ⟨some 4, .call 1600 0 [.tmp 3, .const (.int .i64 (-2147483648)), .const (.int .i64 2147483647)], none, []⟩,
  ⟨some 2, .mv (.tmp 4), none, []⟩])
 .ret)) }
noncomputable def p6500 : ProcT := { kind := .fn, ins := [0, 1], bins := [], res := [.tmp 4], code := (.seq (.region false [⟨some 4, .mv (.const (.bool false)), none, []⟩])
 (.seq (.seq (.region false [⟨some 6, .mv (.tmp 0), none, []⟩,
  ⟨some 7, .len (.tmp 6), none, []⟩,
  ⟨some 8, .mv (.tmp 1), none, []⟩,
  ⟨some 9, .bin .neq (.tmp 7) (.tmp 8), none, []⟩])
 (.cond (.tmp 9) (.seq (.region false [⟨some 4, .mv (.const (.bool false)), none, []⟩])
 .ret) .skip))
 (.seq (.seq (.region false [⟨some 5, .mv (.const (.int .i64 0)), none, []⟩])
 (.block 0 (.label 6501)))
 (.seq (.region false [⟨some 4, .mv (.const (.bool true)), none, []⟩])
 .ret)))) }
noncomputable def p6501 : ProcT := { kind := .loop, ins := [0, 5], bins := [], outs := [4], bouts := [], code := (.seq (.seq (.region false [⟨some 10, .mv (.tmp 5), none, []⟩,
  ⟨some 11, .mv (.tmp 0), none, []⟩,
  ⟨some 12, .len (.tmp 11), none, []⟩,
  ⟨some 13, .bin .lss (.tmp 10) (.tmp 12), none, []⟩])
 (.cond (.tmp 13) .skip (.exit 0)))
 (.seq (.block 1 (.seq (.region false [⟨some 16, .mv (.tmp 0), none, []⟩,
  ⟨some 17, .mv (.tmp 5), none, []⟩,
  ⟨some 18, .iadr 1 (.tmp 16) (.tmp 17), none, []⟩,
  ⟨some 19, .load 1 false false (.tmp 18), none, []⟩,
  ⟨some 20, .call 6400 0 [.tmp 19], none, []⟩,
  ⟨some 21, .un .not (.tmp 20), none, []⟩])
 (.cond (.tmp 21) (.seq (.region false [⟨some 4, .mv (.const (.bool false)), none, []⟩])
 .ret) .skip)))
 (.region false [⟨some 14, .mv (.tmp 5), none, []⟩,
  ⟨some 15, .bin .add (.tmp 14) (.const (.int .i64 1)), none, []⟩,
  ⟨some 5, .mv (.tmp 15), none, []⟩]))) }
noncomputable def p9700 : ProcT := { kind := .fn, ins := [0, 1], bins := [], res := [.tmp 4], code := (.seq (.region false [⟨some 4, .mv (.const (.bool false)), none, []⟩])
 (.seq (.seq (.region false [⟨some 6, .mv (.tmp 0), none, []⟩,
  ⟨some 7, .len (.tmp 6), none, []⟩,
  ⟨some 8, .mv (.tmp 1), none, []⟩,
  ⟨some 9, .len (.tmp 8), none, []⟩,
  ⟨some 10, .bin .neq (.tmp 7) (.tmp 9), none, []⟩])
 (.cond (.tmp 10) (.seq (.region false [⟨some 4, .mv (.const (.bool false)), none, []⟩])
 .ret) .skip))
 (.seq (.seq (.region false [⟨some 5, .mv (.const (.int .i64 0)), none, []⟩])
 (.block 0 (.label 9701)))
 (.seq (.region false [⟨some 4, .mv (.const (.bool true)), none, []⟩])
 .ret)))) }
noncomputable def p9701 : ProcT := { kind := .loop, ins := [0, 1, 5], bins := [], outs := [4], bouts := [], code := (.seq (.seq (.region false [⟨some 11, .mv (.tmp 5), none, []⟩,
  ⟨some 12, .mv (.tmp 0), none, []⟩,
  ⟨some 13, .len (.tmp 12), none, []⟩,
  ⟨some 14, .bin .lss (.tmp 11) (.tmp 13), none, []⟩])
 (.cond (.tmp 14) .skip (.exit 0)))
 (.seq (.block 1 (.seq (.region true [⟨some 17, .mv (.tmp 0), none, []⟩,
  ⟨some 18, .mv (.tmp 5), none, []⟩,
  ⟨some 19, .iadr 1 (.tmp 17) (.tmp 18), none, []⟩,
  ⟨some 20, .load 1 false false (.tmp 19), none, []⟩,
  ⟨some 21, .mv (.tmp 1), none, []⟩,
  ⟨some 22, .mv (.tmp 5), none, []⟩,
  ⟨some 23, .iadr 1 (.tmp 21) (.tmp 22), none, []⟩,
  ⟨some 24, .load 1 false false (.tmp 23), none, []⟩,
  ⟨some 25, .bin .neq (.tmp 20) (.tmp 24), none, []⟩])
 (.cond (.tmp 25) (.seq (.region false [⟨some 4, .mv (.const (.bool false)), none, []⟩])
 .ret) .skip)))
 (.region false [⟨some 15, .mv (.tmp 5), none, []⟩,
  ⟨some 16, .bin .add (.tmp 15) (.const (.int .i64 1)), none, []⟩,
  ⟨some 5, .mv (.tmp 16), none, []⟩]))) }
noncomputable def p16300 : ProcT := { kind := .fn, ins := [0], bins := [], res := [.tmp 2], code := (.seq (.region false [⟨some 1, .box 100 (.tmp 0), none, []⟩,
  ⟨some 2, .mv (.const (.bool false)), none, []⟩])
 (.seq (.region false [⟨some 3, .fadr 0 (.tmp 1), none, []⟩,
  ⟨some 4, .load 1 false false (.tmp 3), none, []⟩,
  ⟨some 5, .call 1600 0 [.tmp 4, .const (.int .i64 1), .const (.int .i64 4)], none, []⟩,
  ⟨some 6, .mv (.tmp 5), none, []⟩,
  ⟨some 7, .fadr 1 (.tmp 1), some (6, true), []⟩,
  ⟨some 8, .load 1 false false (.tmp 7), some (6, true), []⟩,
  ⟨some 9, .fadr 0 (.tmp 1), some (6, true), []⟩,
  ⟨some 10, .load 1 false false (.tmp 9), some (6, true), []⟩,
  ⟨some 11, .bin .sub (.tmp 10) (.const (.int .i64 1)), some (6, true), []⟩,
  ⟨some 12, .call 1600 0 [.tmp 8, .const (.int .i64 0), .tmp 11], some (6, true), []⟩,
  ⟨some 13, .pick (.tmp 6) (.tmp 12) (.const (.bool false)), none, []⟩,
  ⟨some 14, .mv (.tmp 13), none, []⟩,
  ⟨some 15, .fadr 2 (.tmp 1), some (14, true), []⟩,
  ⟨some 16, .load 1 false false (.tmp 15), some (14, true), []⟩,
  ⟨some 17, .fadr 0 (.tmp 1), some (14, true), []⟩,
  ⟨some 18, .load 1 false false (.tmp 17), some (14, true), []⟩,
  ⟨some 19, .call 1600 0 [.tmp 16, .const (.int .i64 0), .tmp 18], some (14, true), []⟩,
  ⟨some 20, .pick (.tmp 14) (.tmp 19) (.const (.bool false)), none, []⟩,
  ⟨some 21, .mv (.tmp 20), none, []⟩,
  ⟨some 22, .fadr 3 (.tmp 1), some (21, true), []⟩,
  ⟨some 23, .load 1 false false (.tmp 22), some (21, true), []⟩,
  ⟨some 24, .call 6500 0 [.tmp 23, .const (.int .i64 4)], some (21, true), []⟩,
  ⟨some 25, .pick (.tmp 21) (.tmp 24) (.const (.bool false)), none, []⟩,
  ⟨some 2, .mv (.tmp 25), none, []⟩])
 .ret)) }
noncomputable def p16600 : ProcT := { kind := .fn, ins := [0], bins := [], res := [.tmp 2], code := (.seq (.region false [⟨some 1, .box 100 (.tmp 0), none, []⟩,
  ⟨some 2, .mv (.const (.bool false)), none, []⟩])
 (.seq (.region false [⟨some 3, .fadr 0 (.tmp 1), none, []⟩,
  ⟨some 4, .load 1 false false (.tmp 3), none, []⟩,
  ⟨some 5, .bin .geq (.tmp 4) (.const (.int .i64 1)), none, []⟩,
  ⟨some 6, .mv (.tmp 5), none, []⟩,
  ⟨some 7, .fadr 0 (.tmp 1), some (6, true), []⟩,
  ⟨some 8, .load 1 false false (.tmp 7), some (6, true), []⟩,
  ⟨some 9, .bin .leq (.tmp 8) (.const (.int .i64 4)), some (6, true), []⟩,
  ⟨some 10, .pick (.tmp 6) (.tmp 9) (.const (.bool false)), none, []⟩,
  ⟨some 11, .mv (.tmp 10), none, []⟩,
  ⟨some 12, .fadr 1 (.tmp 1), some (11, true), []⟩,
  ⟨some 13, .load 1 false false (.tmp 12), some (11, true), []⟩,
  ⟨some 14, .bin .geq (.tmp 13) (.const (.int .i64 0)), some (11, true), []⟩,
  ⟨some 15, .pick (.tmp 11) (.tmp 14) (.const (.bool false)), none, []⟩,
  ⟨some 16, .mv (.tmp 15), none, []⟩,
  ⟨some 17, .fadr 1 (.tmp 1), some (16, true), []⟩,
  ⟨some 18, .load 1 false false (.tmp 17), some (16, true), []⟩,
  ⟨some 19, .fadr 0 (.tmp 1), some (16, true), []⟩,
  ⟨some 20, .load 1 false false (.tmp 19), some (16, true), []⟩,
  ⟨some 21, .bin .lss (.tmp 18) (.tmp 20), some (16, true), []⟩,
  ⟨some 22, .pick (.tmp 16) (.tmp 21) (.const (.bool false)), none, []⟩,
  ⟨some 23, .mv (.tmp 22), none, []⟩,
  ⟨some 24, .fadr 2 (.tmp 1), some (23, true), []⟩,
  ⟨some 25, .load 1 false false (.tmp 24), some (23, true), []⟩,
  ⟨some 26, .bin .geq (.tmp 25) (.const (.int .i64 0)), some (23, true), []⟩,
  ⟨some 27, .pick (.tmp 23) (.tmp 26) (.const (.bool false)), none, []⟩,
  ⟨some 28, .mv (.tmp 27), none, []⟩,
  ⟨some 29, .fadr 2 (.tmp 1), some (28, true), []⟩,
  ⟨some 30, .load 1 false false (.tmp 29), some (28, true), []⟩,
  ⟨some 31, .fadr 0 (.tmp 1), some (28, true), []⟩,
  ⟨some 32, .load 1 false false (.tmp 31), some (28, true), []⟩,
  ⟨some 33, .bin .leq (.tmp 30) (.tmp 32), some (28, true), []⟩,
  ⟨some 34, .pick (.tmp 28) (.tmp 33) (.const (.bool false)), none, []⟩,
  ⟨some 35, .mv (.tmp 34), none, []⟩,
  ⟨some 36, .fadr 3 (.tmp 1), some (35, true), []⟩,
  ⟨some 37, .load 1 false false (.tmp 36), some (35, true), []⟩,
  ⟨some 38, .len (.tmp 37), some (35, true), []⟩,
  ⟨some 39, .bin .eql (.tmp 38) (.const (.int .i64 4)), some (35, true), []⟩,
  ⟨some 40, .pick (.tmp 35) (.tmp 39) (.const (.bool false)), none, []⟩,
  ⟨some 41, .mv (.tmp 40), none, []⟩,
  ⟨some 42, .fadr 3 (.tmp 1), some (41, true), []⟩,
  ⟨some 43, .load 1 false false (.tmp 42), some (41, true), []⟩,
  ⟨some 44, .call 5100 0 [.tmp 43], some (41, true), []⟩,
  ⟨some 45, .pick (.tmp 41) (.tmp 44) (.const (.bool false)), none, []⟩,
  ⟨some 2, .mv (.tmp 45), none, []⟩])
 .ret)) }
noncomputable def p16800 : ProcT := { kind := .fn, ins := [0], bins := [], res := [.cell 2 4 true, .tmp 3, .tmp 4], code := (.seq (.region false [⟨some 1, .box 100 (.tmp 0), none, []⟩,
  ⟨some 2, .alloc 101 [.int .i64 0, .int .i64 0, .int .i64 0, .sl (.own false) .int []], none, []⟩,
  ⟨some 3, .mv (.const (.int .i64 0)), none, []⟩,
  ⟨some 4, .mv (.const (.bool false)), none, []⟩])
 (.seq (.seq (.region false [⟨some 6, .load 4 true false (.tmp 1), none, []⟩,
  ⟨some 7, .call 16600 0 [.tmp 6], none, []⟩,
  ⟨some 8, .un .not (.tmp 7), none, []⟩,
  ⟨some 9, .mv (.tmp 8), none, []⟩,
  ⟨some 10, .fadr 2 (.tmp 1), some (9, false), []⟩,
  ⟨some 11, .load 1 false false (.tmp 10), some (9, false), []⟩,
  ⟨some 12, .bin .eql (.tmp 11) (.const (.int .i64 0)), some (9, false), []⟩,
  ⟨some 13, .pick (.tmp 9) (.const (.bool true)) (.tmp 12), none, []⟩])
 (.cond (.tmp 13) (.seq (.region false [⟨some 14, .build [.int .i64 0, .int .i64 0, .int .i64 0, .sl (.own false) .int []] [], none, []⟩,
  ⟨none, .store 4 (.tmp 2) (.tmp 14), none, []⟩,
  ⟨some 3, .mv (.const (.int .i64 0)), none, []⟩,
  ⟨some 4, .mv (.const (.bool false)), none, []⟩])
 .ret) .skip))
 (.seq (.region false [⟨some 15, .fadr 3 (.tmp 1), none, []⟩,
  ⟨some 16, .load 1 false false (.tmp 15), none, []⟩,
  ⟨some 17, .call 16700 0 [.tmp 16], none, []⟩,
  ⟨some 18, .fadr 3 (.tmp 1), none, []⟩,
  ⟨none, .store 1 (.tmp 18) (.take 17), none, []⟩])
 (.seq (.region false [⟨some 19, .fadr 3 (.tmp 1), none, []⟩,
  ⟨some 20, .load 1 false false (.tmp 19), none, []⟩,
  ⟨some 21, .fadr 1 (.tmp 1), none, []⟩,
  ⟨some 22, .load 1 false false (.tmp 21), none, []⟩,
  ⟨some 23, .iadr 1 (.tmp 20) (.tmp 22), none, []⟩,
  ⟨some 24, .load 1 false false (.tmp 23), none, []⟩,
  ⟨some 5, .mv (.tmp 24), none, []⟩])
 (.seq (.region false [⟨some 25, .fadr 1 (.tmp 1), none, []⟩,
  ⟨some 26, .load 1 false false (.tmp 25), none, []⟩,
  ⟨some 27, .bin .add (.tmp 26) (.const (.int .i64 1)), none, []⟩,
  ⟨some 28, .fadr 0 (.tmp 1), none, []⟩,
  ⟨some 29, .load 1 false false (.tmp 28), none, []⟩,
  ⟨some 30, .bin .rem (.tmp 27) (.tmp 29), none, []⟩,
  ⟨some 31, .fadr 1 (.tmp 1), none, []⟩,
  ⟨none, .store 1 (.tmp 31) (.tmp 30), none, []⟩])
 (.seq (.region false [⟨some 32, .fadr 2 (.tmp 1), none, []⟩,
  ⟨some 33, .load 1 false false (.tmp 32), none, []⟩,
  ⟨some 34, .bin .sub (.tmp 33) (.const (.int .i64 1)), none, []⟩,
  ⟨some 35, .fadr 2 (.tmp 1), none, []⟩,
  ⟨none, .store 1 (.tmp 35) (.tmp 34), none, []⟩])
 (.seq (.region false [⟨some 36, .load 4 true false (.tmp 1), none, []⟩,
  ⟨some 37, .mv (.tmp 5), none, []⟩,
  ⟨none, .store 4 (.tmp 2) (.tmp 36), none, []⟩,
  ⟨some 3, .mv (.tmp 37), none, []⟩,
  ⟨some 4, .mv (.const (.bool true)), none, []⟩])
 .ret))))))) }
noncomputable def p17300 : ProcT := { kind := .fn, ins := [0, 1], bins := [0], res := [.tmp 4], code := (.seq (.region false [⟨some 4, .mv (.const (.sl (.own false) .int [])), none, []⟩])
 (.seq (.region false [⟨some 7, .buildS (.own true) .int [], none, []⟩,
  ⟨some 5, .mv (.take 7), none, []⟩])
 (.seq (.seq (.region false [⟨some 6, .mv (.const (.int .i64 0)), none, []⟩])
 (.block 0 (.label 17301)))
 (.seq (.region false [⟨some 18, .mv (.take 5), none, []⟩,
  ⟨some 4, .mv (.take 18), none, []⟩])
 .ret)))) }
noncomputable def p17301 : ProcT := { kind := .loop, ins := [0, 1, 5, 6], bins := [0], outs := [0, 4, 5], bouts := [0], code := (.seq (.seq (.region false [⟨some 8, .mv (.tmp 6), none, []⟩,
  ⟨some 9, .mv (.tmp 1), none, []⟩,
  ⟨some 10, .bin .lss (.tmp 8) (.tmp 9), none, []⟩])
 (.cond (.tmp 10) .skip (.exit 0)))
 (.seq (.block 1 (.region false [⟨some 13, .mv (.take 5), none, []⟩,
  ⟨some 14, .mv (.tmp 0), none, []⟩,
  ⟨some 15, .call 3800 0 [.tmp 14], none, []⟩,
  ⟨some 16, .buildS .full .int [.tmp 15], none, []⟩,
  ⟨some 17, .app 1 (.take 13) (.tmp 16), none, []⟩,
  ⟨some 5, .mv (.take 17), none, []⟩]))
 (.region false [⟨some 11, .mv (.tmp 6), none, []⟩,
  ⟨some 12, .bin .add (.tmp 11) (.const (.int .i64 1)), none, []⟩,
  ⟨some 6, .mv (.tmp 12), none, []⟩]))) }
noncomputable def p18300 : ProcT := { kind := .fn, ins := [0], bins := [0], res := [.tmp 2], code := (.seq (.region false [⟨some 2, .mv (.const (.int .i64 0)), none, []⟩])
 (.seq (.seq (.region false [⟨some 3, .mv (.tmp 0), none, []⟩,
  ⟨some 4, .call 200 0 [.tmp 3, .const (.int .i64 4)], none, []⟩])
 (.block 0 (.seq (.region false [⟨some 6, .bin .eql (.tmp 4) (.const (.int .i64 0)), none, []⟩,
  ⟨some 5, .mv (.tmp 6), none, []⟩])
 (.cond (.tmp 5) (.seq (.region false [⟨some 7, .mv (.tmp 0), none, []⟩,
  ⟨some 8, .call 3800 0 [.tmp 7], none, []⟩,
  ⟨some 9, .buildS .full .int [.const (.int .i64 1), .const (.int .i64 2), .const (.int .i64 3), .const (.int .i64 65536), .const (.int .i64 (-65536)), .const (.int .i64 1000000000)], none, []⟩,
  ⟨some 10, .mv (.tmp 0), none, []⟩,
  ⟨some 11, .call 200 0 [.tmp 10, .const (.int .i64 6)], none, []⟩,
  ⟨some 12, .iadr 1 (.tmp 9) (.tmp 11), none, []⟩,
  ⟨some 13, .load 1 false false (.tmp 12), none, []⟩,
  ⟨some 14, .bin .mul (.tmp 8) (.tmp 13), none, []⟩,
  ⟨some 2, .mv (.tmp 14), none, []⟩])
 .ret) (.seq (.region false [⟨some 16, .bin .eql (.tmp 4) (.const (.int .i64 1)), none, []⟩,
  ⟨some 15, .mv (.tmp 16), none, []⟩])
 (.cond (.tmp 15) (.seq (.region false [⟨some 17, .buildS .full .int [.const (.int .i64 2147483648), .const (.int .i64 (-2147483649)), .const (.int .i64 4294967295), .const (.int .i64 4294967296), .const (.int .i64 (-4294967296)), .const (.int .i64 9223372036854775807), .const (.int .i64 (-9223372036854775808))], none, []⟩,
  ⟨some 18, .mv (.tmp 0), none, []⟩,
  ⟨some 19, .call 200 0 [.tmp 18, .const (.int .i64 7)], none, []⟩,
  ⟨some 20, .iadr 1 (.tmp 17) (.tmp 19), none, []⟩,
  ⟨some 21, .load 1 false false (.tmp 20), none, []⟩,
  ⟨some 2, .mv (.tmp 21), none, []⟩])
 .ret) .skip))))))
 (.seq (.region false [⟨some 22, .mv (.tmp 0), none, []⟩,
  ⟨some 23, .call 3800 0 [.tmp 22], none, []⟩,
  ⟨some 2, .mv (.tmp 23), none, []⟩])
 .ret))) }
noncomputable def p19500 : ProcT := { kind := .fn, ins := [0], bins := [0], res := [.cell 2 4 true], code := (.seq (.region false [⟨some 2, .alloc 100 [.int .i64 0, .int .i64 0, .int .i64 0, .sl (.own false) .int []], none, []⟩])
 (.seq (.region false [⟨some 5, .mv (.tmp 0), none, []⟩,
  ⟨some 6, .call 200 0 [.tmp 5, .const (.int .i64 4)], none, []⟩,
  ⟨some 7, .bin .add (.const (.int .i64 1)) (.tmp 6), none, []⟩,
  ⟨some 3, .mv (.tmp 7), none, []⟩])
 (.seq (.region false [⟨some 8, .mv (.tmp 3), none, []⟩,
  ⟨some 9, .mv (.tmp 0), none, []⟩,
  ⟨some 10, .mv (.tmp 3), none, []⟩,
  ⟨some 11, .call 200 0 [.tmp 9, .tmp 10], none, []⟩,
  ⟨some 12, .mv (.tmp 0), none, []⟩,
  ⟨some 13, .mv (.tmp 3), none, []⟩,
  ⟨some 14, .bin .add (.tmp 13) (.const (.int .i64 1)), none, []⟩,
  ⟨some 15, .call 200 0 [.tmp 12, .tmp 14], none, []⟩,
  ⟨some 16, .mv (.tmp 0), none, []⟩,
  ⟨some 17, .call 17300 0 [.tmp 16, .const (.int .i64 4)], none, []⟩,
  ⟨some 18, .build [.int .i64 0, .int .i64 0, .int .i64 0, .sl (.own false) .int []] [(0, 1, .tmp 8), (1, 1, .tmp 11), (2, 1, .tmp 15), (3, 1, .tmp 17)], none, []⟩,
  ⟨some 4, .alloc 101 [.int .i64 0, .int .i64 0, .int .i64 0, .sl (.own false) .int []], none, []⟩,
  ⟨none, .store 4 (.tmp 4) (.tmp 18), none, []⟩])
 (.seq (.seq (.region false [⟨some 19, .mv (.tmp 0), none, []⟩,
  ⟨some 20, .call 200 0 [.tmp 19, .const (.int .i64 40)], none, []⟩])
 (.block 0 (.seq (.region false [⟨some 22, .bin .eql (.tmp 20) (.const (.int .i64 0)), none, []⟩,
  ⟨some 21, .mv (.tmp 22), none, []⟩])
 (.cond (.tmp 21) (.region false [⟨some 23, .mv (.tmp 3), none, []⟩,
  ⟨some 24, .fadr 1 (.tmp 4), none, []⟩,
  ⟨none, .store 1 (.tmp 24) (.tmp 23), none, []⟩]) (.seq (.region false [⟨some 26, .bin .eql (.tmp 20) (.const (.int .i64 1)), none, []⟩,
  ⟨some 25, .mv (.tmp 26), none, []⟩])
 (.cond (.tmp 25) (.region false [⟨some 27, .mv (.tmp 3), none, []⟩,
  ⟨some 28, .bin .add (.tmp 27) (.const (.int .i64 1)), none, []⟩,
  ⟨some 29, .buildS .full .int [.const (.int .i64 (-1)), .tmp 28], none, []⟩,
  ⟨some 30, .mv (.tmp 0), none, []⟩,
  ⟨some 31, .call 200 0 [.tmp 30, .const (.int .i64 2)], none, []⟩,
  ⟨some 32, .iadr 1 (.tmp 29) (.tmp 31), none, []⟩,
  ⟨some 33, .load 1 false false (.tmp 32), none, []⟩,
  ⟨some 34, .fadr 2 (.tmp 4), none, []⟩,
  ⟨none, .store 1 (.tmp 34) (.tmp 33), none, []⟩]) (.seq (.region false [⟨some 36, .bin .eql (.tmp 20) (.const (.int .i64 2)), none, []⟩,
  ⟨some 35, .mv (.tmp 36), none, []⟩])
 (.cond (.tmp 35) (.region false [⟨some 37, .mv (.tmp 0), none, []⟩,
  ⟨some 38, .call 17300 0 [.tmp 37, .const (.int .i64 3)], none, []⟩,
  ⟨some 39, .fadr 3 (.tmp 4), none, []⟩,
  ⟨none, .store 1 (.tmp 39) (.take 38), none, []⟩]) .skip))))))))
 (.seq (.region false [⟨some 40, .load 4 true false (.tmp 4), none, []⟩,
  ⟨none, .store 4 (.tmp 2) (.tmp 40), none, []⟩])
 .ret))))) }
noncomputable def p19700 : ProcT := { kind := .fn, ins := [0, 1], bins := [], res := [.tmp 4], code := (.seq (.region false [⟨some 2, .box 100 (.tmp 0), none, []⟩,
  ⟨some 3, .box 101 (.tmp 1), none, []⟩,
  ⟨some 4, .mv (.const (.bool false)), none, []⟩])
 (.seq (.region false [⟨some 5, .fadr 0 (.tmp 2), none, []⟩,
  ⟨some 6, .load 1 false false (.tmp 5), none, []⟩,
  ⟨some 7, .fadr 0 (.tmp 3), none, []⟩,
  ⟨some 8, .load 1 false false (.tmp 7), none, []⟩,
  ⟨some 9, .bin .eql (.tmp 6) (.tmp 8), none, []⟩,
  ⟨some 10, .mv (.tmp 9), none, []⟩,
  ⟨some 11, .fadr 1 (.tmp 2), some (10, true), []⟩,
  ⟨some 12, .load 1 false false (.tmp 11), some (10, true), []⟩,
  ⟨some 13, .fadr 1 (.tmp 3), some (10, true), []⟩,
  ⟨some 14, .load 1 false false (.tmp 13), some (10, true), []⟩,
  ⟨some 15, .bin .eql (.tmp 12) (.tmp 14), some (10, true), []⟩,
  ⟨some 16, .pick (.tmp 10) (.tmp 15) (.const (.bool false)), none, []⟩,
  ⟨some 17, .mv (.tmp 16), none, []⟩,
  ⟨some 18, .fadr 2 (.tmp 2), some (17, true), []⟩,
  ⟨some 19, .load 1 false false (.tmp 18), some (17, true), []⟩,
  ⟨some 20, .fadr 2 (.tmp 3), some (17, true), []⟩,
  ⟨some 21, .load 1 false false (.tmp 20), some (17, true), []⟩,
  ⟨some 22, .bin .eql (.tmp 19) (.tmp 21), some (17, true), []⟩,
  ⟨some 23, .pick (.tmp 17) (.tmp 22) (.const (.bool false)), none, []⟩,
  ⟨some 24, .mv (.tmp 23), none, []⟩,
  ⟨some 25, .fadr 3 (.tmp 2), some (24, true), []⟩,
  ⟨some 26, .load 1 false false (.tmp 25), some (24, true), []⟩,
  ⟨some 27, .fadr 3 (.tmp 3), some (24, true), []⟩,
  ⟨some 28, .load 1 false false (.tmp 27), some (24, true), []⟩,
  ⟨some 29, .call 9700 0 [.tmp 26, .tmp 28], some (24, true), []⟩,
  ⟨some 30, .pick (.tmp 24) (.tmp 29) (.const (.bool false)), none, []⟩,
  ⟨some 4, .mv (.tmp 30), none, []⟩])
 .ret)) }
noncomputable def p19900 : ProcT := { kind := .fn, ins := [0], bins := [], res := [.cell 2 4 true, .tmp 3], code := (.seq (.region false [⟨some 2, .alloc 100 [.int .i64 0, .int .i64 0, .int .i64 0, .sl (.own false) .int []], none, []⟩,
  ⟨some 3, .mv (.const (.int .i64 0)), none, []⟩])
 (.seq (.region false [⟨some 6, .mv (.tmp 0), none, []⟩,
  ⟨some 7, .call 100 101 [.tmp 6], none, []⟩,
  ⟨some 4, .mv (.tmp 7), none, []⟩])
 (.seq (.region false [⟨some 8, .mv (.tmp 4), none, []⟩,
  ⟨some 9, .call 19500 0 [.tmp 8], none, []⟩,
  ⟨some 5, .alloc 102 [.int .i64 0, .int .i64 0, .int .i64 0, .sl (.own false) .int []], none, []⟩,
  ⟨none, .store 4 (.tmp 5) (.tmp 9), none, []⟩])
 (.seq (.seq (.region false [⟨some 10, .mv (.tmp 4), none, []⟩,
  ⟨some 11, .call 200 0 [.tmp 10, .const (.int .i64 24)], none, []⟩,
  ⟨some 12, .bin .eql (.tmp 11) (.const (.int .i64 0)), none, []⟩])
 (.cond (.tmp 12) (.seq (.region true [⟨some 13, .load 4 true false (.tmp 5), none, [102]⟩,
  ⟨some 14, .mv (.tmp 4), none, []⟩,
  ⟨some 15, .call 18300 0 [.tmp 14], none, [101]⟩,
  ⟨none, .store 4 (.tmp 2) (.tmp 13), none, [100]⟩,
  ⟨some 3, .mv (.tmp 15), none, []⟩])
 .ret) .skip))
 (.seq (.region true [⟨some 16, .load 4 true false (.tmp 5), none, [102]⟩,
  ⟨some 17, .mv (.tmp 4), none, []⟩,
  ⟨some 18, .call 3800 0 [.tmp 17], none, [101]⟩,
  ⟨none, .store 4 (.tmp 2) (.tmp 16), none, [100]⟩,
  ⟨some 3, .mv (.tmp 18), none, []⟩])
 .ret))))) }
noncomputable def p20000 : ProcT := { kind := .fn, ins := [0, 1], bins := [], res := [.cell 4 4 true, .tmp 5], loc := true, code := (.seq (.region false [⟨some 2, .box 100 (.tmp 0), none, []⟩,
  ⟨some 4, .alloc 101 [.int .i64 0, .int .i64 0, .int .i64 0, .sl (.own false) .int []], none, []⟩,
  ⟨some 5, .mv (.const (.bool false)), none, []⟩])
 (.seq (.seq (.region false [⟨some 6, .load 4 true false (.tmp 2), none, []⟩,
  ⟨some 7, .call 16600 0 [.tmp 6], none, []⟩,
  ⟨some 8, .un .not (.tmp 7), none, []⟩,
  ⟨some 9, .mv (.tmp 8), none, []⟩,
  ⟨some 10, .mv (.tmp 1), some (9, false), []⟩,
  ⟨some 11, .call 5000 0 [.tmp 10], some (9, false), []⟩,
  ⟨some 12, .un .not (.tmp 11), some (9, false), []⟩,
  ⟨some 13, .pick (.tmp 9) (.const (.bool true)) (.tmp 12), none, []⟩,
  ⟨some 14, .mv (.tmp 13), none, []⟩,
  ⟨some 15, .fadr 2 (.tmp 2), some (14, false), []⟩,
  ⟨some 16, .load 1 false false (.tmp 15), some (14, false), []⟩,
  ⟨some 17, .fadr 0 (.tmp 2), some (14, false), []⟩,
  ⟨some 18, .load 1 false false (.tmp 17), some (14, false), []⟩,
  ⟨some 19, .bin .eql (.tmp 16) (.tmp 18), some (14, false), []⟩,
  ⟨some 20, .pick (.tmp 14) (.const (.bool true)) (.tmp 19), none, []⟩])
 (.cond (.tmp 20) (.seq (.region false [⟨some 21, .build [.int .i64 0, .int .i64 0, .int .i64 0, .sl (.own false) .int []] [], none, []⟩,
  ⟨none, .store 4 (.tmp 4) (.tmp 21), none, []⟩,
  ⟨some 5, .mv (.const (.bool false)), none, []⟩])
 .ret) .skip))
 (.seq (.region false [⟨some 22, .fadr 3 (.tmp 2), none, []⟩,
  ⟨some 23, .load 1 false false (.tmp 22), none, []⟩,
  ⟨some 24, .tr (.call .pass 38200 [.tmp 23]), none, []⟩,
  ⟨some 25, .fadr 3 (.tmp 2), none, []⟩,
  ⟨none, .store 1 (.tmp 25) (.take 24), none, []⟩])
 (.seq (.region true [⟨some 26, .fadr 3 (.tmp 2), none, [100]⟩,
  ⟨some 27, .load 1 false false (.tmp 26), none, [100]⟩,
  ⟨some 28, .fadr 1 (.tmp 2), none, [100]⟩,
  ⟨some 29, .load 1 false false (.tmp 28), none, [100]⟩,
  ⟨some 30, .fadr 2 (.tmp 2), none, [100]⟩,
  ⟨some 31, .load 1 false false (.tmp 30), none, [100]⟩,
  ⟨some 32, .bin .add (.tmp 29) (.tmp 31), none, []⟩,
  ⟨some 33, .fadr 0 (.tmp 2), none, [100]⟩,
  ⟨some 34, .load 1 false false (.tmp 33), none, [100]⟩,
  ⟨some 35, .bin .rem (.tmp 32) (.tmp 34), none, []⟩,
  ⟨some 36, .mv (.tmp 1), none, []⟩,
  ⟨some 37, .tr (.iadr 1 (.tmp 27) (.tmp 35)), none, []⟩,
  ⟨none, .tr (.store 1 (.tmp 37) (.tmp 36)), none, [99]⟩])
 (.seq (.region false [⟨some 38, .fadr 2 (.tmp 2), none, []⟩,
  ⟨some 39, .load 1 false false (.tmp 38), none, []⟩,
  ⟨some 40, .bin .add (.tmp 39) (.const (.int .i64 1)), none, []⟩,
  ⟨some 41, .fadr 2 (.tmp 2), none, []⟩,
  ⟨none, .store 1 (.tmp 41) (.tmp 40), none, []⟩])
 (.seq (.region false [⟨some 42, .load 4 true false (.tmp 2), none, []⟩,
  ⟨none, .store 4 (.tmp 4) (.tmp 42), none, []⟩,
  ⟨some 5, .mv (.const (.bool true)), none, []⟩])
 .ret)))))) }
noncomputable def p20100 : ProcT := { kind := .fn, ins := [0, 1], bins := [], res := [.cell 4 4 true, .tmp 5], loc := true, code := (.seq (.region false [⟨some 2, .box 100 (.tmp 0), none, []⟩,
  ⟨some 4, .alloc 101 [.int .i64 0, .int .i64 0, .int .i64 0, .sl (.own false) .int []], none, []⟩,
  ⟨some 5, .mv (.const (.bool false)), none, []⟩])
 (.seq (.seq (.region false [⟨some 7, .load 4 true false (.tmp 2), none, []⟩,
  ⟨some 8, .call 16300 0 [.tmp 7], none, []⟩,
  ⟨some 9, .un .not (.tmp 8), none, []⟩,
  ⟨some 10, .mv (.tmp 9), none, []⟩,
  ⟨some 11, .mv (.tmp 1), some (10, false), []⟩,
  ⟨some 12, .call 6400 0 [.tmp 11], some (10, false), []⟩,
  ⟨some 13, .un .not (.tmp 12), some (10, false), []⟩,
  ⟨some 14, .pick (.tmp 10) (.const (.bool true)) (.tmp 13), none, []⟩,
  ⟨some 15, .mv (.tmp 14), none, []⟩,
  ⟨some 16, .fadr 2 (.tmp 2), some (15, false), []⟩,
  ⟨some 17, .load 1 false false (.tmp 16), some (15, false), []⟩,
  ⟨some 18, .fadr 0 (.tmp 2), some (15, false), []⟩,
  ⟨some 19, .load 1 false false (.tmp 18), some (15, false), []⟩,
  ⟨some 20, .bin .eql (.tmp 17) (.tmp 19), some (15, false), []⟩,
  ⟨some 21, .pick (.tmp 15) (.const (.bool true)) (.tmp 20), none, []⟩])
 (.cond (.tmp 21) (.seq (.region false [⟨some 22, .build [.int .i64 0, .int .i64 0, .int .i64 0, .sl (.own false) .int []] [], none, []⟩,
  ⟨none, .store 4 (.tmp 4) (.tmp 22), none, []⟩,
  ⟨some 5, .mv (.const (.bool false)), none, []⟩])
 .ret) .skip))
 (.seq (.region true [⟨some 23, .fadr 0 (.tmp 2), none, [100]⟩,
  ⟨some 24, .load 1 false false (.tmp 23), none, [100]⟩,
  ⟨some 25, .fadr 1 (.tmp 2), none, [100]⟩,
  ⟨some 26, .load 1 false false (.tmp 25), none, [100]⟩,
  ⟨some 27, .fadr 2 (.tmp 2), none, [100]⟩,
  ⟨some 28, .load 1 false false (.tmp 27), none, [100]⟩,
  ⟨some 29, .bin .add (.tmp 28) (.const (.int .i64 1)), none, []⟩,
  ⟨some 30, .tr (.lit .int []), none, [99]⟩,
  ⟨some 31, .fadr 3 (.tmp 2), none, [100]⟩,
  ⟨some 32, .load 1 false false (.tmp 31), none, [100]⟩,
  ⟨some 33, .tr (.app 1 (.take 30) (.tmp 32)), none, [99]⟩,
  ⟨some 34, .build [.int .i64 0, .int .i64 0, .int .i64 0, .sl (.own false) .int []] [(0, 1, .tmp 24), (1, 1, .tmp 26), (2, 1, .tmp 29), (3, 1, .tmp 33)], none, []⟩,
  ⟨some 6, .alloc 102 [.int .i64 0, .int .i64 0, .int .i64 0, .sl (.own false) .int []], none, [102]⟩,
  ⟨none, .store 4 (.tmp 6) (.tmp 34), none, [102]⟩])
 (.seq (.region true [⟨some 35, .fadr 3 (.tmp 6), none, [102]⟩,
  ⟨some 36, .load 1 false false (.tmp 35), none, [102]⟩,
  ⟨some 37, .fadr 1 (.tmp 2), none, [100]⟩,
  ⟨some 38, .load 1 false false (.tmp 37), none, [100]⟩,
  ⟨some 39, .fadr 2 (.tmp 2), none, [100]⟩,
  ⟨some 40, .load 1 false false (.tmp 39), none, [100]⟩,
  ⟨some 41, .bin .add (.tmp 38) (.tmp 40), none, []⟩,
  ⟨some 42, .fadr 0 (.tmp 2), none, [100]⟩,
  ⟨some 43, .load 1 false false (.tmp 42), none, [100]⟩,
  ⟨some 44, .bin .rem (.tmp 41) (.tmp 43), none, []⟩,
  ⟨some 45, .mv (.tmp 1), none, []⟩,
  ⟨some 46, .tr (.iadr 1 (.tmp 36) (.tmp 44)), none, []⟩,
  ⟨none, .tr (.store 1 (.tmp 46) (.tmp 45)), none, [99]⟩])
 (.seq (.region false [⟨some 47, .load 4 true false (.tmp 6), none, []⟩,
  ⟨none, .store 4 (.tmp 4) (.tmp 47), none, []⟩,
  ⟨some 5, .mv (.const (.bool true)), none, []⟩])
 .ret))))) }
noncomputable def p20200 : ProcT := { kind := .fn, ins := [0], bins := [], res := [.tmp 2], code := (.seq (.region false [⟨some 2, .mv (.const (.bool false)), none, []⟩])
 (.seq (.seq (.region false [⟨some 14, .mv (.tmp 0), none, []⟩,
  ⟨some 15, .len (.tmp 14), none, []⟩,
  ⟨some 16, .bin .gtr (.tmp 15) (.const (.int .i64 1048576)), none, []⟩])
 (.cond (.tmp 16) (.seq (.region false [⟨some 2, .mv (.const (.bool true)), none, []⟩])
 .ret) .skip))
 (.seq (.region false [⟨some 18, .mv (.tmp 0), none, []⟩,
  ⟨some 19, .call 19900 0 [.tmp 18], none, []⟩,
  ⟨some 17, .mv (.tmp 19), none, []⟩,
  ⟨some 20, .ext 0 (.tmp 17), none, []⟩,
  ⟨some 21, .ext 1 (.tmp 17), none, []⟩,
  ⟨some 3, .alloc 100 [.int .i64 0, .int .i64 0, .int .i64 0, .sl (.own false) .int []], none, []⟩,
  ⟨none, .store 4 (.tmp 3) (.tmp 20), none, []⟩,
  ⟨some 4, .mv (.tmp 21), none, []⟩])
 (.seq (.region false [⟨some 23, .load 4 true false (.tmp 3), none, []⟩,
  ⟨some 24, .mv (.tmp 4), none, []⟩,
  ⟨some 25, .call 20000 0 [.tmp 23, .tmp 24], none, []⟩,
  ⟨some 22, .mv (.tmp 25), none, []⟩,
  ⟨some 26, .ext 0 (.tmp 22), none, []⟩,
  ⟨some 27, .ext 1 (.tmp 22), none, []⟩,
  ⟨some 5, .alloc 101 [.int .i64 0, .int .i64 0, .int .i64 0, .sl (.own false) .int []], none, []⟩,
  ⟨none, .store 4 (.tmp 5) (.tmp 26), none, []⟩,
  ⟨some 6, .mv (.tmp 27), none, []⟩])
 (.seq (.region false [⟨some 29, .load 4 true false (.tmp 3), none, []⟩,
  ⟨some 30, .mv (.tmp 4), none, []⟩,
  ⟨some 31, .call 20100 0 [.tmp 29, .tmp 30], none, []⟩,
  ⟨some 28, .mv (.tmp 31), none, []⟩,
  ⟨some 32, .ext 0 (.tmp 28), none, []⟩,
  ⟨some 33, .ext 1 (.tmp 28), none, []⟩,
  ⟨some 7, .alloc 102 [.int .i64 0, .int .i64 0, .int .i64 0, .sl (.own false) .int []], none, []⟩,
  ⟨none, .store 4 (.tmp 7) (.tmp 32), none, []⟩,
  ⟨some 8, .mv (.tmp 33), none, []⟩])
 (.seq (.seq (.region false [⟨some 34, .mv (.tmp 6), none, []⟩,
  ⟨some 35, .mv (.tmp 8), none, []⟩,
  ⟨some 36, .eqb true (.tmp 34) (.tmp 35), none, []⟩,
  ⟨some 37, .mv (.tmp 36), none, []⟩,
  ⟨some 38, .load 4 true false (.tmp 5), some (37, false), []⟩,
  ⟨some 39, .load 4 true false (.tmp 7), some (37, false), []⟩,
  ⟨some 40, .call 19700 0 [.tmp 38, .tmp 39], some (37, false), []⟩,
  ⟨some 41, .un .not (.tmp 40), some (37, false), []⟩,
  ⟨some 42, .pick (.tmp 37) (.const (.bool true)) (.tmp 41), none, []⟩,
  ⟨some 43, .mv (.tmp 42), none, []⟩,
  ⟨some 44, .mv (.tmp 6), some (43, false), []⟩,
  ⟨some 45, .un .not (.tmp 44), some (43, false), []⟩,
  ⟨some 46, .pick (.tmp 43) (.const (.bool true)) (.tmp 45), none, []⟩])
 (.cond (.tmp 46) (.seq (.region false [⟨some 47, .mv (.tmp 6), none, []⟩,
  ⟨some 48, .mv (.tmp 8), none, []⟩,
  ⟨some 49, .eqb false (.tmp 47) (.tmp 48), none, []⟩,
  ⟨some 50, .mv (.tmp 49), none, []⟩,
  ⟨some 51, .load 4 true false (.tmp 5), some (50, true), []⟩,
  ⟨some 52, .load 4 true false (.tmp 7), some (50, true), []⟩,
  ⟨some 53, .call 19700 0 [.tmp 51, .tmp 52], some (50, true), []⟩,
  ⟨some 54, .pick (.tmp 50) (.tmp 53) (.const (.bool false)), none, []⟩,
  ⟨some 2, .mv (.tmp 54), none, []⟩])
 .ret) .skip))
 (.seq (.region false [⟨some 55, .fadr 1 (.tmp 3), none, []⟩,
  ⟨some 56, .load 1 false false (.tmp 55), none, []⟩,
  ⟨some 57, .fadr 2 (.tmp 3), none, []⟩,
  ⟨some 58, .load 1 false false (.tmp 57), none, []⟩,
  ⟨some 59, .bin .add (.tmp 56) (.tmp 58), none, []⟩,
  ⟨some 60, .fadr 0 (.tmp 3), none, []⟩,
  ⟨some 61, .load 1 false false (.tmp 60), none, []⟩,
  ⟨some 62, .bin .rem (.tmp 59) (.tmp 61), none, []⟩,
  ⟨some 9, .mv (.tmp 62), none, []⟩])
 (.seq (.seq (.region false [⟨some 10, .mv (.const (.int .i64 0)), none, []⟩])
 (.block 0 (.label 20201)))
 (.seq (.region false [⟨some 87, .load 4 true false (.tmp 5), none, []⟩,
  ⟨some 88, .call 16800 0 [.tmp 87], none, []⟩,
  ⟨some 86, .mv (.tmp 88), none, []⟩,
  ⟨some 89, .ext 0 (.tmp 86), none, []⟩,
  ⟨some 90, .ext 1 (.tmp 86), none, []⟩,
  ⟨some 91, .ext 2 (.tmp 86), none, []⟩,
  ⟨some 11, .alloc 103 [.int .i64 0, .int .i64 0, .int .i64 0, .sl (.own false) .int []], none, []⟩,
  ⟨none, .store 4 (.tmp 11) (.tmp 89), none, []⟩,
  ⟨some 12, .mv (.tmp 90), none, []⟩,
  ⟨some 13, .mv (.tmp 91), none, []⟩])
 (.seq (.region false [⟨some 92, .fadr 3 (.tmp 5), none, []⟩,
  ⟨some 93, .load 1 false false (.tmp 92), none, []⟩,
  ⟨some 94, .mv (.tmp 9), none, []⟩,
  ⟨some 95, .iadr 1 (.tmp 93) (.tmp 94), none, []⟩,
  ⟨some 96, .load 1 false false (.tmp 95), none, []⟩,
  ⟨some 97, .mv (.tmp 4), none, []⟩,
  ⟨some 98, .bin .eql (.tmp 96) (.tmp 97), none, []⟩,
  ⟨some 99, .mv (.tmp 98), none, []⟩,
  ⟨some 100, .fadr 1 (.tmp 5), some (99, true), []⟩,
  ⟨some 101, .load 1 false false (.tmp 100), some (99, true), []⟩,
  ⟨some 102, .fadr 1 (.tmp 3), some (99, true), []⟩,
  ⟨some 103, .load 1 false false (.tmp 102), some (99, true), []⟩,
  ⟨some 104, .bin .eql (.tmp 101) (.tmp 103), some (99, true), []⟩,
  ⟨some 105, .pick (.tmp 99) (.tmp 104) (.const (.bool false)), none, []⟩,
  ⟨some 106, .mv (.tmp 105), none, []⟩,
  ⟨some 107, .mv (.tmp 13), some (106, true), []⟩,
  ⟨some 108, .pick (.tmp 106) (.tmp 107) (.const (.bool false)), none, []⟩,
  ⟨some 109, .mv (.tmp 108), none, []⟩,
  ⟨some 110, .fadr 3 (.tmp 11), some (109, true), []⟩,
  ⟨some 111, .load 1 false false (.tmp 110), some (109, true), []⟩,
  ⟨some 112, .fadr 3 (.tmp 5), some (109, true), []⟩,
  ⟨some 113, .load 1 false false (.tmp 112), some (109, true), []⟩,
  ⟨some 114, .call 9700 0 [.tmp 111, .tmp 113], some (109, true), []⟩,
  ⟨some 115, .pick (.tmp 109) (.tmp 114) (.const (.bool false)), none, []⟩,
  ⟨some 2, .mv (.tmp 115), none, []⟩])
 .ret)))))))))) }
noncomputable def p20201 : ProcT := { kind := .loop, ins := [3, 4, 5, 9, 10], bins := [100, 101], outs := [2, 3, 4, 5, 9], bouts := [100, 101], code := (.seq (.seq (.region false [⟨some 63, .mv (.tmp 10), none, []⟩,
  ⟨some 64, .fadr 3 (.tmp 3), none, []⟩,
  ⟨some 65, .load 1 false false (.tmp 64), none, []⟩,
  ⟨some 66, .len (.tmp 65), none, []⟩,
  ⟨some 67, .bin .lss (.tmp 63) (.tmp 66), none, []⟩])
 (.cond (.tmp 67) .skip (.exit 0)))
 (.seq (.block 1 (.seq (.region true [⟨some 70, .mv (.tmp 10), none, []⟩,
  ⟨some 71, .mv (.tmp 9), none, []⟩,
  ⟨some 72, .bin .neq (.tmp 70) (.tmp 71), none, []⟩,
  ⟨some 73, .mv (.tmp 72), none, []⟩,
  ⟨some 74, .fadr 3 (.tmp 5), some (73, true), [101]⟩,
  ⟨some 75, .load 1 false false (.tmp 74), some (73, true), [101]⟩,
  ⟨some 76, .mv (.tmp 10), some (73, true), []⟩,
  ⟨some 77, .iadr 1 (.tmp 75) (.tmp 76), some (73, true), []⟩,
  ⟨some 78, .load 1 false false (.tmp 77), some (73, true), []⟩,
  ⟨some 79, .fadr 3 (.tmp 3), some (73, true), [100]⟩,
  ⟨some 80, .load 1 false false (.tmp 79), some (73, true), [100]⟩,
  ⟨some 81, .mv (.tmp 10), some (73, true), []⟩,
  ⟨some 82, .iadr 1 (.tmp 80) (.tmp 81), some (73, true), []⟩,
  ⟨some 83, .load 1 false false (.tmp 82), some (73, true), []⟩,
  ⟨some 84, .bin .neq (.tmp 78) (.tmp 83), some (73, true), []⟩,
  ⟨some 85, .pick (.tmp 73) (.tmp 84) (.const (.bool false)), none, []⟩])
 (.cond (.tmp 85) (.seq (.region false [⟨some 2, .mv (.const (.bool false)), none, []⟩])
 .ret) .skip)))
 (.region false [⟨some 68, .mv (.tmp 10), none, []⟩,
  ⟨some 69, .bin .add (.tmp 68) (.const (.int .i64 1)), none, []⟩,
  ⟨some 10, .mv (.tmp 69), none, []⟩]))) }
noncomputable def p16700 : ProcT := { kind := .prim, ins := [], bins := [], code := .skip, pf := Vs.cloneF, pa := Vs.cloneA }
noncomputable def p38200 : ProcT := { kind := .prim, ins := [], bins := [], code := .skip, pf := Vs.cloneF, pa := Vs.cloneA }
noncomputable def tab : List (Nat × ProcT) := [(100, p100), (200, p200), (1600, p1600), (3700, p3700), (3800, p3800), (5000, p5000), (5100, p5100), (5101, p5101), (6400, p6400), (6500, p6500), (6501, p6501), (9700, p9700), (9701, p9701), (16300, p16300), (16600, p16600), (16700, p16700), (16800, p16800), (17300, p17300), (17301, p17301), (18300, p18300), (19500, p19500), (19700, p19700), (19900, p19900), (20000, p20000), (20100, p20100), (20200, p20200), (20201, p20201), (38200, p38200)]
noncomputable abbrev Tb : Nat → Option ProcT := (Vs.look · tab)
@[reducible] def s100 : Sig := [⟨.ret, [.np 2], [], [.h (.sl .u8), .h (.int .i64)]⟩]
@[reducible] def s200 : Sig := [⟨.ret, [.one], [.var 2], [.h (.int .i64), .h (.sl .u8), .h (.int .i64)]⟩]
@[reducible] def s1600 : Sig := [⟨.ret, [.one], [], [.h (.bool)]⟩]
@[reducible] def s3700 : Sig := [⟨.ret, [.one], [], [.h (.int .i64)]⟩]
@[reducible] def s3800 : Sig := [⟨.ret, [.one], [.var 2], [.h (.int .i64), .h (.sl .u8), .h (.int .i64)]⟩]
@[reducible] def s5000 : Sig := [⟨.ret, [.one], [], [.h (.bool)]⟩]
@[reducible] def s5100 : Sig := [⟨.ret, [.one], [], [.h (.bool)]⟩]
@[reducible] def s5101 : Sig := [⟨.exit 0, [.one], [], [.undef]⟩, ⟨.ret, [.one], [], [.h (.bool)]⟩]
@[reducible] def s6400 : Sig := [⟨.ret, [.one], [], [.h (.bool)]⟩]
@[reducible] def s6500 : Sig := [⟨.ret, [.one], [], [.h (.bool)]⟩]
@[reducible] def s6501 : Sig := [⟨.exit 0, [.one], [], [.undef]⟩, ⟨.ret, [.one], [], [.h (.bool)]⟩]
@[reducible] def s9700 : Sig := [⟨.ret, [.one], [], [.h (.bool)]⟩]
@[reducible] def s9701 : Sig := [⟨.exit 0, [.one], [], [.undef]⟩, ⟨.ret, [.one], [], [.h (.bool)]⟩]
@[reducible] def s16300 : Sig := [⟨.ret, [.one], [], [.h (.bool)]⟩]
@[reducible] def s16600 : Sig := [⟨.ret, [.one], [], [.h (.bool)]⟩]
@[reducible] def s16700 : Sig := [⟨.ret, [.one], [], [.h (.own .int)]⟩]
@[reducible] def s16800 : Sig := [⟨.ret, [.tup 3], [], [.h (.agg .rg), .h (.int .i64), .h (.bool)]⟩]
@[reducible] def s17300 : Sig := [⟨.ret, [.one], [.var 2], [.h (.own .int), .h (.sl .u8), .h (.int .i64)]⟩]
@[reducible] def s17301 : Sig := [⟨.exit 0, [.one, .one, .one], [.var 2], [.bp 0 0, .undef, .h (.ownb .int), .h (.sl .u8), .h (.int .i64)]⟩]
@[reducible] def s18300 : Sig := [⟨.ret, [.one], [.var 2], [.h (.int .i64), .h (.sl .u8), .h (.int .i64)]⟩]
@[reducible] def s19500 : Sig := [⟨.ret, [.one], [.var 2], [.h (.agg .rg), .h (.sl .u8), .h (.int .i64)]⟩]
@[reducible] def s19700 : Sig := [⟨.ret, [.one], [], [.h (.bool)]⟩]
@[reducible] def s19900 : Sig := [⟨.ret, [.tup 2], [], [.h (.agg .rg), .h (.int .i64)]⟩]
@[reducible] def s20000 : Sig := [⟨.ret, [.tup 2], [], [.h (.agg .rg), .h (.bool)]⟩]
@[reducible] def s20100 : Sig := [⟨.ret, [.tup 2], [], [.h (.agg .rg), .h (.bool)]⟩]
@[reducible] def s20200 : Sig := [⟨.ret, [.one], [], [.h (.bool)]⟩]
@[reducible] def s20201 : Sig := [⟨.exit 0, [.one, .one, .one, .one, .one], [.var 4, .var 4], [.undef, .bp 100 0, .h (.int .i64), .bp 101 0, .h (.int .i64), .h (.int .i64), .h (.int .i64), .h (.int .i64), .h (.sl .int), .h (.int .i64), .h (.int .i64), .h (.int .i64), .h (.sl .int)]⟩, ⟨.ret, [.one, .one, .one, .one, .one], [.var 4, .var 4], [.h (.bool), .bp 100 0, .h (.int .i64), .bp 101 0, .h (.int .i64), .h (.int .i64), .h (.int .i64), .h (.int .i64), .h (.sl .int), .h (.int .i64), .h (.int .i64), .h (.int .i64), .h (.sl .int)]⟩]
@[reducible] def s38200 : Sig := [⟨.ret, [.one], [.ar], [.h (.tr .int), .h (.ar)]⟩]
def sgs : List (Nat × Sig) := [(100, s100), (200, s200), (1600, s1600), (3700, s3700), (3800, s3800), (5000, s5000), (5100, s5100), (5101, s5101), (6400, s6400), (6500, s6500), (6501, s6501), (9700, s9700), (9701, s9701), (16300, s16300), (16600, s16600), (16700, s16700), (16800, s16800), (17300, s17300), (17301, s17301), (18300, s18300), (19500, s19500), (19700, s19700), (19900, s19900), (20000, s20000), (20100, s20100), (20200, s20200), (20201, s20201), (38200, s38200)]
def sg (g : Nat) : Sig := (Vs.look g sgs).getD []
def GT (i : Nat) : List TV := []
noncomputable def laws_FnRingSlots (a0 : List Int) : Option (Bool) := callTy Tb GT s20200 20200 [.sl .share .u8 a0] []
noncomputable def spec_DrawRingPut (a0 : List Int) : Option (Rg × Int) := callTy Tb GT s19900 19900 [.sl .share .u8 a0] []
noncomputable def impl_RingPut (a0 : Rg) (a1 : Int) : Option (Rg × Bool) := callTy Tb GT s20000 20000 [.agg (rowT .rg a0), .int .i64 a1] []
noncomputable def spec_RingPut (a0 : Rg) (a1 : Int) : Option (Rg × Bool) := callTy Tb GT s20100 20100 [.agg (rowT .rg a0), .int .i64 a1] []
noncomputable def laws_sameRing (a0 : Rg) (a1 : Rg) : Option (Bool) := callTy Tb GT s19700 19700 [.agg (rowT .rg a0), .agg (rowT .rg a1)] []
noncomputable def laws_FnRingSlots_l1 (t4 : Int) (t9 : Int) (t10 : Int) (b100_0 : Int) (b100_1 : Int) (b100_2 : Int) (b100_3 : List Int) (b101_0 : Int) (b101_1 : Int) (b101_2 : Int) (b101_3 : List Int) : Option ((Int × Int × Int × Int × Int × List Int × Int × Int × Int × List Int) ⊕ (Bool × Int × Int × Int × Int × Int × List Int × Int × Int × Int × List Int)) := callTy Tb GT s20201 20201 [.bp 100 0, .int .i64 t4, .bp 101 0, .int .i64 t9, .int .i64 t10] [.var [.int .i64 b100_0, .int .i64 b100_1, .int .i64 b100_2, .sl .share .int b100_3], .var [.int .i64 b101_0, .int .i64 b101_1, .int .i64 b101_2, .sl .share .int b101_3]]
noncomputable def impl_RingTake (a0 : Rg) : Option (Rg × Int × Bool) := callTy Tb GT s16800 16800 [.agg (rowT .rg a0)] []
noncomputable def laws_sameInts (a0 : List Int) (a1 : List Int) : Option (Bool) := callTy Tb GT s9700 9700 [.sl .share .int a0, .sl .share .int a1] []
noncomputable def spec_l6Open (a0 : List Int) : Option (List Int × Int) := callTy Tb GT s100 100 [.sl .share .u8 a0] []
noncomputable def spec_l92Ring (a0b : List Int) (a0p : Int) : Option (Rg × List Int × Int) := callTy Tb GT s19500 19500 [.bp 0 0] [.var [.sl .share .u8 a0b, .int .i64 a0p]]
noncomputable def spec_l6Rd_pick (a1 : Int) (a0b : List Int) (a0p : Int) : Option (Int × List Int × Int) := callTy Tb GT s200 200 [.bp 0 0, .int .i64 a1] [.var [.sl .share .u8 a0b, .int .i64 a0p]]
noncomputable def spec_l91Any (a0b : List Int) (a0p : Int) : Option (Int × List Int × Int) := callTy Tb GT s18300 18300 [.bp 0 0] [.var [.sl .share .u8 a0b, .int .i64 a0p]]
noncomputable def spec_l91Word (a0b : List Int) (a0p : Int) : Option (Int × List Int × Int) := callTy Tb GT s3800 3800 [.bp 0 0] [.var [.sl .share .u8 a0b, .int .i64 a0p]]
noncomputable def impl_RingValid (a0 : Rg) : Option (Bool) := callTy Tb GT s16600 16600 [.agg (rowT .rg a0)] []
noncomputable def impl_WordValid (a0 : Int) : Option (Bool) := callTy Tb GT s5000 5000 [.int .i64 a0] []
noncomputable def slices_Clone___int_int__p (a0 : List Int) (A : List Ent) : Option (Hd × List Ent) := callTy Tb GT s38200 38200 [.sl .share .int a0] [.ar A]
noncomputable def spec_RingValid (a0 : Rg) : Option (Bool) := callTy Tb GT s16300 16300 [.agg (rowT .rg a0)] []
noncomputable def spec_WordValid (a0 : Int) : Option (Bool) := callTy Tb GT s6400 6400 [.int .i64 a0] []
noncomputable def slices_Clone___int_int_ (a0 : List Int) : Option (List Int) := callTy Tb GT s16700 16700 [.sl .share .int a0] []
noncomputable def laws_sameInts_l1 (t0 : List Int) (t1 : List Int) (t5 : Int) : Option (Unit ⊕ Bool) := callTy Tb GT s9701 9701 [.sl .share .int t0, .sl .share .int t1, .int .i64 t5] []
noncomputable def spec_l92Items (a1 : Int) (a0b : List Int) (a0p : Int) : Option (List Int × List Int × Int) := callTy Tb GT s17300 17300 [.bp 0 0, .int .i64 a1] [.var [.sl .share .u8 a0b, .int .i64 a0p]]
noncomputable def spec_Wrap (a0 : Int) : Option (Int) := callTy Tb GT s3700 3700 [.int .i64 a0] []
noncomputable def impl_areWords (a0 : List Int) : Option (Bool) := callTy Tb GT s5100 5100 [.sl .share .int a0] []
noncomputable def spec_l6In (a0 : Int) (a1 : Int) (a2 : Int) : Option (Bool) := callTy Tb GT s1600 1600 [.int .i64 a0, .int .i64 a1, .int .i64 a2] []
noncomputable def spec_l4Words (a0 : List Int) (a1 : Int) : Option (Bool) := callTy Tb GT s6500 6500 [.sl .share .int a0, .int .i64 a1] []
noncomputable def spec_l92Items_l1 (t1 : Int) (t5b : Bool) (t5 : List Int) (t6 : Int) (b0_0 : List Int) (b0_1 : Int) : Option ((Bool × List Int) × List Int × Int) := callTy Tb GT s17301 17301 [.bp 0 0, .int .i64 t1, .sl (.own t5b) .int t5, .int .i64 t6] [.var [.sl .share .u8 b0_0, .int .i64 b0_1]]
noncomputable def impl_areWords_l1 (t5 : List Int) (t6 : Int) (t7 : Int) : Option (Unit ⊕ Bool) := callTy Tb GT s5101 5101 [.sl .share .int t5, .int .i64 t6, .int .i64 t7] []
noncomputable def spec_l4Words_l1 (t0 : List Int) (t5 : Int) : Option (Unit ⊕ Bool) := callTy Tb GT s6501 6501 [.sl .share .int t0, .int .i64 t5] []
end Go.TFnRingSlots
