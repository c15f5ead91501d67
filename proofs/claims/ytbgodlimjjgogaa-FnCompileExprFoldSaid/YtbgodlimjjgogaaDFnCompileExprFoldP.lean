import Derived.Test.YtbgodlimjjgogaaTv6

set_option linter.unusedVariables false
namespace Go.TFnCompileExprFold
open Go Go.RowKit Go.Vs Go.Tv

noncomputable def p100 : ProcT := { kind := .fn, ins := [0], bins := [], res := [.tmp 2], code := (.seq (.region false [⟨some 2, .mv (.const (.con .nilp)), none, []⟩])
 (.seq (.seq (.region false [⟨some 3, .mv (.tmp 0), none, []⟩,
  ⟨some 4, .len (.tmp 3), none, []⟩,
  ⟨some 5, .bin .gtr (.tmp 4) (.const (.int .i64 2000)), none, []⟩])
 (.cond (.tmp 5) (.region false [⟨some 6, .mv (.tmp 0), none, []⟩,
  ⟨some 7, .slc 1 (.tmp 6) none (some (.const (.int .i64 2000))) none, none, []⟩,
  ⟨some 0, .mv (.take 7), none, []⟩]) .skip))
 (.seq (.region false [⟨some 8, .mv (.tmp 0), none, []⟩,
  ⟨some 9, .build [.sl (.own false) .u8 [], .int .i64 0] [(0, 1, .tmp 8)], none, []⟩,
  ⟨some 10, .box 100 (.tmp 9), none, []⟩,
  ⟨some 2, .mv (.tmp 10), none, []⟩])
 .ret))) }
noncomputable def p200 : ProcT := { kind := .fn, ins := [0, 1], bins := [0], res := [.tmp 4], code := (.seq (.region false [⟨some 4, .mv (.const (.int .i64 0)), none, []⟩])
 (.seq (.region false [⟨some 7, .mv (.tmp 0), none, []⟩,
  ⟨some 8, .mv (.tmp 0), none, []⟩,
  ⟨some 9, .nilck (.tmp 8), none, []⟩,
  ⟨some 10, .fadr 1 (.tmp 9), none, []⟩,
  ⟨some 11, .load 1 false false (.tmp 10), none, []⟩,
  ⟨some 12, .bin .add (.tmp 11) (.const (.int .i64 1)), none, []⟩,
  ⟨some 13, .nilck (.tmp 7), none, []⟩,
  ⟨some 14, .fadr 1 (.tmp 13), none, []⟩,
  ⟨none, .store 1 (.tmp 14) (.tmp 12), none, []⟩])
 (.seq (.seq (.region false [⟨some 15, .mv (.tmp 1), none, []⟩,
  ⟨some 16, .bin .lss (.tmp 15) (.const (.int .i64 1)), none, []⟩,
  ⟨some 17, .mv (.tmp 16), none, []⟩,
  ⟨some 18, .mv (.tmp 0), some (17, false), []⟩,
  ⟨some 19, .nilck (.tmp 18), some (17, false), []⟩,
  ⟨some 20, .fadr 0 (.tmp 19), some (17, false), []⟩,
  ⟨some 21, .load 1 false false (.tmp 20), some (17, false), []⟩,
  ⟨some 22, .len (.tmp 21), some (17, false), []⟩,
  ⟨some 23, .bin .eql (.tmp 22) (.const (.int .i64 0)), some (17, false), []⟩,
  ⟨some 24, .pick (.tmp 17) (.const (.bool true)) (.tmp 23), none, []⟩])
 (.cond (.tmp 24) (.seq (.region false [⟨some 4, .mv (.const (.int .i64 0)), none, []⟩])
 .ret) .skip))
 (.seq (.region false [⟨some 25, .mv (.tmp 0), none, []⟩,
  ⟨some 26, .nilck (.tmp 25), none, []⟩,
  ⟨some 27, .fadr 1 (.tmp 26), none, []⟩,
  ⟨some 28, .load 1 false false (.tmp 27), none, []⟩,
  ⟨some 29, .bin .sub (.tmp 28) (.const (.int .i64 1)), none, []⟩,
  ⟨some 5, .mv (.tmp 29), none, []⟩])
 (.seq (.seq (.region false [⟨some 30, .mv (.tmp 5), none, []⟩,
  ⟨some 31, .mv (.tmp 0), none, []⟩,
  ⟨some 32, .nilck (.tmp 31), none, []⟩,
  ⟨some 33, .fadr 0 (.tmp 32), none, []⟩,
  ⟨some 34, .load 1 false false (.tmp 33), none, []⟩,
  ⟨some 35, .len (.tmp 34), none, []⟩,
  ⟨some 36, .bin .lss (.tmp 30) (.tmp 35), none, []⟩])
 (.cond (.tmp 36) (.seq (.region false [⟨some 37, .mv (.tmp 0), none, []⟩,
  ⟨some 38, .nilck (.tmp 37), none, []⟩,
  ⟨some 39, .fadr 0 (.tmp 38), none, []⟩,
  ⟨some 40, .load 1 false false (.tmp 39), none, []⟩,
  ⟨some 41, .mv (.tmp 5), none, []⟩,
  ⟨some 42, .iadr 1 (.tmp 40) (.tmp 41), none, []⟩,
  ⟨some 43, .load 1 false false (.tmp 42), none, []⟩,
  ⟨some 44, .conv (.int .i64) (.tmp 43), none, []⟩,
  ⟨some 45, .mv (.tmp 1), none, []⟩,
  ⟨some 46, .bin .rem (.tmp 44) (.tmp 45), none, []⟩,
  ⟨some 4, .mv (.tmp 46), none, []⟩])
 .ret) .skip))
 (.seq (.region true [⟨some 47, .mv (.tmp 0), none, []⟩,
  ⟨some 48, .nilck (.tmp 47), none, [0]⟩,
  ⟨some 49, .fadr 0 (.tmp 48), none, [0]⟩,
  ⟨some 50, .load 1 false false (.tmp 49), none, [0]⟩,
  ⟨some 51, .mv (.tmp 5), none, []⟩,
  ⟨some 52, .mv (.tmp 0), none, []⟩,
  ⟨some 53, .nilck (.tmp 52), none, [0]⟩,
  ⟨some 54, .fadr 0 (.tmp 53), none, [0]⟩,
  ⟨some 55, .load 1 false false (.tmp 54), none, [0]⟩,
  ⟨some 56, .len (.tmp 55), none, []⟩,
  ⟨some 57, .bin .rem (.tmp 51) (.tmp 56), none, []⟩,
  ⟨some 58, .iadr 1 (.tmp 50) (.tmp 57), none, []⟩,
  ⟨some 59, .load 1 false false (.tmp 58), none, []⟩,
  ⟨some 60, .conv (.int .i64) (.tmp 59), none, []⟩,
  ⟨some 61, .bin .mul (.tmp 60) (.const (.int .i64 131)), none, []⟩,
  ⟨some 62, .mv (.tmp 0), none, []⟩,
  ⟨some 63, .nilck (.tmp 62), none, [0]⟩,
  ⟨some 64, .fadr 0 (.tmp 63), none, [0]⟩,
  ⟨some 65, .load 1 false false (.tmp 64), none, [0]⟩,
  ⟨some 66, .mv (.tmp 5), none, []⟩,
  ⟨some 67, .bin .mul (.tmp 66) (.const (.int .i64 7)), none, []⟩,
  ⟨some 68, .bin .add (.tmp 67) (.const (.int .i64 3)), none, []⟩,
  ⟨some 69, .mv (.tmp 0), none, []⟩,
  ⟨some 70, .nilck (.tmp 69), none, [0]⟩,
  ⟨some 71, .fadr 0 (.tmp 70), none, [0]⟩,
  ⟨some 72, .load 1 false false (.tmp 71), none, [0]⟩,
  ⟨some 73, .len (.tmp 72), none, []⟩,
  ⟨some 74, .bin .rem (.tmp 68) (.tmp 73), none, []⟩,
  ⟨some 75, .iadr 1 (.tmp 65) (.tmp 74), none, []⟩,
  ⟨some 76, .load 1 false false (.tmp 75), none, []⟩,
  ⟨some 77, .conv (.int .i64) (.tmp 76), none, []⟩,
  ⟨some 78, .bin .mul (.tmp 77) (.const (.int .i64 1117)), none, []⟩,
  ⟨some 79, .bin .add (.tmp 61) (.tmp 78), none, []⟩,
  ⟨some 80, .mv (.tmp 5), none, []⟩,
  ⟨some 81, .bin .mul (.tmp 80) (.const (.int .i64 29)), none, []⟩,
  ⟨some 82, .bin .add (.tmp 79) (.tmp 81), none, []⟩,
  ⟨some 83, .mv (.tmp 5), none, []⟩,
  ⟨some 84, .mv (.tmp 0), none, []⟩,
  ⟨some 85, .nilck (.tmp 84), none, [0]⟩,
  ⟨some 86, .fadr 0 (.tmp 85), none, [0]⟩,
  ⟨some 87, .load 1 false false (.tmp 86), none, [0]⟩,
  ⟨some 88, .len (.tmp 87), none, []⟩,
  ⟨some 89, .bin .quo (.tmp 83) (.tmp 88), none, []⟩,
  ⟨some 90, .bin .mul (.tmp 89) (.const (.int .i64 53)), none, []⟩,
  ⟨some 91, .bin .add (.tmp 82) (.tmp 90), none, []⟩,
  ⟨some 6, .mv (.tmp 91), none, []⟩])
 (.seq (.region false [⟨some 92, .mv (.tmp 6), none, []⟩,
  ⟨some 93, .mv (.tmp 6), none, []⟩,
  ⟨some 94, .bin .quo (.tmp 93) (.const (.int .i64 64)), none, []⟩,
  ⟨some 95, .bin .xor (.tmp 92) (.tmp 94), none, []⟩,
  ⟨some 6, .mv (.tmp 95), none, []⟩])
 (.seq (.region false [⟨some 96, .mv (.tmp 6), none, []⟩,
  ⟨some 97, .mv (.tmp 1), none, []⟩,
  ⟨some 98, .bin .rem (.tmp 96) (.tmp 97), none, []⟩,
  ⟨some 4, .mv (.tmp 98), none, []⟩])
 .ret)))))))) }
noncomputable def p300 : ProcT := { kind := .fn, ins := [0, 1], bins := [], res := [.keep 4 3], code := (.seq (.region false [⟨some 4, .alloc 100 [.int .i64 0, .int .i64 0, .sl (.own false) .exp []], none, []⟩])
 (.seq (.region false [⟨some 5, .mv (.tmp 0), none, []⟩,
  ⟨some 6, .mv (.tmp 1), none, []⟩,
  ⟨some 7, .buildS (.own false) .exp [], none, []⟩,
  ⟨some 8, .build [.int .i64 0, .int .i64 0, .sl (.own false) .exp []] [(0, 1, .tmp 5), (1, 1, .tmp 6), (2, 1, .tmp 7)], none, []⟩,
  ⟨none, .store 3 (.tmp 4) (.tmp 8), none, []⟩])
 .ret)) }
noncomputable def p400 : ProcT := { kind := .fn, ins := [0], bins := [0], res := [.keep 2 3], code := (.seq (.region false [⟨some 2, .alloc 100 [.int .i64 0, .int .i64 0, .sl (.own false) .exp []], none, []⟩])
 (.seq (.seq (.region false [⟨some 3, .mv (.tmp 0), none, []⟩,
  ⟨some 4, .call 200 0 [.tmp 3, .const (.int .i64 4)], none, []⟩])
 (.block 0 (.seq (.region false [⟨some 6, .bin .eql (.tmp 4) (.const (.int .i64 0)), none, []⟩,
  ⟨some 5, .mv (.tmp 6), none, []⟩])
 (.cond (.tmp 5) (.seq (.region false [⟨some 7, .mv (.tmp 0), none, []⟩,
  ⟨some 8, .call 200 0 [.tmp 7, .const (.int .i64 4)], none, []⟩,
  ⟨some 9, .call 300 0 [.const (.int .i64 0), .tmp 8], none, []⟩,
  ⟨none, .store 3 (.tmp 2) (.tmp 9), none, []⟩])
 .ret) (.seq (.region false [⟨some 11, .bin .eql (.tmp 4) (.const (.int .i64 1)), none, []⟩,
  ⟨some 10, .mv (.tmp 11), none, []⟩])
 (.cond (.tmp 10) (.seq (.region false [⟨some 12, .buildS .full .int [.const (.int .i64 5), .const (.int .i64 31), .const (.int .i64 32), .const (.int .i64 100), .const (.int .i64 2047), .const (.int .i64 2048), .const (.int .i64 65536), .const (.int .i64 99999)], none, []⟩,
  ⟨some 13, .mv (.tmp 0), none, []⟩,
  ⟨some 14, .call 200 0 [.tmp 13, .const (.int .i64 8)], none, []⟩,
  ⟨some 15, .iadr 1 (.tmp 12) (.tmp 14), none, []⟩,
  ⟨some 16, .load 1 false false (.tmp 15), none, []⟩,
  ⟨some 17, .call 300 0 [.const (.int .i64 0), .tmp 16], none, []⟩,
  ⟨none, .store 3 (.tmp 2) (.tmp 17), none, []⟩])
 .ret) .skip))))))
 (.seq (.region false [⟨some 18, .mv (.tmp 0), none, []⟩,
  ⟨some 19, .call 200 0 [.tmp 18, .const (.int .i64 4)], none, []⟩,
  ⟨some 20, .call 300 0 [.const (.int .i64 13), .tmp 19], none, []⟩,
  ⟨none, .store 3 (.tmp 2) (.tmp 20), none, []⟩])
 .ret))) }
noncomputable def p500 : ProcT := { kind := .fn, ins := [0, 1, 2], bins := [], res := [.keep 6 3], code := (.seq (.region false [⟨some 4, .box 100 (.tmp 1), none, []⟩,
  ⟨some 5, .box 101 (.tmp 2), none, []⟩,
  ⟨some 6, .alloc 102 [.int .i64 0, .int .i64 0, .sl (.own false) .exp []], none, []⟩])
 (.seq (.region false [⟨some 7, .mv (.tmp 0), none, []⟩,
  ⟨some 8, .load 3 true false (.tmp 4), none, []⟩,
  ⟨some 9, .load 3 true false (.tmp 5), none, []⟩,
  ⟨some 10, .buildS .full .exp [.tmp 8, .tmp 9], none, []⟩,
  ⟨some 11, .build [.int .i64 0, .int .i64 0, .sl (.own false) .exp []] [(0, 1, .tmp 7), (2, 1, .tmp 10)], none, []⟩,
  ⟨none, .store 3 (.tmp 6) (.tmp 11), none, []⟩])
 .ret)) }
noncomputable def p600 : ProcT := { kind := .fn, ins := [0], bins := [0], res := [.tmp 2], code := (.seq (.region false [⟨some 2, .mv (.const (.int .i64 0)), none, []⟩])
 (.seq (.region false [⟨some 3, .mv (.tmp 0), none, []⟩,
  ⟨some 4, .call 200 0 [.tmp 3, .const (.int .i64 12)], none, []⟩,
  ⟨some 5, .bin .add (.const (.int .i64 1)) (.tmp 4), none, []⟩,
  ⟨some 2, .mv (.tmp 5), none, []⟩])
 .ret)) }
noncomputable def p700 : ProcT := { kind := .fn, ins := [0, 1], bins := [0], res := [.keep 4 3], code := (.seq (.region false [⟨some 4, .alloc 100 [.int .i64 0, .int .i64 0, .sl (.own false) .exp []], none, []⟩])
 (.seq (.seq (.region false [⟨some 7, .mv (.tmp 1), none, []⟩,
  ⟨some 8, .bin .lss (.tmp 7) (.const (.int .i64 2)), none, []⟩,
  ⟨some 9, .mv (.tmp 8), none, []⟩,
  ⟨some 10, .mv (.tmp 0), some (9, false), []⟩,
  ⟨some 11, .call 200 0 [.tmp 10, .const (.int .i64 3)], some (9, false), []⟩,
  ⟨some 12, .bin .eql (.tmp 11) (.const (.int .i64 0)), some (9, false), []⟩,
  ⟨some 13, .pick (.tmp 9) (.const (.bool true)) (.tmp 12), none, []⟩])
 (.cond (.tmp 13) (.seq (.region false [⟨some 14, .mv (.tmp 0), none, []⟩,
  ⟨some 15, .call 400 0 [.tmp 14], none, []⟩,
  ⟨none, .store 3 (.tmp 4) (.tmp 15), none, []⟩])
 .ret) .skip))
 (.seq (.region false [⟨some 16, .mv (.tmp 0), none, []⟩,
  ⟨some 17, .call 600 0 [.tmp 16], none, []⟩,
  ⟨some 5, .mv (.tmp 17), none, []⟩])
 (.seq (.region false [⟨some 18, .mv (.tmp 0), none, []⟩,
  ⟨some 19, .mv (.tmp 1), none, []⟩,
  ⟨some 20, .bin .sub (.tmp 19) (.const (.int .i64 1)), none, []⟩,
  ⟨some 21, .call 700 0 [.tmp 18, .tmp 20], none, []⟩,
  ⟨some 6, .alloc 101 [.int .i64 0, .int .i64 0, .sl (.own false) .exp []], none, []⟩,
  ⟨none, .store 3 (.tmp 6) (.tmp 21), none, []⟩])
 (.seq (.region true [⟨some 22, .mv (.tmp 5), none, []⟩,
  ⟨some 23, .load 3 true false (.tmp 6), none, [101]⟩,
  ⟨some 24, .mv (.tmp 0), none, []⟩,
  ⟨some 25, .mv (.tmp 1), none, []⟩,
  ⟨some 26, .bin .sub (.tmp 25) (.const (.int .i64 1)), none, []⟩,
  ⟨some 27, .call 700 0 [.tmp 24, .tmp 26], none, [0]⟩,
  ⟨some 28, .call 500 0 [.tmp 22, .tmp 23, .tmp 27], none, []⟩,
  ⟨none, .store 3 (.tmp 4) (.tmp 28), none, [100]⟩])
 .ret))))) }
noncomputable def p800 : ProcT := { kind := .fn, ins := [0], bins := [0], res := [.cell 2 3 true], code := (.seq (.region false [⟨some 2, .alloc 100 [.int .i64 0, .int .i64 0, .sl (.own false) .exp []], none, []⟩])
 (.seq (.region false [⟨some 4, .mv (.tmp 0), none, []⟩,
  ⟨some 5, .mv (.tmp 0), none, []⟩,
  ⟨some 6, .call 200 0 [.tmp 5, .const (.int .i64 4)], none, []⟩,
  ⟨some 7, .bin .add (.const (.int .i64 2)) (.tmp 6), none, []⟩,
  ⟨some 8, .call 700 0 [.tmp 4, .tmp 7], none, []⟩,
  ⟨some 3, .alloc 101 [.int .i64 0, .int .i64 0, .sl (.own false) .exp []], none, []⟩,
  ⟨none, .store 3 (.tmp 3) (.tmp 8), none, []⟩])
 (.seq (.seq (.region false [⟨some 9, .mv (.tmp 0), none, []⟩,
  ⟨some 10, .call 200 0 [.tmp 9, .const (.int .i64 40)], none, []⟩])
 (.block 0 (.seq (.region false [⟨some 12, .bin .eql (.tmp 10) (.const (.int .i64 0)), none, []⟩,
  ⟨some 11, .mv (.tmp 12), none, []⟩])
 (.cond (.tmp 11) (.region false [⟨some 13, .buildS .full .int [.const (.int .i64 (-1)), .const (.int .i64 100000)], none, []⟩,
  ⟨some 14, .mv (.tmp 0), none, []⟩,
  ⟨some 15, .call 200 0 [.tmp 14, .const (.int .i64 2)], none, []⟩,
  ⟨some 16, .iadr 1 (.tmp 13) (.tmp 15), none, []⟩,
  ⟨some 17, .load 1 false false (.tmp 16), none, []⟩,
  ⟨some 18, .fadr 1 (.tmp 3), none, []⟩,
  ⟨none, .store 1 (.tmp 18) (.tmp 17), none, []⟩]) (.seq (.region false [⟨some 20, .bin .eql (.tmp 10) (.const (.int .i64 1)), none, []⟩,
  ⟨some 19, .mv (.tmp 20), none, []⟩])
 (.cond (.tmp 19) (.region false [⟨some 21, .buildS .full .int [.const (.int .i64 (-1)), .const (.int .i64 14)], none, []⟩,
  ⟨some 22, .mv (.tmp 0), none, []⟩,
  ⟨some 23, .call 200 0 [.tmp 22, .const (.int .i64 2)], none, []⟩,
  ⟨some 24, .iadr 1 (.tmp 21) (.tmp 23), none, []⟩,
  ⟨some 25, .load 1 false false (.tmp 24), none, []⟩,
  ⟨some 26, .fadr 0 (.tmp 3), none, []⟩,
  ⟨none, .store 1 (.tmp 26) (.tmp 25), none, []⟩]) (.seq (.region false [⟨some 28, .bin .eql (.tmp 10) (.const (.int .i64 2)), none, []⟩,
  ⟨some 27, .mv (.tmp 28), none, []⟩])
 (.cond (.tmp 27) (.region true [⟨some 29, .fadr 2 (.tmp 3), none, [101]⟩,
  ⟨some 30, .load 1 false true (.tmp 29), none, [101]⟩,
  ⟨some 31, .mv (.tmp 0), none, []⟩,
  ⟨some 32, .call 400 0 [.tmp 31], none, [0]⟩,
  ⟨some 33, .buildS .full .exp [.tmp 32], none, []⟩,
  ⟨some 34, .app 3 (.take 30) (.tmp 33), none, []⟩,
  ⟨some 35, .fadr 2 (.tmp 3), none, [101]⟩,
  ⟨none, .store 1 (.tmp 35) (.take 34), none, [101]⟩]) (.seq (.region false [⟨some 37, .bin .eql (.tmp 10) (.const (.int .i64 3)), none, []⟩,
  ⟨some 36, .mv (.tmp 37), none, []⟩])
 (.cond (.tmp 36) (.seq (.region true [⟨some 38, .load 3 true false (.tmp 3), none, [101]⟩,
  ⟨some 39, .mv (.tmp 0), none, []⟩,
  ⟨some 40, .call 400 0 [.tmp 39], none, [0]⟩,
  ⟨some 41, .call 500 0 [.const (.int .i64 8), .tmp 38, .tmp 40], none, []⟩,
  ⟨some 42, .mv (.tmp 0), none, []⟩,
  ⟨some 43, .call 700 0 [.tmp 42, .const (.int .i64 5)], none, [0]⟩,
  ⟨some 44, .call 500 0 [.const (.int .i64 8), .tmp 41, .tmp 43], none, []⟩,
  ⟨none, .store 3 (.tmp 2) (.tmp 44), none, [100]⟩])
 .ret) (.seq (.region false [⟨some 46, .bin .eql (.tmp 10) (.const (.int .i64 4)), none, []⟩,
  ⟨some 45, .mv (.tmp 46), none, []⟩])
 (.cond (.tmp 45) (.seq (.region false [⟨some 47, .mv (.tmp 0), none, []⟩,
  ⟨some 48, .call 600 0 [.tmp 47], none, []⟩,
  ⟨some 49, .mv (.tmp 0), none, []⟩,
  ⟨some 50, .call 700 0 [.tmp 49, .const (.int .i64 4)], none, []⟩,
  ⟨some 51, .call 300 0 [.const (.int .i64 13), .const (.int .i64 4)], none, []⟩,
  ⟨some 52, .call 500 0 [.tmp 48, .tmp 50, .tmp 51], none, []⟩,
  ⟨none, .store 3 (.tmp 2) (.tmp 52), none, []⟩])
 .ret) .skip))))))))))))
 (.seq (.region false [⟨some 53, .load 3 true false (.tmp 3), none, []⟩,
  ⟨none, .store 3 (.tmp 2) (.tmp 53), none, []⟩])
 .ret)))) }
noncomputable def p900 : ProcT := { kind := .fn, ins := [0], bins := [], res := [.cell 2 3 true, .tmp 3], code := (.seq (.region false [⟨some 2, .alloc 100 [.int .i64 0, .int .i64 0, .sl (.own false) .exp []], none, []⟩,
  ⟨some 3, .mv (.const (.int .i64 0)), none, []⟩])
 (.seq (.region false [⟨some 6, .mv (.tmp 0), none, []⟩,
  ⟨some 7, .call 100 101 [.tmp 6], none, []⟩,
  ⟨some 4, .mv (.tmp 7), none, []⟩])
 (.seq (.region false [⟨some 8, .mv (.tmp 4), none, []⟩,
  ⟨some 9, .call 800 0 [.tmp 8], none, []⟩,
  ⟨some 5, .alloc 102 [.int .i64 0, .int .i64 0, .sl (.own false) .exp []], none, []⟩,
  ⟨none, .store 3 (.tmp 5) (.tmp 9), none, []⟩])
 (.seq (.region true [⟨some 10, .load 3 true false (.tmp 5), none, [102]⟩,
  ⟨some 11, .buildS .full .int [.const (.int .i64 4), .const (.int .i64 4), .const (.int .i64 5), .const (.int .i64 6), .const (.int .i64 7), .const (.int .i64 8), .const (.int .i64 3), .const (.int .i64 11)], none, []⟩,
  ⟨some 12, .mv (.tmp 4), none, []⟩,
  ⟨some 13, .call 200 0 [.tmp 12, .const (.int .i64 8)], none, [101]⟩,
  ⟨some 14, .iadr 1 (.tmp 11) (.tmp 13), none, []⟩,
  ⟨some 15, .load 1 false false (.tmp 14), none, []⟩,
  ⟨none, .store 3 (.tmp 2) (.tmp 10), none, [100]⟩,
  ⟨some 3, .mv (.tmp 15), none, []⟩])
 .ret)))) }
noncomputable def p1000 : ProcT := { kind := .fn, ins := [0], bins := [], res := [.tmp 2], code := (.seq (.region false [⟨some 2, .mv (.const (.bool false)), none, []⟩])
 (.seq (.region false [⟨some 3, .mv (.tmp 0), none, []⟩,
  ⟨some 4, .bin .geq (.tmp 3) (.const (.int .i64 1)), none, []⟩,
  ⟨some 5, .mv (.tmp 4), none, []⟩,
  ⟨some 6, .mv (.tmp 0), some (5, true), []⟩,
  ⟨some 7, .bin .leq (.tmp 6) (.const (.int .i64 12)), some (5, true), []⟩,
  ⟨some 8, .pick (.tmp 5) (.tmp 7) (.const (.bool false)), none, []⟩,
  ⟨some 2, .mv (.tmp 8), none, []⟩])
 .ret)) }
noncomputable def p1100 : ProcT := { kind := .fn, ins := [0, 1], bins := [], res := [.tmp 4], code := (.seq (.region false [⟨some 2, .box 100 (.tmp 0), none, []⟩,
  ⟨some 4, .mv (.const (.bool false)), none, []⟩])
 (.seq (.block 0 (.seq (.region false [⟨some 6, .fadr 0 (.tmp 2), none, []⟩,
  ⟨some 7, .load 1 false false (.tmp 6), none, []⟩,
  ⟨some 8, .bin .eql (.tmp 7) (.const (.int .i64 0)), none, []⟩,
  ⟨some 5, .mv (.tmp 8), none, []⟩])
 (.cond (.tmp 5) (.seq (.region false [⟨some 9, .fadr 1 (.tmp 2), none, []⟩,
  ⟨some 10, .load 1 false false (.tmp 9), none, []⟩,
  ⟨some 11, .bin .geq (.tmp 10) (.const (.int .i64 0)), none, []⟩,
  ⟨some 12, .mv (.tmp 11), none, []⟩,
  ⟨some 13, .fadr 1 (.tmp 2), some (12, true), []⟩,
  ⟨some 14, .load 1 false false (.tmp 13), some (12, true), []⟩,
  ⟨some 15, .bin .leq (.tmp 14) (.const (.int .i64 99999)), some (12, true), []⟩,
  ⟨some 16, .pick (.tmp 12) (.tmp 15) (.const (.bool false)), none, []⟩,
  ⟨some 17, .mv (.tmp 16), none, []⟩,
  ⟨some 18, .fadr 2 (.tmp 2), some (17, true), []⟩,
  ⟨some 19, .load 1 false false (.tmp 18), some (17, true), []⟩,
  ⟨some 20, .len (.tmp 19), some (17, true), []⟩,
  ⟨some 21, .bin .eql (.tmp 20) (.const (.int .i64 0)), some (17, true), []⟩,
  ⟨some 22, .pick (.tmp 17) (.tmp 21) (.const (.bool false)), none, []⟩,
  ⟨some 23, .mv (.tmp 22), none, []⟩,
  ⟨some 24, .mv (.tmp 1), some (23, true), []⟩,
  ⟨some 25, .bin .gtr (.tmp 24) (.const (.int .i64 0)), some (23, true), []⟩,
  ⟨some 26, .pick (.tmp 23) (.tmp 25) (.const (.bool false)), none, []⟩,
  ⟨some 4, .mv (.tmp 26), none, []⟩])
 .ret) (.seq (.region false [⟨some 28, .fadr 0 (.tmp 2), none, []⟩,
  ⟨some 29, .load 1 false false (.tmp 28), none, []⟩,
  ⟨some 30, .bin .eql (.tmp 29) (.const (.int .i64 13)), none, []⟩,
  ⟨some 27, .mv (.tmp 30), none, []⟩])
 (.cond (.tmp 27) (.seq (.region false [⟨some 31, .fadr 1 (.tmp 2), none, []⟩,
  ⟨some 32, .load 1 false false (.tmp 31), none, []⟩,
  ⟨some 33, .bin .geq (.tmp 32) (.const (.int .i64 0)), none, []⟩,
  ⟨some 34, .mv (.tmp 33), none, []⟩,
  ⟨some 35, .fadr 1 (.tmp 2), some (34, true), []⟩,
  ⟨some 36, .load 1 false false (.tmp 35), some (34, true), []⟩,
  ⟨some 37, .bin .lss (.tmp 36) (.const (.int .i64 4)), some (34, true), []⟩,
  ⟨some 38, .pick (.tmp 34) (.tmp 37) (.const (.bool false)), none, []⟩,
  ⟨some 39, .mv (.tmp 38), none, []⟩,
  ⟨some 40, .fadr 2 (.tmp 2), some (39, true), []⟩,
  ⟨some 41, .load 1 false false (.tmp 40), some (39, true), []⟩,
  ⟨some 42, .len (.tmp 41), some (39, true), []⟩,
  ⟨some 43, .bin .eql (.tmp 42) (.const (.int .i64 0)), some (39, true), []⟩,
  ⟨some 44, .pick (.tmp 39) (.tmp 43) (.const (.bool false)), none, []⟩,
  ⟨some 45, .mv (.tmp 44), none, []⟩,
  ⟨some 46, .mv (.tmp 1), some (45, true), []⟩,
  ⟨some 47, .bin .gtr (.tmp 46) (.const (.int .i64 0)), some (45, true), []⟩,
  ⟨some 48, .pick (.tmp 45) (.tmp 47) (.const (.bool false)), none, []⟩,
  ⟨some 4, .mv (.tmp 48), none, []⟩])
 .ret) .skip)))))
 (.seq (.region false [⟨some 49, .fadr 0 (.tmp 2), none, []⟩,
  ⟨some 50, .load 1 false false (.tmp 49), none, []⟩,
  ⟨some 51, .call 1000 0 [.tmp 50], none, []⟩,
  ⟨some 52, .mv (.tmp 51), none, []⟩,
  ⟨some 53, .fadr 1 (.tmp 2), some (52, true), []⟩,
  ⟨some 54, .load 1 false false (.tmp 53), some (52, true), []⟩,
  ⟨some 55, .bin .eql (.tmp 54) (.const (.int .i64 0)), some (52, true), []⟩,
  ⟨some 56, .pick (.tmp 52) (.tmp 55) (.const (.bool false)), none, []⟩,
  ⟨some 57, .mv (.tmp 56), none, []⟩,
  ⟨some 58, .fadr 2 (.tmp 2), some (57, true), []⟩,
  ⟨some 59, .load 1 false false (.tmp 58), some (57, true), []⟩,
  ⟨some 60, .len (.tmp 59), some (57, true), []⟩,
  ⟨some 61, .bin .eql (.tmp 60) (.const (.int .i64 2)), some (57, true), []⟩,
  ⟨some 62, .pick (.tmp 57) (.tmp 61) (.const (.bool false)), none, []⟩,
  ⟨some 63, .mv (.tmp 62), none, []⟩,
  ⟨some 64, .mv (.tmp 1), some (63, true), []⟩,
  ⟨some 65, .bin .gtr (.tmp 64) (.const (.int .i64 1)), some (63, true), []⟩,
  ⟨some 66, .pick (.tmp 63) (.tmp 65) (.const (.bool false)), none, []⟩,
  ⟨some 67, .mv (.tmp 66), none, []⟩,
  ⟨some 68, .fadr 2 (.tmp 2), some (67, true), []⟩,
  ⟨some 69, .load 1 false false (.tmp 68), some (67, true), []⟩,
  ⟨some 70, .iadr 3 (.tmp 69) (.const (.int .i64 0)), some (67, true), []⟩,
  ⟨some 71, .load 3 true false (.tmp 70), some (67, true), []⟩,
  ⟨some 72, .mv (.tmp 1), some (67, true), []⟩,
  ⟨some 73, .bin .sub (.tmp 72) (.const (.int .i64 1)), some (67, true), []⟩,
  ⟨some 74, .call 1100 0 [.tmp 71, .tmp 73], some (67, true), []⟩,
  ⟨some 75, .pick (.tmp 67) (.tmp 74) (.const (.bool false)), none, []⟩,
  ⟨some 76, .mv (.tmp 75), none, []⟩,
  ⟨some 77, .fadr 2 (.tmp 2), some (76, true), []⟩,
  ⟨some 78, .load 1 false false (.tmp 77), some (76, true), []⟩,
  ⟨some 79, .iadr 3 (.tmp 78) (.const (.int .i64 1)), some (76, true), []⟩,
  ⟨some 80, .load 3 true false (.tmp 79), some (76, true), []⟩,
  ⟨some 81, .mv (.tmp 1), some (76, true), []⟩,
  ⟨some 82, .bin .sub (.tmp 81) (.const (.int .i64 1)), some (76, true), []⟩,
  ⟨some 83, .call 1100 0 [.tmp 80, .tmp 82], some (76, true), []⟩,
  ⟨some 84, .pick (.tmp 76) (.tmp 83) (.const (.bool false)), none, []⟩,
  ⟨some 4, .mv (.tmp 84), none, []⟩])
 .ret))) }
noncomputable def p1200 : ProcT := { kind := .fn, ins := [0], bins := [], res := [.tmp 2], code := (.seq (.region false [⟨some 1, .box 100 (.tmp 0), none, []⟩,
  ⟨some 2, .mv (.const (.bool false)), none, []⟩])
 (.seq (.region false [⟨some 3, .load 3 true false (.tmp 1), none, []⟩,
  ⟨some 4, .call 1100 0 [.tmp 3, .const (.int .i64 5)], none, []⟩,
  ⟨some 2, .mv (.tmp 4), none, []⟩])
 .ret)) }
noncomputable def p1300 : ProcT := { kind := .fn, ins := [0], bins := [], res := [.tmp 2], code := (.seq (.region false [⟨some 1, .box 100 (.tmp 0), none, []⟩,
  ⟨some 2, .mv (.const (.int .i64 0)), none, []⟩])
 (.seq (.region false [⟨some 3, .mv (.const (.int .i64 0)), none, []⟩])
 (.seq (.seq (.region false [⟨some 6, .fadr 2 (.tmp 1), none, []⟩,
  ⟨some 7, .load 1 false false (.tmp 6), none, []⟩,
  ⟨some 8, .len (.tmp 7), none, []⟩,
  ⟨some 9, .mv (.const (.int .i64 0)), none, []⟩])
 (.block 0 (.label 1301)))
 (.seq (.region false [⟨some 18, .mv (.tmp 3), none, []⟩,
  ⟨some 19, .bin .add (.tmp 18) (.const (.int .i64 1)), none, []⟩,
  ⟨some 2, .mv (.tmp 19), none, []⟩])
 .ret)))) }
noncomputable def p1301 : ProcT := { kind := .loop, ins := [3, 7, 8, 9], bins := [], outs := [2, 3], bouts := [], code := (.seq (.region false [⟨some 10, .bin .lss (.tmp 9) (.tmp 8), none, []⟩])
 (.seq (.cond (.tmp 10) .skip (.exit 0))
 (.seq (.block 1 (.seq (.region false [⟨some 11, .iadr 3 (.tmp 7) (.tmp 9), none, []⟩,
  ⟨some 12, .load 3 true false (.tmp 11), none, []⟩,
  ⟨some 5, .alloc 101 [.int .i64 0, .int .i64 0, .sl (.own false) .exp []], none, []⟩,
  ⟨none, .store 3 (.tmp 5) (.tmp 12), none, []⟩])
 (.region false [⟨some 13, .mv (.tmp 3), none, []⟩,
  ⟨some 14, .load 3 true false (.tmp 5), none, []⟩,
  ⟨some 15, .call 1300 0 [.tmp 14], none, []⟩,
  ⟨some 16, .mx [.tmp 13, .tmp 15], none, []⟩,
  ⟨some 3, .mv (.tmp 16), none, []⟩])))
 (.region false [⟨some 17, .bin .add (.tmp 9) (.const (.int .i64 1)), none, []⟩,
  ⟨some 9, .mv (.tmp 17), none, []⟩])))) }
noncomputable def p1400 : ProcT := { kind := .fn, ins := [0, 1, 2], bins := [], res := [.tmp 6], code := (.seq (.region false [⟨some 3, .box 100 (.tmp 0), none, []⟩,
  ⟨some 6, .mv (.const (.sl (.own false) .quad [])), none, []⟩])
 (.seq (.seq (.region false [⟨some 7, .fadr 0 (.tmp 3), none, []⟩,
  ⟨some 8, .load 1 false false (.tmp 7), none, []⟩])
 (.block 0 (.seq (.region false [⟨some 10, .bin .eql (.tmp 8) (.const (.int .i64 0)), none, []⟩,
  ⟨some 9, .mv (.tmp 10), none, []⟩])
 (.cond (.tmp 9) (.seq (.region false [⟨some 11, .mv (.take 2), none, []⟩,
  ⟨some 12, .mv (.tmp 1), none, []⟩,
  ⟨some 13, .fadr 1 (.tmp 3), none, []⟩,
  ⟨some 14, .load 1 false false (.tmp 13), none, []⟩,
  ⟨some 15, .build [.int .i64 0, .int .i64 0, .int .i64 0, .int .i64 0, .int .i64 0] [(0, 1, .const (.int .i64 1)), (1, 1, .tmp 12), (4, 1, .tmp 14)], none, []⟩,
  ⟨some 16, .buildS .full .quad [.tmp 15], none, []⟩,
  ⟨some 17, .app 5 (.take 11) (.tmp 16), none, []⟩,
  ⟨some 6, .mv (.take 17), none, []⟩])
 .ret) (.seq (.region false [⟨some 19, .bin .eql (.tmp 8) (.const (.int .i64 13)), none, []⟩,
  ⟨some 18, .mv (.tmp 19), none, []⟩])
 (.cond (.tmp 18) (.seq (.region false [⟨some 20, .mv (.take 2), none, []⟩,
  ⟨some 21, .mv (.tmp 1), none, []⟩,
  ⟨some 22, .fadr 1 (.tmp 3), none, []⟩,
  ⟨some 23, .load 1 false false (.tmp 22), none, []⟩,
  ⟨some 24, .build [.int .i64 0, .int .i64 0, .int .i64 0, .int .i64 0, .int .i64 0] [(0, 1, .const (.int .i64 2)), (1, 1, .tmp 21), (2, 1, .tmp 23)], none, []⟩,
  ⟨some 25, .buildS .full .quad [.tmp 24], none, []⟩,
  ⟨some 26, .app 5 (.take 20) (.tmp 25), none, []⟩,
  ⟨some 6, .mv (.take 26), none, []⟩])
 .ret) .skip))))))
 (.seq (.region false [⟨some 27, .fadr 2 (.tmp 3), none, []⟩,
  ⟨some 28, .load 1 false false (.tmp 27), none, []⟩,
  ⟨some 29, .iadr 3 (.tmp 28) (.const (.int .i64 0)), none, []⟩,
  ⟨some 30, .load 3 true false (.tmp 29), none, []⟩,
  ⟨some 31, .mv (.tmp 1), none, []⟩,
  ⟨some 32, .mv (.take 2), none, []⟩,
  ⟨some 33, .call 1400 0 [.tmp 30, .tmp 31, .take 32], none, []⟩,
  ⟨some 2, .mv (.take 33), none, []⟩])
 (.seq (.region false [⟨some 34, .fadr 2 (.tmp 3), none, []⟩,
  ⟨some 35, .load 1 false false (.tmp 34), none, []⟩,
  ⟨some 36, .iadr 3 (.tmp 35) (.const (.int .i64 1)), none, []⟩,
  ⟨some 37, .load 3 true false (.tmp 36), none, []⟩,
  ⟨some 38, .mv (.tmp 1), none, []⟩,
  ⟨some 39, .bin .add (.tmp 38) (.const (.int .i64 1)), none, []⟩,
  ⟨some 40, .mv (.take 2), none, []⟩,
  ⟨some 41, .call 1400 0 [.tmp 37, .tmp 39, .take 40], none, []⟩,
  ⟨some 2, .mv (.take 41), none, []⟩])
 (.seq (.region false [⟨some 42, .mv (.take 2), none, []⟩,
  ⟨some 43, .mv (.tmp 1), none, []⟩,
  ⟨some 44, .mv (.tmp 1), none, []⟩,
  ⟨some 45, .mv (.tmp 1), none, []⟩,
  ⟨some 46, .bin .add (.tmp 45) (.const (.int .i64 1)), none, []⟩,
  ⟨some 47, .fadr 0 (.tmp 3), none, []⟩,
  ⟨some 48, .load 1 false false (.tmp 47), none, []⟩,
  ⟨some 49, .build [.int .i64 0, .int .i64 0, .int .i64 0, .int .i64 0, .int .i64 0] [(0, 1, .const (.int .i64 3)), (1, 1, .tmp 43), (2, 1, .tmp 44), (3, 1, .tmp 46), (4, 1, .tmp 48)], none, []⟩,
  ⟨some 50, .buildS .full .quad [.tmp 49], none, []⟩,
  ⟨some 51, .app 5 (.take 42) (.tmp 50), none, []⟩,
  ⟨some 6, .mv (.take 51), none, []⟩])
 .ret))))) }
noncomputable def p1500 : ProcT := { kind := .fn, ins := [0, 1], bins := [], res := [.tmp 4, .tmp 5], code := (.seq (.region false [⟨some 2, .box 100 (.tmp 0), none, []⟩,
  ⟨some 4, .mv (.const (.sl (.own false) .quad [])), none, []⟩,
  ⟨some 5, .mv (.const (.bool false)), none, []⟩])
 (.seq (.seq (.region false [⟨some 6, .load 3 true false (.tmp 2), none, []⟩,
  ⟨some 7, .call 1200 0 [.tmp 6], none, []⟩,
  ⟨some 8, .un .not (.tmp 7), none, []⟩,
  ⟨some 9, .mv (.tmp 8), none, []⟩,
  ⟨some 10, .mv (.tmp 1), some (9, false), []⟩,
  ⟨some 11, .bin .lss (.tmp 10) (.const (.int .i64 4)), some (9, false), []⟩,
  ⟨some 12, .pick (.tmp 9) (.const (.bool true)) (.tmp 11), none, []⟩,
  ⟨some 13, .mv (.tmp 12), none, []⟩,
  ⟨some 14, .mv (.tmp 1), some (13, false), []⟩,
  ⟨some 15, .bin .gtr (.tmp 14) (.const (.int .i64 12)), some (13, false), []⟩,
  ⟨some 16, .pick (.tmp 13) (.const (.bool true)) (.tmp 15), none, []⟩,
  ⟨some 17, .mv (.tmp 16), none, []⟩,
  ⟨some 18, .mv (.tmp 1), some (17, false), []⟩,
  ⟨some 19, .load 3 true false (.tmp 2), some (17, false), []⟩,
  ⟨some 20, .call 1300 0 [.tmp 19], some (17, false), []⟩,
  ⟨some 21, .bin .add (.tmp 18) (.tmp 20), some (17, false), []⟩,
  ⟨some 22, .bin .gtr (.tmp 21) (.const (.int .i64 12)), some (17, false), []⟩,
  ⟨some 23, .pick (.tmp 17) (.const (.bool true)) (.tmp 22), none, []⟩])
 (.cond (.tmp 23) (.seq (.region false [⟨some 4, .mv (.const (.sl (.own false) .quad [])), none, []⟩,
  ⟨some 5, .mv (.const (.bool false)), none, []⟩])
 .ret) .skip))
 (.seq (.region false [⟨some 24, .load 3 true false (.tmp 2), none, []⟩,
  ⟨some 25, .mv (.tmp 1), none, []⟩,
  ⟨some 26, .call 1400 0 [.tmp 24, .tmp 25, .const (.sl (.own false) .quad [])], none, []⟩,
  ⟨some 4, .mv (.take 26), none, []⟩,
  ⟨some 5, .mv (.const (.bool true)), none, []⟩])
 .ret))) }
noncomputable def p1600 : ProcT := { kind := .fn, ins := [0, 1, 2], bins := [], res := [.tmp 6], code := (.seq (.region false [⟨some 6, .mv (.const (.bool false)), none, []⟩])
 (.seq (.region false [⟨some 7, .mv (.tmp 0), none, []⟩,
  ⟨some 8, .mv (.tmp 1), none, []⟩,
  ⟨some 9, .bin .geq (.tmp 7) (.tmp 8), none, []⟩,
  ⟨some 10, .mv (.tmp 9), none, []⟩,
  ⟨some 11, .mv (.tmp 0), some (10, true), []⟩,
  ⟨some 12, .mv (.tmp 2), some (10, true), []⟩,
  ⟨some 13, .bin .leq (.tmp 11) (.tmp 12), some (10, true), []⟩,
  ⟨some 14, .pick (.tmp 10) (.tmp 13) (.const (.bool false)), none, []⟩,
  ⟨some 6, .mv (.tmp 14), none, []⟩])
 .ret)) }
noncomputable def p1700 : ProcT := { kind := .fn, ins := [0], bins := [], res := [.tmp 2], code := (.seq (.region false [⟨some 2, .mv (.const (.bool false)), none, []⟩])
 (.seq (.region false [⟨some 3, .mv (.tmp 0), none, []⟩,
  ⟨some 4, .call 1600 0 [.tmp 3, .const (.int .i64 1), .const (.int .i64 12)], none, []⟩,
  ⟨some 2, .mv (.tmp 4), none, []⟩])
 .ret)) }
noncomputable def p1800 : ProcT := { kind := .fn, ins := [0, 1], bins := [], res := [.tmp 4], code := (.seq (.region false [⟨some 2, .box 100 (.tmp 0), none, []⟩,
  ⟨some 4, .mv (.const (.bool false)), none, []⟩])
 (.seq (.seq (.region false [⟨some 5, .mv (.tmp 1), none, []⟩,
  ⟨some 6, .bin .lss (.tmp 5) (.const (.int .i64 1)), none, []⟩])
 (.cond (.tmp 6) (.seq (.region false [⟨some 4, .mv (.const (.bool false)), none, []⟩])
 .ret) .skip))
 (.seq (.seq (.region false [⟨some 7, .fadr 0 (.tmp 2), none, []⟩,
  ⟨some 8, .load 1 false false (.tmp 7), none, []⟩,
  ⟨some 9, .bin .eql (.tmp 8) (.const (.int .i64 0)), none, []⟩])
 (.cond (.tmp 9) (.seq (.region false [⟨some 10, .fadr 1 (.tmp 2), none, []⟩,
  ⟨some 11, .load 1 false false (.tmp 10), none, []⟩,
  ⟨some 12, .call 1600 0 [.tmp 11, .const (.int .i64 0), .const (.int .i64 99999)], none, []⟩,
  ⟨some 13, .mv (.tmp 12), none, []⟩,
  ⟨some 14, .fadr 2 (.tmp 2), some (13, true), []⟩,
  ⟨some 15, .load 1 false false (.tmp 14), some (13, true), []⟩,
  ⟨some 16, .len (.tmp 15), some (13, true), []⟩,
  ⟨some 17, .bin .eql (.tmp 16) (.const (.int .i64 0)), some (13, true), []⟩,
  ⟨some 18, .pick (.tmp 13) (.tmp 17) (.const (.bool false)), none, []⟩,
  ⟨some 4, .mv (.tmp 18), none, []⟩])
 .ret) .skip))
 (.seq (.seq (.region false [⟨some 19, .fadr 0 (.tmp 2), none, []⟩,
  ⟨some 20, .load 1 false false (.tmp 19), none, []⟩,
  ⟨some 21, .bin .eql (.tmp 20) (.const (.int .i64 13)), none, []⟩])
 (.cond (.tmp 21) (.seq (.region false [⟨some 22, .fadr 1 (.tmp 2), none, []⟩,
  ⟨some 23, .load 1 false false (.tmp 22), none, []⟩,
  ⟨some 24, .call 1600 0 [.tmp 23, .const (.int .i64 0), .const (.int .i64 3)], none, []⟩,
  ⟨some 25, .mv (.tmp 24), none, []⟩,
  ⟨some 26, .fadr 2 (.tmp 2), some (25, true), []⟩,
  ⟨some 27, .load 1 false false (.tmp 26), some (25, true), []⟩,
  ⟨some 28, .len (.tmp 27), some (25, true), []⟩,
  ⟨some 29, .bin .eql (.tmp 28) (.const (.int .i64 0)), some (25, true), []⟩,
  ⟨some 30, .pick (.tmp 25) (.tmp 29) (.const (.bool false)), none, []⟩,
  ⟨some 4, .mv (.tmp 30), none, []⟩])
 .ret) .skip))
 (.seq (.region false [⟨some 31, .fadr 0 (.tmp 2), none, []⟩,
  ⟨some 32, .load 1 false false (.tmp 31), none, []⟩,
  ⟨some 33, .call 1700 0 [.tmp 32], none, []⟩,
  ⟨some 34, .mv (.tmp 33), none, []⟩,
  ⟨some 35, .fadr 1 (.tmp 2), some (34, true), []⟩,
  ⟨some 36, .load 1 false false (.tmp 35), some (34, true), []⟩,
  ⟨some 37, .bin .eql (.tmp 36) (.const (.int .i64 0)), some (34, true), []⟩,
  ⟨some 38, .pick (.tmp 34) (.tmp 37) (.const (.bool false)), none, []⟩,
  ⟨some 39, .mv (.tmp 38), none, []⟩,
  ⟨some 40, .fadr 2 (.tmp 2), some (39, true), []⟩,
  ⟨some 41, .load 1 false false (.tmp 40), some (39, true), []⟩,
  ⟨some 42, .len (.tmp 41), some (39, true), []⟩,
  ⟨some 43, .bin .eql (.tmp 42) (.const (.int .i64 2)), some (39, true), []⟩,
  ⟨some 44, .pick (.tmp 39) (.tmp 43) (.const (.bool false)), none, []⟩,
  ⟨some 45, .mv (.tmp 44), none, []⟩,
  ⟨some 46, .fadr 2 (.tmp 2), some (45, true), []⟩,
  ⟨some 47, .load 1 false false (.tmp 46), some (45, true), []⟩,
  ⟨some 48, .iadr 3 (.tmp 47) (.const (.int .i64 0)), some (45, true), []⟩,
  ⟨some 49, .load 3 true false (.tmp 48), some (45, true), []⟩,
  ⟨some 50, .mv (.tmp 1), some (45, true), []⟩,
  ⟨some 51, .bin .sub (.tmp 50) (.const (.int .i64 1)), some (45, true), []⟩,
  ⟨some 52, .call 1800 0 [.tmp 49, .tmp 51], some (45, true), []⟩,
  ⟨some 53, .pick (.tmp 45) (.tmp 52) (.const (.bool false)), none, []⟩,
  ⟨some 54, .mv (.tmp 53), none, []⟩,
  ⟨some 55, .fadr 2 (.tmp 2), some (54, true), []⟩,
  ⟨some 56, .load 1 false false (.tmp 55), some (54, true), []⟩,
  ⟨some 57, .iadr 3 (.tmp 56) (.const (.int .i64 1)), some (54, true), []⟩,
  ⟨some 58, .load 3 true false (.tmp 57), some (54, true), []⟩,
  ⟨some 59, .mv (.tmp 1), some (54, true), []⟩,
  ⟨some 60, .bin .sub (.tmp 59) (.const (.int .i64 1)), some (54, true), []⟩,
  ⟨some 61, .call 1800 0 [.tmp 58, .tmp 60], some (54, true), []⟩,
  ⟨some 62, .pick (.tmp 54) (.tmp 61) (.const (.bool false)), none, []⟩,
  ⟨some 4, .mv (.tmp 62), none, []⟩])
 .ret))))) }
noncomputable def p1900 : ProcT := { kind := .fn, ins := [0], bins := [], res := [.tmp 2], code := (.seq (.region false [⟨some 1, .box 100 (.tmp 0), none, []⟩,
  ⟨some 2, .mv (.const (.bool false)), none, []⟩])
 (.seq (.region false [⟨some 3, .load 3 true false (.tmp 1), none, []⟩,
  ⟨some 4, .call 1800 0 [.tmp 3, .const (.int .i64 5)], none, []⟩,
  ⟨some 2, .mv (.tmp 4), none, []⟩])
 .ret)) }
noncomputable def p2000 : ProcT := { kind := .fn, ins := [0], bins := [], res := [.tmp 2], code := (.seq (.region false [⟨some 1, .box 100 (.tmp 0), none, []⟩,
  ⟨some 2, .mv (.const (.int .i64 0)), none, []⟩])
 (.seq (.seq (.region false [⟨some 3, .fadr 2 (.tmp 1), none, []⟩,
  ⟨some 4, .load 1 false false (.tmp 3), none, []⟩,
  ⟨some 5, .len (.tmp 4), none, []⟩,
  ⟨some 6, .bin .eql (.tmp 5) (.const (.int .i64 0)), none, []⟩])
 (.cond (.tmp 6) (.seq (.region false [⟨some 2, .mv (.const (.int .i64 1)), none, []⟩])
 .ret) .skip))
 (.seq (.region true [⟨some 7, .fadr 2 (.tmp 1), none, [100]⟩,
  ⟨some 8, .load 1 false false (.tmp 7), none, [100]⟩,
  ⟨some 9, .iadr 3 (.tmp 8) (.const (.int .i64 0)), none, []⟩,
  ⟨some 10, .load 3 true false (.tmp 9), none, []⟩,
  ⟨some 11, .call 2000 0 [.tmp 10], none, []⟩,
  ⟨some 12, .fadr 2 (.tmp 1), none, [100]⟩,
  ⟨some 13, .load 1 false false (.tmp 12), none, [100]⟩,
  ⟨some 14, .iadr 3 (.tmp 13) (.const (.int .i64 1)), none, []⟩,
  ⟨some 15, .load 3 true false (.tmp 14), none, []⟩,
  ⟨some 16, .call 2000 0 [.tmp 15], none, []⟩,
  ⟨some 17, .mx [.tmp 11, .tmp 16], none, []⟩,
  ⟨some 18, .bin .add (.const (.int .i64 1)) (.tmp 17), none, []⟩,
  ⟨some 2, .mv (.tmp 18), none, []⟩])
 .ret))) }
noncomputable def p2100 : ProcT := { kind := .fn, ins := [0, 1], bins := [], res := [.tmp 4], code := (.seq (.region false [⟨some 2, .box 100 (.tmp 0), none, []⟩,
  ⟨some 4, .mv (.const (.sl (.own false) .quad [])), none, []⟩])
 (.seq (.seq (.region false [⟨some 6, .fadr 0 (.tmp 2), none, []⟩,
  ⟨some 7, .load 1 false false (.tmp 6), none, []⟩,
  ⟨some 8, .bin .eql (.tmp 7) (.const (.int .i64 0)), none, []⟩])
 (.cond (.tmp 8) (.seq (.region false [⟨some 9, .mv (.tmp 1), none, []⟩,
  ⟨some 10, .fadr 1 (.tmp 2), none, []⟩,
  ⟨some 11, .load 1 false false (.tmp 10), none, []⟩,
  ⟨some 12, .build [.int .i64 0, .int .i64 0, .int .i64 0, .int .i64 0, .int .i64 0] [(0, 1, .const (.int .i64 1)), (1, 1, .tmp 9), (4, 1, .tmp 11)], none, []⟩,
  ⟨some 13, .buildS (.own true) .quad [.tmp 12], none, []⟩,
  ⟨some 4, .mv (.take 13), none, []⟩])
 .ret) .skip))
 (.seq (.seq (.region false [⟨some 14, .fadr 0 (.tmp 2), none, []⟩,
  ⟨some 15, .load 1 false false (.tmp 14), none, []⟩,
  ⟨some 16, .bin .eql (.tmp 15) (.const (.int .i64 13)), none, []⟩])
 (.cond (.tmp 16) (.seq (.region false [⟨some 17, .mv (.tmp 1), none, []⟩,
  ⟨some 18, .fadr 1 (.tmp 2), none, []⟩,
  ⟨some 19, .load 1 false false (.tmp 18), none, []⟩,
  ⟨some 20, .build [.int .i64 0, .int .i64 0, .int .i64 0, .int .i64 0, .int .i64 0] [(0, 1, .const (.int .i64 2)), (1, 1, .tmp 17), (2, 1, .tmp 19)], none, []⟩,
  ⟨some 21, .buildS (.own true) .quad [.tmp 20], none, []⟩,
  ⟨some 4, .mv (.take 21), none, []⟩])
 .ret) .skip))
 (.seq (.region true [⟨some 22, .fadr 2 (.tmp 2), none, [100]⟩,
  ⟨some 23, .load 1 false false (.tmp 22), none, [100]⟩,
  ⟨some 24, .iadr 3 (.tmp 23) (.const (.int .i64 0)), none, []⟩,
  ⟨some 25, .load 3 true false (.tmp 24), none, []⟩,
  ⟨some 26, .mv (.tmp 1), none, []⟩,
  ⟨some 27, .call 2100 0 [.tmp 25, .tmp 26], none, []⟩,
  ⟨some 28, .fadr 2 (.tmp 2), none, [100]⟩,
  ⟨some 29, .load 1 false false (.tmp 28), none, [100]⟩,
  ⟨some 30, .iadr 3 (.tmp 29) (.const (.int .i64 1)), none, []⟩,
  ⟨some 31, .load 3 true false (.tmp 30), none, []⟩,
  ⟨some 32, .mv (.tmp 1), none, []⟩,
  ⟨some 33, .bin .add (.tmp 32) (.const (.int .i64 1)), none, []⟩,
  ⟨some 34, .call 2100 0 [.tmp 31, .tmp 33], none, []⟩,
  ⟨some 35, .app 5 (.take 27) (.tmp 34), none, []⟩,
  ⟨some 5, .mv (.take 35), none, []⟩])
 (.seq (.region false [⟨some 36, .mv (.take 5), none, []⟩,
  ⟨some 37, .mv (.tmp 1), none, []⟩,
  ⟨some 38, .mv (.tmp 1), none, []⟩,
  ⟨some 39, .mv (.tmp 1), none, []⟩,
  ⟨some 40, .bin .add (.tmp 39) (.const (.int .i64 1)), none, []⟩,
  ⟨some 41, .fadr 0 (.tmp 2), none, []⟩,
  ⟨some 42, .load 1 false false (.tmp 41), none, []⟩,
  ⟨some 43, .build [.int .i64 0, .int .i64 0, .int .i64 0, .int .i64 0, .int .i64 0] [(0, 1, .const (.int .i64 3)), (1, 1, .tmp 37), (2, 1, .tmp 38), (3, 1, .tmp 40), (4, 1, .tmp 42)], none, []⟩,
  ⟨some 44, .buildS .full .quad [.tmp 43], none, []⟩,
  ⟨some 45, .app 5 (.take 36) (.tmp 44), none, []⟩,
  ⟨some 4, .mv (.take 45), none, []⟩])
 .ret))))) }
noncomputable def p2200 : ProcT := { kind := .fn, ins := [0, 1], bins := [], res := [.tmp 4, .tmp 5], code := (.seq (.region false [⟨some 2, .box 100 (.tmp 0), none, []⟩,
  ⟨some 4, .mv (.const (.sl (.own false) .quad [])), none, []⟩,
  ⟨some 5, .mv (.const (.bool false)), none, []⟩])
 (.seq (.seq (.region false [⟨some 6, .load 3 true false (.tmp 2), none, []⟩,
  ⟨some 7, .call 1900 0 [.tmp 6], none, []⟩,
  ⟨some 8, .un .not (.tmp 7), none, []⟩,
  ⟨some 9, .mv (.tmp 8), none, []⟩,
  ⟨some 10, .mv (.tmp 1), some (9, false), []⟩,
  ⟨some 11, .load 3 true false (.tmp 2), some (9, false), []⟩,
  ⟨some 12, .call 2000 0 [.tmp 11], some (9, false), []⟩,
  ⟨some 13, .bin .sub (.const (.int .i64 12)) (.tmp 12), some (9, false), []⟩,
  ⟨some 14, .call 1600 0 [.tmp 10, .const (.int .i64 4), .tmp 13], some (9, false), []⟩,
  ⟨some 15, .un .not (.tmp 14), some (9, false), []⟩,
  ⟨some 16, .pick (.tmp 9) (.const (.bool true)) (.tmp 15), none, []⟩])
 (.cond (.tmp 16) (.seq (.region false [⟨some 17, .buildS (.own false) .quad [], none, []⟩,
  ⟨some 4, .mv (.take 17), none, []⟩,
  ⟨some 5, .mv (.const (.bool false)), none, []⟩])
 .ret) .skip))
 (.seq (.region false [⟨some 18, .load 3 true false (.tmp 2), none, []⟩,
  ⟨some 19, .mv (.tmp 1), none, []⟩,
  ⟨some 20, .call 2100 0 [.tmp 18, .tmp 19], none, []⟩,
  ⟨some 4, .mv (.take 20), none, []⟩,
  ⟨some 5, .mv (.const (.bool true)), none, []⟩])
 .ret))) }
noncomputable def p2300 : ProcT := { kind := .fn, ins := [0, 1], bins := [], res := [.tmp 4], code := (.seq (.region false [⟨some 4, .mv (.const (.bool false)), none, []⟩])
 (.seq (.seq (.region false [⟨some 6, .mv (.tmp 0), none, []⟩,
  ⟨some 7, .len (.tmp 6), none, []⟩,
  ⟨some 8, .mv (.tmp 1), none, []⟩,
  ⟨some 9, .len (.tmp 8), none, []⟩,
  ⟨some 10, .bin .neq (.tmp 7) (.tmp 9), none, []⟩])
 (.cond (.tmp 10) (.seq (.region false [⟨some 4, .mv (.const (.bool false)), none, []⟩])
 .ret) .skip))
 (.seq (.seq (.region false [⟨some 5, .mv (.const (.int .i64 0)), none, []⟩])
 (.block 0 (.label 2301)))
 (.seq (.region false [⟨some 4, .mv (.const (.bool true)), none, []⟩])
 .ret)))) }
noncomputable def p2301 : ProcT := { kind := .loop, ins := [0, 1, 5], bins := [], outs := [4], bouts := [], code := (.seq (.seq (.region false [⟨some 11, .mv (.tmp 5), none, []⟩,
  ⟨some 12, .mv (.tmp 0), none, []⟩,
  ⟨some 13, .len (.tmp 12), none, []⟩,
  ⟨some 14, .bin .lss (.tmp 11) (.tmp 13), none, []⟩])
 (.cond (.tmp 14) .skip (.exit 0)))
 (.seq (.block 1 (.seq (.region true [⟨some 17, .mv (.tmp 0), none, []⟩,
  ⟨some 18, .mv (.tmp 5), none, []⟩,
  ⟨some 19, .iadr 5 (.tmp 17) (.tmp 18), none, []⟩,
  ⟨some 20, .load 5 true false (.tmp 19), none, []⟩,
  ⟨some 21, .mv (.tmp 1), none, []⟩,
  ⟨some 22, .mv (.tmp 5), none, []⟩,
  ⟨some 23, .iadr 5 (.tmp 21) (.tmp 22), none, []⟩,
  ⟨some 24, .load 5 true false (.tmp 23), none, []⟩,
  ⟨some 25, .eqs true 5 (.tmp 20) (.tmp 24), none, []⟩])
 (.cond (.tmp 25) (.seq (.region false [⟨some 4, .mv (.const (.bool false)), none, []⟩])
 .ret) .skip)))
 (.region false [⟨some 15, .mv (.tmp 5), none, []⟩,
  ⟨some 16, .bin .add (.tmp 15) (.const (.int .i64 1)), none, []⟩,
  ⟨some 5, .mv (.tmp 16), none, []⟩]))) }
noncomputable def p3100 : ProcT := { kind := .fn, ins := [0], bins := [], res := [.tmp 2], code := (.seq (.region false [⟨some 2, .mv (.const (.int .i64 0)), none, []⟩])
 (.seq (.seq (.region false [⟨some 3, .mv (.tmp 0), none, []⟩])
 (.cond (.tmp 3) (.seq (.region false [⟨some 2, .mv (.const (.int .i64 1)), none, []⟩])
 .ret) .skip))
 (.seq (.region false [⟨some 2, .mv (.const (.int .i64 0)), none, []⟩])
 .ret))) }
noncomputable def p3200 : ProcT := { kind := .fn, ins := [0], bins := [], res := [.tmp 2], code := (.seq (.region false [⟨some 2, .mv (.const (.int .i64 0)), none, []⟩])
 (.seq (.region false [⟨some 3, .mv (.tmp 0), none, []⟩,
  ⟨some 4, .conv (.int .i32) (.tmp 3), none, []⟩,
  ⟨some 5, .conv (.int .i64) (.tmp 4), none, []⟩,
  ⟨some 2, .mv (.tmp 5), none, []⟩])
 .ret)) }
noncomputable def p3300 : ProcT := { kind := .fn, ins := [0, 1, 2], bins := [], res := [.tmp 6], code := (.seq (.region false [⟨some 6, .mv (.const (.int .i64 0)), none, []⟩])
 (.seq (.seq (.region false [⟨some 7, .mv (.tmp 0), none, []⟩])
 (.block 0 (.seq (.region false [⟨some 9, .bin .eql (.tmp 7) (.const (.int .i64 1)), none, []⟩,
  ⟨some 8, .mv (.tmp 9), none, []⟩])
 (.cond (.tmp 8) (.seq (.region false [⟨some 10, .mv (.tmp 1), none, []⟩,
  ⟨some 11, .mv (.tmp 2), none, []⟩,
  ⟨some 12, .bin .or (.tmp 10) (.tmp 11), none, []⟩,
  ⟨some 6, .mv (.tmp 12), none, []⟩])
 .ret) (.seq (.region false [⟨some 14, .bin .eql (.tmp 7) (.const (.int .i64 2)), none, []⟩,
  ⟨some 13, .mv (.tmp 14), none, []⟩])
 (.cond (.tmp 13) (.seq (.region false [⟨some 15, .mv (.tmp 1), none, []⟩,
  ⟨some 16, .mv (.tmp 2), none, []⟩,
  ⟨some 17, .bin .xor (.tmp 15) (.tmp 16), none, []⟩,
  ⟨some 6, .mv (.tmp 17), none, []⟩])
 .ret) (.seq (.region false [⟨some 19, .bin .eql (.tmp 7) (.const (.int .i64 3)), none, []⟩,
  ⟨some 18, .mv (.tmp 19), none, []⟩])
 (.cond (.tmp 18) (.seq (.region false [⟨some 20, .mv (.tmp 1), none, []⟩,
  ⟨some 21, .mv (.tmp 2), none, []⟩,
  ⟨some 22, .bin .and (.tmp 20) (.tmp 21), none, []⟩,
  ⟨some 6, .mv (.tmp 22), none, []⟩])
 .ret) (.seq (.region false [⟨some 24, .bin .eql (.tmp 7) (.const (.int .i64 4)), none, []⟩,
  ⟨some 23, .mv (.tmp 24), none, []⟩])
 (.cond (.tmp 23) (.seq (.region false [⟨some 25, .mv (.tmp 1), none, []⟩,
  ⟨some 26, .mv (.tmp 2), none, []⟩,
  ⟨some 27, .bin .eql (.tmp 25) (.tmp 26), none, []⟩,
  ⟨some 28, .call 3100 0 [.tmp 27], none, []⟩,
  ⟨some 6, .mv (.tmp 28), none, []⟩])
 .ret) (.seq (.region false [⟨some 30, .bin .eql (.tmp 7) (.const (.int .i64 5)), none, []⟩,
  ⟨some 29, .mv (.tmp 30), none, []⟩])
 (.cond (.tmp 29) (.seq (.region false [⟨some 31, .mv (.tmp 1), none, []⟩,
  ⟨some 32, .mv (.tmp 2), none, []⟩,
  ⟨some 33, .bin .lss (.tmp 31) (.tmp 32), none, []⟩,
  ⟨some 34, .call 3100 0 [.tmp 33], none, []⟩,
  ⟨some 6, .mv (.tmp 34), none, []⟩])
 .ret) (.seq (.region false [⟨some 36, .bin .eql (.tmp 7) (.const (.int .i64 6)), none, []⟩,
  ⟨some 35, .mv (.tmp 36), none, []⟩])
 (.cond (.tmp 35) (.seq (.region false [⟨some 37, .mv (.tmp 1), none, []⟩,
  ⟨some 38, .mv (.tmp 2), none, []⟩,
  ⟨some 39, .bin .and (.tmp 38) (.const (.int .i64 31)), none, []⟩,
  ⟨some 40, .bin .shl (.tmp 37) (.tmp 39), none, []⟩,
  ⟨some 41, .call 3200 0 [.tmp 40], none, []⟩,
  ⟨some 6, .mv (.tmp 41), none, []⟩])
 .ret) (.seq (.region false [⟨some 43, .bin .eql (.tmp 7) (.const (.int .i64 7)), none, []⟩,
  ⟨some 42, .mv (.tmp 43), none, []⟩])
 (.cond (.tmp 42) (.seq (.region false [⟨some 44, .mv (.tmp 1), none, []⟩,
  ⟨some 45, .mv (.tmp 2), none, []⟩,
  ⟨some 46, .bin .and (.tmp 45) (.const (.int .i64 31)), none, []⟩,
  ⟨some 47, .bin .shr (.tmp 44) (.tmp 46), none, []⟩,
  ⟨some 6, .mv (.tmp 47), none, []⟩])
 .ret) (.seq (.region false [⟨some 49, .bin .eql (.tmp 7) (.const (.int .i64 8)), none, []⟩,
  ⟨some 48, .mv (.tmp 49), none, []⟩])
 (.cond (.tmp 48) (.seq (.region false [⟨some 50, .mv (.tmp 1), none, []⟩,
  ⟨some 51, .mv (.tmp 2), none, []⟩,
  ⟨some 52, .bin .add (.tmp 50) (.tmp 51), none, []⟩,
  ⟨some 53, .call 3200 0 [.tmp 52], none, []⟩,
  ⟨some 6, .mv (.tmp 53), none, []⟩])
 .ret) (.seq (.region false [⟨some 55, .bin .eql (.tmp 7) (.const (.int .i64 9)), none, []⟩,
  ⟨some 54, .mv (.tmp 55), none, []⟩])
 (.cond (.tmp 54) (.seq (.region false [⟨some 56, .mv (.tmp 1), none, []⟩,
  ⟨some 57, .mv (.tmp 2), none, []⟩,
  ⟨some 58, .bin .sub (.tmp 56) (.tmp 57), none, []⟩,
  ⟨some 59, .call 3200 0 [.tmp 58], none, []⟩,
  ⟨some 6, .mv (.tmp 59), none, []⟩])
 .ret) (.seq (.region false [⟨some 61, .bin .eql (.tmp 7) (.const (.int .i64 10)), none, []⟩,
  ⟨some 60, .mv (.tmp 61), none, []⟩])
 (.cond (.tmp 60) (.seq (.region false [⟨some 62, .mv (.tmp 1), none, []⟩,
  ⟨some 63, .mv (.tmp 2), none, []⟩,
  ⟨some 64, .bin .mul (.tmp 62) (.tmp 63), none, []⟩,
  ⟨some 65, .call 3200 0 [.tmp 64], none, []⟩,
  ⟨some 6, .mv (.tmp 65), none, []⟩])
 .ret) (.seq (.region false [⟨some 67, .bin .eql (.tmp 7) (.const (.int .i64 11)), none, []⟩,
  ⟨some 66, .mv (.tmp 67), none, []⟩])
 (.cond (.tmp 66) (.seq (.seq (.region false [⟨some 68, .mv (.tmp 2), none, []⟩,
  ⟨some 69, .bin .eql (.tmp 68) (.const (.int .i64 0)), none, []⟩])
 (.cond (.tmp 69) (.seq (.region false [⟨some 6, .mv (.const (.int .i64 (-1))), none, []⟩])
 .ret) .skip))
 (.seq (.region false [⟨some 70, .mv (.tmp 1), none, []⟩,
  ⟨some 71, .mv (.tmp 2), none, []⟩,
  ⟨some 72, .bin .quo (.tmp 70) (.tmp 71), none, []⟩,
  ⟨some 73, .call 3200 0 [.tmp 72], none, []⟩,
  ⟨some 6, .mv (.tmp 73), none, []⟩])
 .ret)) .skip))))))))))))))))))))))))
 (.seq (.seq (.region false [⟨some 74, .mv (.tmp 2), none, []⟩,
  ⟨some 75, .bin .eql (.tmp 74) (.const (.int .i64 0)), none, []⟩])
 (.cond (.tmp 75) (.seq (.region false [⟨some 76, .mv (.tmp 1), none, []⟩,
  ⟨some 6, .mv (.tmp 76), none, []⟩])
 .ret) .skip))
 (.seq (.region false [⟨some 77, .mv (.tmp 1), none, []⟩,
  ⟨some 78, .mv (.tmp 2), none, []⟩,
  ⟨some 79, .bin .rem (.tmp 77) (.tmp 78), none, []⟩,
  ⟨some 6, .mv (.tmp 79), none, []⟩])
 .ret)))) }
noncomputable def p3400 : ProcT := { kind := .fn, ins := [0], bins := [], res := [.cell 2 3 true], code := (.seq (.region false [⟨some 1, .box 100 (.tmp 0), none, []⟩,
  ⟨some 2, .alloc 101 [.int .i64 0, .int .i64 0, .sl (.own false) .exp []], none, []⟩])
 (.seq (.seq (.region false [⟨some 6, .fadr 2 (.tmp 1), none, []⟩,
  ⟨some 7, .load 1 false false (.tmp 6), none, []⟩,
  ⟨some 8, .len (.tmp 7), none, []⟩,
  ⟨some 9, .bin .eql (.tmp 8) (.const (.int .i64 0)), none, []⟩])
 (.cond (.tmp 9) (.seq (.region false [⟨some 10, .fadr 0 (.tmp 1), none, []⟩,
  ⟨some 11, .load 1 false false (.tmp 10), none, []⟩,
  ⟨some 12, .fadr 1 (.tmp 1), none, []⟩,
  ⟨some 13, .load 1 false false (.tmp 12), none, []⟩,
  ⟨some 14, .build [.int .i64 0, .int .i64 0, .sl (.own false) .exp []] [(0, 1, .tmp 11), (1, 1, .tmp 13)], none, []⟩,
  ⟨none, .store 3 (.tmp 2) (.tmp 14), none, []⟩])
 .ret) .skip))
 (.seq (.region true [⟨some 15, .fadr 2 (.tmp 1), none, [100]⟩,
  ⟨some 16, .load 1 false false (.tmp 15), none, [100]⟩,
  ⟨some 17, .iadr 3 (.tmp 16) (.const (.int .i64 0)), none, []⟩,
  ⟨some 18, .load 3 true false (.tmp 17), none, []⟩,
  ⟨some 19, .call 3400 0 [.tmp 18], none, []⟩,
  ⟨some 20, .fadr 2 (.tmp 1), none, [100]⟩,
  ⟨some 21, .load 1 false false (.tmp 20), none, [100]⟩,
  ⟨some 22, .iadr 3 (.tmp 21) (.const (.int .i64 1)), none, []⟩,
  ⟨some 23, .load 3 true false (.tmp 22), none, []⟩,
  ⟨some 24, .call 3400 0 [.tmp 23], none, []⟩,
  ⟨some 3, .alloc 102 [.int .i64 0, .int .i64 0, .sl (.own false) .exp []], none, [102]⟩,
  ⟨some 4, .alloc 103 [.int .i64 0, .int .i64 0, .sl (.own false) .exp []], none, [103]⟩,
  ⟨none, .store 3 (.tmp 3) (.tmp 19), none, [102]⟩,
  ⟨none, .store 3 (.tmp 4) (.tmp 24), none, [103]⟩])
 (.seq (.seq (.region false [⟨some 25, .fadr 0 (.tmp 3), none, []⟩,
  ⟨some 26, .load 1 false false (.tmp 25), none, []⟩,
  ⟨some 27, .bin .eql (.tmp 26) (.const (.int .i64 0)), none, []⟩,
  ⟨some 28, .mv (.tmp 27), none, []⟩,
  ⟨some 29, .fadr 0 (.tmp 4), some (28, true), []⟩,
  ⟨some 30, .load 1 false false (.tmp 29), some (28, true), []⟩,
  ⟨some 31, .bin .eql (.tmp 30) (.const (.int .i64 0)), some (28, true), []⟩,
  ⟨some 32, .pick (.tmp 28) (.tmp 31) (.const (.bool false)), none, []⟩])
 (.cond (.tmp 32) (.seq (.region false [⟨some 33, .fadr 0 (.tmp 1), none, []⟩,
  ⟨some 34, .load 1 false false (.tmp 33), none, []⟩,
  ⟨some 35, .fadr 1 (.tmp 3), none, []⟩,
  ⟨some 36, .load 1 false false (.tmp 35), none, []⟩,
  ⟨some 37, .fadr 1 (.tmp 4), none, []⟩,
  ⟨some 38, .load 1 false false (.tmp 37), none, []⟩,
  ⟨some 39, .call 3300 0 [.tmp 34, .tmp 36, .tmp 38], none, []⟩,
  ⟨some 5, .mv (.tmp 39), none, []⟩])
 (.seq (.region false [⟨some 40, .mv (.tmp 5), none, []⟩,
  ⟨some 41, .bin .geq (.tmp 40) (.const (.int .i64 0)), none, []⟩,
  ⟨some 42, .mv (.tmp 41), none, []⟩,
  ⟨some 43, .mv (.tmp 5), some (42, true), []⟩,
  ⟨some 44, .bin .leq (.tmp 43) (.const (.int .i64 99999)), some (42, true), []⟩,
  ⟨some 45, .pick (.tmp 42) (.tmp 44) (.const (.bool false)), none, []⟩])
 (.cond (.tmp 45) (.seq (.region false [⟨some 46, .mv (.tmp 5), none, []⟩,
  ⟨some 47, .build [.int .i64 0, .int .i64 0, .sl (.own false) .exp []] [(0, 1, .const (.int .i64 0)), (1, 1, .tmp 46)], none, []⟩,
  ⟨none, .store 3 (.tmp 2) (.tmp 47), none, []⟩])
 .ret) .skip))) .skip))
 (.seq (.region false [⟨some 48, .fadr 0 (.tmp 1), none, []⟩,
  ⟨some 49, .load 1 false false (.tmp 48), none, []⟩,
  ⟨some 50, .load 3 true false (.tmp 3), none, []⟩,
  ⟨some 51, .load 3 true false (.tmp 4), none, []⟩,
  ⟨some 52, .buildS .full .exp [.tmp 50, .tmp 51], none, []⟩,
  ⟨some 53, .build [.int .i64 0, .int .i64 0, .sl (.own false) .exp []] [(0, 1, .tmp 49), (2, 1, .tmp 52)], none, []⟩,
  ⟨none, .store 3 (.tmp 2) (.tmp 53), none, []⟩])
 .ret))))) }
noncomputable def p3500 : ProcT := { kind := .fn, ins := [0], bins := [], res := [.cell 2 3 true, .tmp 3], code := (.seq (.region false [⟨some 1, .box 100 (.tmp 0), none, []⟩,
  ⟨some 2, .alloc 101 [.int .i64 0, .int .i64 0, .sl (.own false) .exp []], none, []⟩,
  ⟨some 3, .mv (.const (.bool false)), none, []⟩])
 (.seq (.seq (.region false [⟨some 4, .load 3 true false (.tmp 1), none, []⟩,
  ⟨some 5, .call 1200 0 [.tmp 4], none, []⟩,
  ⟨some 6, .un .not (.tmp 5), none, []⟩])
 (.cond (.tmp 6) (.seq (.region false [⟨some 7, .build [.int .i64 0, .int .i64 0, .sl (.own false) .exp []] [], none, []⟩,
  ⟨none, .store 3 (.tmp 2) (.tmp 7), none, []⟩,
  ⟨some 3, .mv (.const (.bool false)), none, []⟩])
 .ret) .skip))
 (.seq (.region false [⟨some 8, .load 3 true false (.tmp 1), none, []⟩,
  ⟨some 9, .call 3400 0 [.tmp 8], none, []⟩,
  ⟨none, .store 3 (.tmp 2) (.tmp 9), none, []⟩,
  ⟨some 3, .mv (.const (.bool true)), none, []⟩])
 .ret))) }
noncomputable def p3600 : ProcT := { kind := .fn, ins := [0], bins := [], res := [.tmp 2], code := (.seq (.region false [⟨some 2, .mv (.const (.bool false)), none, []⟩])
 (.seq (.seq (.region false [⟨some 13, .mv (.tmp 0), none, []⟩,
  ⟨some 14, .len (.tmp 13), none, []⟩,
  ⟨some 15, .bin .gtr (.tmp 14) (.const (.int .i64 1048576)), none, []⟩])
 (.cond (.tmp 15) (.seq (.region false [⟨some 2, .mv (.const (.bool true)), none, []⟩])
 .ret) .skip))
 (.seq (.region false [⟨some 17, .mv (.tmp 0), none, []⟩,
  ⟨some 18, .call 900 0 [.tmp 17], none, []⟩,
  ⟨some 16, .mv (.tmp 18), none, []⟩,
  ⟨some 19, .ext 0 (.tmp 16), none, []⟩,
  ⟨some 20, .ext 1 (.tmp 16), none, []⟩,
  ⟨some 3, .alloc 100 [.int .i64 0, .int .i64 0, .sl (.own false) .exp []], none, []⟩,
  ⟨none, .store 3 (.tmp 3) (.tmp 19), none, []⟩,
  ⟨some 4, .mv (.tmp 20), none, []⟩])
 (.seq (.region false [⟨some 22, .load 3 true false (.tmp 3), none, []⟩,
  ⟨some 23, .mv (.tmp 4), none, []⟩,
  ⟨some 24, .call 1500 0 [.tmp 22, .tmp 23], none, []⟩,
  ⟨some 21, .mv (.tmp 24), none, []⟩,
  ⟨some 25, .ext 0 (.tmp 21), none, []⟩,
  ⟨some 26, .ext 1 (.tmp 21), none, []⟩,
  ⟨some 5, .mv (.take 25), none, []⟩,
  ⟨some 6, .mv (.tmp 26), none, []⟩])
 (.seq (.region false [⟨some 28, .load 3 true false (.tmp 3), none, []⟩,
  ⟨some 29, .mv (.tmp 4), none, []⟩,
  ⟨some 30, .call 2200 0 [.tmp 28, .tmp 29], none, []⟩,
  ⟨some 27, .mv (.tmp 30), none, []⟩,
  ⟨some 31, .ext 0 (.tmp 27), none, []⟩,
  ⟨some 32, .ext 1 (.tmp 27), none, []⟩,
  ⟨some 7, .mv (.take 31), none, []⟩,
  ⟨some 8, .mv (.tmp 32), none, []⟩])
 (.seq (.seq (.region false [⟨some 33, .mv (.tmp 6), none, []⟩,
  ⟨some 34, .mv (.tmp 8), none, []⟩,
  ⟨some 35, .eqb true (.tmp 33) (.tmp 34), none, []⟩,
  ⟨some 36, .mv (.tmp 35), none, []⟩,
  ⟨some 37, .mv (.tmp 5), some (36, false), []⟩,
  ⟨some 38, .mv (.tmp 7), some (36, false), []⟩,
  ⟨some 39, .call 2300 0 [.tmp 37, .tmp 38], some (36, false), []⟩,
  ⟨some 40, .un .not (.tmp 39), some (36, false), []⟩,
  ⟨some 41, .pick (.tmp 36) (.const (.bool true)) (.tmp 40), none, []⟩,
  ⟨some 42, .mv (.tmp 41), none, []⟩,
  ⟨some 43, .mv (.tmp 6), some (42, false), []⟩,
  ⟨some 44, .un .not (.tmp 43), some (42, false), []⟩,
  ⟨some 45, .pick (.tmp 42) (.const (.bool true)) (.tmp 44), none, []⟩])
 (.cond (.tmp 45) (.seq (.region false [⟨some 46, .mv (.tmp 6), none, []⟩,
  ⟨some 47, .mv (.tmp 8), none, []⟩,
  ⟨some 48, .eqb false (.tmp 46) (.tmp 47), none, []⟩,
  ⟨some 49, .mv (.tmp 48), none, []⟩,
  ⟨some 50, .mv (.tmp 5), some (49, true), []⟩,
  ⟨some 51, .mv (.tmp 7), some (49, true), []⟩,
  ⟨some 52, .call 2300 0 [.tmp 50, .tmp 51], some (49, true), []⟩,
  ⟨some 53, .pick (.tmp 49) (.tmp 52) (.const (.bool false)), none, []⟩,
  ⟨some 2, .mv (.tmp 53), none, []⟩])
 .ret) .skip))
 (.seq (.region false [⟨some 55, .load 3 true false (.tmp 3), none, []⟩,
  ⟨some 56, .call 3500 0 [.tmp 55], none, []⟩,
  ⟨some 54, .mv (.tmp 56), none, []⟩,
  ⟨some 57, .ext 0 (.tmp 54), none, []⟩,
  ⟨some 58, .ext 1 (.tmp 54), none, []⟩,
  ⟨some 9, .alloc 101 [.int .i64 0, .int .i64 0, .sl (.own false) .exp []], none, []⟩,
  ⟨none, .store 3 (.tmp 9) (.tmp 57), none, []⟩,
  ⟨some 10, .mv (.tmp 58), none, []⟩])
 (.seq (.region false [⟨some 60, .load 3 true false (.tmp 9), none, []⟩,
  ⟨some 61, .mv (.tmp 4), none, []⟩,
  ⟨some 62, .call 1500 0 [.tmp 60, .tmp 61], none, []⟩,
  ⟨some 59, .mv (.tmp 62), none, []⟩,
  ⟨some 63, .ext 0 (.tmp 59), none, []⟩,
  ⟨some 64, .ext 1 (.tmp 59), none, []⟩,
  ⟨some 11, .mv (.take 63), none, []⟩,
  ⟨some 12, .mv (.tmp 64), none, []⟩])
 (.seq (.region false [⟨some 65, .mv (.tmp 10), none, []⟩,
  ⟨some 66, .mv (.tmp 65), none, []⟩,
  ⟨some 67, .mv (.tmp 12), some (66, true), []⟩,
  ⟨some 68, .pick (.tmp 66) (.tmp 67) (.const (.bool false)), none, []⟩,
  ⟨some 69, .mv (.tmp 68), none, []⟩,
  ⟨some 70, .mv (.tmp 11), some (69, true), []⟩,
  ⟨some 71, .len (.tmp 70), some (69, true), []⟩,
  ⟨some 72, .mv (.tmp 5), some (69, true), []⟩,
  ⟨some 73, .len (.tmp 72), some (69, true), []⟩,
  ⟨some 74, .bin .leq (.tmp 71) (.tmp 73), some (69, true), []⟩,
  ⟨some 75, .pick (.tmp 69) (.tmp 74) (.const (.bool false)), none, []⟩,
  ⟨some 2, .mv (.tmp 75), none, []⟩])
 .ret))))))))) }
noncomputable def tab : List (Nat × ProcT) := [(100, p100), (200, p200), (300, p300), (400, p400), (500, p500), (600, p600), (700, p700), (800, p800), (900, p900), (1000, p1000), (1100, p1100), (1200, p1200), (1300, p1300), (1301, p1301), (1400, p1400), (1500, p1500), (1600, p1600), (1700, p1700), (1800, p1800), (1900, p1900), (2000, p2000), (2100, p2100), (2200, p2200), (2300, p2300), (2301, p2301), (3100, p3100), (3200, p3200), (3300, p3300), (3400, p3400), (3500, p3500), (3600, p3600)]
noncomputable abbrev Tb : Nat → Option ProcT := (Vs.look · tab)
@[reducible] def s100 : Sig := [⟨.ret, [.np 2], [], [.h (.sl .u8), .h (.int .i64)]⟩]
@[reducible] def s200 : Sig := [⟨.ret, [.one], [.var 2], [.h (.int .i64), .h (.sl .u8), .h (.int .i64)]⟩]
@[reducible] def s300 : Sig := [⟨.ret, [.agg 3], [], [.h (.int .i64), .h (.int .i64), .h (.slm .exp)]⟩]
@[reducible] def s400 : Sig := [⟨.ret, [.agg 3], [.var 2], [.h (.int .i64), .h (.int .i64), .h (.slm .exp), .h (.sl .u8), .h (.int .i64)]⟩]
@[reducible] def s500 : Sig := [⟨.ret, [.agg 3], [], [.h (.int .i64), .h (.int .i64), .h (.slm .exp)]⟩]
@[reducible] def s600 : Sig := [⟨.ret, [.one], [.var 2], [.h (.int .i64), .h (.sl .u8), .h (.int .i64)]⟩]
@[reducible] def s700 : Sig := [⟨.ret, [.agg 3], [.var 2], [.h (.int .i64), .h (.int .i64), .h (.slm .exp), .h (.sl .u8), .h (.int .i64)]⟩]
@[reducible] def s800 : Sig := [⟨.ret, [.one], [.var 2], [.h (.agg .exp), .h (.sl .u8), .h (.int .i64)]⟩]
@[reducible] def s900 : Sig := [⟨.ret, [.tup 2], [], [.h (.agg .exp), .h (.int .i64)]⟩]
@[reducible] def s1000 : Sig := [⟨.ret, [.one], [], [.h (.bool)]⟩]
@[reducible] def s1100 : Sig := [⟨.ret, [.one], [], [.h (.bool)]⟩]
@[reducible] def s1200 : Sig := [⟨.ret, [.one], [], [.h (.bool)]⟩]
@[reducible] def s1300 : Sig := [⟨.ret, [.one], [], [.h (.int .i64)]⟩]
@[reducible] def s1301 : Sig := [⟨.exit 0, [.one, .one], [], [.undef, .h (.int .i64)]⟩]
@[reducible] def s1400 : Sig := [⟨.ret, [.one], [], [.h (.own .quad)]⟩]
@[reducible] def s1500 : Sig := [⟨.ret, [.tup 2], [], [.h (.sl .quad), .h (.bool)]⟩]
@[reducible] def s1600 : Sig := [⟨.ret, [.one], [], [.h (.bool)]⟩]
@[reducible] def s1700 : Sig := [⟨.ret, [.one], [], [.h (.bool)]⟩]
@[reducible] def s1800 : Sig := [⟨.ret, [.one], [], [.h (.bool)]⟩]
@[reducible] def s1900 : Sig := [⟨.ret, [.one], [], [.h (.bool)]⟩]
@[reducible] def s2000 : Sig := [⟨.ret, [.one], [], [.h (.int .i64)]⟩]
@[reducible] def s2100 : Sig := [⟨.ret, [.one], [], [.h (.own .quad)]⟩]
@[reducible] def s2200 : Sig := [⟨.ret, [.tup 2], [], [.h (.sl .quad), .h (.bool)]⟩]
@[reducible] def s2300 : Sig := [⟨.ret, [.one], [], [.h (.bool)]⟩]
@[reducible] def s2301 : Sig := [⟨.exit 0, [.one], [], [.undef]⟩, ⟨.ret, [.one], [], [.h (.bool)]⟩]
@[reducible] def s3100 : Sig := [⟨.ret, [.one], [], [.h (.int .i64)]⟩]
@[reducible] def s3200 : Sig := [⟨.ret, [.one], [], [.h (.int .i64)]⟩]
@[reducible] def s3300 : Sig := [⟨.ret, [.one], [], [.h (.int .i64)]⟩]
@[reducible] def s3400 : Sig := [⟨.ret, [.one], [], [.h (.agg .exp)]⟩]
@[reducible] def s3500 : Sig := [⟨.ret, [.tup 2], [], [.h (.agg .exp), .h (.bool)]⟩]
@[reducible] def s3600 : Sig := [⟨.ret, [.one], [], [.h (.bool)]⟩]
def sgs : List (Nat × Sig) := [(100, s100), (200, s200), (300, s300), (400, s400), (500, s500), (600, s600), (700, s700), (800, s800), (900, s900), (1000, s1000), (1100, s1100), (1200, s1200), (1300, s1300), (1301, s1301), (1400, s1400), (1500, s1500), (1600, s1600), (1700, s1700), (1800, s1800), (1900, s1900), (2000, s2000), (2100, s2100), (2200, s2200), (2300, s2300), (2301, s2301), (3100, s3100), (3200, s3200), (3300, s3300), (3400, s3400), (3500, s3500), (3600, s3600)]
def sg (g : Nat) : Sig := (Vs.look g sgs).getD []
def GT (i : Nat) : List TV := []
noncomputable def laws_FnCompileExprFold (a0 : List Int) : Option (Bool) := callTy Tb GT s3600 3600 [.sl .share .u8 a0] []
noncomputable def spec_DrawCompileExpr (a0 : List Int) : Option (Exp × Int) := callTy Tb GT s900 900 [.sl .share .u8 a0] []
noncomputable def impl_CompileExpr (a0 : Exp) (a1 : Int) : Option (List Quad × Bool) := callTy Tb GT s1500 1500 [.agg (rowT .exp a0), .int .i64 a1] []
noncomputable def spec_CompileExpr (a0 : Exp) (a1 : Int) : Option (List Quad × Bool) := callTy Tb GT s2200 2200 [.agg (rowT .exp a0), .int .i64 a1] []
noncomputable def laws_sameCode (a0 : List Quad) (a1 : List Quad) : Option (Bool) := callTy Tb GT s2300 2300 [.sl .share .quad a0, .sl .share .quad a1] []
noncomputable def impl_ExprFold (a0 : Exp) : Option (Exp × Bool) := callTy Tb GT s3500 3500 [.agg (rowT .exp a0)] []
noncomputable def spec_l6Open (a0 : List Int) : Option (List Int × Int) := callTy Tb GT s100 100 [.sl .share .u8 a0] []
noncomputable def spec_l91Spoilt (a0b : List Int) (a0p : Int) : Option (Exp × List Int × Int) := callTy Tb GT s800 800 [.bp 0 0] [.var [.sl .share .u8 a0b, .int .i64 a0p]]
noncomputable def spec_l6Rd_pick (a1 : Int) (a0b : List Int) (a0p : Int) : Option (Int × List Int × Int) := callTy Tb GT s200 200 [.bp 0 0, .int .i64 a1] [.var [.sl .share .u8 a0b, .int .i64 a0p]]
noncomputable def impl_ExprValid (a0 : Exp) : Option (Bool) := callTy Tb GT s1200 1200 [.agg (rowT .exp a0)] []
noncomputable def impl_exprDepth (a0 : Exp) : Option (Int) := callTy Tb GT s1300 1300 [.agg (rowT .exp a0)] []
noncomputable def impl_compileExpr (a0 : Exp) (a1 : Int) (a2 : List Quad) : Option (List Quad) := callTy Tb GT s1400 1400 [.agg (rowT .exp a0), .int .i64 a1, .sl (.own true) .quad a2] []
noncomputable def spec_ExprValid (a0 : Exp) : Option (Bool) := callTy Tb GT s1900 1900 [.agg (rowT .exp a0)] []
noncomputable def spec_l4Depth (a0 : Exp) : Option (Int) := callTy Tb GT s2000 2000 [.agg (rowT .exp a0)] []
noncomputable def spec_l6In (a0 : Int) (a1 : Int) (a2 : Int) : Option (Bool) := callTy Tb GT s1600 1600 [.int .i64 a0, .int .i64 a1, .int .i64 a2] []
noncomputable def spec_l22Expr (a0 : Exp) (a1 : Int) : Option (List Quad) := callTy Tb GT s2100 2100 [.agg (rowT .exp a0), .int .i64 a1] []
noncomputable def laws_sameCode_l1 (t0 : List Quad) (t1 : List Quad) (t5 : Int) : Option (Unit ⊕ Bool) := callTy Tb GT s2301 2301 [.sl .share .quad t0, .sl .share .quad t1, .int .i64 t5] []
noncomputable def impl_exprFold (a0 : Exp) : Option (Exp) := callTy Tb GT s3400 3400 [.agg (rowT .exp a0)] []
noncomputable def spec_l91Expr (a1 : Int) (a0b : List Int) (a0p : Int) : Option (Int × Int × (Md × List Exp) × List Int × Int) := callTy Tb GT s700 700 [.bp 0 0, .int .i64 a1] [.var [.sl .share .u8 a0b, .int .i64 a0p]]
noncomputable def spec_l91Leaf (a0b : List Int) (a0p : Int) : Option (Int × Int × (Md × List Exp) × List Int × Int) := callTy Tb GT s400 400 [.bp 0 0] [.var [.sl .share .u8 a0b, .int .i64 a0p]]
noncomputable def spec_l4Both (a0 : Int) (a1 : Exp) (a2 : Exp) : Option (Int × Int × (Md × List Exp)) := callTy Tb GT s500 500 [.int .i64 a0, .agg (rowT .exp a1), .agg (rowT .exp a2)] []
noncomputable def spec_l91Op (a0b : List Int) (a0p : Int) : Option (Int × List Int × Int) := callTy Tb GT s600 600 [.bp 0 0] [.var [.sl .share .u8 a0b, .int .i64 a0p]]
noncomputable def spec_l4Leaf (a0 : Int) (a1 : Int) : Option (Int × Int × (Md × List Exp)) := callTy Tb GT s300 300 [.int .i64 a0, .int .i64 a1] []
noncomputable def impl_exprValid (a0 : Exp) (a1 : Int) : Option (Bool) := callTy Tb GT s1100 1100 [.agg (rowT .exp a0), .int .i64 a1] []
noncomputable def impl_exprDepth_l1 (t3 : Int) (t7 : List Exp) (t8 : Int) (t9 : Int) : Option (Int) := callTy Tb GT s1301 1301 [.int .i64 t3, .sl .share .exp t7, .int .i64 t8, .int .i64 t9] []
noncomputable def spec_l4Ok (a0 : Exp) (a1 : Int) : Option (Bool) := callTy Tb GT s1800 1800 [.agg (rowT .exp a0), .int .i64 a1] []
noncomputable def impl_apply (a0 : Int) (a1 : Int) (a2 : Int) : Option (Int) := callTy Tb GT s3300 3300 [.int .i64 a0, .int .i64 a1, .int .i64 a2] []
noncomputable def impl_OpValid (a0 : Int) : Option (Bool) := callTy Tb GT s1000 1000 [.int .i64 a0] []
noncomputable def spec_OpValid (a0 : Int) : Option (Bool) := callTy Tb GT s1700 1700 [.int .i64 a0] []
noncomputable def impl_truth (a0 : Bool) : Option (Int) := callTy Tb GT s3100 3100 [.bool a0] []
noncomputable def impl_Wrap (a0 : Int) : Option (Int) := callTy Tb GT s3200 3200 [.int .i64 a0] []
end Go.TFnCompileExprFold
