import Derived.Test.YtpkgdoapdijmeaaLkA

set_option linter.unusedVariables false
namespace Go.TFnWorldNew
open Go Go.RowKit Go.Vs Go.Tv

noncomputable def p100 : ProcT := { kind := .fn, ins := [0], bins := [], res := [.tmp 2], code := (.seq (.region false [⟨some 2, .mv (.const (.con .nilp)), none, []⟩])
 (.seq (.seq (.region false [⟨some 3, .mv (.tmp 0), none, []⟩,
  ⟨some 4, .len (.tmp 3), none, []⟩,
  ⟨some 5, .bin .gtr (.tmp 4) (.const (.int .i64 2000)), none, []⟩])
 (.cond (.tmp 5) (.region false [⟨some 6, .mv (.tmp 0), none, []⟩,
  ⟨some 7, .slc 1 (.tmp 6) none (some (.const (.int .i64 2000))) none, none, []⟩,
  ⟨some 0, .mv (.take 7), none, []⟩]) .skip))
 (.seq (.region false [⟨some 8, .mv (.tmp 0), none, []⟩,
  ⟨some 9, .build [.sl (.own false) .u8 [], .int .i64 0] [(0, 1, .tmp 8)], none, []⟩,
  ⟨some 10, .box 100 (.tmp 9), none, []⟩,
  ⟨some 2, .mv (.tmp 10), none, []⟩])
 .ret))) }
noncomputable def p200 : ProcT := { kind := .fn, ins := [0, 1], bins := [0], res := [.tmp 4], code := (.seq (.region false [⟨some 4, .mv (.const (.int .i64 0)), none, []⟩])
 (.seq (.region false [⟨some 7, .mv (.tmp 0), none, []⟩,
  ⟨some 8, .mv (.tmp 0), none, []⟩,
  ⟨some 9, .nilck (.tmp 8), none, []⟩,
  ⟨some 10, .fadr 1 (.tmp 9), none, []⟩,
  ⟨some 11, .load 1 false false (.tmp 10), none, []⟩,
  ⟨some 12, .bin .add (.tmp 11) (.const (.int .i64 1)), none, []⟩,
  ⟨some 13, .nilck (.tmp 7), none, []⟩,
  ⟨some 14, .fadr 1 (.tmp 13), none, []⟩,
  ⟨none, .store 1 (.tmp 14) (.tmp 12), none, []⟩])
 (.seq (.seq (.region false [⟨some 15, .mv (.tmp 1), none, []⟩,
  ⟨some 16, .bin .lss (.tmp 15) (.const (.int .i64 1)), none, []⟩,
  ⟨some 17, .mv (.tmp 16), none, []⟩,
  ⟨some 18, .mv (.tmp 0), some (17, false), []⟩,
  ⟨some 19, .nilck (.tmp 18), some (17, false), []⟩,
  ⟨some 20, .fadr 0 (.tmp 19), some (17, false), []⟩,
  ⟨some 21, .load 1 false false (.tmp 20), some (17, false), []⟩,
  ⟨some 22, .len (.tmp 21), some (17, false), []⟩,
  ⟨some 23, .bin .eql (.tmp 22) (.const (.int .i64 0)), some (17, false), []⟩,
  ⟨some 24, .pick (.tmp 17) (.const (.bool true)) (.tmp 23), none, []⟩])
 (.cond (.tmp 24) (.seq (.region false [⟨some 4, .mv (.const (.int .i64 0)), none, []⟩])
 .ret) .skip))
 (.seq (.region false [⟨some 25, .mv (.tmp 0), none, []⟩,
  ⟨some 26, .nilck (.tmp 25), none, []⟩,
  ⟨some 27, .fadr 1 (.tmp 26), none, []⟩,
  ⟨some 28, .load 1 false false (.tmp 27), none, []⟩,
  ⟨some 29, .bin .sub (.tmp 28) (.const (.int .i64 1)), none, []⟩,
  ⟨some 5, .mv (.tmp 29), none, []⟩])
 (.seq (.seq (.region false [⟨some 30, .mv (.tmp 5), none, []⟩,
  ⟨some 31, .mv (.tmp 0), none, []⟩,
  ⟨some 32, .nilck (.tmp 31), none, []⟩,
  ⟨some 33, .fadr 0 (.tmp 32), none, []⟩,
  ⟨some 34, .load 1 false false (.tmp 33), none, []⟩,
  ⟨some 35, .len (.tmp 34), none, []⟩,
  ⟨some 36, .bin .lss (.tmp 30) (.tmp 35), none, []⟩])
 (.cond (.tmp 36) (.seq (.region false [⟨some 37, .mv (.tmp 0), none, []⟩,
  ⟨some 38, .nilck (.tmp 37), none, []⟩,
  ⟨some 39, .fadr 0 (.tmp 38), none, []⟩,
  ⟨some 40, .load 1 false false (.tmp 39), none, []⟩,
  ⟨some 41, .mv (.tmp 5), none, []⟩,
  ⟨some 42, .iadr 1 (.tmp 40) (.tmp 41), none, []⟩,
  ⟨some 43, .load 1 false false (.tmp 42), none, []⟩,
  ⟨some 44, .conv (.int .i64) (.tmp 43), none, []⟩,
  ⟨some 45, .mv (.tmp 1), none, []⟩,
  ⟨some 46, .bin .rem (.tmp 44) (.tmp 45), none, []⟩,
  ⟨some 4, .mv (.tmp 46), none, []⟩])
 .ret) .skip))
 (.seq (.region true [⟨some 47, .mv (.tmp 0), none, []⟩,
  ⟨some 48, .nilck (.tmp 47), none, [0]⟩,
  ⟨some 49, .fadr 0 (.tmp 48), none, [0]⟩,
  ⟨some 50, .load 1 false false (.tmp 49), none, [0]⟩,
  ⟨some 51, .mv (.tmp 5), none, []⟩,
  ⟨some 52, .mv (.tmp 0), none, []⟩,
  ⟨some 53, .nilck (.tmp 52), none, [0]⟩,
  ⟨some 54, .fadr 0 (.tmp 53), none, [0]⟩,
  ⟨some 55, .load 1 false false (.tmp 54), none, [0]⟩,
  ⟨some 56, .len (.tmp 55), none, []⟩,
  ⟨some 57, .bin .rem (.tmp 51) (.tmp 56), none, []⟩,
  ⟨some 58, .iadr 1 (.tmp 50) (.tmp 57), none, []⟩,
  ⟨some 59, .load 1 false false (.tmp 58), none, []⟩,
  ⟨some 60, .conv (.int .i64) (.tmp 59), none, []⟩,
  ⟨some 61, .bin .mul (.tmp 60) (.const (.int .i64 131)), none, []⟩,
  ⟨some 62, .mv (.tmp 0), none, []⟩,
  ⟨some 63, .nilck (.tmp 62), none, [0]⟩,
  ⟨some 64, .fadr 0 (.tmp 63), none, [0]⟩,
  ⟨some 65, .load 1 false false (.tmp 64), none, [0]⟩,
  ⟨some 66, .mv (.tmp 5), none, []⟩,
  ⟨some 67, .bin .mul (.tmp 66) (.const (.int .i64 7)), none, []⟩,
  ⟨some 68, .bin .add (.tmp 67) (.const (.int .i64 3)), none, []⟩,
  ⟨some 69, .mv (.tmp 0), none, []⟩,
  ⟨some 70, .nilck (.tmp 69), none, [0]⟩,
  ⟨some 71, .fadr 0 (.tmp 70), none, [0]⟩,
  ⟨some 72, .load 1 false false (.tmp 71), none, [0]⟩,
  ⟨some 73, .len (.tmp 72), none, []⟩,
  ⟨some 74, .bin .rem (.tmp 68) (.tmp 73), none, []⟩,
  ⟨some 75, .iadr 1 (.tmp 65) (.tmp 74), none, []⟩,
  ⟨some 76, .load 1 false false (.tmp 75), none, []⟩,
  ⟨some 77, .conv (.int .i64) (.tmp 76), none, []⟩,
  ⟨some 78, .bin .mul (.tmp 77) (.const (.int .i64 1117)), none, []⟩,
  ⟨some 79, .bin .add (.tmp 61) (.tmp 78), none, []⟩,
  ⟨some 80, .mv (.tmp 5), none, []⟩,
  ⟨some 81, .bin .mul (.tmp 80) (.const (.int .i64 29)), none, []⟩,
  ⟨some 82, .bin .add (.tmp 79) (.tmp 81), none, []⟩,
  ⟨some 83, .mv (.tmp 5), none, []⟩,
  ⟨some 84, .mv (.tmp 0), none, []⟩,
  ⟨some 85, .nilck (.tmp 84), none, [0]⟩,
  ⟨some 86, .fadr 0 (.tmp 85), none, [0]⟩,
  ⟨some 87, .load 1 false false (.tmp 86), none, [0]⟩,
  ⟨some 88, .len (.tmp 87), none, []⟩,
  ⟨some 89, .bin .quo (.tmp 83) (.tmp 88), none, []⟩,
  ⟨some 90, .bin .mul (.tmp 89) (.const (.int .i64 53)), none, []⟩,
  ⟨some 91, .bin .add (.tmp 82) (.tmp 90), none, []⟩,
  ⟨some 6, .mv (.tmp 91), none, []⟩])
 (.seq (.region false [⟨some 92, .mv (.tmp 6), none, []⟩,
  ⟨some 93, .mv (.tmp 6), none, []⟩,
  ⟨some 94, .bin .quo (.tmp 93) (.const (.int .i64 64)), none, []⟩,
  ⟨some 95, .bin .xor (.tmp 92) (.tmp 94), none, []⟩,
  ⟨some 6, .mv (.tmp 95), none, []⟩])
 (.seq (.region false [⟨some 96, .mv (.tmp 6), none, []⟩,
  ⟨some 97, .mv (.tmp 1), none, []⟩,
  ⟨some 98, .bin .rem (.tmp 96) (.tmp 97), none, []⟩,
  ⟨some 4, .mv (.tmp 98), none, []⟩])
 .ret)))))))) }
noncomputable def p300 : ProcT := { kind := .fn, ins := [0, 1], bins := [], res := [.keep 4 3], code := (.seq (.region false [⟨some 4, .alloc 100 [.int .i64 0, .int .i64 0, .sl (.own false) .exp []], none, []⟩])
 (.seq (.region false [⟨some 5, .mv (.tmp 0), none, []⟩,
  ⟨some 6, .mv (.tmp 1), none, []⟩,
  ⟨some 7, .buildS (.own false) .exp [], none, []⟩,
  ⟨some 8, .build [.int .i64 0, .int .i64 0, .sl (.own false) .exp []] [(0, 1, .tmp 5), (1, 1, .tmp 6), (2, 1, .tmp 7)], none, []⟩,
  ⟨none, .store 3 (.tmp 4) (.tmp 8), none, []⟩])
 .ret)) }
noncomputable def p400 : ProcT := { kind := .fn, ins := [0], bins := [0], res := [.keep 2 3], code := (.seq (.region false [⟨some 2, .alloc 100 [.int .i64 0, .int .i64 0, .sl (.own false) .exp []], none, []⟩])
 (.seq (.seq (.region false [⟨some 3, .mv (.tmp 0), none, []⟩,
  ⟨some 4, .call 200 0 [.tmp 3, .const (.int .i64 4)], none, []⟩])
 (.block 0 (.seq (.region false [⟨some 6, .bin .eql (.tmp 4) (.const (.int .i64 0)), none, []⟩,
  ⟨some 5, .mv (.tmp 6), none, []⟩])
 (.cond (.tmp 5) (.seq (.region false [⟨some 7, .mv (.tmp 0), none, []⟩,
  ⟨some 8, .call 200 0 [.tmp 7, .const (.int .i64 4)], none, []⟩,
  ⟨some 9, .call 300 0 [.const (.int .i64 0), .tmp 8], none, []⟩,
  ⟨none, .store 3 (.tmp 2) (.tmp 9), none, []⟩])
 .ret) (.seq (.region false [⟨some 11, .bin .eql (.tmp 4) (.const (.int .i64 1)), none, []⟩,
  ⟨some 10, .mv (.tmp 11), none, []⟩])
 (.cond (.tmp 10) (.seq (.region false [⟨some 12, .buildS .full .int [.const (.int .i64 5), .const (.int .i64 31), .const (.int .i64 32), .const (.int .i64 100), .const (.int .i64 2047), .const (.int .i64 2048), .const (.int .i64 65536), .const (.int .i64 99999)], none, []⟩,
  ⟨some 13, .mv (.tmp 0), none, []⟩,
  ⟨some 14, .call 200 0 [.tmp 13, .const (.int .i64 8)], none, []⟩,
  ⟨some 15, .iadr 1 (.tmp 12) (.tmp 14), none, []⟩,
  ⟨some 16, .load 1 false false (.tmp 15), none, []⟩,
  ⟨some 17, .call 300 0 [.const (.int .i64 0), .tmp 16], none, []⟩,
  ⟨none, .store 3 (.tmp 2) (.tmp 17), none, []⟩])
 .ret) .skip))))))
 (.seq (.region false [⟨some 18, .mv (.tmp 0), none, []⟩,
  ⟨some 19, .call 200 0 [.tmp 18, .const (.int .i64 4)], none, []⟩,
  ⟨some 20, .call 300 0 [.const (.int .i64 13), .tmp 19], none, []⟩,
  ⟨none, .store 3 (.tmp 2) (.tmp 20), none, []⟩])
 .ret))) }
noncomputable def p500 : ProcT := { kind := .fn, ins := [0, 1, 2], bins := [], res := [.keep 6 3], code := (.seq (.region false [⟨some 4, .box 100 (.tmp 1), none, []⟩,
  ⟨some 5, .box 101 (.tmp 2), none, []⟩,
  ⟨some 6, .alloc 102 [.int .i64 0, .int .i64 0, .sl (.own false) .exp []], none, []⟩])
 (.seq (.region false [⟨some 7, .mv (.tmp 0), none, []⟩,
  ⟨some 8, .load 3 true false (.tmp 4), none, []⟩,
  ⟨some 9, .load 3 true false (.tmp 5), none, []⟩,
  ⟨some 10, .buildS .full .exp [.tmp 8, .tmp 9], none, []⟩,
  ⟨some 11, .build [.int .i64 0, .int .i64 0, .sl (.own false) .exp []] [(0, 1, .tmp 7), (2, 1, .tmp 10)], none, []⟩,
  ⟨none, .store 3 (.tmp 6) (.tmp 11), none, []⟩])
 .ret)) }
noncomputable def p600 : ProcT := { kind := .fn, ins := [0], bins := [0], res := [.tmp 2], code := (.seq (.region false [⟨some 2, .mv (.const (.int .i64 0)), none, []⟩])
 (.seq (.region false [⟨some 3, .mv (.tmp 0), none, []⟩,
  ⟨some 4, .call 200 0 [.tmp 3, .const (.int .i64 12)], none, []⟩,
  ⟨some 5, .bin .add (.const (.int .i64 1)) (.tmp 4), none, []⟩,
  ⟨some 2, .mv (.tmp 5), none, []⟩])
 .ret)) }
noncomputable def p700 : ProcT := { kind := .fn, ins := [0, 1], bins := [0], res := [.keep 4 3], code := (.seq (.region false [⟨some 4, .alloc 100 [.int .i64 0, .int .i64 0, .sl (.own false) .exp []], none, []⟩])
 (.seq (.seq (.region false [⟨some 7, .mv (.tmp 1), none, []⟩,
  ⟨some 8, .bin .lss (.tmp 7) (.const (.int .i64 2)), none, []⟩,
  ⟨some 9, .mv (.tmp 8), none, []⟩,
  ⟨some 10, .mv (.tmp 0), some (9, false), []⟩,
  ⟨some 11, .call 200 0 [.tmp 10, .const (.int .i64 3)], some (9, false), []⟩,
  ⟨some 12, .bin .eql (.tmp 11) (.const (.int .i64 0)), some (9, false), []⟩,
  ⟨some 13, .pick (.tmp 9) (.const (.bool true)) (.tmp 12), none, []⟩])
 (.cond (.tmp 13) (.seq (.region false [⟨some 14, .mv (.tmp 0), none, []⟩,
  ⟨some 15, .call 400 0 [.tmp 14], none, []⟩,
  ⟨none, .store 3 (.tmp 4) (.tmp 15), none, []⟩])
 .ret) .skip))
 (.seq (.region false [⟨some 16, .mv (.tmp 0), none, []⟩,
  ⟨some 17, .call 600 0 [.tmp 16], none, []⟩,
  ⟨some 5, .mv (.tmp 17), none, []⟩])
 (.seq (.region false [⟨some 18, .mv (.tmp 0), none, []⟩,
  ⟨some 19, .mv (.tmp 1), none, []⟩,
  ⟨some 20, .bin .sub (.tmp 19) (.const (.int .i64 1)), none, []⟩,
  ⟨some 21, .call 700 0 [.tmp 18, .tmp 20], none, []⟩,
  ⟨some 6, .alloc 101 [.int .i64 0, .int .i64 0, .sl (.own false) .exp []], none, []⟩,
  ⟨none, .store 3 (.tmp 6) (.tmp 21), none, []⟩])
 (.seq (.region true [⟨some 22, .mv (.tmp 5), none, []⟩,
  ⟨some 23, .load 3 true false (.tmp 6), none, [101]⟩,
  ⟨some 24, .mv (.tmp 0), none, []⟩,
  ⟨some 25, .mv (.tmp 1), none, []⟩,
  ⟨some 26, .bin .sub (.tmp 25) (.const (.int .i64 1)), none, []⟩,
  ⟨some 27, .call 700 0 [.tmp 24, .tmp 26], none, [0]⟩,
  ⟨some 28, .call 500 0 [.tmp 22, .tmp 23, .tmp 27], none, []⟩,
  ⟨none, .store 3 (.tmp 4) (.tmp 28), none, [100]⟩])
 .ret))))) }
noncomputable def p1000 : ProcT := { kind := .fn, ins := [0], bins := [], res := [.tmp 2], code := (.seq (.region false [⟨some 2, .mv (.const (.bool false)), none, []⟩])
 (.seq (.region false [⟨some 3, .mv (.tmp 0), none, []⟩,
  ⟨some 4, .bin .geq (.tmp 3) (.const (.int .i64 1)), none, []⟩,
  ⟨some 5, .mv (.tmp 4), none, []⟩,
  ⟨some 6, .mv (.tmp 0), some (5, true), []⟩,
  ⟨some 7, .bin .leq (.tmp 6) (.const (.int .i64 12)), some (5, true), []⟩,
  ⟨some 8, .pick (.tmp 5) (.tmp 7) (.const (.bool false)), none, []⟩,
  ⟨some 2, .mv (.tmp 8), none, []⟩])
 .ret)) }
noncomputable def p1100 : ProcT := { kind := .fn, ins := [0, 1], bins := [], res := [.tmp 4], code := (.seq (.region false [⟨some 2, .box 100 (.tmp 0), none, []⟩,
  ⟨some 4, .mv (.const (.bool false)), none, []⟩])
 (.seq (.block 0 (.seq (.region false [⟨some 6, .fadr 0 (.tmp 2), none, []⟩,
  ⟨some 7, .load 1 false false (.tmp 6), none, []⟩,
  ⟨some 8, .bin .eql (.tmp 7) (.const (.int .i64 0)), none, []⟩,
  ⟨some 5, .mv (.tmp 8), none, []⟩])
 (.cond (.tmp 5) (.seq (.region false [⟨some 9, .fadr 1 (.tmp 2), none, []⟩,
  ⟨some 10, .load 1 false false (.tmp 9), none, []⟩,
  ⟨some 11, .bin .geq (.tmp 10) (.const (.int .i64 0)), none, []⟩,
  ⟨some 12, .mv (.tmp 11), none, []⟩,
  ⟨some 13, .fadr 1 (.tmp 2), some (12, true), []⟩,
  ⟨some 14, .load 1 false false (.tmp 13), some (12, true), []⟩,
  ⟨some 15, .bin .leq (.tmp 14) (.const (.int .i64 99999)), some (12, true), []⟩,
  ⟨some 16, .pick (.tmp 12) (.tmp 15) (.const (.bool false)), none, []⟩,
  ⟨some 17, .mv (.tmp 16), none, []⟩,
  ⟨some 18, .fadr 2 (.tmp 2), some (17, true), []⟩,
  ⟨some 19, .load 1 false false (.tmp 18), some (17, true), []⟩,
  ⟨some 20, .len (.tmp 19), some (17, true), []⟩,
  ⟨some 21, .bin .eql (.tmp 20) (.const (.int .i64 0)), some (17, true), []⟩,
  ⟨some 22, .pick (.tmp 17) (.tmp 21) (.const (.bool false)), none, []⟩,
  ⟨some 23, .mv (.tmp 22), none, []⟩,
  ⟨some 24, .mv (.tmp 1), some (23, true), []⟩,
  ⟨some 25, .bin .gtr (.tmp 24) (.const (.int .i64 0)), some (23, true), []⟩,
  ⟨some 26, .pick (.tmp 23) (.tmp 25) (.const (.bool false)), none, []⟩,
  ⟨some 4, .mv (.tmp 26), none, []⟩])
 .ret) (.seq (.region false [⟨some 28, .fadr 0 (.tmp 2), none, []⟩,
  ⟨some 29, .load 1 false false (.tmp 28), none, []⟩,
  ⟨some 30, .bin .eql (.tmp 29) (.const (.int .i64 13)), none, []⟩,
  ⟨some 27, .mv (.tmp 30), none, []⟩])
 (.cond (.tmp 27) (.seq (.region false [⟨some 31, .fadr 1 (.tmp 2), none, []⟩,
  ⟨some 32, .load 1 false false (.tmp 31), none, []⟩,
  ⟨some 33, .bin .geq (.tmp 32) (.const (.int .i64 0)), none, []⟩,
  ⟨some 34, .mv (.tmp 33), none, []⟩,
  ⟨some 35, .fadr 1 (.tmp 2), some (34, true), []⟩,
  ⟨some 36, .load 1 false false (.tmp 35), some (34, true), []⟩,
  ⟨some 37, .bin .lss (.tmp 36) (.const (.int .i64 4)), some (34, true), []⟩,
  ⟨some 38, .pick (.tmp 34) (.tmp 37) (.const (.bool false)), none, []⟩,
  ⟨some 39, .mv (.tmp 38), none, []⟩,
  ⟨some 40, .fadr 2 (.tmp 2), some (39, true), []⟩,
  ⟨some 41, .load 1 false false (.tmp 40), some (39, true), []⟩,
  ⟨some 42, .len (.tmp 41), some (39, true), []⟩,
  ⟨some 43, .bin .eql (.tmp 42) (.const (.int .i64 0)), some (39, true), []⟩,
  ⟨some 44, .pick (.tmp 39) (.tmp 43) (.const (.bool false)), none, []⟩,
  ⟨some 45, .mv (.tmp 44), none, []⟩,
  ⟨some 46, .mv (.tmp 1), some (45, true), []⟩,
  ⟨some 47, .bin .gtr (.tmp 46) (.const (.int .i64 0)), some (45, true), []⟩,
  ⟨some 48, .pick (.tmp 45) (.tmp 47) (.const (.bool false)), none, []⟩,
  ⟨some 4, .mv (.tmp 48), none, []⟩])
 .ret) .skip)))))
 (.seq (.region false [⟨some 49, .fadr 0 (.tmp 2), none, []⟩,
  ⟨some 50, .load 1 false false (.tmp 49), none, []⟩,
  ⟨some 51, .call 1000 0 [.tmp 50], none, []⟩,
  ⟨some 52, .mv (.tmp 51), none, []⟩,
  ⟨some 53, .fadr 1 (.tmp 2), some (52, true), []⟩,
  ⟨some 54, .load 1 false false (.tmp 53), some (52, true), []⟩,
  ⟨some 55, .bin .eql (.tmp 54) (.const (.int .i64 0)), some (52, true), []⟩,
  ⟨some 56, .pick (.tmp 52) (.tmp 55) (.const (.bool false)), none, []⟩,
  ⟨some 57, .mv (.tmp 56), none, []⟩,
  ⟨some 58, .fadr 2 (.tmp 2), some (57, true), []⟩,
  ⟨some 59, .load 1 false false (.tmp 58), some (57, true), []⟩,
  ⟨some 60, .len (.tmp 59), some (57, true), []⟩,
  ⟨some 61, .bin .eql (.tmp 60) (.const (.int .i64 2)), some (57, true), []⟩,
  ⟨some 62, .pick (.tmp 57) (.tmp 61) (.const (.bool false)), none, []⟩,
  ⟨some 63, .mv (.tmp 62), none, []⟩,
  ⟨some 64, .mv (.tmp 1), some (63, true), []⟩,
  ⟨some 65, .bin .gtr (.tmp 64) (.const (.int .i64 1)), some (63, true), []⟩,
  ⟨some 66, .pick (.tmp 63) (.tmp 65) (.const (.bool false)), none, []⟩,
  ⟨some 67, .mv (.tmp 66), none, []⟩,
  ⟨some 68, .fadr 2 (.tmp 2), some (67, true), []⟩,
  ⟨some 69, .load 1 false false (.tmp 68), some (67, true), []⟩,
  ⟨some 70, .iadr 3 (.tmp 69) (.const (.int .i64 0)), some (67, true), []⟩,
  ⟨some 71, .load 3 true false (.tmp 70), some (67, true), []⟩,
  ⟨some 72, .mv (.tmp 1), some (67, true), []⟩,
  ⟨some 73, .bin .sub (.tmp 72) (.const (.int .i64 1)), some (67, true), []⟩,
  ⟨some 74, .call 1100 0 [.tmp 71, .tmp 73], some (67, true), []⟩,
  ⟨some 75, .pick (.tmp 67) (.tmp 74) (.const (.bool false)), none, []⟩,
  ⟨some 76, .mv (.tmp 75), none, []⟩,
  ⟨some 77, .fadr 2 (.tmp 2), some (76, true), []⟩,
  ⟨some 78, .load 1 false false (.tmp 77), some (76, true), []⟩,
  ⟨some 79, .iadr 3 (.tmp 78) (.const (.int .i64 1)), some (76, true), []⟩,
  ⟨some 80, .load 3 true false (.tmp 79), some (76, true), []⟩,
  ⟨some 81, .mv (.tmp 1), some (76, true), []⟩,
  ⟨some 82, .bin .sub (.tmp 81) (.const (.int .i64 1)), some (76, true), []⟩,
  ⟨some 83, .call 1100 0 [.tmp 80, .tmp 82], some (76, true), []⟩,
  ⟨some 84, .pick (.tmp 76) (.tmp 83) (.const (.bool false)), none, []⟩,
  ⟨some 4, .mv (.tmp 84), none, []⟩])
 .ret))) }
noncomputable def p1200 : ProcT := { kind := .fn, ins := [0], bins := [], res := [.tmp 2], code := (.seq (.region false [⟨some 1, .box 100 (.tmp 0), none, []⟩,
  ⟨some 2, .mv (.const (.bool false)), none, []⟩])
 (.seq (.region false [⟨some 3, .load 3 true false (.tmp 1), none, []⟩,
  ⟨some 4, .call 1100 0 [.tmp 3, .const (.int .i64 5)], none, []⟩,
  ⟨some 2, .mv (.tmp 4), none, []⟩])
 .ret)) }
noncomputable def p1600 : ProcT := { kind := .fn, ins := [0, 1, 2], bins := [], res := [.tmp 6], code := (.seq (.region false [⟨some 6, .mv (.const (.bool false)), none, []⟩])
 (.seq (.region false [⟨some 7, .mv (.tmp 0), none, []⟩,
  ⟨some 8, .mv (.tmp 1), none, []⟩,
  ⟨some 9, .bin .geq (.tmp 7) (.tmp 8), none, []⟩,
  ⟨some 10, .mv (.tmp 9), none, []⟩,
  ⟨some 11, .mv (.tmp 0), some (10, true), []⟩,
  ⟨some 12, .mv (.tmp 2), some (10, true), []⟩,
  ⟨some 13, .bin .leq (.tmp 11) (.tmp 12), some (10, true), []⟩,
  ⟨some 14, .pick (.tmp 10) (.tmp 13) (.const (.bool false)), none, []⟩,
  ⟨some 6, .mv (.tmp 14), none, []⟩])
 .ret)) }
noncomputable def p1700 : ProcT := { kind := .fn, ins := [0], bins := [], res := [.tmp 2], code := (.seq (.region false [⟨some 2, .mv (.const (.bool false)), none, []⟩])
 (.seq (.region false [⟨some 3, .mv (.tmp 0), none, []⟩,
  ⟨some 4, .call 1600 0 [.tmp 3, .const (.int .i64 1), .const (.int .i64 12)], none, []⟩,
  ⟨some 2, .mv (.tmp 4), none, []⟩])
 .ret)) }
noncomputable def p1800 : ProcT := { kind := .fn, ins := [0, 1], bins := [], res := [.tmp 4], code := (.seq (.region false [⟨some 2, .box 100 (.tmp 0), none, []⟩,
  ⟨some 4, .mv (.const (.bool false)), none, []⟩])
 (.seq (.seq (.region false [⟨some 5, .mv (.tmp 1), none, []⟩,
  ⟨some 6, .bin .lss (.tmp 5) (.const (.int .i64 1)), none, []⟩])
 (.cond (.tmp 6) (.seq (.region false [⟨some 4, .mv (.const (.bool false)), none, []⟩])
 .ret) .skip))
 (.seq (.seq (.region false [⟨some 7, .fadr 0 (.tmp 2), none, []⟩,
  ⟨some 8, .load 1 false false (.tmp 7), none, []⟩,
  ⟨some 9, .bin .eql (.tmp 8) (.const (.int .i64 0)), none, []⟩])
 (.cond (.tmp 9) (.seq (.region false [⟨some 10, .fadr 1 (.tmp 2), none, []⟩,
  ⟨some 11, .load 1 false false (.tmp 10), none, []⟩,
  ⟨some 12, .call 1600 0 [.tmp 11, .const (.int .i64 0), .const (.int .i64 99999)], none, []⟩,
  ⟨some 13, .mv (.tmp 12), none, []⟩,
  ⟨some 14, .fadr 2 (.tmp 2), some (13, true), []⟩,
  ⟨some 15, .load 1 false false (.tmp 14), some (13, true), []⟩,
  ⟨some 16, .len (.tmp 15), some (13, true), []⟩,
  ⟨some 17, .bin .eql (.tmp 16) (.const (.int .i64 0)), some (13, true), []⟩,
  ⟨some 18, .pick (.tmp 13) (.tmp 17) (.const (.bool false)), none, []⟩,
  ⟨some 4, .mv (.tmp 18), none, []⟩])
 .ret) .skip))
 (.seq (.seq (.region false [⟨some 19, .fadr 0 (.tmp 2), none, []⟩,
  ⟨some 20, .load 1 false false (.tmp 19), none, []⟩,
  ⟨some 21, .bin .eql (.tmp 20) (.const (.int .i64 13)), none, []⟩])
 (.cond (.tmp 21) (.seq (.region false [⟨some 22, .fadr 1 (.tmp 2), none, []⟩,
  ⟨some 23, .load 1 false false (.tmp 22), none, []⟩,
  ⟨some 24, .call 1600 0 [.tmp 23, .const (.int .i64 0), .const (.int .i64 3)], none, []⟩,
  ⟨some 25, .mv (.tmp 24), none, []⟩,
  ⟨some 26, .fadr 2 (.tmp 2), some (25, true), []⟩,
  ⟨some 27, .load 1 false false (.tmp 26), some (25, true), []⟩,
  ⟨some 28, .len (.tmp 27), some (25, true), []⟩,
  ⟨some 29, .bin .eql (.tmp 28) (.const (.int .i64 0)), some (25, true), []⟩,
  ⟨some 30, .pick (.tmp 25) (.tmp 29) (.const (.bool false)), none, []⟩,
  ⟨some 4, .mv (.tmp 30), none, []⟩])
 .ret) .skip))
 (.seq (.region false [⟨some 31, .fadr 0 (.tmp 2), none, []⟩,
  ⟨some 32, .load 1 false false (.tmp 31), none, []⟩,
  ⟨some 33, .call 1700 0 [.tmp 32], none, []⟩,
  ⟨some 34, .mv (.tmp 33), none, []⟩,
  ⟨some 35, .fadr 1 (.tmp 2), some (34, true), []⟩,
  ⟨some 36, .load 1 false false (.tmp 35), some (34, true), []⟩,
  ⟨some 37, .bin .eql (.tmp 36) (.const (.int .i64 0)), some (34, true), []⟩,
  ⟨some 38, .pick (.tmp 34) (.tmp 37) (.const (.bool false)), none, []⟩,
  ⟨some 39, .mv (.tmp 38), none, []⟩,
  ⟨some 40, .fadr 2 (.tmp 2), some (39, true), []⟩,
  ⟨some 41, .load 1 false false (.tmp 40), some (39, true), []⟩,
  ⟨some 42, .len (.tmp 41), some (39, true), []⟩,
  ⟨some 43, .bin .eql (.tmp 42) (.const (.int .i64 2)), some (39, true), []⟩,
  ⟨some 44, .pick (.tmp 39) (.tmp 43) (.const (.bool false)), none, []⟩,
  ⟨some 45, .mv (.tmp 44), none, []⟩,
  ⟨some 46, .fadr 2 (.tmp 2), some (45, true), []⟩,
  ⟨some 47, .load 1 false false (.tmp 46), some (45, true), []⟩,
  ⟨some 48, .iadr 3 (.tmp 47) (.const (.int .i64 0)), some (45, true), []⟩,
  ⟨some 49, .load 3 true false (.tmp 48), some (45, true), []⟩,
  ⟨some 50, .mv (.tmp 1), some (45, true), []⟩,
  ⟨some 51, .bin .sub (.tmp 50) (.const (.int .i64 1)), some (45, true), []⟩,
  ⟨some 52, .call 1800 0 [.tmp 49, .tmp 51], some (45, true), []⟩,
  ⟨some 53, .pick (.tmp 45) (.tmp 52) (.const (.bool false)), none, []⟩,
  ⟨some 54, .mv (.tmp 53), none, []⟩,
  ⟨some 55, .fadr 2 (.tmp 2), some (54, true), []⟩,
  ⟨some 56, .load 1 false false (.tmp 55), some (54, true), []⟩,
  ⟨some 57, .iadr 3 (.tmp 56) (.const (.int .i64 1)), some (54, true), []⟩,
  ⟨some 58, .load 3 true false (.tmp 57), some (54, true), []⟩,
  ⟨some 59, .mv (.tmp 1), some (54, true), []⟩,
  ⟨some 60, .bin .sub (.tmp 59) (.const (.int .i64 1)), some (54, true), []⟩,
  ⟨some 61, .call 1800 0 [.tmp 58, .tmp 60], some (54, true), []⟩,
  ⟨some 62, .pick (.tmp 54) (.tmp 61) (.const (.bool false)), none, []⟩,
  ⟨some 4, .mv (.tmp 62), none, []⟩])
 .ret))))) }
noncomputable def p1900 : ProcT := { kind := .fn, ins := [0], bins := [], res := [.tmp 2], code := (.seq (.region false [⟨some 1, .box 100 (.tmp 0), none, []⟩,
  ⟨some 2, .mv (.const (.bool false)), none, []⟩])
 (.seq (.region false [⟨some 3, .load 3 true false (.tmp 1), none, []⟩,
  ⟨some 4, .call 1800 0 [.tmp 3, .const (.int .i64 5)], none, []⟩,
  ⟨some 2, .mv (.tmp 4), none, []⟩])
 .ret)) }
noncomputable def p4000 : ProcT := { kind := .fn, ins := [0], bins := [], res := [.tmp 2], code := (.seq (.region false [⟨some 2, .mv (.const (.int .i64 0)), none, []⟩])
 (.seq (.region false [⟨some 3, .mv (.const (.int .i64 0)), none, []⟩])
 (.seq (.seq (.region false [⟨some 4, .mv (.const (.int .i64 0)), none, []⟩])
 (.block 0 (.label 4001)))
 (.seq (.region false [⟨some 27, .mv (.tmp 3), none, []⟩,
  ⟨some 2, .mv (.tmp 27), none, []⟩])
 .ret)))) }
noncomputable def p4001 : ProcT := { kind := .loop, ins := [0, 3, 4], bins := [], outs := [2, 3], bouts := [], code := (.seq (.seq (.region false [⟨some 5, .mv (.tmp 4), none, []⟩,
  ⟨some 6, .mv (.tmp 0), none, []⟩,
  ⟨some 7, .len (.tmp 6), none, []⟩,
  ⟨some 8, .bin .lss (.tmp 5) (.tmp 7), none, []⟩])
 (.cond (.tmp 8) .skip (.exit 0)))
 (.seq (.block 1 (.region true [⟨some 11, .mv (.tmp 3), none, []⟩,
  ⟨some 12, .bin .add (.tmp 11) (.const (.int .i64 1)), none, []⟩,
  ⟨some 13, .mv (.tmp 0), none, []⟩,
  ⟨some 14, .mv (.tmp 4), none, []⟩,
  ⟨some 15, .iadr 8 (.tmp 13) (.tmp 14), none, []⟩,
  ⟨some 16, .fadr 6 (.tmp 15), none, []⟩,
  ⟨some 17, .load 1 false false (.tmp 16), none, []⟩,
  ⟨some 18, .call 4000 0 [.tmp 17], none, []⟩,
  ⟨some 19, .bin .add (.tmp 12) (.tmp 18), none, []⟩,
  ⟨some 20, .mv (.tmp 0), none, []⟩,
  ⟨some 21, .mv (.tmp 4), none, []⟩,
  ⟨some 22, .iadr 8 (.tmp 20) (.tmp 21), none, []⟩,
  ⟨some 23, .fadr 7 (.tmp 22), none, []⟩,
  ⟨some 24, .load 1 false false (.tmp 23), none, []⟩,
  ⟨some 25, .call 4000 0 [.tmp 24], none, []⟩,
  ⟨some 26, .bin .add (.tmp 19) (.tmp 25), none, []⟩,
  ⟨some 3, .mv (.tmp 26), none, []⟩]))
 (.region false [⟨some 9, .mv (.tmp 4), none, []⟩,
  ⟨some 10, .bin .add (.tmp 9) (.const (.int .i64 1)), none, []⟩,
  ⟨some 4, .mv (.tmp 10), none, []⟩]))) }
noncomputable def p4100 : ProcT := { kind := .fn, ins := [0, 1, 2, 3], bins := [0], res := [.cell 8 8 true], code := (.seq (.region false [⟨some 8, .alloc 100 [.int .i64 0, .int .i64 0, .int .i64 0, .int .i64 0, .int .i64 0, .sl (.own false) .exp [], .sl (.own false) .stm [], .sl (.own false) .stm []], none, []⟩])
 (.seq (.region false [⟨some 11, .mv (.tmp 0), none, []⟩,
  ⟨some 12, .mv (.tmp 0), none, []⟩,
  ⟨some 13, .call 200 0 [.tmp 12, .const (.int .i64 2)], none, []⟩,
  ⟨some 14, .bin .add (.const (.int .i64 1)) (.tmp 13), none, []⟩,
  ⟨some 15, .call 700 0 [.tmp 11, .tmp 14], none, []⟩,
  ⟨some 9, .alloc 101 [.int .i64 0, .int .i64 0, .sl (.own false) .exp []], none, []⟩,
  ⟨none, .store 3 (.tmp 9) (.tmp 15), none, []⟩])
 (.seq (.region false [⟨some 16, .mv (.tmp 0), none, []⟩,
  ⟨some 17, .mv (.tmp 1), none, []⟩,
  ⟨some 18, .mv (.tmp 2), none, []⟩,
  ⟨some 19, .bin .sub (.tmp 18) (.const (.int .i64 1)), none, []⟩,
  ⟨some 20, .mv (.tmp 0), none, []⟩,
  ⟨some 21, .call 200 0 [.tmp 20, .const (.int .i64 3)], none, []⟩,
  ⟨some 22, .mv (.tmp 3), none, []⟩,
  ⟨some 23, .call 4600 0 [.tmp 16, .tmp 17, .tmp 19, .tmp 21, .tmp 22], none, []⟩,
  ⟨some 10, .mv (.take 23), none, []⟩])
 (.seq (.region true [⟨some 24, .load 3 true false (.tmp 9), none, [101]⟩,
  ⟨some 25, .mv (.tmp 10), none, []⟩,
  ⟨some 26, .mv (.tmp 0), none, []⟩,
  ⟨some 27, .mv (.tmp 1), none, []⟩,
  ⟨some 28, .mv (.tmp 2), none, []⟩,
  ⟨some 29, .bin .sub (.tmp 28) (.const (.int .i64 1)), none, []⟩,
  ⟨some 30, .mv (.tmp 0), none, []⟩,
  ⟨some 31, .call 200 0 [.tmp 30, .const (.int .i64 3)], none, [0]⟩,
  ⟨some 32, .mv (.tmp 3), none, []⟩,
  ⟨some 33, .call 4600 0 [.tmp 26, .tmp 27, .tmp 29, .tmp 31, .tmp 32], none, [0]⟩,
  ⟨some 34, .build [.int .i64 0, .int .i64 0, .int .i64 0, .int .i64 0, .int .i64 0, .sl (.own false) .exp [], .sl (.own false) .stm [], .sl (.own false) .stm []] [(0, 1, .const (.int .i64 2)), (3, 3, .tmp 24), (6, 1, .tmp 25), (7, 1, .tmp 33)], none, []⟩,
  ⟨none, .store 8 (.tmp 8) (.tmp 34), none, [100]⟩])
 .ret)))) }
noncomputable def p4200 : ProcT := { kind := .fn, ins := [0], bins := [0], res := [.cell 2 8 true], code := (.seq (.region false [⟨some 2, .alloc 100 [.int .i64 0, .int .i64 0, .int .i64 0, .int .i64 0, .int .i64 0, .sl (.own false) .exp [], .sl (.own false) .stm [], .sl (.own false) .stm []], none, []⟩])
 (.seq (.region false [⟨some 4, .mv (.tmp 0), none, []⟩,
  ⟨some 5, .call 200 0 [.tmp 4, .const (.int .i64 3)], none, []⟩,
  ⟨some 3, .mv (.tmp 5), none, []⟩])
 (.seq (.region false [⟨some 6, .mv (.tmp 3), none, []⟩,
  ⟨some 7, .mv (.tmp 0), none, []⟩,
  ⟨some 8, .mv (.tmp 0), none, []⟩,
  ⟨some 9, .call 200 0 [.tmp 8, .const (.int .i64 3)], none, []⟩,
  ⟨some 10, .bin .add (.const (.int .i64 1)) (.tmp 9), none, []⟩,
  ⟨some 11, .call 700 0 [.tmp 7, .tmp 10], none, []⟩,
  ⟨some 12, .build [.int .i64 0, .int .i64 0, .int .i64 0, .int .i64 0, .int .i64 0, .sl (.own false) .exp [], .sl (.own false) .stm [], .sl (.own false) .stm []] [(0, 1, .const (.int .i64 1)), (1, 1, .tmp 6), (3, 3, .tmp 11)], none, []⟩,
  ⟨none, .store 8 (.tmp 2) (.tmp 12), none, []⟩])
 .ret))) }
noncomputable def p4300 : ProcT := { kind := .fn, ins := [0, 1, 2], bins := [0], res := [.tmp 6], code := (.seq (.region false [⟨some 6, .mv (.const (.sl (.own false) .stm [])), none, []⟩])
 (.seq (.region false [⟨some 7, .mv (.const (.int .i64 3)), none, []⟩])
 (.seq (.region false [⟨some 11, .mv (.tmp 0), none, []⟩,
  ⟨some 12, .mv (.tmp 1), none, []⟩,
  ⟨some 13, .mv (.tmp 2), none, []⟩,
  ⟨some 14, .bin .sub (.tmp 13) (.const (.int .i64 1)), none, []⟩,
  ⟨some 15, .mv (.tmp 0), none, []⟩,
  ⟨some 16, .call 200 0 [.tmp 15, .const (.int .i64 3)], none, []⟩,
  ⟨some 17, .call 4600 0 [.tmp 11, .tmp 12, .tmp 14, .tmp 16, .const (.bool false)], none, []⟩,
  ⟨some 8, .mv (.take 17), none, []⟩])
 (.seq (.region false [⟨some 18, .mv (.tmp 7), none, []⟩,
  ⟨some 19, .mv (.tmp 7), none, []⟩,
  ⟨some 20, .call 300 0 [.const (.int .i64 13), .tmp 19], none, []⟩,
  ⟨some 21, .call 300 0 [.const (.int .i64 0), .const (.int .i64 1)], none, []⟩,
  ⟨some 22, .call 500 0 [.const (.int .i64 8), .tmp 20, .tmp 21], none, []⟩,
  ⟨some 23, .build [.int .i64 0, .int .i64 0, .int .i64 0, .int .i64 0, .int .i64 0, .sl (.own false) .exp [], .sl (.own false) .stm [], .sl (.own false) .stm []] [(0, 1, .const (.int .i64 1)), (1, 1, .tmp 18), (3, 3, .tmp 22)], none, []⟩,
  ⟨some 9, .alloc 100 [.int .i64 0, .int .i64 0, .int .i64 0, .int .i64 0, .int .i64 0, .sl (.own false) .exp [], .sl (.own false) .stm [], .sl (.own false) .stm []], none, []⟩,
  ⟨none, .store 8 (.tmp 9) (.tmp 23), none, []⟩])
 (.seq (.region true [⟨some 24, .mv (.tmp 7), none, []⟩,
  ⟨some 25, .call 300 0 [.const (.int .i64 13), .tmp 24], none, []⟩,
  ⟨some 26, .mv (.tmp 0), none, []⟩,
  ⟨some 27, .call 200 0 [.tmp 26, .const (.int .i64 3)], none, [0]⟩,
  ⟨some 28, .bin .add (.const (.int .i64 1)) (.tmp 27), none, []⟩,
  ⟨some 29, .call 300 0 [.const (.int .i64 0), .tmp 28], none, []⟩,
  ⟨some 30, .call 500 0 [.const (.int .i64 5), .tmp 25, .tmp 29], none, []⟩,
  ⟨some 31, .mv (.take 8), none, []⟩,
  ⟨some 32, .load 8 true false (.tmp 9), none, [100]⟩,
  ⟨some 33, .buildS .full .stm [.tmp 32], none, []⟩,
  ⟨some 34, .app 8 (.take 31) (.tmp 33), none, []⟩,
  ⟨some 35, .build [.int .i64 0, .int .i64 0, .int .i64 0, .int .i64 0, .int .i64 0, .sl (.own false) .exp [], .sl (.own false) .stm [], .sl (.own false) .stm []] [(0, 1, .const (.int .i64 3)), (3, 3, .tmp 30), (6, 1, .tmp 34)], none, []⟩,
  ⟨some 10, .alloc 101 [.int .i64 0, .int .i64 0, .int .i64 0, .int .i64 0, .int .i64 0, .sl (.own false) .exp [], .sl (.own false) .stm [], .sl (.own false) .stm []], none, [101]⟩,
  ⟨none, .store 8 (.tmp 10) (.tmp 35), none, [101]⟩])
 (.seq (.region true [⟨some 36, .mv (.tmp 7), none, []⟩,
  ⟨some 37, .call 300 0 [.const (.int .i64 0), .const (.int .i64 0)], none, []⟩,
  ⟨some 38, .build [.int .i64 0, .int .i64 0, .int .i64 0, .int .i64 0, .int .i64 0, .sl (.own false) .exp [], .sl (.own false) .stm [], .sl (.own false) .stm []] [(0, 1, .const (.int .i64 1)), (1, 1, .tmp 36), (3, 3, .tmp 37)], none, []⟩,
  ⟨some 39, .load 8 true false (.tmp 10), none, [101]⟩,
  ⟨some 40, .buildS (.own true) .stm [.tmp 38, .tmp 39], none, []⟩,
  ⟨some 6, .mv (.take 40), none, []⟩])
 .ret)))))) }
noncomputable def p4400 : ProcT := { kind := .fn, ins := [0, 1], bins := [0], res := [.cell 4 8 true], code := (.seq (.region false [⟨some 4, .alloc 100 [.int .i64 0, .int .i64 0, .int .i64 0, .int .i64 0, .int .i64 0, .sl (.own false) .exp [], .sl (.own false) .stm [], .sl (.own false) .stm []], none, []⟩])
 (.seq (.seq (.region false [⟨some 6, .mv (.tmp 1), none, []⟩,
  ⟨some 7, .bin .lss (.tmp 6) (.const (.int .i64 1)), none, []⟩])
 (.cond (.tmp 7) (.seq (.region false [⟨some 8, .mv (.tmp 0), none, []⟩,
  ⟨some 9, .call 4200 0 [.tmp 8], none, []⟩,
  ⟨none, .store 8 (.tmp 4) (.tmp 9), none, []⟩])
 .ret) .skip))
 (.seq (.region false [⟨some 10, .mv (.tmp 0), none, []⟩,
  ⟨some 11, .mv (.tmp 1), none, []⟩,
  ⟨some 12, .call 200 0 [.tmp 10, .tmp 11], none, []⟩,
  ⟨some 5, .mv (.tmp 12), none, []⟩])
 (.seq (.seq (.region false [⟨some 13, .mv (.tmp 0), none, []⟩,
  ⟨some 14, .call 200 0 [.tmp 13, .const (.int .i64 2)], none, []⟩,
  ⟨some 15, .bin .eql (.tmp 14) (.const (.int .i64 0)), none, []⟩])
 (.cond (.tmp 15) (.seq (.region false [⟨some 16, .mv (.tmp 5), none, []⟩,
  ⟨some 17, .mv (.tmp 0), none, []⟩,
  ⟨some 18, .mv (.tmp 0), none, []⟩,
  ⟨some 19, .call 200 0 [.tmp 18, .const (.int .i64 3)], none, []⟩,
  ⟨some 20, .bin .add (.const (.int .i64 1)) (.tmp 19), none, []⟩,
  ⟨some 21, .call 700 0 [.tmp 17, .tmp 20], none, []⟩,
  ⟨some 22, .build [.int .i64 0, .int .i64 0, .int .i64 0, .int .i64 0, .int .i64 0, .sl (.own false) .exp [], .sl (.own false) .stm [], .sl (.own false) .stm []] [(0, 1, .const (.int .i64 4)), (2, 1, .tmp 16), (3, 3, .tmp 21)], none, []⟩,
  ⟨none, .store 8 (.tmp 4) (.tmp 22), none, []⟩])
 .ret) .skip))
 (.seq (.region false [⟨some 23, .mv (.tmp 5), none, []⟩,
  ⟨some 24, .mv (.tmp 0), none, []⟩,
  ⟨some 25, .call 200 0 [.tmp 24, .const (.int .i64 3)], none, []⟩,
  ⟨some 26, .build [.int .i64 0, .int .i64 0, .int .i64 0, .int .i64 0, .int .i64 0, .sl (.own false) .exp [], .sl (.own false) .stm [], .sl (.own false) .stm []] [(0, 1, .const (.int .i64 5)), (2, 1, .tmp 23), (1, 1, .tmp 25)], none, []⟩,
  ⟨none, .store 8 (.tmp 4) (.tmp 26), none, []⟩])
 .ret))))) }
noncomputable def p4500 : ProcT := { kind := .fn, ins := [0, 1, 2, 3], bins := [0], res := [.tmp 8], code := (.seq (.region false [⟨some 8, .mv (.const (.sl (.own false) .stm [])), none, []⟩])
 (.seq (.seq (.region false [⟨some 9, .mv (.tmp 0), none, []⟩,
  ⟨some 10, .call 200 0 [.tmp 9, .const (.int .i64 10)], none, []⟩])
 (.block 0 (.seq (.seq (.region false [⟨some 12, .bin .eql (.tmp 10) (.const (.int .i64 0)), none, []⟩,
  ⟨some 11, .mv (.tmp 12), none, []⟩])
 (.cond (.tmp 11) .skip (.region false [⟨some 13, .bin .eql (.tmp 10) (.const (.int .i64 1)), none, []⟩,
  ⟨some 11, .mv (.tmp 13), none, []⟩])))
 (.cond (.tmp 11) (.seq (.region false [⟨some 14, .mv (.tmp 0), none, []⟩,
  ⟨some 15, .call 4200 0 [.tmp 14], none, []⟩,
  ⟨some 16, .buildS (.own true) .stm [.tmp 15], none, []⟩,
  ⟨some 8, .mv (.take 16), none, []⟩])
 .ret) (.seq (.region false [⟨some 18, .bin .eql (.tmp 10) (.const (.int .i64 2)), none, []⟩,
  ⟨some 17, .mv (.tmp 18), none, []⟩])
 (.cond (.tmp 17) (.seq (.region false [⟨some 19, .mv (.tmp 2), none, []⟩,
  ⟨some 20, .bin .gtr (.tmp 19) (.const (.int .i64 0)), none, []⟩])
 (.cond (.tmp 20) (.seq (.region false [⟨some 21, .mv (.tmp 0), none, []⟩,
  ⟨some 22, .mv (.tmp 1), none, []⟩,
  ⟨some 23, .mv (.tmp 2), none, []⟩,
  ⟨some 24, .mv (.tmp 3), none, []⟩,
  ⟨some 25, .call 4100 0 [.tmp 21, .tmp 22, .tmp 23, .tmp 24], none, []⟩,
  ⟨some 26, .buildS (.own true) .stm [.tmp 25], none, []⟩,
  ⟨some 8, .mv (.take 26), none, []⟩])
 .ret) .skip)) (.seq (.region false [⟨some 28, .bin .eql (.tmp 10) (.const (.int .i64 3)), none, []⟩,
  ⟨some 27, .mv (.tmp 28), none, []⟩])
 (.cond (.tmp 27) (.seq (.region false [⟨some 29, .mv (.tmp 2), none, []⟩,
  ⟨some 30, .bin .gtr (.tmp 29) (.const (.int .i64 0)), none, []⟩,
  ⟨some 31, .mv (.tmp 30), none, []⟩,
  ⟨some 32, .mv (.tmp 3), some (31, true), []⟩,
  ⟨some 33, .pick (.tmp 31) (.tmp 32) (.const (.bool false)), none, []⟩])
 (.cond (.tmp 33) (.seq (.region false [⟨some 34, .mv (.tmp 0), none, []⟩,
  ⟨some 35, .mv (.tmp 1), none, []⟩,
  ⟨some 36, .mv (.tmp 2), none, []⟩,
  ⟨some 37, .call 4300 0 [.tmp 34, .tmp 35, .tmp 36], none, []⟩,
  ⟨some 8, .mv (.take 37), none, []⟩])
 .ret) .skip)) (.seq (.seq (.region false [⟨some 39, .bin .eql (.tmp 10) (.const (.int .i64 4)), none, []⟩,
  ⟨some 38, .mv (.tmp 39), none, []⟩])
 (.cond (.tmp 38) .skip (.seq (.region false [⟨some 40, .bin .eql (.tmp 10) (.const (.int .i64 5)), none, []⟩,
  ⟨some 38, .mv (.tmp 40), none, []⟩])
 (.cond (.tmp 38) .skip (.region false [⟨some 41, .bin .eql (.tmp 10) (.const (.int .i64 6)), none, []⟩,
  ⟨some 38, .mv (.tmp 41), none, []⟩])))))
 (.cond (.tmp 38) (.seq (.region false [⟨some 42, .mv (.tmp 0), none, []⟩,
  ⟨some 43, .mv (.tmp 1), none, []⟩,
  ⟨some 44, .call 4400 0 [.tmp 42, .tmp 43], none, []⟩,
  ⟨some 45, .buildS (.own true) .stm [.tmp 44], none, []⟩,
  ⟨some 8, .mv (.take 45), none, []⟩])
 .ret) (.seq (.region false [⟨some 47, .bin .eql (.tmp 10) (.const (.int .i64 7)), none, []⟩,
  ⟨some 46, .mv (.tmp 47), none, []⟩])
 (.cond (.tmp 46) (.seq (.region false [⟨some 48, .build [.int .i64 0, .int .i64 0, .int .i64 0, .int .i64 0, .int .i64 0, .sl (.own false) .exp [], .sl (.own false) .stm [], .sl (.own false) .stm []] [(0, 1, .const (.int .i64 6))], none, []⟩,
  ⟨some 49, .buildS (.own true) .stm [.tmp 48], none, []⟩,
  ⟨some 8, .mv (.take 49), none, []⟩])
 .ret) .skip))))))))))))
 (.seq (.region false [⟨some 50, .mv (.tmp 0), none, []⟩,
  ⟨some 51, .mv (.tmp 0), none, []⟩,
  ⟨some 52, .call 200 0 [.tmp 51, .const (.int .i64 3)], none, []⟩,
  ⟨some 53, .bin .add (.const (.int .i64 1)) (.tmp 52), none, []⟩,
  ⟨some 54, .call 700 0 [.tmp 50, .tmp 53], none, []⟩,
  ⟨some 55, .build [.int .i64 0, .int .i64 0, .int .i64 0, .int .i64 0, .int .i64 0, .sl (.own false) .exp [], .sl (.own false) .stm [], .sl (.own false) .stm []] [(0, 1, .const (.int .i64 7)), (3, 3, .tmp 54)], none, []⟩,
  ⟨some 56, .buildS (.own true) .stm [.tmp 55], none, []⟩,
  ⟨some 8, .mv (.take 56), none, []⟩])
 .ret))) }
noncomputable def p4600 : ProcT := { kind := .fn, ins := [0, 1, 2, 3, 4], bins := [0], res := [.tmp 10], code := (.seq (.region false [⟨some 10, .mv (.const (.sl (.own false) .stm [])), none, []⟩])
 (.seq (.region false [⟨some 13, .buildS (.own true) .stm [], none, []⟩,
  ⟨some 11, .mv (.take 13), none, []⟩])
 (.seq (.seq (.region false [⟨some 12, .mv (.const (.int .i64 0)), none, []⟩])
 (.block 0 (.label 4601)))
 (.seq (.region false [⟨some 26, .mv (.take 11), none, []⟩,
  ⟨some 10, .mv (.take 26), none, []⟩])
 .ret)))) }
noncomputable def p4601 : ProcT := { kind := .loop, ins := [0, 1, 2, 3, 4, 11, 12], bins := [0], outs := [0, 10, 11], bouts := [0], code := (.seq (.seq (.region false [⟨some 14, .mv (.tmp 12), none, []⟩,
  ⟨some 15, .mv (.tmp 3), none, []⟩,
  ⟨some 16, .bin .lss (.tmp 14) (.tmp 15), none, []⟩])
 (.cond (.tmp 16) .skip (.exit 0)))
 (.seq (.block 1 (.region false [⟨some 19, .mv (.take 11), none, []⟩,
  ⟨some 20, .mv (.tmp 0), none, []⟩,
  ⟨some 21, .mv (.tmp 1), none, []⟩,
  ⟨some 22, .mv (.tmp 2), none, []⟩,
  ⟨some 23, .mv (.tmp 4), none, []⟩,
  ⟨some 24, .call 4500 0 [.tmp 20, .tmp 21, .tmp 22, .tmp 23], none, []⟩,
  ⟨some 25, .app 8 (.take 19) (.tmp 24), none, []⟩,
  ⟨some 11, .mv (.take 25), none, []⟩]))
 (.region false [⟨some 17, .mv (.tmp 12), none, []⟩,
  ⟨some 18, .bin .add (.tmp 17) (.const (.int .i64 1)), none, []⟩,
  ⟨some 12, .mv (.tmp 18), none, []⟩]))) }
noncomputable def p5000 : ProcT := { kind := .fn, ins := [0], bins := [], res := [.tmp 2], code := (.seq (.region false [⟨some 2, .mv (.const (.bool false)), none, []⟩])
 (.seq (.region false [⟨some 3, .mv (.tmp 0), none, []⟩,
  ⟨some 4, .bin .geq (.tmp 3) (.const (.int .i64 (-2147483648))), none, []⟩,
  ⟨some 5, .mv (.tmp 4), none, []⟩,
  ⟨some 6, .mv (.tmp 0), some (5, true), []⟩,
  ⟨some 7, .bin .leq (.tmp 6) (.const (.int .i64 2147483647)), some (5, true), []⟩,
  ⟨some 8, .pick (.tmp 5) (.tmp 7) (.const (.bool false)), none, []⟩,
  ⟨some 2, .mv (.tmp 8), none, []⟩])
 .ret)) }
noncomputable def p5100 : ProcT := { kind := .fn, ins := [0], bins := [], res := [.tmp 2], code := (.seq (.region false [⟨some 2, .mv (.const (.bool false)), none, []⟩])
 (.seq (.seq (.region false [⟨some 5, .mv (.tmp 0), none, []⟩,
  ⟨some 6, .len (.tmp 5), none, []⟩,
  ⟨some 7, .mv (.const (.int .i64 0)), none, []⟩])
 (.block 0 (.label 5101)))
 (.seq (.region false [⟨some 2, .mv (.const (.bool true)), none, []⟩])
 .ret))) }
noncomputable def p5101 : ProcT := { kind := .loop, ins := [5, 6, 7], bins := [], outs := [2], bouts := [], code := (.seq (.region false [⟨some 8, .bin .lss (.tmp 7) (.tmp 6), none, []⟩])
 (.seq (.cond (.tmp 8) .skip (.exit 0))
 (.seq (.block 1 (.seq (.region false [⟨some 9, .iadr 1 (.tmp 5) (.tmp 7), none, []⟩,
  ⟨some 10, .load 1 false false (.tmp 9), none, []⟩,
  ⟨some 4, .mv (.tmp 10), none, []⟩])
 (.seq (.region false [⟨some 11, .mv (.tmp 4), none, []⟩,
  ⟨some 12, .call 5000 0 [.tmp 11], none, []⟩,
  ⟨some 13, .un .not (.tmp 12), none, []⟩])
 (.cond (.tmp 13) (.seq (.region false [⟨some 2, .mv (.const (.bool false)), none, []⟩])
 .ret) .skip))))
 (.region false [⟨some 14, .bin .add (.tmp 7) (.const (.int .i64 1)), none, []⟩,
  ⟨some 7, .mv (.tmp 14), none, []⟩])))) }
noncomputable def p5200 : ProcT := { kind := .fn, ins := [0, 1], bins := [], res := [.tmp 4], code := (.seq (.region false [⟨some 4, .mv (.const (.bool false)), none, []⟩])
 (.seq (.region false [⟨some 5, .alloc 100 [.bool false, .bool false, .bool false, .bool false, .bool false], none, []⟩])
 (.seq (.seq (.region false [⟨some 7, .mv (.tmp 0), none, []⟩,
  ⟨some 8, .nilck (.tmp 7), none, []⟩,
  ⟨some 9, .fadr 0 (.tmp 8), none, []⟩,
  ⟨some 10, .load 1 false false (.tmp 9), none, []⟩])
 (.block 0 (.seq (.region false [⟨some 12, .bin .eql (.tmp 10) (.const (.int .i64 1)), none, []⟩,
  ⟨some 11, .mv (.tmp 12), none, []⟩])
 (.cond (.tmp 11) (.region false [⟨some 13, .fadr 0 (.tmp 5), none, []⟩,
  ⟨none, .store 1 (.tmp 13) (.const (.bool true)), none, []⟩,
  ⟨some 14, .fadr 2 (.tmp 5), none, []⟩,
  ⟨none, .store 1 (.tmp 14) (.const (.bool true)), none, []⟩]) (.seq (.region false [⟨some 16, .bin .eql (.tmp 10) (.const (.int .i64 2)), none, []⟩,
  ⟨some 15, .mv (.tmp 16), none, []⟩])
 (.cond (.tmp 15) (.region false [⟨some 17, .fadr 2 (.tmp 5), none, []⟩,
  ⟨none, .store 1 (.tmp 17) (.const (.bool true)), none, []⟩,
  ⟨some 18, .fadr 3 (.tmp 5), none, []⟩,
  ⟨none, .store 1 (.tmp 18) (.const (.bool true)), none, []⟩,
  ⟨some 19, .fadr 4 (.tmp 5), none, []⟩,
  ⟨none, .store 1 (.tmp 19) (.const (.bool true)), none, []⟩]) (.seq (.region false [⟨some 21, .bin .eql (.tmp 10) (.const (.int .i64 3)), none, []⟩,
  ⟨some 20, .mv (.tmp 21), none, []⟩])
 (.cond (.tmp 20) (.region false [⟨some 22, .fadr 2 (.tmp 5), none, []⟩,
  ⟨none, .store 1 (.tmp 22) (.const (.bool true)), none, []⟩,
  ⟨some 23, .fadr 3 (.tmp 5), none, []⟩,
  ⟨none, .store 1 (.tmp 23) (.const (.bool true)), none, []⟩]) (.seq (.region false [⟨some 25, .bin .eql (.tmp 10) (.const (.int .i64 4)), none, []⟩,
  ⟨some 24, .mv (.tmp 25), none, []⟩])
 (.cond (.tmp 24) (.region false [⟨some 26, .fadr 1 (.tmp 5), none, []⟩,
  ⟨none, .store 1 (.tmp 26) (.const (.bool true)), none, []⟩,
  ⟨some 27, .fadr 2 (.tmp 5), none, []⟩,
  ⟨none, .store 1 (.tmp 27) (.const (.bool true)), none, []⟩]) (.seq (.region false [⟨some 29, .bin .eql (.tmp 10) (.const (.int .i64 5)), none, []⟩,
  ⟨some 28, .mv (.tmp 29), none, []⟩])
 (.cond (.tmp 28) (.region false [⟨some 30, .fadr 1 (.tmp 5), none, []⟩,
  ⟨none, .store 1 (.tmp 30) (.const (.bool true)), none, []⟩,
  ⟨some 31, .fadr 0 (.tmp 5), none, []⟩,
  ⟨none, .store 1 (.tmp 31) (.const (.bool true)), none, []⟩]) (.seq (.region false [⟨some 33, .bin .eql (.tmp 10) (.const (.int .i64 7)), none, []⟩,
  ⟨some 32, .mv (.tmp 33), none, []⟩])
 (.cond (.tmp 32) (.region false [⟨some 34, .fadr 2 (.tmp 5), none, []⟩,
  ⟨none, .store 1 (.tmp 34) (.const (.bool true)), none, []⟩]) (.seq (.region false [⟨some 36, .bin .eql (.tmp 10) (.const (.int .i64 6)), none, []⟩,
  ⟨some 35, .mv (.tmp 36), none, []⟩])
 (.cond (.tmp 35) .skip (.seq (.region false [⟨some 4, .mv (.const (.bool false)), none, []⟩])
 .ret)))))))))))))))))
 (.seq (.region false [⟨some 6, .mv (.func 11100), none, []⟩])
 (.seq (.seq (.region true [⟨some 37, .mv (.tmp 6), none, []⟩,
  ⟨some 38, .mv (.tmp 0), none, []⟩,
  ⟨some 39, .nilck (.tmp 38), none, []⟩,
  ⟨some 40, .fadr 1 (.tmp 39), none, []⟩,
  ⟨some 41, .load 1 false false (.tmp 40), none, []⟩,
  ⟨some 42, .fadr 0 (.tmp 5), none, [100]⟩,
  ⟨some 43, .load 1 false false (.tmp 42), none, [100]⟩,
  ⟨some 44, .callv (.tmp 37) [.tmp 41, .const (.int .i64 4), .tmp 43], none, []⟩,
  ⟨some 45, .un .not (.tmp 44), none, []⟩,
  ⟨some 46, .mv (.tmp 45), none, []⟩,
  ⟨some 47, .mv (.tmp 6), some (46, false), []⟩,
  ⟨some 48, .mv (.tmp 0), some (46, false), []⟩,
  ⟨some 49, .nilck (.tmp 48), some (46, false), []⟩,
  ⟨some 50, .fadr 2 (.tmp 49), some (46, false), []⟩,
  ⟨some 51, .load 1 false false (.tmp 50), some (46, false), []⟩,
  ⟨some 52, .mv (.tmp 1), some (46, false), []⟩,
  ⟨some 53, .fadr 1 (.tmp 5), some (46, false), [100]⟩,
  ⟨some 54, .load 1 false false (.tmp 53), some (46, false), [100]⟩,
  ⟨some 55, .callv (.tmp 47) [.tmp 51, .tmp 52, .tmp 54], some (46, false), []⟩,
  ⟨some 56, .un .not (.tmp 55), some (46, false), []⟩,
  ⟨some 57, .pick (.tmp 46) (.const (.bool true)) (.tmp 56), none, []⟩,
  ⟨some 58, .mv (.tmp 57), none, []⟩,
  ⟨some 59, .fadr 1 (.tmp 5), some (58, false), [100]⟩,
  ⟨some 60, .load 1 false false (.tmp 59), some (58, false), [100]⟩,
  ⟨some 61, .mv (.tmp 60), some (58, false), []⟩,
  ⟨some 62, .mv (.tmp 0), some (61, true), []⟩,
  ⟨some 63, .nilck (.tmp 62), some (61, true), []⟩,
  ⟨some 64, .fadr 2 (.tmp 63), some (61, true), []⟩,
  ⟨some 65, .load 1 false false (.tmp 64), some (61, true), []⟩,
  ⟨some 66, .mv (.tmp 1), some (61, true), []⟩,
  ⟨some 67, .bin .geq (.tmp 65) (.tmp 66), some (61, true), []⟩,
  ⟨some 68, .pick (.tmp 61) (.tmp 67) (.const (.bool false)), some (58, false), []⟩,
  ⟨some 69, .pick (.tmp 58) (.const (.bool true)) (.tmp 68), none, []⟩])
 (.cond (.tmp 69) (.seq (.region false [⟨some 4, .mv (.const (.bool false)), none, []⟩])
 .ret) .skip))
 (.seq (.seq (.region false [⟨some 70, .fadr 2 (.tmp 5), none, []⟩,
  ⟨some 71, .load 1 false false (.tmp 70), none, []⟩,
  ⟨some 72, .mv (.tmp 71), none, []⟩,
  ⟨some 73, .mv (.tmp 0), some (72, true), []⟩,
  ⟨some 74, .nilck (.tmp 73), some (72, true), []⟩,
  ⟨some 75, .fadr 3 (.tmp 74), some (72, true), []⟩,
  ⟨some 76, .load 3 true false (.tmp 75), some (72, true), []⟩,
  ⟨some 77, .call 1200 0 [.tmp 76], some (72, true), []⟩,
  ⟨some 78, .un .not (.tmp 77), some (72, true), []⟩,
  ⟨some 79, .pick (.tmp 72) (.tmp 78) (.const (.bool false)), none, []⟩,
  ⟨some 80, .mv (.tmp 79), none, []⟩,
  ⟨some 81, .fadr 2 (.tmp 5), some (80, false), []⟩,
  ⟨some 82, .load 1 false false (.tmp 81), some (80, false), []⟩,
  ⟨some 83, .un .not (.tmp 82), some (80, false), []⟩,
  ⟨some 84, .mv (.tmp 83), some (80, false), []⟩,
  ⟨some 85, .mv (.tmp 0), some (84, true), []⟩,
  ⟨some 86, .nilck (.tmp 85), some (84, true), []⟩,
  ⟨some 87, .fadr 3 (.tmp 86), some (84, true), []⟩,
  ⟨some 88, .fadr 0 (.tmp 87), some (84, true), []⟩,
  ⟨some 89, .load 1 false false (.tmp 88), some (84, true), []⟩,
  ⟨some 90, .bin .neq (.tmp 89) (.const (.int .i64 0)), some (84, true), []⟩,
  ⟨some 91, .mv (.tmp 90), some (84, true), []⟩,
  ⟨some 92, .mv (.tmp 0), some (91, false), []⟩,
  ⟨some 93, .nilck (.tmp 92), some (91, false), []⟩,
  ⟨some 94, .fadr 3 (.tmp 93), some (91, false), []⟩,
  ⟨some 95, .fadr 1 (.tmp 94), some (91, false), []⟩,
  ⟨some 96, .load 1 false false (.tmp 95), some (91, false), []⟩,
  ⟨some 97, .bin .neq (.tmp 96) (.const (.int .i64 0)), some (91, false), []⟩,
  ⟨some 98, .pick (.tmp 91) (.const (.bool true)) (.tmp 97), some (84, true), []⟩,
  ⟨some 99, .mv (.tmp 98), some (84, true), []⟩,
  ⟨some 100, .mv (.tmp 0), some (99, false), []⟩,
  ⟨some 101, .nilck (.tmp 100), some (99, false), []⟩,
  ⟨some 102, .fadr 3 (.tmp 101), some (99, false), []⟩,
  ⟨some 103, .fadr 2 (.tmp 102), some (99, false), []⟩,
  ⟨some 104, .load 1 false false (.tmp 103), some (99, false), []⟩,
  ⟨some 105, .len (.tmp 104), some (99, false), []⟩,
  ⟨some 106, .bin .gtr (.tmp 105) (.const (.int .i64 0)), some (99, false), []⟩,
  ⟨some 107, .pick (.tmp 99) (.const (.bool true)) (.tmp 106), some (84, true), []⟩,
  ⟨some 108, .pick (.tmp 84) (.tmp 107) (.const (.bool false)), some (80, false), []⟩,
  ⟨some 109, .pick (.tmp 80) (.const (.bool true)) (.tmp 108), none, []⟩])
 (.cond (.tmp 109) (.seq (.region false [⟨some 4, .mv (.const (.bool false)), none, []⟩])
 .ret) .skip))
 (.seq (.region false [⟨some 110, .fadr 3 (.tmp 5), none, []⟩,
  ⟨some 111, .load 1 false false (.tmp 110), none, []⟩,
  ⟨some 112, .mv (.tmp 111), none, []⟩,
  ⟨some 113, .mv (.tmp 0), some (112, false), []⟩,
  ⟨some 114, .nilck (.tmp 113), some (112, false), []⟩,
  ⟨some 115, .fadr 6 (.tmp 114), some (112, false), []⟩,
  ⟨some 116, .load 1 false false (.tmp 115), some (112, false), []⟩,
  ⟨some 117, .len (.tmp 116), some (112, false), []⟩,
  ⟨some 118, .bin .eql (.tmp 117) (.const (.int .i64 0)), some (112, false), []⟩,
  ⟨some 119, .pick (.tmp 112) (.const (.bool true)) (.tmp 118), none, []⟩,
  ⟨some 120, .mv (.tmp 119), none, []⟩,
  ⟨some 121, .fadr 4 (.tmp 5), some (120, true), []⟩,
  ⟨some 122, .load 1 false false (.tmp 121), some (120, true), []⟩,
  ⟨some 123, .mv (.tmp 122), some (120, true), []⟩,
  ⟨some 124, .mv (.tmp 0), some (123, false), []⟩,
  ⟨some 125, .nilck (.tmp 124), some (123, false), []⟩,
  ⟨some 126, .fadr 7 (.tmp 125), some (123, false), []⟩,
  ⟨some 127, .load 1 false false (.tmp 126), some (123, false), []⟩,
  ⟨some 128, .len (.tmp 127), some (123, false), []⟩,
  ⟨some 129, .bin .eql (.tmp 128) (.const (.int .i64 0)), some (123, false), []⟩,
  ⟨some 130, .pick (.tmp 123) (.const (.bool true)) (.tmp 129), some (120, true), []⟩,
  ⟨some 131, .pick (.tmp 120) (.tmp 130) (.const (.bool false)), none, []⟩,
  ⟨some 4, .mv (.tmp 131), none, []⟩])
 .ret))))))) }
noncomputable def p5300 : ProcT := { kind := .fn, ins := [0, 1, 2, 3], bins := [0], res := [.tmp 8], code := (.seq (.region false [⟨some 8, .mv (.const (.bool false)), none, []⟩])
 (.seq (.region false [⟨some 11, .mv (.tmp 3), none, []⟩,
  ⟨some 12, .nilck (.tmp 11), none, []⟩,
  ⟨some 13, .load 1 false false (.tmp 12), none, []⟩,
  ⟨some 14, .mv (.tmp 0), none, []⟩,
  ⟨some 15, .len (.tmp 14), none, []⟩,
  ⟨some 16, .bin .add (.tmp 13) (.tmp 15), none, []⟩,
  ⟨some 17, .nilck (.tmp 11), none, []⟩,
  ⟨none, .store 1 (.tmp 17) (.tmp 16), none, []⟩])
 (.seq (.seq (.region false [⟨some 18, .mv (.tmp 3), none, []⟩,
  ⟨some 19, .nilck (.tmp 18), none, []⟩,
  ⟨some 20, .load 1 false false (.tmp 19), none, []⟩,
  ⟨some 21, .bin .gtr (.tmp 20) (.const (.int .i64 16)), none, []⟩])
 (.cond (.tmp 21) (.seq (.region false [⟨some 8, .mv (.const (.bool false)), none, []⟩])
 .ret) .skip))
 (.seq (.seq (.region false [⟨some 22, .mv (.tmp 0), none, []⟩,
  ⟨some 23, .len (.tmp 22), none, []⟩,
  ⟨some 24, .mv (.const (.int .i64 0)), none, []⟩])
 (.block 0 (.label 5301)))
 (.seq (.region false [⟨some 8, .mv (.const (.bool true)), none, []⟩])
 .ret))))) }
noncomputable def p5301 : ProcT := { kind := .loop, ins := [0, 1, 2, 3, 23, 24], bins := [0], outs := [3, 8], bouts := [0], code := (.seq (.region false [⟨some 25, .bin .lss (.tmp 24) (.tmp 23), none, []⟩])
 (.seq (.cond (.tmp 25) .skip (.exit 0))
 (.seq (.block 1 (.seq (.region false [⟨some 26, .mv (.tmp 24), none, []⟩,
  ⟨some 9, .mv (.tmp 26), none, []⟩])
 (.seq (.region false [⟨some 27, .mv (.tmp 0), none, []⟩,
  ⟨some 28, .mv (.tmp 9), none, []⟩,
  ⟨some 29, .iadr 8 (.tmp 27) (.tmp 28), none, []⟩,
  ⟨some 10, .mv (.tmp 29), none, []⟩])
 (.seq (.seq (.region false [⟨some 30, .mv (.tmp 10), none, []⟩,
  ⟨some 31, .mv (.tmp 1), none, []⟩,
  ⟨some 32, .call 5200 0 [.tmp 30, .tmp 31], none, []⟩,
  ⟨some 33, .un .not (.tmp 32), none, []⟩,
  ⟨some 34, .mv (.tmp 33), none, []⟩,
  ⟨some 35, .mv (.tmp 2), some (34, false), []⟩,
  ⟨some 36, .bin .gtr (.tmp 35) (.const (.int .i64 3)), some (34, false), []⟩,
  ⟨some 37, .pick (.tmp 34) (.const (.bool true)) (.tmp 36), none, []⟩])
 (.cond (.tmp 37) (.seq (.region false [⟨some 8, .mv (.const (.bool false)), none, []⟩])
 .ret) .skip))
 (.seq (.seq (.region false [⟨some 38, .mv (.tmp 10), none, []⟩,
  ⟨some 39, .nilck (.tmp 38), none, []⟩,
  ⟨some 40, .fadr 0 (.tmp 39), none, []⟩,
  ⟨some 41, .load 1 false false (.tmp 40), none, []⟩,
  ⟨some 42, .bin .neq (.tmp 41) (.const (.int .i64 2)), none, []⟩,
  ⟨some 43, .mv (.tmp 42), none, []⟩,
  ⟨some 44, .mv (.tmp 10), some (43, true), []⟩,
  ⟨some 45, .nilck (.tmp 44), some (43, true), []⟩,
  ⟨some 46, .fadr 0 (.tmp 45), some (43, true), []⟩,
  ⟨some 47, .load 1 false false (.tmp 46), some (43, true), []⟩,
  ⟨some 48, .bin .neq (.tmp 47) (.const (.int .i64 3)), some (43, true), []⟩,
  ⟨some 49, .pick (.tmp 43) (.tmp 48) (.const (.bool false)), none, []⟩])
 (.cond (.tmp 49) (.exit 1) .skip))
 (.seq (.region false [⟨some 50, .mv (.tmp 2), none, []⟩,
  ⟨some 51, .bin .geq (.tmp 50) (.const (.int .i64 3)), none, []⟩,
  ⟨some 52, .mv (.tmp 51), none, []⟩,
  ⟨some 53, .mv (.tmp 10), some (52, false), []⟩,
  ⟨some 54, .nilck (.tmp 53), some (52, false), []⟩,
  ⟨some 55, .fadr 6 (.tmp 54), some (52, false), []⟩,
  ⟨some 56, .load 1 false false (.tmp 55), some (52, false), []⟩,
  ⟨some 57, .mv (.tmp 1), some (52, false), []⟩,
  ⟨some 58, .mv (.tmp 2), some (52, false), []⟩,
  ⟨some 59, .bin .add (.tmp 58) (.const (.int .i64 1)), some (52, false), []⟩,
  ⟨some 60, .mv (.tmp 3), some (52, false), []⟩,
  ⟨some 61, .call 5300 0 [.tmp 56, .tmp 57, .tmp 59, .tmp 60], some (52, false), []⟩,
  ⟨some 62, .un .not (.tmp 61), some (52, false), []⟩,
  ⟨some 63, .pick (.tmp 52) (.const (.bool true)) (.tmp 62), none, []⟩,
  ⟨some 64, .mv (.tmp 63), none, []⟩,
  ⟨some 65, .mv (.tmp 10), some (64, false), []⟩,
  ⟨some 66, .nilck (.tmp 65), some (64, false), []⟩,
  ⟨some 67, .fadr 7 (.tmp 66), some (64, false), []⟩,
  ⟨some 68, .load 1 false false (.tmp 67), some (64, false), []⟩,
  ⟨some 69, .mv (.tmp 1), some (64, false), []⟩,
  ⟨some 70, .mv (.tmp 2), some (64, false), []⟩,
  ⟨some 71, .bin .add (.tmp 70) (.const (.int .i64 1)), some (64, false), []⟩,
  ⟨some 72, .mv (.tmp 3), some (64, false), []⟩,
  ⟨some 73, .call 5300 0 [.tmp 68, .tmp 69, .tmp 71, .tmp 72], some (64, false), []⟩,
  ⟨some 74, .un .not (.tmp 73), some (64, false), []⟩,
  ⟨some 75, .pick (.tmp 64) (.const (.bool true)) (.tmp 74), none, []⟩])
 (.cond (.tmp 75) (.seq (.region false [⟨some 8, .mv (.const (.bool false)), none, []⟩])
 .ret) .skip)))))))
 (.region false [⟨some 76, .bin .add (.tmp 24) (.const (.int .i64 1)), none, []⟩,
  ⟨some 24, .mv (.tmp 76), none, []⟩])))) }
noncomputable def p5400 : ProcT := { kind := .fn, ins := [0, 1], bins := [], res := [.tmp 4], code := (.seq (.region false [⟨some 4, .mv (.const (.bool false)), none, []⟩])
 (.seq (.region false [⟨some 5, .alloc 100 [.int .i64 0], none, []⟩,
  ⟨none, .store 1 (.tmp 5) (.const (.int .i64 0)), none, []⟩])
 (.seq (.region false [⟨some 6, .mv (.tmp 0), none, []⟩,
  ⟨some 7, .mv (.tmp 1), none, []⟩,
  ⟨some 8, .call 5300 0 [.tmp 6, .tmp 7, .const (.int .i64 0), .tmp 5], none, []⟩,
  ⟨some 4, .mv (.tmp 8), none, []⟩])
 .ret))) }
noncomputable def p5500 : ProcT := { kind := .fn, ins := [0, 1], bins := [], res := [.tmp 4], code := (.seq (.region false [⟨some 2, .box 100 (.tmp 0), none, []⟩,
  ⟨some 4, .mv (.const (.bool false)), none, []⟩])
 (.seq (.seq (.region false [⟨some 6, .fadr 0 (.tmp 2), none, []⟩,
  ⟨some 7, .load 1 false false (.tmp 6), none, []⟩,
  ⟨some 8, .len (.tmp 7), none, []⟩,
  ⟨some 9, .bin .neq (.tmp 8) (.const (.int .i64 4)), none, []⟩,
  ⟨some 10, .mv (.tmp 9), none, []⟩,
  ⟨some 11, .fadr 0 (.tmp 2), some (10, false), []⟩,
  ⟨some 12, .load 1 false false (.tmp 11), some (10, false), []⟩,
  ⟨some 13, .call 5100 0 [.tmp 12], some (10, false), []⟩,
  ⟨some 14, .un .not (.tmp 13), some (10, false), []⟩,
  ⟨some 15, .pick (.tmp 10) (.const (.bool true)) (.tmp 14), none, []⟩])
 (.cond (.tmp 15) (.seq (.region false [⟨some 4, .mv (.const (.bool false)), none, []⟩])
 .ret) .skip))
 (.seq (.seq (.region false [⟨some 16, .fadr 1 (.tmp 2), none, []⟩,
  ⟨some 17, .load 1 false false (.tmp 16), none, []⟩,
  ⟨some 18, .len (.tmp 17), none, []⟩,
  ⟨some 19, .mv (.const (.int .i64 0)), none, []⟩])
 (.block 0 (.label 5501)))
 (.seq (.region false [⟨some 4, .mv (.const (.bool true)), none, []⟩])
 .ret)))) }
noncomputable def p5501 : ProcT := { kind := .loop, ins := [1, 2, 18, 19], bins := [100], outs := [4], bouts := [], code := (.seq (.region false [⟨some 20, .bin .lss (.tmp 19) (.tmp 18), none, []⟩])
 (.seq (.cond (.tmp 20) .skip (.exit 0))
 (.seq (.block 1 (.seq (.region false [⟨some 21, .mv (.tmp 19), none, []⟩,
  ⟨some 5, .mv (.tmp 21), none, []⟩])
 (.seq (.region false [⟨some 22, .fadr 1 (.tmp 2), none, []⟩,
  ⟨some 23, .load 1 false false (.tmp 22), none, []⟩,
  ⟨some 24, .mv (.tmp 5), none, []⟩,
  ⟨some 25, .mv (.tmp 5), none, []⟩,
  ⟨some 26, .bin .add (.tmp 25) (.const (.int .i64 1)), none, []⟩,
  ⟨some 27, .slc 8 (.tmp 23) (some (.tmp 24)) (some (.tmp 26)) none, none, []⟩,
  ⟨some 28, .mv (.tmp 1), none, []⟩,
  ⟨some 29, .call 5400 0 [.tmp 27, .tmp 28], none, []⟩,
  ⟨some 30, .un .not (.tmp 29), none, []⟩])
 (.cond (.tmp 30) (.seq (.region false [⟨some 4, .mv (.const (.bool false)), none, []⟩])
 .ret) .skip))))
 (.region false [⟨some 31, .bin .add (.tmp 19) (.const (.int .i64 1)), none, []⟩,
  ⟨some 19, .mv (.tmp 31), none, []⟩])))) }
noncomputable def p5700 : ProcT := { kind := .fn, ins := [0, 1], bins := [], res := [.tmp 4], code := (.seq (.region false [⟨some 2, .box 100 (.tmp 0), none, []⟩,
  ⟨some 4, .mv (.const (.bool false)), none, []⟩])
 (.seq (.seq (.region false [⟨some 5, .mv (.tmp 1), none, []⟩])
 (.cond (.tmp 5) (.seq (.region false [⟨some 6, .fadr 1 (.tmp 2), none, []⟩,
  ⟨some 7, .load 1 false false (.tmp 6), none, []⟩,
  ⟨some 8, .call 1600 0 [.tmp 7, .const (.int .i64 0), .const (.int .i64 3)], none, []⟩,
  ⟨some 4, .mv (.tmp 8), none, []⟩])
 .ret) .skip))
 (.seq (.region false [⟨some 9, .fadr 1 (.tmp 2), none, []⟩,
  ⟨some 10, .load 1 false false (.tmp 9), none, []⟩,
  ⟨some 11, .bin .eql (.tmp 10) (.const (.int .i64 0)), none, []⟩,
  ⟨some 4, .mv (.tmp 11), none, []⟩])
 .ret))) }
noncomputable def p5800 : ProcT := { kind := .fn, ins := [0, 1], bins := [], res := [.tmp 4], code := (.seq (.region false [⟨some 2, .box 100 (.tmp 0), none, []⟩,
  ⟨some 4, .mv (.const (.bool false)), none, []⟩])
 (.seq (.seq (.region false [⟨some 5, .mv (.tmp 1), none, []⟩])
 (.cond (.tmp 5) (.seq (.region false [⟨some 6, .fadr 2 (.tmp 2), none, []⟩,
  ⟨some 7, .load 1 false false (.tmp 6), none, []⟩,
  ⟨some 8, .call 1600 0 [.tmp 7, .const (.int .i64 0), .const (.int .i64 2)], none, []⟩,
  ⟨some 4, .mv (.tmp 8), none, []⟩])
 .ret) .skip))
 (.seq (.region false [⟨some 9, .fadr 2 (.tmp 2), none, []⟩,
  ⟨some 10, .load 1 false false (.tmp 9), none, []⟩,
  ⟨some 11, .bin .eql (.tmp 10) (.const (.int .i64 0)), none, []⟩,
  ⟨some 4, .mv (.tmp 11), none, []⟩])
 .ret))) }
noncomputable def p5900 : ProcT := { kind := .fn, ins := [0], bins := [], res := [.tmp 2], code := (.seq (.region false [⟨some 1, .box 100 (.tmp 0), none, []⟩,
  ⟨some 2, .mv (.const (.bool false)), none, []⟩])
 (.seq (.region false [⟨some 3, .fadr 0 (.tmp 1), none, []⟩,
  ⟨some 4, .load 1 false false (.tmp 3), none, []⟩,
  ⟨some 5, .bin .eql (.tmp 4) (.const (.int .i64 0)), none, []⟩,
  ⟨some 6, .mv (.tmp 5), none, []⟩,
  ⟨some 7, .fadr 1 (.tmp 1), some (6, true), []⟩,
  ⟨some 8, .load 1 false false (.tmp 7), some (6, true), []⟩,
  ⟨some 9, .bin .eql (.tmp 8) (.const (.int .i64 0)), some (6, true), []⟩,
  ⟨some 10, .pick (.tmp 6) (.tmp 9) (.const (.bool false)), none, []⟩,
  ⟨some 11, .mv (.tmp 10), none, []⟩,
  ⟨some 12, .fadr 2 (.tmp 1), some (11, true), []⟩,
  ⟨some 13, .load 1 false false (.tmp 12), some (11, true), []⟩,
  ⟨some 14, .len (.tmp 13), some (11, true), []⟩,
  ⟨some 15, .bin .eql (.tmp 14) (.const (.int .i64 0)), some (11, true), []⟩,
  ⟨some 16, .pick (.tmp 11) (.tmp 15) (.const (.bool false)), none, []⟩,
  ⟨some 2, .mv (.tmp 16), none, []⟩])
 .ret)) }
noncomputable def p6000 : ProcT := { kind := .fn, ins := [0], bins := [], res := [.tmp 2], code := (.seq (.region false [⟨some 1, .box 100 (.tmp 0), none, []⟩,
  ⟨some 2, .mv (.const (.bool false)), none, []⟩])
 (.seq (.seq (.region false [⟨some 3, .fadr 6 (.tmp 1), none, []⟩,
  ⟨some 4, .load 1 false false (.tmp 3), none, []⟩,
  ⟨some 5, .len (.tmp 4), none, []⟩,
  ⟨some 6, .bin .gtr (.tmp 5) (.const (.int .i64 0)), none, []⟩,
  ⟨some 7, .mv (.tmp 6), none, []⟩,
  ⟨some 8, .fadr 7 (.tmp 1), some (7, false), []⟩,
  ⟨some 9, .load 1 false false (.tmp 8), some (7, false), []⟩,
  ⟨some 10, .len (.tmp 9), some (7, false), []⟩,
  ⟨some 11, .bin .gtr (.tmp 10) (.const (.int .i64 0)), some (7, false), []⟩,
  ⟨some 12, .pick (.tmp 7) (.const (.bool true)) (.tmp 11), none, []⟩])
 (.cond (.tmp 12) (.seq (.region false [⟨some 2, .mv (.const (.bool false)), none, []⟩])
 .ret) .skip))
 (.seq (.seq (.region false [⟨some 13, .fadr 0 (.tmp 1), none, []⟩,
  ⟨some 14, .load 1 false false (.tmp 13), none, []⟩])
 (.block 0 (.seq (.region false [⟨some 16, .bin .eql (.tmp 14) (.const (.int .i64 1)), none, []⟩,
  ⟨some 15, .mv (.tmp 16), none, []⟩])
 (.cond (.tmp 15) (.seq (.region false [⟨some 17, .load 8 true false (.tmp 1), none, []⟩,
  ⟨some 18, .call 5700 0 [.tmp 17, .const (.bool true)], none, []⟩,
  ⟨some 19, .mv (.tmp 18), none, []⟩,
  ⟨some 20, .load 8 true false (.tmp 1), some (19, true), []⟩,
  ⟨some 21, .call 5800 0 [.tmp 20, .const (.bool false)], some (19, true), []⟩,
  ⟨some 22, .pick (.tmp 19) (.tmp 21) (.const (.bool false)), none, []⟩,
  ⟨some 23, .mv (.tmp 22), none, []⟩,
  ⟨some 24, .fadr 3 (.tmp 1), some (23, true), []⟩,
  ⟨some 25, .load 3 true false (.tmp 24), some (23, true), []⟩,
  ⟨some 26, .call 1900 0 [.tmp 25], some (23, true), []⟩,
  ⟨some 27, .pick (.tmp 23) (.tmp 26) (.const (.bool false)), none, []⟩,
  ⟨some 2, .mv (.tmp 27), none, []⟩])
 .ret) (.seq (.region false [⟨some 29, .bin .eql (.tmp 14) (.const (.int .i64 4)), none, []⟩,
  ⟨some 28, .mv (.tmp 29), none, []⟩])
 (.cond (.tmp 28) (.seq (.region false [⟨some 30, .load 8 true false (.tmp 1), none, []⟩,
  ⟨some 31, .call 5700 0 [.tmp 30, .const (.bool false)], none, []⟩,
  ⟨some 32, .mv (.tmp 31), none, []⟩,
  ⟨some 33, .load 8 true false (.tmp 1), some (32, true), []⟩,
  ⟨some 34, .call 5800 0 [.tmp 33, .const (.bool true)], some (32, true), []⟩,
  ⟨some 35, .pick (.tmp 32) (.tmp 34) (.const (.bool false)), none, []⟩,
  ⟨some 36, .mv (.tmp 35), none, []⟩,
  ⟨some 37, .fadr 3 (.tmp 1), some (36, true), []⟩,
  ⟨some 38, .load 3 true false (.tmp 37), some (36, true), []⟩,
  ⟨some 39, .call 1900 0 [.tmp 38], some (36, true), []⟩,
  ⟨some 40, .pick (.tmp 36) (.tmp 39) (.const (.bool false)), none, []⟩,
  ⟨some 2, .mv (.tmp 40), none, []⟩])
 .ret) (.seq (.region false [⟨some 42, .bin .eql (.tmp 14) (.const (.int .i64 5)), none, []⟩,
  ⟨some 41, .mv (.tmp 42), none, []⟩])
 (.cond (.tmp 41) (.seq (.region false [⟨some 43, .load 8 true false (.tmp 1), none, []⟩,
  ⟨some 44, .call 5700 0 [.tmp 43, .const (.bool true)], none, []⟩,
  ⟨some 45, .mv (.tmp 44), none, []⟩,
  ⟨some 46, .load 8 true false (.tmp 1), some (45, true), []⟩,
  ⟨some 47, .call 5800 0 [.tmp 46, .const (.bool true)], some (45, true), []⟩,
  ⟨some 48, .pick (.tmp 45) (.tmp 47) (.const (.bool false)), none, []⟩,
  ⟨some 49, .mv (.tmp 48), none, []⟩,
  ⟨some 50, .fadr 3 (.tmp 1), some (49, true), []⟩,
  ⟨some 51, .load 3 true false (.tmp 50), some (49, true), []⟩,
  ⟨some 52, .call 5900 0 [.tmp 51], some (49, true), []⟩,
  ⟨some 53, .pick (.tmp 49) (.tmp 52) (.const (.bool false)), none, []⟩,
  ⟨some 2, .mv (.tmp 53), none, []⟩])
 .ret) (.seq (.region false [⟨some 55, .bin .eql (.tmp 14) (.const (.int .i64 6)), none, []⟩,
  ⟨some 54, .mv (.tmp 55), none, []⟩])
 (.cond (.tmp 54) (.seq (.region false [⟨some 56, .load 8 true false (.tmp 1), none, []⟩,
  ⟨some 57, .call 5700 0 [.tmp 56, .const (.bool false)], none, []⟩,
  ⟨some 58, .mv (.tmp 57), none, []⟩,
  ⟨some 59, .load 8 true false (.tmp 1), some (58, true), []⟩,
  ⟨some 60, .call 5800 0 [.tmp 59, .const (.bool false)], some (58, true), []⟩,
  ⟨some 61, .pick (.tmp 58) (.tmp 60) (.const (.bool false)), none, []⟩,
  ⟨some 62, .mv (.tmp 61), none, []⟩,
  ⟨some 63, .fadr 3 (.tmp 1), some (62, true), []⟩,
  ⟨some 64, .load 3 true false (.tmp 63), some (62, true), []⟩,
  ⟨some 65, .call 5900 0 [.tmp 64], some (62, true), []⟩,
  ⟨some 66, .pick (.tmp 62) (.tmp 65) (.const (.bool false)), none, []⟩,
  ⟨some 2, .mv (.tmp 66), none, []⟩])
 .ret) (.seq (.region false [⟨some 68, .bin .eql (.tmp 14) (.const (.int .i64 7)), none, []⟩,
  ⟨some 67, .mv (.tmp 68), none, []⟩])
 (.cond (.tmp 67) (.seq (.region false [⟨some 69, .load 8 true false (.tmp 1), none, []⟩,
  ⟨some 70, .call 5700 0 [.tmp 69, .const (.bool false)], none, []⟩,
  ⟨some 71, .mv (.tmp 70), none, []⟩,
  ⟨some 72, .load 8 true false (.tmp 1), some (71, true), []⟩,
  ⟨some 73, .call 5800 0 [.tmp 72, .const (.bool false)], some (71, true), []⟩,
  ⟨some 74, .pick (.tmp 71) (.tmp 73) (.const (.bool false)), none, []⟩,
  ⟨some 75, .mv (.tmp 74), none, []⟩,
  ⟨some 76, .fadr 3 (.tmp 1), some (75, true), []⟩,
  ⟨some 77, .load 3 true false (.tmp 76), some (75, true), []⟩,
  ⟨some 78, .call 1900 0 [.tmp 77], some (75, true), []⟩,
  ⟨some 79, .pick (.tmp 75) (.tmp 78) (.const (.bool false)), none, []⟩,
  ⟨some 2, .mv (.tmp 79), none, []⟩])
 .ret) .skip))))))))))))
 (.seq (.region false [⟨some 2, .mv (.const (.bool false)), none, []⟩])
 .ret)))) }
noncomputable def p6100 : ProcT := { kind := .fn, ins := [0, 1], bins := [], res := [.tmp 4], code := (.seq (.region false [⟨some 2, .box 100 (.tmp 0), none, []⟩,
  ⟨some 4, .mv (.const (.bool false)), none, []⟩])
 (.seq (.seq (.region false [⟨some 5, .fadr 0 (.tmp 2), none, []⟩,
  ⟨some 6, .load 1 false false (.tmp 5), none, []⟩,
  ⟨some 7, .bin .neq (.tmp 6) (.const (.int .i64 2)), none, []⟩,
  ⟨some 8, .mv (.tmp 7), none, []⟩,
  ⟨some 9, .fadr 0 (.tmp 2), some (8, true), []⟩,
  ⟨some 10, .load 1 false false (.tmp 9), some (8, true), []⟩,
  ⟨some 11, .bin .neq (.tmp 10) (.const (.int .i64 3)), some (8, true), []⟩,
  ⟨some 12, .pick (.tmp 8) (.tmp 11) (.const (.bool false)), none, []⟩])
 (.cond (.tmp 12) (.seq (.region false [⟨some 13, .load 8 true false (.tmp 2), none, []⟩,
  ⟨some 14, .call 6000 0 [.tmp 13], none, []⟩,
  ⟨some 4, .mv (.tmp 14), none, []⟩])
 .ret) .skip))
 (.seq (.seq (.region false [⟨some 15, .mv (.tmp 1), none, []⟩,
  ⟨some 16, .bin .lss (.tmp 15) (.const (.int .i64 1)), none, []⟩,
  ⟨some 17, .mv (.tmp 16), none, []⟩,
  ⟨some 18, .fadr 0 (.tmp 2), some (17, false), []⟩,
  ⟨some 19, .load 1 false false (.tmp 18), some (17, false), []⟩,
  ⟨some 20, .bin .eql (.tmp 19) (.const (.int .i64 3)), some (17, false), []⟩,
  ⟨some 21, .mv (.tmp 20), some (17, false), []⟩,
  ⟨some 22, .fadr 7 (.tmp 2), some (21, true), []⟩,
  ⟨some 23, .load 1 false false (.tmp 22), some (21, true), []⟩,
  ⟨some 24, .len (.tmp 23), some (21, true), []⟩,
  ⟨some 25, .bin .gtr (.tmp 24) (.const (.int .i64 0)), some (21, true), []⟩,
  ⟨some 26, .pick (.tmp 21) (.tmp 25) (.const (.bool false)), some (17, false), []⟩,
  ⟨some 27, .pick (.tmp 17) (.const (.bool true)) (.tmp 26), none, []⟩])
 (.cond (.tmp 27) (.seq (.region false [⟨some 4, .mv (.const (.bool false)), none, []⟩])
 .ret) .skip))
 (.seq (.region false [⟨some 28, .load 8 true false (.tmp 2), none, []⟩,
  ⟨some 29, .call 5700 0 [.tmp 28, .const (.bool false)], none, []⟩,
  ⟨some 30, .mv (.tmp 29), none, []⟩,
  ⟨some 31, .load 8 true false (.tmp 2), some (30, true), []⟩,
  ⟨some 32, .call 5800 0 [.tmp 31, .const (.bool false)], some (30, true), []⟩,
  ⟨some 33, .pick (.tmp 30) (.tmp 32) (.const (.bool false)), none, []⟩,
  ⟨some 34, .mv (.tmp 33), none, []⟩,
  ⟨some 35, .fadr 3 (.tmp 2), some (34, true), []⟩,
  ⟨some 36, .load 3 true false (.tmp 35), some (34, true), []⟩,
  ⟨some 37, .call 1900 0 [.tmp 36], some (34, true), []⟩,
  ⟨some 38, .pick (.tmp 34) (.tmp 37) (.const (.bool false)), none, []⟩,
  ⟨some 39, .mv (.tmp 38), none, []⟩,
  ⟨some 40, .fadr 6 (.tmp 2), some (39, true), []⟩,
  ⟨some 41, .load 1 false false (.tmp 40), some (39, true), []⟩,
  ⟨some 42, .mv (.tmp 1), some (39, true), []⟩,
  ⟨some 43, .bin .sub (.tmp 42) (.const (.int .i64 1)), some (39, true), []⟩,
  ⟨some 44, .call 6200 0 [.tmp 41, .tmp 43], some (39, true), []⟩,
  ⟨some 45, .pick (.tmp 39) (.tmp 44) (.const (.bool false)), none, []⟩,
  ⟨some 46, .mv (.tmp 45), none, []⟩,
  ⟨some 47, .fadr 7 (.tmp 2), some (46, true), []⟩,
  ⟨some 48, .load 1 false false (.tmp 47), some (46, true), []⟩,
  ⟨some 49, .mv (.tmp 1), some (46, true), []⟩,
  ⟨some 50, .bin .sub (.tmp 49) (.const (.int .i64 1)), some (46, true), []⟩,
  ⟨some 51, .call 6200 0 [.tmp 48, .tmp 50], some (46, true), []⟩,
  ⟨some 52, .pick (.tmp 46) (.tmp 51) (.const (.bool false)), none, []⟩,
  ⟨some 4, .mv (.tmp 52), none, []⟩])
 .ret)))) }
noncomputable def p6200 : ProcT := { kind := .fn, ins := [0, 1], bins := [], res := [.tmp 4], code := (.seq (.region false [⟨some 4, .mv (.const (.bool false)), none, []⟩])
 (.seq (.seq (.region false [⟨some 5, .mv (.const (.int .i64 0)), none, []⟩])
 (.block 0 (.label 6201)))
 (.seq (.region false [⟨some 4, .mv (.const (.bool true)), none, []⟩])
 .ret))) }
noncomputable def p6201 : ProcT := { kind := .loop, ins := [0, 1, 5], bins := [], outs := [4], bouts := [], code := (.seq (.seq (.region false [⟨some 6, .mv (.tmp 5), none, []⟩,
  ⟨some 7, .mv (.tmp 0), none, []⟩,
  ⟨some 8, .len (.tmp 7), none, []⟩,
  ⟨some 9, .bin .lss (.tmp 6) (.tmp 8), none, []⟩])
 (.cond (.tmp 9) .skip (.exit 0)))
 (.seq (.block 1 (.seq (.region false [⟨some 12, .mv (.tmp 0), none, []⟩,
  ⟨some 13, .mv (.tmp 5), none, []⟩,
  ⟨some 14, .iadr 8 (.tmp 12) (.tmp 13), none, []⟩,
  ⟨some 15, .load 8 true false (.tmp 14), none, []⟩,
  ⟨some 16, .mv (.tmp 1), none, []⟩,
  ⟨some 17, .call 6100 0 [.tmp 15, .tmp 16], none, []⟩,
  ⟨some 18, .un .not (.tmp 17), none, []⟩])
 (.cond (.tmp 18) (.seq (.region false [⟨some 4, .mv (.const (.bool false)), none, []⟩])
 .ret) .skip)))
 (.region false [⟨some 10, .mv (.tmp 5), none, []⟩,
  ⟨some 11, .bin .add (.tmp 10) (.const (.int .i64 1)), none, []⟩,
  ⟨some 5, .mv (.tmp 11), none, []⟩]))) }
noncomputable def p6300 : ProcT := { kind := .fn, ins := [0], bins := [], res := [.tmp 2], code := (.seq (.region false [⟨some 2, .mv (.const (.bool false)), none, []⟩])
 (.seq (.region false [⟨some 3, .mv (.tmp 0), none, []⟩,
  ⟨some 4, .call 6200 0 [.tmp 3, .const (.int .i64 3)], none, []⟩,
  ⟨some 5, .mv (.tmp 4), none, []⟩,
  ⟨some 6, .mv (.tmp 0), some (5, true), []⟩,
  ⟨some 7, .call 4000 0 [.tmp 6], some (5, true), []⟩,
  ⟨some 8, .bin .leq (.tmp 7) (.const (.int .i64 16)), some (5, true), []⟩,
  ⟨some 9, .pick (.tmp 5) (.tmp 8) (.const (.bool false)), none, []⟩,
  ⟨some 2, .mv (.tmp 9), none, []⟩])
 .ret)) }
noncomputable def p8700 : ProcT := { kind := .fn, ins := [0], bins := [0], res := [.cell 2 8 true], code := (.seq (.region false [⟨some 2, .alloc 100 [.int .i64 0, .int .i64 0, .int .i64 0, .int .i64 0, .int .i64 0, .sl (.own false) .exp [], .sl (.own false) .stm [], .sl (.own false) .stm []], none, []⟩])
 (.seq (.region false [⟨some 3, .call 300 0 [.const (.int .i64 0), .const (.int .i64 1)], none, []⟩,
  ⟨some 4, .mv (.tmp 0), none, []⟩,
  ⟨some 5, .mv (.tmp 0), none, []⟩,
  ⟨some 6, .call 200 0 [.tmp 5, .const (.int .i64 2)], none, []⟩,
  ⟨some 7, .call 4600 0 [.tmp 4, .const (.int .i64 0), .const (.int .i64 1), .tmp 6, .const (.bool false)], none, []⟩,
  ⟨some 8, .build [.int .i64 0, .int .i64 0, .int .i64 0, .int .i64 0, .int .i64 0, .sl (.own false) .exp [], .sl (.own false) .stm [], .sl (.own false) .stm []] [(0, 1, .const (.int .i64 3)), (3, 3, .tmp 3), (6, 1, .tmp 7)], none, []⟩,
  ⟨none, .store 8 (.tmp 2) (.tmp 8), none, []⟩])
 .ret)) }
noncomputable def p9000 : ProcT := { kind := .fn, ins := [0], bins := [], res := [.tmp 2], code := (.seq (.region false [⟨some 2, .mv (.const (.bool false)), none, []⟩])
 (.seq (.region false [⟨some 3, .mv (.tmp 0), none, []⟩,
  ⟨some 4, .call 5400 0 [.tmp 3, .const (.int .i64 3)], none, []⟩,
  ⟨some 2, .mv (.tmp 4), none, []⟩])
 .ret)) }
noncomputable def p9100 : ProcT := { kind := .fn, ins := [0], bins := [], res := [.cell 2 3 true], code := (.seq (.region false [⟨some 1, .box 100 (.tmp 0), none, []⟩,
  ⟨some 2, .alloc 101 [.int .i64 0, .int .i64 0, .sl (.own false) .exp []], none, []⟩])
 (.seq (.region false [⟨some 6, .fadr 0 (.tmp 1), none, []⟩,
  ⟨some 7, .load 1 false false (.tmp 6), none, []⟩,
  ⟨some 8, .fadr 1 (.tmp 1), none, []⟩,
  ⟨some 9, .load 1 false false (.tmp 8), none, []⟩,
  ⟨some 10, .build [.int .i64 0, .int .i64 0, .sl (.own false) .exp []] [(0, 1, .tmp 7), (1, 1, .tmp 9)], none, []⟩,
  ⟨some 3, .alloc 102 [.int .i64 0, .int .i64 0, .sl (.own false) .exp []], none, []⟩,
  ⟨none, .store 3 (.tmp 3) (.tmp 10), none, []⟩])
 (.seq (.seq (.region false [⟨some 11, .fadr 2 (.tmp 1), none, []⟩,
  ⟨some 12, .load 1 false false (.tmp 11), none, []⟩,
  ⟨some 13, .len (.tmp 12), none, []⟩,
  ⟨some 14, .mv (.const (.int .i64 0)), none, []⟩])
 (.block 0 (.label 9101)))
 (.seq (.region false [⟨some 26, .load 3 true false (.tmp 3), none, []⟩,
  ⟨none, .store 3 (.tmp 2) (.tmp 26), none, []⟩])
 .ret)))) }
noncomputable def p9101 : ProcT := { kind := .loop, ins := [2, 3, 12, 13, 14], bins := [101, 102], outs := [2, 3], bouts := [101, 102], code := (.seq (.region false [⟨some 15, .bin .lss (.tmp 14) (.tmp 13), none, []⟩])
 (.seq (.cond (.tmp 15) .skip (.exit 0))
 (.seq (.block 1 (.seq (.region false [⟨some 16, .iadr 3 (.tmp 12) (.tmp 14), none, []⟩,
  ⟨some 17, .load 3 true false (.tmp 16), none, []⟩,
  ⟨some 5, .alloc 103 [.int .i64 0, .int .i64 0, .sl (.own false) .exp []], none, []⟩,
  ⟨none, .store 3 (.tmp 5) (.tmp 17), none, []⟩])
 (.region true [⟨some 18, .fadr 2 (.tmp 3), none, [102]⟩,
  ⟨some 19, .load 1 false true (.tmp 18), none, [102]⟩,
  ⟨some 20, .load 3 true false (.tmp 5), none, [103]⟩,
  ⟨some 21, .call 9100 0 [.tmp 20], none, []⟩,
  ⟨some 22, .buildS .full .exp [.tmp 21], none, []⟩,
  ⟨some 23, .app 3 (.take 19) (.tmp 22), none, []⟩,
  ⟨some 24, .fadr 2 (.tmp 3), none, [102]⟩,
  ⟨none, .store 1 (.tmp 24) (.take 23), none, [102]⟩])))
 (.region false [⟨some 25, .bin .add (.tmp 14) (.const (.int .i64 1)), none, []⟩,
  ⟨some 14, .mv (.tmp 25), none, []⟩])))) }
noncomputable def p9200 : ProcT := { kind := .fn, ins := [0], bins := [], res := [.tmp 2], code := (.seq (.region false [⟨some 2, .mv (.const (.sl (.own false) .stm [])), none, []⟩])
 (.seq (.region false [⟨some 3, .mv (.const (.sl (.own false) .stm [])), none, []⟩])
 (.seq (.seq (.region false [⟨some 6, .mv (.tmp 0), none, []⟩,
  ⟨some 7, .len (.tmp 6), none, []⟩,
  ⟨some 8, .mv (.const (.int .i64 0)), none, []⟩])
 (.block 0 (.label 9201)))
 (.seq (.region false [⟨some 29, .mv (.take 3), none, []⟩,
  ⟨some 2, .mv (.take 29), none, []⟩])
 .ret)))) }
noncomputable def p9201 : ProcT := { kind := .loop, ins := [3, 6, 7, 8], bins := [], outs := [2, 3], bouts := [], code := (.seq (.region false [⟨some 9, .bin .lss (.tmp 8) (.tmp 7), none, []⟩])
 (.seq (.cond (.tmp 9) .skip (.exit 0))
 (.seq (.block 1 (.seq (.region false [⟨some 10, .iadr 8 (.tmp 6) (.tmp 8), none, []⟩,
  ⟨some 11, .load 8 true false (.tmp 10), none, []⟩,
  ⟨some 5, .alloc 100 [.int .i64 0, .int .i64 0, .int .i64 0, .int .i64 0, .int .i64 0, .sl (.own false) .exp [], .sl (.own false) .stm [], .sl (.own false) .stm []], none, []⟩,
  ⟨none, .store 8 (.tmp 5) (.tmp 11), none, []⟩])
 (.seq (.region true [⟨some 12, .fadr 6 (.tmp 5), none, [100]⟩,
  ⟨some 13, .load 1 false false (.tmp 12), none, [100]⟩,
  ⟨some 14, .call 9200 0 [.tmp 13], none, []⟩,
  ⟨some 15, .fadr 7 (.tmp 5), none, [100]⟩,
  ⟨some 16, .load 1 false false (.tmp 15), none, [100]⟩,
  ⟨some 17, .call 9200 0 [.tmp 16], none, []⟩,
  ⟨some 18, .fadr 3 (.tmp 5), none, [100]⟩,
  ⟨some 19, .load 3 true false (.tmp 18), none, [100]⟩,
  ⟨some 20, .call 9100 0 [.tmp 19], none, []⟩,
  ⟨some 21, .fadr 6 (.tmp 5), none, [100]⟩,
  ⟨none, .store 1 (.tmp 21) (.take 14), none, [100]⟩,
  ⟨some 22, .fadr 7 (.tmp 5), none, [100]⟩,
  ⟨none, .store 1 (.tmp 22) (.take 17), none, [100]⟩,
  ⟨some 23, .fadr 3 (.tmp 5), none, [100]⟩,
  ⟨none, .store 3 (.tmp 23) (.tmp 20), none, [100]⟩])
 (.region false [⟨some 24, .mv (.take 3), none, []⟩,
  ⟨some 25, .load 8 true false (.tmp 5), none, []⟩,
  ⟨some 26, .buildS .full .stm [.tmp 25], none, []⟩,
  ⟨some 27, .app 8 (.take 24) (.tmp 26), none, []⟩,
  ⟨some 3, .mv (.take 27), none, []⟩]))))
 (.region false [⟨some 28, .bin .add (.tmp 8) (.const (.int .i64 1)), none, []⟩,
  ⟨some 8, .mv (.tmp 28), none, []⟩])))) }
noncomputable def p9300 : ProcT := { kind := .fn, ins := [0], bins := [], res := [.cell 2 2 true, .tmp 3], code := (.seq (.region false [⟨some 2, .alloc 100 [.sl (.own false) .int [], .sl (.own false) .stm []], none, []⟩,
  ⟨some 3, .mv (.const (.bool false)), none, []⟩])
 (.seq (.seq (.region false [⟨some 4, .mv (.tmp 0), none, []⟩,
  ⟨some 5, .call 9000 0 [.tmp 4], none, []⟩,
  ⟨some 6, .un .not (.tmp 5), none, []⟩])
 (.cond (.tmp 6) (.seq (.region false [⟨some 7, .build [.sl (.own false) .int [], .sl (.own false) .stm []] [], none, []⟩,
  ⟨none, .store 2 (.tmp 2) (.tmp 7), none, []⟩,
  ⟨some 3, .mv (.const (.bool false)), none, []⟩])
 .ret) .skip))
 (.seq (.region true [⟨some 8, .mkz .int (.const (.int .i64 4)) (.const (.int .i64 4)), none, []⟩,
  ⟨some 9, .mv (.tmp 0), none, []⟩,
  ⟨some 10, .call 9200 0 [.tmp 9], none, []⟩,
  ⟨some 11, .build [.sl (.own false) .int [], .sl (.own false) .stm []] [(0, 1, .tmp 8), (1, 1, .tmp 10)], none, []⟩,
  ⟨none, .store 2 (.tmp 2) (.tmp 11), none, [100]⟩,
  ⟨some 3, .mv (.const (.bool true)), none, []⟩])
 .ret))) }
noncomputable def p9400 : ProcT := { kind := .fn, ins := [0], bins := [], res := [.cell 2 3 true], code := (.seq (.region false [⟨some 1, .box 100 (.tmp 0), none, []⟩,
  ⟨some 2, .alloc 101 [.int .i64 0, .int .i64 0, .sl (.own false) .exp []], none, []⟩])
 (.seq (.seq (.region false [⟨some 3, .fadr 2 (.tmp 1), none, []⟩,
  ⟨some 4, .load 1 false false (.tmp 3), none, []⟩,
  ⟨some 5, .len (.tmp 4), none, []⟩,
  ⟨some 6, .bin .eql (.tmp 5) (.const (.int .i64 0)), none, []⟩])
 (.cond (.tmp 6) (.seq (.region false [⟨some 7, .fadr 0 (.tmp 1), none, []⟩,
  ⟨some 8, .load 1 false false (.tmp 7), none, []⟩,
  ⟨some 9, .fadr 1 (.tmp 1), none, []⟩,
  ⟨some 10, .load 1 false false (.tmp 9), none, []⟩,
  ⟨some 11, .call 300 0 [.tmp 8, .tmp 10], none, []⟩,
  ⟨none, .store 3 (.tmp 2) (.tmp 11), none, []⟩])
 .ret) .skip))
 (.seq (.region true [⟨some 12, .fadr 0 (.tmp 1), none, [100]⟩,
  ⟨some 13, .load 1 false false (.tmp 12), none, [100]⟩,
  ⟨some 14, .fadr 2 (.tmp 1), none, [100]⟩,
  ⟨some 15, .load 1 false false (.tmp 14), none, [100]⟩,
  ⟨some 16, .iadr 3 (.tmp 15) (.const (.int .i64 0)), none, []⟩,
  ⟨some 17, .load 3 true false (.tmp 16), none, []⟩,
  ⟨some 18, .call 9400 0 [.tmp 17], none, []⟩,
  ⟨some 19, .fadr 2 (.tmp 1), none, [100]⟩,
  ⟨some 20, .load 1 false false (.tmp 19), none, [100]⟩,
  ⟨some 21, .iadr 3 (.tmp 20) (.const (.int .i64 1)), none, []⟩,
  ⟨some 22, .load 3 true false (.tmp 21), none, []⟩,
  ⟨some 23, .call 9400 0 [.tmp 22], none, []⟩,
  ⟨some 24, .call 500 0 [.tmp 13, .tmp 18, .tmp 23], none, []⟩,
  ⟨none, .store 3 (.tmp 2) (.tmp 24), none, [101]⟩])
 .ret))) }
noncomputable def p9500 : ProcT := { kind := .fn, ins := [0], bins := [], res := [.tmp 2], code := (.seq (.region false [⟨some 2, .mv (.const (.sl (.own false) .stm [])), none, []⟩])
 (.seq (.region false [⟨some 6, .buildS (.own true) .stm [], none, []⟩,
  ⟨some 3, .mv (.take 6), none, []⟩])
 (.seq (.seq (.region false [⟨some 4, .mv (.const (.int .i64 0)), none, []⟩])
 (.block 0 (.label 9501)))
 (.seq (.region false [⟨some 33, .mv (.take 3), none, []⟩,
  ⟨some 2, .mv (.take 33), none, []⟩])
 .ret)))) }
noncomputable def p9501 : ProcT := { kind := .loop, ins := [0, 3, 4], bins := [], outs := [2, 3], bouts := [], code := (.seq (.seq (.region false [⟨some 7, .mv (.tmp 4), none, []⟩,
  ⟨some 8, .mv (.tmp 0), none, []⟩,
  ⟨some 9, .len (.tmp 8), none, []⟩,
  ⟨some 10, .bin .lss (.tmp 7) (.tmp 9), none, []⟩])
 (.cond (.tmp 10) .skip (.exit 0)))
 (.seq (.block 1 (.seq (.region false [⟨some 13, .mv (.tmp 0), none, []⟩,
  ⟨some 14, .mv (.tmp 4), none, []⟩,
  ⟨some 15, .iadr 8 (.tmp 13) (.tmp 14), none, []⟩,
  ⟨some 16, .load 8 true false (.tmp 15), none, []⟩,
  ⟨some 5, .alloc 100 [.int .i64 0, .int .i64 0, .int .i64 0, .int .i64 0, .int .i64 0, .sl (.own false) .exp [], .sl (.own false) .stm [], .sl (.own false) .stm []], none, []⟩,
  ⟨none, .store 8 (.tmp 5) (.tmp 16), none, []⟩])
 (.seq (.region false [⟨some 17, .fadr 3 (.tmp 5), none, []⟩,
  ⟨some 18, .load 3 true false (.tmp 17), none, []⟩,
  ⟨some 19, .call 9400 0 [.tmp 18], none, []⟩,
  ⟨some 20, .fadr 3 (.tmp 5), none, []⟩,
  ⟨none, .store 3 (.tmp 20) (.tmp 19), none, []⟩])
 (.seq (.region false [⟨some 21, .fadr 6 (.tmp 5), none, []⟩,
  ⟨some 22, .load 1 false false (.tmp 21), none, []⟩,
  ⟨some 23, .call 9500 0 [.tmp 22], none, []⟩,
  ⟨some 24, .fadr 6 (.tmp 5), none, []⟩,
  ⟨none, .store 1 (.tmp 24) (.take 23), none, []⟩])
 (.seq (.region false [⟨some 25, .fadr 7 (.tmp 5), none, []⟩,
  ⟨some 26, .load 1 false false (.tmp 25), none, []⟩,
  ⟨some 27, .call 9500 0 [.tmp 26], none, []⟩,
  ⟨some 28, .fadr 7 (.tmp 5), none, []⟩,
  ⟨none, .store 1 (.tmp 28) (.take 27), none, []⟩])
 (.region false [⟨some 29, .mv (.take 3), none, []⟩,
  ⟨some 30, .load 8 true false (.tmp 5), none, []⟩,
  ⟨some 31, .buildS .full .stm [.tmp 30], none, []⟩,
  ⟨some 32, .app 8 (.take 29) (.tmp 31), none, []⟩,
  ⟨some 3, .mv (.take 32), none, []⟩]))))))
 (.region false [⟨some 11, .mv (.tmp 4), none, []⟩,
  ⟨some 12, .bin .add (.tmp 11) (.const (.int .i64 1)), none, []⟩,
  ⟨some 4, .mv (.tmp 12), none, []⟩]))) }
noncomputable def p9600 : ProcT := { kind := .fn, ins := [0], bins := [], res := [.cell 2 2 true, .tmp 3], code := (.seq (.region false [⟨some 2, .alloc 100 [.sl (.own false) .int [], .sl (.own false) .stm []], none, []⟩,
  ⟨some 3, .mv (.const (.bool false)), none, []⟩])
 (.seq (.seq (.region false [⟨some 4, .mv (.tmp 0), none, []⟩,
  ⟨some 5, .call 6300 0 [.tmp 4], none, []⟩,
  ⟨some 6, .un .not (.tmp 5), none, []⟩])
 (.cond (.tmp 6) (.seq (.region false [⟨some 7, .build [.sl (.own false) .int [], .sl (.own false) .stm []] [], none, []⟩,
  ⟨none, .store 2 (.tmp 2) (.tmp 7), none, []⟩,
  ⟨some 3, .mv (.const (.bool false)), none, []⟩])
 .ret) .skip))
 (.seq (.region true [⟨some 8, .mkz .int (.const (.int .i64 4)) (.const (.int .i64 4)), none, []⟩,
  ⟨some 9, .mv (.tmp 0), none, []⟩,
  ⟨some 10, .call 9500 0 [.tmp 9], none, []⟩,
  ⟨some 11, .build [.sl (.own false) .int [], .sl (.own false) .stm []] [(0, 1, .tmp 8), (1, 1, .tmp 10)], none, []⟩,
  ⟨none, .store 2 (.tmp 2) (.tmp 11), none, [100]⟩,
  ⟨some 3, .mv (.const (.bool true)), none, []⟩])
 .ret))) }
noncomputable def p9700 : ProcT := { kind := .fn, ins := [0, 1], bins := [], res := [.tmp 4], code := (.seq (.region false [⟨some 4, .mv (.const (.bool false)), none, []⟩])
 (.seq (.seq (.region false [⟨some 6, .mv (.tmp 0), none, []⟩,
  ⟨some 7, .len (.tmp 6), none, []⟩,
  ⟨some 8, .mv (.tmp 1), none, []⟩,
  ⟨some 9, .len (.tmp 8), none, []⟩,
  ⟨some 10, .bin .neq (.tmp 7) (.tmp 9), none, []⟩])
 (.cond (.tmp 10) (.seq (.region false [⟨some 4, .mv (.const (.bool false)), none, []⟩])
 .ret) .skip))
 (.seq (.seq (.region false [⟨some 5, .mv (.const (.int .i64 0)), none, []⟩])
 (.block 0 (.label 9701)))
 (.seq (.region false [⟨some 4, .mv (.const (.bool true)), none, []⟩])
 .ret)))) }
noncomputable def p9701 : ProcT := { kind := .loop, ins := [0, 1, 5], bins := [], outs := [4], bouts := [], code := (.seq (.seq (.region false [⟨some 11, .mv (.tmp 5), none, []⟩,
  ⟨some 12, .mv (.tmp 0), none, []⟩,
  ⟨some 13, .len (.tmp 12), none, []⟩,
  ⟨some 14, .bin .lss (.tmp 11) (.tmp 13), none, []⟩])
 (.cond (.tmp 14) .skip (.exit 0)))
 (.seq (.block 1 (.seq (.region true [⟨some 17, .mv (.tmp 0), none, []⟩,
  ⟨some 18, .mv (.tmp 5), none, []⟩,
  ⟨some 19, .iadr 1 (.tmp 17) (.tmp 18), none, []⟩,
  ⟨some 20, .load 1 false false (.tmp 19), none, []⟩,
  ⟨some 21, .mv (.tmp 1), none, []⟩,
  ⟨some 22, .mv (.tmp 5), none, []⟩,
  ⟨some 23, .iadr 1 (.tmp 21) (.tmp 22), none, []⟩,
  ⟨some 24, .load 1 false false (.tmp 23), none, []⟩,
  ⟨some 25, .bin .neq (.tmp 20) (.tmp 24), none, []⟩])
 (.cond (.tmp 25) (.seq (.region false [⟨some 4, .mv (.const (.bool false)), none, []⟩])
 .ret) .skip)))
 (.region false [⟨some 15, .mv (.tmp 5), none, []⟩,
  ⟨some 16, .bin .add (.tmp 15) (.const (.int .i64 1)), none, []⟩,
  ⟨some 5, .mv (.tmp 16), none, []⟩]))) }
noncomputable def p9800 : ProcT := { kind := .fn, ins := [0, 1], bins := [], res := [.tmp 4], code := (.seq (.region false [⟨some 2, .box 100 (.tmp 0), none, []⟩,
  ⟨some 3, .box 101 (.tmp 1), none, []⟩,
  ⟨some 4, .mv (.const (.bool false)), none, []⟩])
 (.seq (.seq (.region false [⟨some 6, .fadr 0 (.tmp 2), none, []⟩,
  ⟨some 7, .load 1 false false (.tmp 6), none, []⟩,
  ⟨some 8, .fadr 0 (.tmp 3), none, []⟩,
  ⟨some 9, .load 1 false false (.tmp 8), none, []⟩,
  ⟨some 10, .bin .neq (.tmp 7) (.tmp 9), none, []⟩,
  ⟨some 11, .mv (.tmp 10), none, []⟩,
  ⟨some 12, .fadr 1 (.tmp 2), some (11, false), []⟩,
  ⟨some 13, .load 1 false false (.tmp 12), some (11, false), []⟩,
  ⟨some 14, .fadr 1 (.tmp 3), some (11, false), []⟩,
  ⟨some 15, .load 1 false false (.tmp 14), some (11, false), []⟩,
  ⟨some 16, .bin .neq (.tmp 13) (.tmp 15), some (11, false), []⟩,
  ⟨some 17, .pick (.tmp 11) (.const (.bool true)) (.tmp 16), none, []⟩,
  ⟨some 18, .mv (.tmp 17), none, []⟩,
  ⟨some 19, .fadr 2 (.tmp 2), some (18, false), []⟩,
  ⟨some 20, .load 1 false false (.tmp 19), some (18, false), []⟩,
  ⟨some 21, .len (.tmp 20), some (18, false), []⟩,
  ⟨some 22, .fadr 2 (.tmp 3), some (18, false), []⟩,
  ⟨some 23, .load 1 false false (.tmp 22), some (18, false), []⟩,
  ⟨some 24, .len (.tmp 23), some (18, false), []⟩,
  ⟨some 25, .bin .neq (.tmp 21) (.tmp 24), some (18, false), []⟩,
  ⟨some 26, .pick (.tmp 18) (.const (.bool true)) (.tmp 25), none, []⟩])
 (.cond (.tmp 26) (.seq (.region false [⟨some 4, .mv (.const (.bool false)), none, []⟩])
 .ret) .skip))
 (.seq (.seq (.region false [⟨some 5, .mv (.const (.int .i64 0)), none, []⟩])
 (.block 0 (.label 9801)))
 (.seq (.region false [⟨some 4, .mv (.const (.bool true)), none, []⟩])
 .ret)))) }
noncomputable def p9801 : ProcT := { kind := .loop, ins := [2, 3, 5], bins := [100, 101], outs := [4], bouts := [], code := (.seq (.seq (.region false [⟨some 27, .mv (.tmp 5), none, []⟩,
  ⟨some 28, .fadr 2 (.tmp 2), none, []⟩,
  ⟨some 29, .load 1 false false (.tmp 28), none, []⟩,
  ⟨some 30, .len (.tmp 29), none, []⟩,
  ⟨some 31, .bin .lss (.tmp 27) (.tmp 30), none, []⟩])
 (.cond (.tmp 31) .skip (.exit 0)))
 (.seq (.block 1 (.seq (.region true [⟨some 34, .fadr 2 (.tmp 2), none, [100]⟩,
  ⟨some 35, .load 1 false false (.tmp 34), none, [100]⟩,
  ⟨some 36, .mv (.tmp 5), none, []⟩,
  ⟨some 37, .iadr 3 (.tmp 35) (.tmp 36), none, []⟩,
  ⟨some 38, .load 3 true false (.tmp 37), none, []⟩,
  ⟨some 39, .fadr 2 (.tmp 3), none, [101]⟩,
  ⟨some 40, .load 1 false false (.tmp 39), none, [101]⟩,
  ⟨some 41, .mv (.tmp 5), none, []⟩,
  ⟨some 42, .iadr 3 (.tmp 40) (.tmp 41), none, []⟩,
  ⟨some 43, .load 3 true false (.tmp 42), none, []⟩,
  ⟨some 44, .call 9800 0 [.tmp 38, .tmp 43], none, []⟩,
  ⟨some 45, .un .not (.tmp 44), none, []⟩])
 (.cond (.tmp 45) (.seq (.region false [⟨some 4, .mv (.const (.bool false)), none, []⟩])
 .ret) .skip)))
 (.region false [⟨some 32, .mv (.tmp 5), none, []⟩,
  ⟨some 33, .bin .add (.tmp 32) (.const (.int .i64 1)), none, []⟩,
  ⟨some 5, .mv (.tmp 33), none, []⟩]))) }
noncomputable def p9900 : ProcT := { kind := .fn, ins := [0, 1], bins := [], res := [.tmp 4], code := (.seq (.region false [⟨some 4, .mv (.const (.bool false)), none, []⟩])
 (.seq (.seq (.region false [⟨some 8, .mv (.tmp 0), none, []⟩,
  ⟨some 9, .len (.tmp 8), none, []⟩,
  ⟨some 10, .mv (.tmp 1), none, []⟩,
  ⟨some 11, .len (.tmp 10), none, []⟩,
  ⟨some 12, .bin .neq (.tmp 9) (.tmp 11), none, []⟩])
 (.cond (.tmp 12) (.seq (.region false [⟨some 4, .mv (.const (.bool false)), none, []⟩])
 .ret) .skip))
 (.seq (.seq (.region false [⟨some 5, .mv (.const (.int .i64 0)), none, []⟩])
 (.block 0 (.label 9901)))
 (.seq (.region false [⟨some 4, .mv (.const (.bool true)), none, []⟩])
 .ret)))) }
noncomputable def p9901 : ProcT := { kind := .loop, ins := [0, 1, 5], bins := [], outs := [4], bouts := [], code := (.seq (.seq (.region false [⟨some 13, .mv (.tmp 5), none, []⟩,
  ⟨some 14, .mv (.tmp 0), none, []⟩,
  ⟨some 15, .len (.tmp 14), none, []⟩,
  ⟨some 16, .bin .lss (.tmp 13) (.tmp 15), none, []⟩])
 (.cond (.tmp 16) .skip (.exit 0)))
 (.seq (.block 1 (.seq (.region false [⟨some 19, .mv (.tmp 0), none, []⟩,
  ⟨some 20, .mv (.tmp 5), none, []⟩,
  ⟨some 21, .iadr 8 (.tmp 19) (.tmp 20), none, []⟩,
  ⟨some 22, .load 8 true false (.tmp 21), none, []⟩,
  ⟨some 6, .alloc 100 [.int .i64 0, .int .i64 0, .int .i64 0, .int .i64 0, .int .i64 0, .sl (.own false) .exp [], .sl (.own false) .stm [], .sl (.own false) .stm []], none, []⟩,
  ⟨none, .store 8 (.tmp 6) (.tmp 22), none, []⟩])
 (.seq (.region false [⟨some 23, .mv (.tmp 1), none, []⟩,
  ⟨some 24, .mv (.tmp 5), none, []⟩,
  ⟨some 25, .iadr 8 (.tmp 23) (.tmp 24), none, []⟩,
  ⟨some 26, .load 8 true false (.tmp 25), none, []⟩,
  ⟨some 7, .alloc 101 [.int .i64 0, .int .i64 0, .int .i64 0, .int .i64 0, .int .i64 0, .sl (.own false) .exp [], .sl (.own false) .stm [], .sl (.own false) .stm []], none, []⟩,
  ⟨none, .store 8 (.tmp 7) (.tmp 26), none, []⟩])
 (.seq (.seq (.region false [⟨some 27, .fadr 0 (.tmp 6), none, []⟩,
  ⟨some 28, .load 1 false false (.tmp 27), none, []⟩,
  ⟨some 29, .fadr 0 (.tmp 7), none, []⟩,
  ⟨some 30, .load 1 false false (.tmp 29), none, []⟩,
  ⟨some 31, .bin .neq (.tmp 28) (.tmp 30), none, []⟩,
  ⟨some 32, .mv (.tmp 31), none, []⟩,
  ⟨some 33, .fadr 1 (.tmp 6), some (32, false), []⟩,
  ⟨some 34, .load 1 false false (.tmp 33), some (32, false), []⟩,
  ⟨some 35, .fadr 1 (.tmp 7), some (32, false), []⟩,
  ⟨some 36, .load 1 false false (.tmp 35), some (32, false), []⟩,
  ⟨some 37, .bin .neq (.tmp 34) (.tmp 36), some (32, false), []⟩,
  ⟨some 38, .pick (.tmp 32) (.const (.bool true)) (.tmp 37), none, []⟩,
  ⟨some 39, .mv (.tmp 38), none, []⟩,
  ⟨some 40, .fadr 2 (.tmp 6), some (39, false), []⟩,
  ⟨some 41, .load 1 false false (.tmp 40), some (39, false), []⟩,
  ⟨some 42, .fadr 2 (.tmp 7), some (39, false), []⟩,
  ⟨some 43, .load 1 false false (.tmp 42), some (39, false), []⟩,
  ⟨some 44, .bin .neq (.tmp 41) (.tmp 43), some (39, false), []⟩,
  ⟨some 45, .pick (.tmp 39) (.const (.bool true)) (.tmp 44), none, []⟩,
  ⟨some 46, .mv (.tmp 45), none, []⟩,
  ⟨some 47, .fadr 3 (.tmp 6), some (46, false), []⟩,
  ⟨some 48, .load 3 true false (.tmp 47), some (46, false), []⟩,
  ⟨some 49, .fadr 3 (.tmp 7), some (46, false), []⟩,
  ⟨some 50, .load 3 true false (.tmp 49), some (46, false), []⟩,
  ⟨some 51, .call 9800 0 [.tmp 48, .tmp 50], some (46, false), []⟩,
  ⟨some 52, .un .not (.tmp 51), some (46, false), []⟩,
  ⟨some 53, .pick (.tmp 46) (.const (.bool true)) (.tmp 52), none, []⟩])
 (.cond (.tmp 53) (.seq (.region false [⟨some 4, .mv (.const (.bool false)), none, []⟩])
 .ret) .skip))
 (.seq (.region false [⟨some 54, .fadr 6 (.tmp 6), none, []⟩,
  ⟨some 55, .load 1 false false (.tmp 54), none, []⟩,
  ⟨some 56, .fadr 6 (.tmp 7), none, []⟩,
  ⟨some 57, .load 1 false false (.tmp 56), none, []⟩,
  ⟨some 58, .call 9900 0 [.tmp 55, .tmp 57], none, []⟩,
  ⟨some 59, .un .not (.tmp 58), none, []⟩,
  ⟨some 60, .mv (.tmp 59), none, []⟩,
  ⟨some 61, .fadr 7 (.tmp 6), some (60, false), []⟩,
  ⟨some 62, .load 1 false false (.tmp 61), some (60, false), []⟩,
  ⟨some 63, .fadr 7 (.tmp 7), some (60, false), []⟩,
  ⟨some 64, .load 1 false false (.tmp 63), some (60, false), []⟩,
  ⟨some 65, .call 9900 0 [.tmp 62, .tmp 64], some (60, false), []⟩,
  ⟨some 66, .un .not (.tmp 65), some (60, false), []⟩,
  ⟨some 67, .pick (.tmp 60) (.const (.bool true)) (.tmp 66), none, []⟩])
 (.cond (.tmp 67) (.seq (.region false [⟨some 4, .mv (.const (.bool false)), none, []⟩])
 .ret) .skip))))))
 (.region false [⟨some 17, .mv (.tmp 5), none, []⟩,
  ⟨some 18, .bin .add (.tmp 17) (.const (.int .i64 1)), none, []⟩,
  ⟨some 5, .mv (.tmp 18), none, []⟩]))) }
noncomputable def p10000 : ProcT := { kind := .fn, ins := [0, 1], bins := [], res := [.tmp 4], code := (.seq (.region false [⟨some 2, .box 100 (.tmp 0), none, []⟩,
  ⟨some 3, .box 101 (.tmp 1), none, []⟩,
  ⟨some 4, .mv (.const (.bool false)), none, []⟩])
 (.seq (.region false [⟨some 5, .fadr 0 (.tmp 2), none, []⟩,
  ⟨some 6, .load 1 false false (.tmp 5), none, []⟩,
  ⟨some 7, .fadr 0 (.tmp 3), none, []⟩,
  ⟨some 8, .load 1 false false (.tmp 7), none, []⟩,
  ⟨some 9, .call 9700 0 [.tmp 6, .tmp 8], none, []⟩,
  ⟨some 10, .mv (.tmp 9), none, []⟩,
  ⟨some 11, .fadr 1 (.tmp 2), some (10, true), []⟩,
  ⟨some 12, .load 1 false false (.tmp 11), some (10, true), []⟩,
  ⟨some 13, .fadr 1 (.tmp 3), some (10, true), []⟩,
  ⟨some 14, .load 1 false false (.tmp 13), some (10, true), []⟩,
  ⟨some 15, .call 9900 0 [.tmp 12, .tmp 14], some (10, true), []⟩,
  ⟨some 16, .pick (.tmp 10) (.tmp 15) (.const (.bool false)), none, []⟩,
  ⟨some 4, .mv (.tmp 16), none, []⟩])
 .ret)) }
noncomputable def p11100 : ProcT := { kind := .fn, ins := [0, 1, 2], bins := [], res := [.tmp 6], code := (.seq (.region false [⟨some 6, .mv (.const (.bool false)), none, []⟩])
 (.seq (.region false [⟨some 7, .mv (.tmp 0), none, []⟩,
  ⟨some 8, .bin .eql (.tmp 7) (.const (.int .i64 0)), none, []⟩,
  ⟨some 9, .mv (.tmp 8), none, []⟩,
  ⟨some 10, .mv (.tmp 2), some (9, false), []⟩,
  ⟨some 11, .mv (.tmp 10), some (9, false), []⟩,
  ⟨some 12, .mv (.tmp 0), some (11, true), []⟩,
  ⟨some 13, .bin .gtr (.tmp 12) (.const (.int .i64 0)), some (11, true), []⟩,
  ⟨some 14, .pick (.tmp 11) (.tmp 13) (.const (.bool false)), some (9, false), []⟩,
  ⟨some 15, .mv (.tmp 14), some (9, false), []⟩,
  ⟨some 16, .mv (.tmp 0), some (15, true), []⟩,
  ⟨some 17, .mv (.tmp 1), some (15, true), []⟩,
  ⟨some 18, .bin .lss (.tmp 16) (.tmp 17), some (15, true), []⟩,
  ⟨some 19, .pick (.tmp 15) (.tmp 18) (.const (.bool false)), some (9, false), []⟩,
  ⟨some 20, .pick (.tmp 9) (.const (.bool true)) (.tmp 19), none, []⟩,
  ⟨some 6, .mv (.tmp 20), none, []⟩])
 .ret)) }
noncomputable def p17600 : ProcT := { kind := .fn, ins := [0], bins := [], res := [.tmp 2], code := (.seq (.region false [⟨some 1, .box 100 (.tmp 0), none, []⟩,
  ⟨some 2, .mv (.const (.bool false)), none, []⟩])
 (.seq (.region false [⟨some 3, .fadr 0 (.tmp 1), none, []⟩,
  ⟨some 4, .load 1 false false (.tmp 3), none, []⟩,
  ⟨some 5, .bin .geq (.tmp 4) (.const (.int .i64 1)), none, []⟩,
  ⟨some 6, .mv (.tmp 5), none, []⟩,
  ⟨some 7, .fadr 0 (.tmp 1), some (6, true), []⟩,
  ⟨some 8, .load 1 false false (.tmp 7), some (6, true), []⟩,
  ⟨some 9, .bin .leq (.tmp 8) (.const (.int .i64 4)), some (6, true), []⟩,
  ⟨some 10, .pick (.tmp 6) (.tmp 9) (.const (.bool false)), none, []⟩,
  ⟨some 11, .mv (.tmp 10), none, []⟩,
  ⟨some 12, .fadr 1 (.tmp 1), some (11, true), []⟩,
  ⟨some 13, .load 1 false false (.tmp 12), some (11, true), []⟩,
  ⟨some 14, .len (.tmp 13), some (11, true), []⟩,
  ⟨some 15, .fadr 0 (.tmp 1), some (11, true), []⟩,
  ⟨some 16, .load 1 false false (.tmp 15), some (11, true), []⟩,
  ⟨some 17, .bin .leq (.tmp 14) (.tmp 16), some (11, true), []⟩,
  ⟨some 18, .pick (.tmp 11) (.tmp 17) (.const (.bool false)), none, []⟩,
  ⟨some 19, .mv (.tmp 18), none, []⟩,
  ⟨some 20, .fadr 1 (.tmp 1), some (19, true), []⟩,
  ⟨some 21, .load 1 false false (.tmp 20), some (19, true), []⟩,
  ⟨some 22, .call 5100 0 [.tmp 21], some (19, true), []⟩,
  ⟨some 23, .pick (.tmp 19) (.tmp 22) (.const (.bool false)), none, []⟩,
  ⟨some 2, .mv (.tmp 23), none, []⟩])
 .ret)) }
noncomputable def p18000 : ProcT := { kind := .fn, ins := [0, 1], bins := [], res := [.tmp 4], code := (.seq (.region false [⟨some 2, .box 100 (.tmp 0), none, []⟩,
  ⟨some 3, .box 101 (.tmp 1), none, []⟩,
  ⟨some 4, .mv (.const (.bool false)), none, []⟩])
 (.seq (.region false [⟨some 5, .fadr 0 (.tmp 2), none, []⟩,
  ⟨some 6, .load 1 false false (.tmp 5), none, []⟩,
  ⟨some 7, .fadr 0 (.tmp 3), none, []⟩,
  ⟨some 8, .load 1 false false (.tmp 7), none, []⟩,
  ⟨some 9, .bin .eql (.tmp 6) (.tmp 8), none, []⟩,
  ⟨some 10, .mv (.tmp 9), none, []⟩,
  ⟨some 11, .fadr 1 (.tmp 2), some (10, true), []⟩,
  ⟨some 12, .load 1 false false (.tmp 11), some (10, true), []⟩,
  ⟨some 13, .fadr 1 (.tmp 3), some (10, true), []⟩,
  ⟨some 14, .load 1 false false (.tmp 13), some (10, true), []⟩,
  ⟨some 15, .call 9700 0 [.tmp 12, .tmp 14], some (10, true), []⟩,
  ⟨some 16, .pick (.tmp 10) (.tmp 15) (.const (.bool false)), none, []⟩,
  ⟨some 4, .mv (.tmp 16), none, []⟩])
 .ret)) }
noncomputable def p22500 : ProcT := { kind := .fn, ins := [0], bins := [0], res := [.cell 2 2 true], loc := true, two := true, code := (.seq (.region false [⟨some 2, .alloc 100 [.tr .int none 0, .tr .stmsH none 0], none, []⟩])
 (.seq (.region false [⟨some 4, .mv (.tmp 0), none, []⟩,
  ⟨some 5, .tr (.call .pass 39900 [.tmp 4]), none, []⟩,
  ⟨some 3, .alloc 101 [.tr .int none 0, .tr .stmsH none 0], none, []⟩,
  ⟨none, .store 2 (.tmp 3) (.tmp 5), none, []⟩])
 (.seq (.seq (.region false [⟨some 6, .mv (.tmp 0), none, []⟩,
  ⟨some 7, .call 200 0 [.tmp 6, .const (.int .i64 30)], none, []⟩])
 (.block 0 (.seq (.region false [⟨some 9, .bin .eql (.tmp 7) (.const (.int .i64 0)), none, []⟩,
  ⟨some 8, .mv (.tmp 9), none, []⟩])
 (.cond (.tmp 8) (.region true [⟨some 10, .fadr 0 (.tmp 3), none, [101]⟩,
  ⟨some 11, .load 1 false false (.tmp 10), none, [101]⟩,
  ⟨some 12, .buildS .full .int [.const (.int .i64 0), .const (.int .i64 5)], none, []⟩,
  ⟨some 13, .mv (.tmp 0), none, []⟩,
  ⟨some 14, .call 200 0 [.tmp 13, .const (.int .i64 2)], none, [0]⟩,
  ⟨some 15, .iadr 1 (.tmp 12) (.tmp 14), none, []⟩,
  ⟨some 16, .load 1 false false (.tmp 15), none, []⟩,
  ⟨some 17, .buildS .full .int [.tmp 16], none, []⟩,
  ⟨some 18, .tr (.app 1 (.tmp 11) (.tmp 17)), none, [99]⟩,
  ⟨some 19, .fadr 0 (.tmp 3), none, [101]⟩,
  ⟨none, .store 1 (.tmp 19) (.tmp 18), none, [101]⟩]) (.seq (.region false [⟨some 21, .bin .eql (.tmp 7) (.const (.int .i64 1)), none, []⟩,
  ⟨some 20, .mv (.tmp 21), none, []⟩])
 (.cond (.tmp 20) (.region true [⟨some 22, .fadr 1 (.tmp 3), none, [101]⟩,
  ⟨some 23, .load 1 false false (.tmp 22), none, [101]⟩,
  ⟨some 24, .fadr 0 (.tmp 3), none, [101]⟩,
  ⟨some 25, .load 1 false false (.tmp 24), none, [101]⟩,
  ⟨some 26, .tr (.len (.tmp 25)), none, []⟩,
  ⟨some 27, .mv (.tmp 0), none, []⟩,
  ⟨some 28, .call 400 0 [.tmp 27], none, [0]⟩,
  ⟨some 29, .build [.int .i64 0, .int .i64 0, .int .i64 0, .int .i64 0, .int .i64 0, .sl (.own false) .exp [], .sl (.own false) .stm [], .sl (.own false) .stm []] [(0, 1, .const (.int .i64 4)), (2, 1, .tmp 26), (3, 3, .tmp 28)], none, []⟩,
  ⟨some 30, .tr (.lit .stm [.tmp 29]), none, [99]⟩,
  ⟨some 31, .buildS .full .stmsH [.tmp 30], none, []⟩,
  ⟨some 32, .tr (.app 1 (.tmp 23) (.tmp 31)), none, [99]⟩,
  ⟨some 33, .fadr 1 (.tmp 3), none, [101]⟩,
  ⟨none, .store 1 (.tmp 33) (.tmp 32), none, [101]⟩]) (.seq (.region false [⟨some 35, .bin .eql (.tmp 7) (.const (.int .i64 2)), none, []⟩,
  ⟨some 34, .mv (.tmp 35), none, []⟩])
 (.cond (.tmp 34) (.region false [⟨some 36, .tr (.lit .stmsH []), none, []⟩,
  ⟨some 37, .fadr 1 (.tmp 3), none, []⟩,
  ⟨none, .store 1 (.tmp 37) (.tmp 36), none, []⟩]) (.seq (.region false [⟨some 39, .bin .eql (.tmp 7) (.const (.int .i64 3)), none, []⟩,
  ⟨some 38, .mv (.tmp 39), none, []⟩])
 (.cond (.tmp 38) (.region true [⟨some 40, .fadr 1 (.tmp 3), none, [101]⟩,
  ⟨some 41, .load 1 false false (.tmp 40), none, [101]⟩,
  ⟨some 42, .fadr 1 (.tmp 3), none, [101]⟩,
  ⟨some 43, .load 1 false false (.tmp 42), none, [101]⟩,
  ⟨some 44, .tr (.iadr 1 (.tmp 43) (.const (.int .i64 0))), none, []⟩,
  ⟨some 45, .tr (.load 1 false (.tmp 44)), none, [99]⟩,
  ⟨some 46, .fadr 1 (.tmp 3), none, [101]⟩,
  ⟨some 47, .load 1 false false (.tmp 46), none, [101]⟩,
  ⟨some 48, .tr (.iadr 1 (.tmp 47) (.const (.int .i64 0))), none, []⟩,
  ⟨some 49, .tr (.load 1 false (.tmp 48)), none, [99]⟩,
  ⟨some 50, .fadr 1 (.tmp 3), none, [101]⟩,
  ⟨some 51, .load 1 false false (.tmp 50), none, [101]⟩,
  ⟨some 52, .tr (.iadr 1 (.tmp 51) (.const (.int .i64 0))), none, []⟩,
  ⟨some 53, .tr (.load 1 false (.tmp 52)), none, [99]⟩,
  ⟨some 54, .buildS .full .stmsH [.tmp 45, .tmp 49, .tmp 53], none, []⟩,
  ⟨some 55, .tr (.app 1 (.tmp 41) (.tmp 54)), none, [99]⟩,
  ⟨some 56, .fadr 1 (.tmp 3), none, [101]⟩,
  ⟨none, .store 1 (.tmp 56) (.tmp 55), none, [101]⟩]) (.seq (.region false [⟨some 58, .bin .eql (.tmp 7) (.const (.int .i64 4)), none, []⟩,
  ⟨some 57, .mv (.tmp 58), none, []⟩])
 (.cond (.tmp 57) (.seq (.flip ⟨some 59, .alloc 102 [.bool false], none, []⟩ [⟨none, .store 1 (.tmp 59) (.const (.bool true)), none, []⟩, ⟨none, .store 1 (.tmp 59) (.const (.bool false)), none, []⟩, ⟨some 60, .load 1 false false (.tmp 59), none, []⟩] [⟨none, .store 1 (.tmp 59) (.const (.bool false)), none, []⟩, ⟨none, .store 1 (.tmp 59) (.const (.bool true)), none, []⟩, ⟨some 60, .load 1 false false (.tmp 59), none, []⟩])
 (.cond (.tmp 60) (.seq (.region false [⟨some 61, .fadr 1 (.tmp 3), none, []⟩,
  ⟨some 62, .load 1 false false (.tmp 61), none, []⟩,
  ⟨some 63, .tr (.iadr 1 (.tmp 62) (.const (.int .i64 0))), none, []⟩,
  ⟨some 64, .tr (.load 1 false (.tmp 63)), none, []⟩,
  ⟨some 65, .build [.int .i64 0, .int .i64 0, .int .i64 0, .int .i64 0, .int .i64 0, .sl (.own false) .exp [], .sl (.own false) .stm [], .sl (.own false) .stm []] [(0, 1, .const (.int .i64 9))], none, []⟩,
  ⟨some 66, .tr (.len (.tmp 64)), none, []⟩,
  ⟨some 67, .buildS .full .stm [.const (.agg [.int .i64 0, .int .i64 0, .int .i64 0, .int .i64 0, .int .i64 0, .sl (.own false) .exp [], .sl (.own false) .stm [], .sl (.own false) .stm []])], none, []⟩,
  ⟨some 68, .tr (.app 8 (.tmp 64) (.tmp 67)), none, []⟩,
  ⟨some 69, .tr (.iadr 1 (.tmp 62) (.const (.int .i64 0))), none, []⟩,
  ⟨none, .tr (.store 1 (.tmp 69) (.tmp 68)), none, []⟩])
 (.region false [⟨some 70, .tr (.iadr 8 (.tmp 68) (.tmp 66)), none, []⟩,
  ⟨none, .tr (.store 8 (.tmp 70) (.tmp 65)), none, []⟩])) (.region true [⟨some 71, .fadr 1 (.tmp 3), none, [101]⟩,
  ⟨some 72, .load 1 false false (.tmp 71), none, [101]⟩,
  ⟨some 73, .fadr 1 (.tmp 3), none, [101]⟩,
  ⟨some 74, .load 1 false false (.tmp 73), none, [101]⟩,
  ⟨some 75, .tr (.iadr 1 (.tmp 74) (.const (.int .i64 0))), none, []⟩,
  ⟨some 76, .tr (.load 1 false (.tmp 75)), none, [99]⟩,
  ⟨some 77, .build [.int .i64 0, .int .i64 0, .int .i64 0, .int .i64 0, .int .i64 0, .sl (.own false) .exp [], .sl (.own false) .stm [], .sl (.own false) .stm []] [(0, 1, .const (.int .i64 9))], none, []⟩,
  ⟨some 78, .buildS .full .stm [.tmp 77], none, []⟩,
  ⟨some 79, .tr (.app 8 (.tmp 76) (.tmp 78)), none, [99]⟩,
  ⟨some 80, .tr (.iadr 1 (.tmp 72) (.const (.int .i64 0))), none, []⟩,
  ⟨none, .tr (.store 1 (.tmp 80) (.tmp 79)), none, [99]⟩]))) .skip))))))))))))
 (.seq (.region false [⟨some 81, .load 2 true false (.tmp 3), none, []⟩,
  ⟨none, .store 2 (.tmp 2) (.tmp 81), none, []⟩])
 .ret)))) }
noncomputable def p22600 : ProcT := { kind := .fn, ins := [0], bins := [], res := [.cell 2 2 true], code := (.seq (.region false [⟨some 2, .alloc 100 [.sl (.own false) .int [], .sl (.own false) .stms []], none, []⟩])
 (.seq (.region false [⟨some 3, .mv (.tmp 0), none, []⟩,
  ⟨some 4, .call 100 101 [.tmp 3], none, []⟩,
  ⟨some 5, .call 22500 0 [.tmp 4], none, []⟩,
  ⟨none, .store 2 (.tmp 2) (.tmp 5), none, []⟩])
 .ret)) }
noncomputable def p22700 : ProcT := { kind := .fn, ins := [0], bins := [], res := [.tmp 2], code := (.seq (.region false [⟨some 2, .mv (.const (.bool false)), none, []⟩])
 (.seq (.seq (.region false [⟨some 5, .mv (.tmp 0), none, []⟩,
  ⟨some 6, .len (.tmp 5), none, []⟩,
  ⟨some 7, .mv (.const (.int .i64 0)), none, []⟩])
 (.block 0 (.label 22701)))
 (.seq (.region false [⟨some 18, .mv (.tmp 0), none, []⟩,
  ⟨some 19, .len (.tmp 18), none, []⟩,
  ⟨some 20, .bin .leq (.tmp 19) (.const (.int .i64 3)), none, []⟩,
  ⟨some 2, .mv (.tmp 20), none, []⟩])
 .ret))) }
noncomputable def p22701 : ProcT := { kind := .loop, ins := [0, 5, 6, 7], bins := [], outs := [0, 2], bouts := [], code := (.seq (.region false [⟨some 8, .bin .lss (.tmp 7) (.tmp 6), none, []⟩])
 (.seq (.cond (.tmp 8) .skip (.exit 0))
 (.seq (.block 1 (.seq (.region false [⟨some 9, .iadr 1 (.tmp 5) (.tmp 7), none, []⟩,
  ⟨some 10, .load 1 false false (.tmp 9), none, []⟩,
  ⟨some 4, .mv (.tmp 10), none, []⟩])
 (.seq (.region false [⟨some 11, .mv (.tmp 4), none, []⟩,
  ⟨some 12, .bin .lss (.tmp 11) (.const (.int .i64 1)), none, []⟩,
  ⟨some 13, .mv (.tmp 12), none, []⟩,
  ⟨some 14, .mv (.tmp 4), some (13, false), []⟩,
  ⟨some 15, .bin .gtr (.tmp 14) (.const (.int .i64 4)), some (13, false), []⟩,
  ⟨some 16, .pick (.tmp 13) (.const (.bool true)) (.tmp 15), none, []⟩])
 (.cond (.tmp 16) (.seq (.region false [⟨some 2, .mv (.const (.bool false)), none, []⟩])
 .ret) .skip))))
 (.region false [⟨some 17, .bin .add (.tmp 7) (.const (.int .i64 1)), none, []⟩,
  ⟨some 7, .mv (.tmp 17), none, []⟩])))) }
noncomputable def p22800 : ProcT := { kind := .fn, ins := [0], bins := [], res := [.tmp 2], code := (.seq (.region false [⟨some 1, .box 100 (.tmp 0), none, []⟩,
  ⟨some 2, .mv (.const (.bool false)), none, []⟩])
 (.seq (.seq (.region false [⟨some 5, .fadr 0 (.tmp 1), none, []⟩,
  ⟨some 6, .load 1 false false (.tmp 5), none, []⟩,
  ⟨some 7, .call 22700 0 [.tmp 6], none, []⟩,
  ⟨some 8, .un .not (.tmp 7), none, []⟩,
  ⟨some 9, .mv (.tmp 8), none, []⟩,
  ⟨some 10, .fadr 1 (.tmp 1), some (9, false), []⟩,
  ⟨some 11, .load 1 false false (.tmp 10), some (9, false), []⟩,
  ⟨some 12, .len (.tmp 11), some (9, false), []⟩,
  ⟨some 13, .bin .lss (.tmp 12) (.const (.int .i64 1)), some (9, false), []⟩,
  ⟨some 14, .pick (.tmp 9) (.const (.bool true)) (.tmp 13), none, []⟩,
  ⟨some 15, .mv (.tmp 14), none, []⟩,
  ⟨some 16, .fadr 1 (.tmp 1), some (15, false), []⟩,
  ⟨some 17, .load 1 false false (.tmp 16), some (15, false), []⟩,
  ⟨some 18, .len (.tmp 17), some (15, false), []⟩,
  ⟨some 19, .bin .gtr (.tmp 18) (.const (.int .i64 3)), some (15, false), []⟩,
  ⟨some 20, .pick (.tmp 15) (.const (.bool true)) (.tmp 19), none, []⟩])
 (.cond (.tmp 20) (.seq (.region false [⟨some 2, .mv (.const (.bool false)), none, []⟩])
 .ret) .skip))
 (.seq (.seq (.region false [⟨some 21, .fadr 1 (.tmp 1), none, []⟩,
  ⟨some 22, .load 1 false false (.tmp 21), none, []⟩,
  ⟨some 23, .len (.tmp 22), none, []⟩,
  ⟨some 24, .mv (.const (.int .i64 0)), none, []⟩])
 (.block 0 (.label 22801)))
 (.seq (.region false [⟨some 2, .mv (.const (.bool true)), none, []⟩])
 .ret)))) }
noncomputable def p22801 : ProcT := { kind := .loop, ins := [1, 22, 23, 24], bins := [100], outs := [2], bouts := [], code := (.seq (.region false [⟨some 25, .bin .lss (.tmp 24) (.tmp 23), none, []⟩])
 (.seq (.cond (.tmp 25) .skip (.exit 0))
 (.seq (.block 1 (.seq (.region false [⟨some 26, .iadr 1 (.tmp 22) (.tmp 24), none, []⟩,
  ⟨some 27, .load 1 false false (.tmp 26), none, []⟩,
  ⟨some 4, .mv (.take 27), none, []⟩])
 (.seq (.region false [⟨some 28, .mv (.tmp 4), none, []⟩,
  ⟨some 29, .fadr 0 (.tmp 1), none, []⟩,
  ⟨some 30, .load 1 false false (.tmp 29), none, []⟩,
  ⟨some 31, .len (.tmp 30), none, []⟩,
  ⟨some 32, .call 5400 0 [.tmp 28, .tmp 31], none, []⟩,
  ⟨some 33, .un .not (.tmp 32), none, []⟩])
 (.cond (.tmp 33) (.seq (.region false [⟨some 2, .mv (.const (.bool false)), none, []⟩])
 .ret) .skip))))
 (.region false [⟨some 34, .bin .add (.tmp 24) (.const (.int .i64 1)), none, []⟩,
  ⟨some 24, .mv (.tmp 34), none, []⟩])))) }
noncomputable def p22900 : ProcT := { kind := .fn, ins := [0], bins := [], res := [.tmp 2], code := (.seq (.region false [⟨some 2, .mv (.const (.sl (.own false) .bx [])), none, []⟩])
 (.seq (.region false [⟨some 3, .mv (.const (.sl (.own false) .bx [])), none, []⟩])
 (.seq (.seq (.region false [⟨some 6, .mv (.tmp 0), none, []⟩,
  ⟨some 7, .len (.tmp 6), none, []⟩,
  ⟨some 8, .mv (.const (.int .i64 0)), none, []⟩])
 (.block 0 (.label 22901)))
 (.seq (.region false [⟨some 18, .mv (.take 3), none, []⟩,
  ⟨some 2, .mv (.take 18), none, []⟩])
 .ret)))) }
noncomputable def p22901 : ProcT := { kind := .loop, ins := [3, 6, 7, 8], bins := [], outs := [2, 3], bouts := [], code := (.seq (.region false [⟨some 9, .bin .lss (.tmp 8) (.tmp 7), none, []⟩])
 (.seq (.cond (.tmp 9) .skip (.exit 0))
 (.seq (.block 1 (.seq (.region false [⟨some 10, .iadr 1 (.tmp 6) (.tmp 8), none, []⟩,
  ⟨some 11, .load 1 false false (.tmp 10), none, []⟩,
  ⟨some 5, .mv (.tmp 11), none, []⟩])
 (.region false [⟨some 12, .mv (.take 3), none, []⟩,
  ⟨some 13, .mv (.tmp 5), none, []⟩,
  ⟨some 14, .build [.int .i64 0, .sl (.own false) .int []] [(0, 1, .tmp 13)], none, []⟩,
  ⟨some 15, .buildS .full .bx [.tmp 14], none, []⟩,
  ⟨some 16, .app 2 (.take 12) (.tmp 15), none, []⟩,
  ⟨some 3, .mv (.take 16), none, []⟩])))
 (.region false [⟨some 17, .bin .add (.tmp 8) (.const (.int .i64 1)), none, []⟩,
  ⟨some 8, .mv (.tmp 17), none, []⟩])))) }
noncomputable def p23000 : ProcT := { kind := .fn, ins := [0], bins := [], res := [.cell 2 5 true, .tmp 3], code := (.seq (.region false [⟨some 1, .box 100 (.tmp 0), none, []⟩,
  ⟨some 2, .alloc 101 [.sl (.own false) .tk [], .sl (.own false) .bx [], .int .i64 0, .int .i64 0, .sl (.own false) .int []], none, []⟩,
  ⟨some 3, .mv (.const (.bool false)), none, []⟩])
 (.seq (.seq (.region false [⟨some 9, .load 2 true false (.tmp 1), none, []⟩,
  ⟨some 10, .call 22800 0 [.tmp 9], none, []⟩,
  ⟨some 11, .un .not (.tmp 10), none, []⟩])
 (.cond (.tmp 11) (.seq (.region false [⟨some 12, .build [.sl (.own false) .tk [], .sl (.own false) .bx [], .int .i64 0, .int .i64 0, .sl (.own false) .int []] [], none, []⟩,
  ⟨none, .store 5 (.tmp 2) (.tmp 12), none, []⟩,
  ⟨some 3, .mv (.const (.bool false)), none, []⟩])
 .ret) .skip))
 (.seq (.region false [⟨some 13, .fadr 0 (.tmp 1), none, []⟩,
  ⟨some 14, .load 1 false false (.tmp 13), none, []⟩,
  ⟨some 15, .call 22900 0 [.tmp 14], none, []⟩,
  ⟨some 16, .build [.sl (.own false) .tk [], .sl (.own false) .bx [], .int .i64 0, .int .i64 0, .sl (.own false) .int []] [(1, 1, .tmp 15)], none, []⟩,
  ⟨some 4, .alloc 102 [.sl (.own false) .tk [], .sl (.own false) .bx [], .int .i64 0, .int .i64 0, .sl (.own false) .int []], none, []⟩,
  ⟨none, .store 5 (.tmp 4) (.tmp 16), none, []⟩])
 (.seq (.seq (.region false [⟨some 17, .fadr 1 (.tmp 1), none, []⟩,
  ⟨some 18, .load 1 false false (.tmp 17), none, []⟩,
  ⟨some 19, .len (.tmp 18), none, []⟩,
  ⟨some 20, .mv (.const (.int .i64 0)), none, []⟩])
 (.block 0 (.label 23001)))
 (.seq (.region false [⟨some 36, .load 5 true false (.tmp 4), none, []⟩,
  ⟨none, .store 5 (.tmp 2) (.tmp 36), none, []⟩,
  ⟨some 3, .mv (.const (.bool true)), none, []⟩])
 .ret))))) }
noncomputable def p23001 : ProcT := { kind := .loop, ins := [2, 4, 18, 19, 20], bins := [101, 102], outs := [2, 3, 4], bouts := [101, 102], code := (.seq (.region false [⟨some 21, .bin .lss (.tmp 20) (.tmp 19), none, []⟩])
 (.seq (.cond (.tmp 21) .skip (.exit 0))
 (.seq (.block 1 (.seq (.region false [⟨some 22, .iadr 1 (.tmp 18) (.tmp 20), none, []⟩,
  ⟨some 23, .load 1 false false (.tmp 22), none, []⟩,
  ⟨some 6, .mv (.take 23), none, []⟩])
 (.seq (.region false [⟨some 25, .mv (.tmp 6), none, []⟩,
  ⟨some 26, .call 9300 0 [.tmp 25], none, []⟩,
  ⟨some 24, .mv (.tmp 26), none, []⟩,
  ⟨some 27, .ext 0 (.tmp 24), none, []⟩,
  ⟨some 28, .ext 1 (.tmp 24), none, []⟩,
  ⟨some 7, .alloc 103 [.sl (.own false) .int [], .sl (.own false) .stm []], none, []⟩,
  ⟨none, .store 2 (.tmp 7) (.tmp 27), none, []⟩,
  ⟨some 8, .mv (.tmp 28), none, []⟩])
 (.region false [⟨some 29, .fadr 0 (.tmp 4), none, []⟩,
  ⟨some 30, .load 1 false true (.tmp 29), none, []⟩,
  ⟨some 31, .load 2 true false (.tmp 7), none, []⟩,
  ⟨some 32, .buildS .full .tk [.tmp 31], none, []⟩,
  ⟨some 33, .app 2 (.take 30) (.tmp 32), none, []⟩,
  ⟨some 34, .fadr 0 (.tmp 4), none, []⟩,
  ⟨none, .store 1 (.tmp 34) (.take 33), none, []⟩]))))
 (.region false [⟨some 35, .bin .add (.tmp 20) (.const (.int .i64 1)), none, []⟩,
  ⟨some 20, .mv (.tmp 35), none, []⟩])))) }
noncomputable def p23100 : ProcT := { kind := .fn, ins := [0, 1], bins := [], res := [.tmp 4], code := (.seq (.region false [⟨some 4, .mv (.const (.bool false)), none, []⟩])
 (.seq (.seq (.region false [⟨some 5, .mv (.const (.int .i64 0)), none, []⟩])
 (.block 0 (.label 23101)))
 (.seq (.region false [⟨some 4, .mv (.const (.bool true)), none, []⟩])
 .ret))) }
noncomputable def p23101 : ProcT := { kind := .loop, ins := [0, 1, 5], bins := [], outs := [4], bouts := [], code := (.seq (.seq (.region false [⟨some 7, .mv (.tmp 5), none, []⟩,
  ⟨some 8, .mv (.tmp 0), none, []⟩,
  ⟨some 9, .len (.tmp 8), none, []⟩,
  ⟨some 10, .bin .lss (.tmp 7) (.tmp 9), none, []⟩])
 (.cond (.tmp 10) .skip (.exit 0)))
 (.seq (.block 1 (.seq (.region false [⟨some 13, .mv (.tmp 0), none, []⟩,
  ⟨some 14, .mv (.tmp 5), none, []⟩,
  ⟨some 15, .iadr 8 (.tmp 13) (.tmp 14), none, []⟩,
  ⟨some 16, .load 8 true false (.tmp 15), none, []⟩,
  ⟨some 6, .alloc 100 [.int .i64 0, .int .i64 0, .int .i64 0, .int .i64 0, .int .i64 0, .sl (.own false) .exp [], .sl (.own false) .stm [], .sl (.own false) .stm []], none, []⟩,
  ⟨none, .store 8 (.tmp 6) (.tmp 16), none, []⟩])
 (.seq (.seq (.region false [⟨some 17, .fadr 0 (.tmp 6), none, []⟩,
  ⟨some 18, .load 1 false false (.tmp 17), none, []⟩,
  ⟨some 19, .bin .eql (.tmp 18) (.const (.int .i64 4)), none, []⟩,
  ⟨some 20, .mv (.tmp 19), none, []⟩,
  ⟨some 21, .fadr 0 (.tmp 6), some (20, false), []⟩,
  ⟨some 22, .load 1 false false (.tmp 21), some (20, false), []⟩,
  ⟨some 23, .bin .eql (.tmp 22) (.const (.int .i64 5)), some (20, false), []⟩,
  ⟨some 24, .pick (.tmp 20) (.const (.bool true)) (.tmp 23), none, []⟩,
  ⟨some 25, .mv (.tmp 24), none, []⟩,
  ⟨some 26, .fadr 2 (.tmp 6), some (25, true), []⟩,
  ⟨some 27, .load 1 false false (.tmp 26), some (25, true), []⟩,
  ⟨some 28, .mv (.tmp 1), some (25, true), []⟩,
  ⟨some 29, .bin .geq (.tmp 27) (.tmp 28), some (25, true), []⟩,
  ⟨some 30, .pick (.tmp 25) (.tmp 29) (.const (.bool false)), none, []⟩])
 (.cond (.tmp 30) (.seq (.region false [⟨some 4, .mv (.const (.bool false)), none, []⟩])
 .ret) .skip))
 (.seq (.region false [⟨some 31, .fadr 6 (.tmp 6), none, []⟩,
  ⟨some 32, .load 1 false false (.tmp 31), none, []⟩,
  ⟨some 33, .mv (.tmp 1), none, []⟩,
  ⟨some 34, .call 23100 0 [.tmp 32, .tmp 33], none, []⟩,
  ⟨some 35, .un .not (.tmp 34), none, []⟩,
  ⟨some 36, .mv (.tmp 35), none, []⟩,
  ⟨some 37, .fadr 7 (.tmp 6), some (36, false), []⟩,
  ⟨some 38, .load 1 false false (.tmp 37), some (36, false), []⟩,
  ⟨some 39, .mv (.tmp 1), some (36, false), []⟩,
  ⟨some 40, .call 23100 0 [.tmp 38, .tmp 39], some (36, false), []⟩,
  ⟨some 41, .un .not (.tmp 40), some (36, false), []⟩,
  ⟨some 42, .pick (.tmp 36) (.const (.bool true)) (.tmp 41), none, []⟩])
 (.cond (.tmp 42) (.seq (.region false [⟨some 4, .mv (.const (.bool false)), none, []⟩])
 .ret) .skip)))))
 (.region false [⟨some 11, .mv (.tmp 5), none, []⟩,
  ⟨some 12, .bin .add (.tmp 11) (.const (.int .i64 1)), none, []⟩,
  ⟨some 5, .mv (.tmp 12), none, []⟩]))) }
noncomputable def p23200 : ProcT := { kind := .fn, ins := [0], bins := [], res := [.tmp 2], code := (.seq (.region false [⟨some 2, .mv (.const (.bool false)), none, []⟩])
 (.seq (.seq (.region false [⟨some 3, .mv (.const (.int .i64 0)), none, []⟩])
 (.block 0 (.label 23201)))
 (.seq (.region false [⟨some 16, .mv (.tmp 0), none, []⟩,
  ⟨some 17, .len (.tmp 16), none, []⟩,
  ⟨some 18, .bin .leq (.tmp 17) (.const (.int .i64 3)), none, []⟩,
  ⟨some 2, .mv (.tmp 18), none, []⟩])
 .ret))) }
noncomputable def p23201 : ProcT := { kind := .loop, ins := [0, 3], bins := [], outs := [0, 2], bouts := [], code := (.seq (.seq (.region false [⟨some 4, .mv (.tmp 3), none, []⟩,
  ⟨some 5, .mv (.tmp 0), none, []⟩,
  ⟨some 6, .len (.tmp 5), none, []⟩,
  ⟨some 7, .bin .lss (.tmp 4) (.tmp 6), none, []⟩])
 (.cond (.tmp 7) .skip (.exit 0)))
 (.seq (.block 1 (.seq (.region false [⟨some 10, .mv (.tmp 0), none, []⟩,
  ⟨some 11, .mv (.tmp 3), none, []⟩,
  ⟨some 12, .iadr 1 (.tmp 10) (.tmp 11), none, []⟩,
  ⟨some 13, .load 1 false false (.tmp 12), none, []⟩,
  ⟨some 14, .call 1600 0 [.tmp 13, .const (.int .i64 1), .const (.int .i64 4)], none, []⟩,
  ⟨some 15, .un .not (.tmp 14), none, []⟩])
 (.cond (.tmp 15) (.seq (.region false [⟨some 2, .mv (.const (.bool false)), none, []⟩])
 .ret) .skip)))
 (.region false [⟨some 8, .mv (.tmp 3), none, []⟩,
  ⟨some 9, .bin .add (.tmp 8) (.const (.int .i64 1)), none, []⟩,
  ⟨some 3, .mv (.tmp 9), none, []⟩]))) }
noncomputable def p23300 : ProcT := { kind := .fn, ins := [0], bins := [], res := [.tmp 2], code := (.seq (.region false [⟨some 1, .box 100 (.tmp 0), none, []⟩,
  ⟨some 2, .mv (.const (.bool false)), none, []⟩])
 (.seq (.seq (.region false [⟨some 4, .fadr 0 (.tmp 1), none, []⟩,
  ⟨some 5, .load 1 false false (.tmp 4), none, []⟩,
  ⟨some 6, .call 23200 0 [.tmp 5], none, []⟩,
  ⟨some 7, .un .not (.tmp 6), none, []⟩,
  ⟨some 8, .mv (.tmp 7), none, []⟩,
  ⟨some 9, .fadr 1 (.tmp 1), some (8, false), []⟩,
  ⟨some 10, .load 1 false false (.tmp 9), some (8, false), []⟩,
  ⟨some 11, .len (.tmp 10), some (8, false), []⟩,
  ⟨some 12, .call 1600 0 [.tmp 11, .const (.int .i64 1), .const (.int .i64 3)], some (8, false), []⟩,
  ⟨some 13, .un .not (.tmp 12), some (8, false), []⟩,
  ⟨some 14, .pick (.tmp 8) (.const (.bool true)) (.tmp 13), none, []⟩])
 (.cond (.tmp 14) (.seq (.region false [⟨some 2, .mv (.const (.bool false)), none, []⟩])
 .ret) .skip))
 (.seq (.seq (.region false [⟨some 3, .mv (.const (.int .i64 0)), none, []⟩])
 (.block 0 (.label 23301)))
 (.seq (.region false [⟨some 2, .mv (.const (.bool true)), none, []⟩])
 .ret)))) }
noncomputable def p23301 : ProcT := { kind := .loop, ins := [1, 3], bins := [100], outs := [2], bouts := [], code := (.seq (.seq (.region false [⟨some 15, .mv (.tmp 3), none, []⟩,
  ⟨some 16, .fadr 1 (.tmp 1), none, []⟩,
  ⟨some 17, .load 1 false false (.tmp 16), none, []⟩,
  ⟨some 18, .len (.tmp 17), none, []⟩,
  ⟨some 19, .bin .lss (.tmp 15) (.tmp 18), none, []⟩])
 (.cond (.tmp 19) .skip (.exit 0)))
 (.seq (.block 1 (.seq (.region true [⟨some 22, .fadr 1 (.tmp 1), none, [100]⟩,
  ⟨some 23, .load 1 false false (.tmp 22), none, [100]⟩,
  ⟨some 24, .mv (.tmp 3), none, []⟩,
  ⟨some 25, .iadr 1 (.tmp 23) (.tmp 24), none, []⟩,
  ⟨some 26, .load 1 false false (.tmp 25), none, []⟩,
  ⟨some 27, .call 6300 0 [.tmp 26], none, []⟩,
  ⟨some 28, .un .not (.tmp 27), none, []⟩,
  ⟨some 29, .mv (.tmp 28), none, []⟩,
  ⟨some 30, .fadr 1 (.tmp 1), some (29, false), [100]⟩,
  ⟨some 31, .load 1 false false (.tmp 30), some (29, false), [100]⟩,
  ⟨some 32, .mv (.tmp 3), some (29, false), []⟩,
  ⟨some 33, .iadr 1 (.tmp 31) (.tmp 32), some (29, false), []⟩,
  ⟨some 34, .load 1 false false (.tmp 33), some (29, false), []⟩,
  ⟨some 35, .fadr 0 (.tmp 1), some (29, false), [100]⟩,
  ⟨some 36, .load 1 false false (.tmp 35), some (29, false), [100]⟩,
  ⟨some 37, .len (.tmp 36), some (29, false), []⟩,
  ⟨some 38, .call 23100 0 [.tmp 34, .tmp 37], some (29, false), []⟩,
  ⟨some 39, .un .not (.tmp 38), some (29, false), []⟩,
  ⟨some 40, .pick (.tmp 29) (.const (.bool true)) (.tmp 39), none, []⟩])
 (.cond (.tmp 40) (.seq (.region false [⟨some 2, .mv (.const (.bool false)), none, []⟩])
 .ret) .skip)))
 (.region false [⟨some 20, .mv (.tmp 3), none, []⟩,
  ⟨some 21, .bin .add (.tmp 20) (.const (.int .i64 1)), none, []⟩,
  ⟨some 3, .mv (.tmp 21), none, []⟩]))) }
noncomputable def p23400 : ProcT := { kind := .fn, ins := [0], bins := [], res := [.tmp 2], code := (.seq (.region false [⟨some 2, .mv (.const (.sl (.own false) .bx [])), none, []⟩])
 (.seq (.region false [⟨some 5, .buildS (.own true) .bx [], none, []⟩,
  ⟨some 3, .mv (.take 5), none, []⟩])
 (.seq (.seq (.region false [⟨some 4, .mv (.const (.int .i64 0)), none, []⟩])
 (.block 0 (.label 23401)))
 (.seq (.region false [⟨some 21, .mv (.take 3), none, []⟩,
  ⟨some 2, .mv (.take 21), none, []⟩])
 .ret)))) }
noncomputable def p23401 : ProcT := { kind := .loop, ins := [0, 3, 4], bins := [], outs := [2, 3], bouts := [], code := (.seq (.seq (.region false [⟨some 6, .mv (.tmp 4), none, []⟩,
  ⟨some 7, .mv (.tmp 0), none, []⟩,
  ⟨some 8, .len (.tmp 7), none, []⟩,
  ⟨some 9, .bin .lss (.tmp 6) (.tmp 8), none, []⟩])
 (.cond (.tmp 9) .skip (.exit 0)))
 (.seq (.block 1 (.region false [⟨some 12, .mv (.take 3), none, []⟩,
  ⟨some 13, .mv (.tmp 0), none, []⟩,
  ⟨some 14, .mv (.tmp 4), none, []⟩,
  ⟨some 15, .iadr 1 (.tmp 13) (.tmp 14), none, []⟩,
  ⟨some 16, .load 1 false false (.tmp 15), none, []⟩,
  ⟨some 17, .buildS (.own false) .int [], none, []⟩,
  ⟨some 18, .build [.int .i64 0, .sl (.own false) .int []] [(0, 1, .tmp 16), (1, 1, .tmp 17)], none, []⟩,
  ⟨some 19, .buildS .full .bx [.tmp 18], none, []⟩,
  ⟨some 20, .app 2 (.take 12) (.tmp 19), none, []⟩,
  ⟨some 3, .mv (.take 20), none, []⟩]))
 (.region false [⟨some 10, .mv (.tmp 4), none, []⟩,
  ⟨some 11, .bin .add (.tmp 10) (.const (.int .i64 1)), none, []⟩,
  ⟨some 4, .mv (.tmp 11), none, []⟩]))) }
noncomputable def p23500 : ProcT := { kind := .fn, ins := [0], bins := [], res := [.cell 2 5 true, .tmp 3], code := (.seq (.region false [⟨some 1, .box 100 (.tmp 0), none, []⟩,
  ⟨some 2, .alloc 101 [.sl (.own false) .tk [], .sl (.own false) .bx [], .int .i64 0, .int .i64 0, .sl (.own false) .int []], none, []⟩,
  ⟨some 3, .mv (.const (.bool false)), none, []⟩])
 (.seq (.seq (.region false [⟨some 8, .load 2 true false (.tmp 1), none, []⟩,
  ⟨some 9, .call 23300 0 [.tmp 8], none, []⟩,
  ⟨some 10, .un .not (.tmp 9), none, []⟩])
 (.cond (.tmp 10) (.seq (.region false [⟨some 11, .build [.sl (.own false) .tk [], .sl (.own false) .bx [], .int .i64 0, .int .i64 0, .sl (.own false) .int []] [], none, []⟩,
  ⟨none, .store 5 (.tmp 2) (.tmp 11), none, []⟩,
  ⟨some 3, .mv (.const (.bool false)), none, []⟩])
 .ret) .skip))
 (.seq (.region false [⟨some 12, .buildS (.own false) .tk [], none, []⟩,
  ⟨some 13, .fadr 0 (.tmp 1), none, []⟩,
  ⟨some 14, .load 1 false false (.tmp 13), none, []⟩,
  ⟨some 15, .call 23400 0 [.tmp 14], none, []⟩,
  ⟨some 16, .buildS (.own false) .int [], none, []⟩,
  ⟨some 17, .build [.sl (.own false) .tk [], .sl (.own false) .bx [], .int .i64 0, .int .i64 0, .sl (.own false) .int []] [(0, 1, .tmp 12), (1, 1, .tmp 15), (4, 1, .tmp 16)], none, []⟩,
  ⟨some 4, .alloc 102 [.sl (.own false) .tk [], .sl (.own false) .bx [], .int .i64 0, .int .i64 0, .sl (.own false) .int []], none, []⟩,
  ⟨none, .store 5 (.tmp 4) (.tmp 17), none, []⟩])
 (.seq (.seq (.region false [⟨some 5, .mv (.const (.int .i64 0)), none, []⟩])
 (.block 0 (.label 23501)))
 (.seq (.region false [⟨some 40, .load 5 true false (.tmp 4), none, []⟩,
  ⟨none, .store 5 (.tmp 2) (.tmp 40), none, []⟩,
  ⟨some 3, .mv (.const (.bool true)), none, []⟩])
 .ret))))) }
noncomputable def p23501 : ProcT := { kind := .loop, ins := [1, 2, 4, 5], bins := [100, 101, 102], outs := [2, 3, 4], bouts := [101, 102], code := (.seq (.seq (.region false [⟨some 18, .mv (.tmp 5), none, []⟩,
  ⟨some 19, .fadr 1 (.tmp 1), none, []⟩,
  ⟨some 20, .load 1 false false (.tmp 19), none, []⟩,
  ⟨some 21, .len (.tmp 20), none, []⟩,
  ⟨some 22, .bin .lss (.tmp 18) (.tmp 21), none, []⟩])
 (.cond (.tmp 22) .skip (.exit 0)))
 (.seq (.block 1 (.seq (.region false [⟨some 26, .fadr 1 (.tmp 1), none, []⟩,
  ⟨some 27, .load 1 false false (.tmp 26), none, []⟩,
  ⟨some 28, .mv (.tmp 5), none, []⟩,
  ⟨some 29, .iadr 1 (.tmp 27) (.tmp 28), none, []⟩,
  ⟨some 30, .load 1 false false (.tmp 29), none, []⟩,
  ⟨some 31, .call 9600 0 [.tmp 30], none, []⟩,
  ⟨some 25, .mv (.tmp 31), none, []⟩,
  ⟨some 32, .ext 0 (.tmp 25), none, []⟩,
  ⟨some 33, .ext 1 (.tmp 25), none, []⟩,
  ⟨some 6, .alloc 103 [.sl (.own false) .int [], .sl (.own false) .stm []], none, []⟩,
  ⟨none, .store 2 (.tmp 6) (.tmp 32), none, []⟩,
  ⟨some 7, .mv (.tmp 33), none, []⟩])
 (.region false [⟨some 34, .fadr 0 (.tmp 4), none, []⟩,
  ⟨some 35, .load 1 false true (.tmp 34), none, []⟩,
  ⟨some 36, .load 2 true false (.tmp 6), none, []⟩,
  ⟨some 37, .buildS .full .tk [.tmp 36], none, []⟩,
  ⟨some 38, .app 2 (.take 35) (.tmp 37), none, []⟩,
  ⟨some 39, .fadr 0 (.tmp 4), none, []⟩,
  ⟨none, .store 1 (.tmp 39) (.take 38), none, []⟩])))
 (.region false [⟨some 23, .mv (.tmp 5), none, []⟩,
  ⟨some 24, .bin .add (.tmp 23) (.const (.int .i64 1)), none, []⟩,
  ⟨some 5, .mv (.tmp 24), none, []⟩]))) }
noncomputable def p23600 : ProcT := { kind := .fn, ins := [0, 1], bins := [], res := [.tmp 4], code := (.seq (.region false [⟨some 4, .mv (.const (.bool false)), none, []⟩])
 (.seq (.seq (.region false [⟨some 6, .mv (.tmp 0), none, []⟩,
  ⟨some 7, .len (.tmp 6), none, []⟩,
  ⟨some 8, .mv (.tmp 1), none, []⟩,
  ⟨some 9, .len (.tmp 8), none, []⟩,
  ⟨some 10, .bin .neq (.tmp 7) (.tmp 9), none, []⟩])
 (.cond (.tmp 10) (.seq (.region false [⟨some 4, .mv (.const (.bool false)), none, []⟩])
 .ret) .skip))
 (.seq (.seq (.region false [⟨some 5, .mv (.const (.int .i64 0)), none, []⟩])
 (.block 0 (.label 23601)))
 (.seq (.region false [⟨some 4, .mv (.const (.bool true)), none, []⟩])
 .ret)))) }
noncomputable def p23601 : ProcT := { kind := .loop, ins := [0, 1, 5], bins := [], outs := [4], bouts := [], code := (.seq (.seq (.region false [⟨some 11, .mv (.tmp 5), none, []⟩,
  ⟨some 12, .mv (.tmp 0), none, []⟩,
  ⟨some 13, .len (.tmp 12), none, []⟩,
  ⟨some 14, .bin .lss (.tmp 11) (.tmp 13), none, []⟩])
 (.cond (.tmp 14) .skip (.exit 0)))
 (.seq (.block 1 (.seq (.region true [⟨some 17, .mv (.tmp 0), none, []⟩,
  ⟨some 18, .mv (.tmp 5), none, []⟩,
  ⟨some 19, .iadr 2 (.tmp 17) (.tmp 18), none, []⟩,
  ⟨some 20, .load 2 true false (.tmp 19), none, []⟩,
  ⟨some 21, .mv (.tmp 1), none, []⟩,
  ⟨some 22, .mv (.tmp 5), none, []⟩,
  ⟨some 23, .iadr 2 (.tmp 21) (.tmp 22), none, []⟩,
  ⟨some 24, .load 2 true false (.tmp 23), none, []⟩,
  ⟨some 25, .call 18000 0 [.tmp 20, .tmp 24], none, []⟩,
  ⟨some 26, .un .not (.tmp 25), none, []⟩])
 (.cond (.tmp 26) (.seq (.region false [⟨some 4, .mv (.const (.bool false)), none, []⟩])
 .ret) .skip)))
 (.region false [⟨some 15, .mv (.tmp 5), none, []⟩,
  ⟨some 16, .bin .add (.tmp 15) (.const (.int .i64 1)), none, []⟩,
  ⟨some 5, .mv (.tmp 16), none, []⟩]))) }
noncomputable def p23700 : ProcT := { kind := .fn, ins := [0, 1], bins := [], res := [.tmp 4], code := (.seq (.region false [⟨some 2, .box 100 (.tmp 0), none, []⟩,
  ⟨some 3, .box 101 (.tmp 1), none, []⟩,
  ⟨some 4, .mv (.const (.bool false)), none, []⟩])
 (.seq (.seq (.region false [⟨some 6, .fadr 0 (.tmp 2), none, []⟩,
  ⟨some 7, .load 1 false false (.tmp 6), none, []⟩,
  ⟨some 8, .len (.tmp 7), none, []⟩,
  ⟨some 9, .fadr 0 (.tmp 3), none, []⟩,
  ⟨some 10, .load 1 false false (.tmp 9), none, []⟩,
  ⟨some 11, .len (.tmp 10), none, []⟩,
  ⟨some 12, .bin .neq (.tmp 8) (.tmp 11), none, []⟩,
  ⟨some 13, .mv (.tmp 12), none, []⟩,
  ⟨some 14, .fadr 2 (.tmp 2), some (13, false), []⟩,
  ⟨some 15, .load 1 false false (.tmp 14), some (13, false), []⟩,
  ⟨some 16, .fadr 2 (.tmp 3), some (13, false), []⟩,
  ⟨some 17, .load 1 false false (.tmp 16), some (13, false), []⟩,
  ⟨some 18, .bin .neq (.tmp 15) (.tmp 17), some (13, false), []⟩,
  ⟨some 19, .pick (.tmp 13) (.const (.bool true)) (.tmp 18), none, []⟩,
  ⟨some 20, .mv (.tmp 19), none, []⟩,
  ⟨some 21, .fadr 3 (.tmp 2), some (20, false), []⟩,
  ⟨some 22, .load 1 false false (.tmp 21), some (20, false), []⟩,
  ⟨some 23, .fadr 3 (.tmp 3), some (20, false), []⟩,
  ⟨some 24, .load 1 false false (.tmp 23), some (20, false), []⟩,
  ⟨some 25, .bin .neq (.tmp 22) (.tmp 24), some (20, false), []⟩,
  ⟨some 26, .pick (.tmp 20) (.const (.bool true)) (.tmp 25), none, []⟩])
 (.cond (.tmp 26) (.seq (.region false [⟨some 4, .mv (.const (.bool false)), none, []⟩])
 .ret) .skip))
 (.seq (.seq (.region false [⟨some 5, .mv (.const (.int .i64 0)), none, []⟩])
 (.block 0 (.label 23701)))
 (.seq (.region false [⟨some 46, .fadr 1 (.tmp 2), none, []⟩,
  ⟨some 47, .load 1 false false (.tmp 46), none, []⟩,
  ⟨some 48, .fadr 1 (.tmp 3), none, []⟩,
  ⟨some 49, .load 1 false false (.tmp 48), none, []⟩,
  ⟨some 50, .call 23600 0 [.tmp 47, .tmp 49], none, []⟩,
  ⟨some 51, .mv (.tmp 50), none, []⟩,
  ⟨some 52, .fadr 4 (.tmp 2), some (51, true), []⟩,
  ⟨some 53, .load 1 false false (.tmp 52), some (51, true), []⟩,
  ⟨some 54, .fadr 4 (.tmp 3), some (51, true), []⟩,
  ⟨some 55, .load 1 false false (.tmp 54), some (51, true), []⟩,
  ⟨some 56, .call 9700 0 [.tmp 53, .tmp 55], some (51, true), []⟩,
  ⟨some 57, .pick (.tmp 51) (.tmp 56) (.const (.bool false)), none, []⟩,
  ⟨some 4, .mv (.tmp 57), none, []⟩])
 .ret)))) }
noncomputable def p23701 : ProcT := { kind := .loop, ins := [2, 3, 5], bins := [100, 101], outs := [2, 3, 4], bouts := [100, 101], code := (.seq (.seq (.region false [⟨some 27, .mv (.tmp 5), none, []⟩,
  ⟨some 28, .fadr 0 (.tmp 2), none, []⟩,
  ⟨some 29, .load 1 false false (.tmp 28), none, []⟩,
  ⟨some 30, .len (.tmp 29), none, []⟩,
  ⟨some 31, .bin .lss (.tmp 27) (.tmp 30), none, []⟩])
 (.cond (.tmp 31) .skip (.exit 0)))
 (.seq (.block 1 (.seq (.region true [⟨some 34, .fadr 0 (.tmp 2), none, [100]⟩,
  ⟨some 35, .load 1 false false (.tmp 34), none, [100]⟩,
  ⟨some 36, .mv (.tmp 5), none, []⟩,
  ⟨some 37, .iadr 2 (.tmp 35) (.tmp 36), none, []⟩,
  ⟨some 38, .load 2 true false (.tmp 37), none, []⟩,
  ⟨some 39, .fadr 0 (.tmp 3), none, [101]⟩,
  ⟨some 40, .load 1 false false (.tmp 39), none, [101]⟩,
  ⟨some 41, .mv (.tmp 5), none, []⟩,
  ⟨some 42, .iadr 2 (.tmp 40) (.tmp 41), none, []⟩,
  ⟨some 43, .load 2 true false (.tmp 42), none, []⟩,
  ⟨some 44, .call 10000 0 [.tmp 38, .tmp 43], none, []⟩,
  ⟨some 45, .un .not (.tmp 44), none, []⟩])
 (.cond (.tmp 45) (.seq (.region false [⟨some 4, .mv (.const (.bool false)), none, []⟩])
 .ret) .skip)))
 (.region false [⟨some 32, .mv (.tmp 5), none, []⟩,
  ⟨some 33, .bin .add (.tmp 32) (.const (.int .i64 1)), none, []⟩,
  ⟨some 5, .mv (.tmp 33), none, []⟩]))) }
noncomputable def p23800 : ProcT := { kind := .fn, ins := [0, 1, 2, 3], bins := [], res := [.tmp 8], code := (.seq (.region false [⟨some 8, .mv (.const (.bool false)), none, []⟩])
 (.seq (.region false [⟨some 9, .mv (.tmp 0), none, []⟩,
  ⟨some 10, .bin .geq (.tmp 9) (.const (.int .i64 1)), none, []⟩,
  ⟨some 11, .mv (.tmp 10), none, []⟩,
  ⟨some 12, .mv (.tmp 0), some (11, true), []⟩,
  ⟨some 13, .bin .leq (.tmp 12) (.const (.int .i64 3)), some (11, true), []⟩,
  ⟨some 14, .pick (.tmp 11) (.tmp 13) (.const (.bool false)), none, []⟩,
  ⟨some 15, .mv (.tmp 14), none, []⟩,
  ⟨some 16, .mv (.tmp 1), some (15, true), []⟩,
  ⟨some 17, .bin .geq (.tmp 16) (.const (.int .i64 0)), some (15, true), []⟩,
  ⟨some 18, .pick (.tmp 15) (.tmp 17) (.const (.bool false)), none, []⟩,
  ⟨some 19, .mv (.tmp 18), none, []⟩,
  ⟨some 20, .mv (.tmp 1), some (19, true), []⟩,
  ⟨some 21, .mv (.tmp 0), some (19, true), []⟩,
  ⟨some 22, .bin .lss (.tmp 20) (.tmp 21), some (19, true), []⟩,
  ⟨some 23, .pick (.tmp 19) (.tmp 22) (.const (.bool false)), none, []⟩,
  ⟨some 24, .mv (.tmp 23), none, []⟩,
  ⟨some 25, .mv (.tmp 2), some (24, true), []⟩,
  ⟨some 26, .bin .geq (.tmp 25) (.const (.int .i64 0)), some (24, true), []⟩,
  ⟨some 27, .pick (.tmp 24) (.tmp 26) (.const (.bool false)), none, []⟩,
  ⟨some 28, .mv (.tmp 27), none, []⟩,
  ⟨some 29, .mv (.tmp 2), some (28, true), []⟩,
  ⟨some 30, .mv (.tmp 0), some (28, true), []⟩,
  ⟨some 31, .bin .leq (.tmp 29) (.tmp 30), some (28, true), []⟩,
  ⟨some 32, .pick (.tmp 28) (.tmp 31) (.const (.bool false)), none, []⟩,
  ⟨some 33, .mv (.tmp 32), none, []⟩,
  ⟨some 34, .mv (.tmp 3), some (33, true), []⟩,
  ⟨some 35, .call 5100 0 [.tmp 34], some (33, true), []⟩,
  ⟨some 36, .pick (.tmp 33) (.tmp 35) (.const (.bool false)), none, []⟩,
  ⟨some 8, .mv (.tmp 36), none, []⟩])
 .ret)) }
noncomputable def p23900 : ProcT := { kind := .fn, ins := [0], bins := [], res := [.tmp 2], code := (.seq (.region false [⟨some 2, .mv (.const (.bool false)), none, []⟩])
 (.seq (.seq (.region false [⟨some 5, .mv (.tmp 0), none, []⟩,
  ⟨some 6, .len (.tmp 5), none, []⟩,
  ⟨some 7, .mv (.const (.int .i64 0)), none, []⟩])
 (.block 0 (.label 23901)))
 (.seq (.region false [⟨some 15, .mv (.tmp 0), none, []⟩,
  ⟨some 16, .len (.tmp 15), none, []⟩,
  ⟨some 17, .bin .leq (.tmp 16) (.const (.int .i64 3)), none, []⟩,
  ⟨some 2, .mv (.tmp 17), none, []⟩])
 .ret))) }
noncomputable def p23901 : ProcT := { kind := .loop, ins := [0, 5, 6, 7], bins := [], outs := [0, 2], bouts := [], code := (.seq (.region false [⟨some 8, .bin .lss (.tmp 7) (.tmp 6), none, []⟩])
 (.seq (.cond (.tmp 8) .skip (.exit 0))
 (.seq (.block 1 (.seq (.region false [⟨some 9, .iadr 2 (.tmp 5) (.tmp 7), none, []⟩,
  ⟨some 10, .load 2 true false (.tmp 9), none, []⟩,
  ⟨some 4, .alloc 100 [.int .i64 0, .sl (.own false) .int []], none, []⟩,
  ⟨none, .store 2 (.tmp 4) (.tmp 10), none, []⟩])
 (.seq (.region false [⟨some 11, .load 2 true false (.tmp 4), none, []⟩,
  ⟨some 12, .call 17600 0 [.tmp 11], none, []⟩,
  ⟨some 13, .un .not (.tmp 12), none, []⟩])
 (.cond (.tmp 13) (.seq (.region false [⟨some 2, .mv (.const (.bool false)), none, []⟩])
 .ret) .skip))))
 (.region false [⟨some 14, .bin .add (.tmp 7) (.const (.int .i64 1)), none, []⟩,
  ⟨some 7, .mv (.tmp 14), none, []⟩])))) }
noncomputable def p24000 : ProcT := { kind := .fn, ins := [0], bins := [], res := [.tmp 2], code := (.seq (.region false [⟨some 1, .box 100 (.tmp 0), none, []⟩,
  ⟨some 2, .mv (.const (.bool false)), none, []⟩])
 (.seq (.seq (.region false [⟨some 5, .fadr 0 (.tmp 1), none, []⟩,
  ⟨some 6, .load 1 false false (.tmp 5), none, []⟩,
  ⟨some 7, .len (.tmp 6), none, []⟩,
  ⟨some 8, .fadr 2 (.tmp 1), none, []⟩,
  ⟨some 9, .load 1 false false (.tmp 8), none, []⟩,
  ⟨some 10, .fadr 3 (.tmp 1), none, []⟩,
  ⟨some 11, .load 1 false false (.tmp 10), none, []⟩,
  ⟨some 12, .fadr 4 (.tmp 1), none, []⟩,
  ⟨some 13, .load 1 false false (.tmp 12), none, []⟩,
  ⟨some 14, .call 23800 0 [.tmp 7, .tmp 9, .tmp 11, .tmp 13], none, []⟩,
  ⟨some 15, .un .not (.tmp 14), none, []⟩,
  ⟨some 16, .mv (.tmp 15), none, []⟩,
  ⟨some 17, .fadr 1 (.tmp 1), some (16, false), []⟩,
  ⟨some 18, .load 1 false false (.tmp 17), some (16, false), []⟩,
  ⟨some 19, .call 23900 0 [.tmp 18], some (16, false), []⟩,
  ⟨some 20, .un .not (.tmp 19), some (16, false), []⟩,
  ⟨some 21, .pick (.tmp 16) (.const (.bool true)) (.tmp 20), none, []⟩])
 (.cond (.tmp 21) (.seq (.region false [⟨some 2, .mv (.const (.bool false)), none, []⟩])
 .ret) .skip))
 (.seq (.seq (.region false [⟨some 22, .fadr 0 (.tmp 1), none, []⟩,
  ⟨some 23, .load 1 false false (.tmp 22), none, []⟩,
  ⟨some 24, .len (.tmp 23), none, []⟩,
  ⟨some 25, .mv (.const (.int .i64 0)), none, []⟩])
 (.block 0 (.label 24001)))
 (.seq (.region false [⟨some 2, .mv (.const (.bool true)), none, []⟩])
 .ret)))) }
noncomputable def p24001 : ProcT := { kind := .loop, ins := [1, 23, 24, 25], bins := [100], outs := [2], bouts := [], code := (.seq (.region false [⟨some 26, .bin .lss (.tmp 25) (.tmp 24), none, []⟩])
 (.seq (.cond (.tmp 26) .skip (.exit 0))
 (.seq (.block 1 (.seq (.region false [⟨some 27, .iadr 2 (.tmp 23) (.tmp 25), none, []⟩,
  ⟨some 28, .load 2 true false (.tmp 27), none, []⟩,
  ⟨some 4, .alloc 101 [.sl (.own false) .int [], .sl (.own false) .stm []], none, []⟩,
  ⟨none, .store 2 (.tmp 4) (.tmp 28), none, []⟩])
 (.seq (.region false [⟨some 29, .load 2 true false (.tmp 4), none, []⟩,
  ⟨some 30, .fadr 1 (.tmp 1), none, []⟩,
  ⟨some 31, .load 1 false false (.tmp 30), none, []⟩,
  ⟨some 32, .len (.tmp 31), none, []⟩,
  ⟨some 33, .call 5500 0 [.tmp 29, .tmp 32], none, []⟩,
  ⟨some 34, .un .not (.tmp 33), none, []⟩])
 (.cond (.tmp 34) (.seq (.region false [⟨some 2, .mv (.const (.bool false)), none, []⟩])
 .ret) .skip))))
 (.region false [⟨some 35, .bin .add (.tmp 25) (.const (.int .i64 1)), none, []⟩,
  ⟨some 25, .mv (.tmp 35), none, []⟩])))) }
noncomputable def p24100 : ProcT := { kind := .fn, ins := [0], bins := [], res := [.tmp 2], code := (.seq (.region false [⟨some 2, .mv (.const (.bool false)), none, []⟩])
 (.seq (.seq (.region false [⟨some 12, .mv (.tmp 0), none, []⟩,
  ⟨some 13, .len (.tmp 12), none, []⟩,
  ⟨some 14, .bin .gtr (.tmp 13) (.const (.int .i64 1048576)), none, []⟩])
 (.cond (.tmp 14) (.seq (.region false [⟨some 2, .mv (.const (.bool true)), none, []⟩])
 .ret) .skip))
 (.seq (.region false [⟨some 15, .mv (.tmp 0), none, []⟩,
  ⟨some 16, .call 22600 0 [.tmp 15], none, []⟩,
  ⟨some 3, .alloc 100 [.sl (.own false) .int [], .sl (.own false) .stms []], none, []⟩,
  ⟨none, .store 2 (.tmp 3) (.tmp 16), none, []⟩])
 (.seq (.region false [⟨some 18, .load 2 true false (.tmp 3), none, []⟩,
  ⟨some 19, .call 23000 0 [.tmp 18], none, []⟩,
  ⟨some 17, .mv (.tmp 19), none, []⟩,
  ⟨some 20, .ext 0 (.tmp 17), none, []⟩,
  ⟨some 21, .ext 1 (.tmp 17), none, []⟩,
  ⟨some 4, .alloc 101 [.sl (.own false) .tk [], .sl (.own false) .bx [], .int .i64 0, .int .i64 0, .sl (.own false) .int []], none, []⟩,
  ⟨none, .store 5 (.tmp 4) (.tmp 20), none, []⟩,
  ⟨some 5, .mv (.tmp 21), none, []⟩])
 (.seq (.region false [⟨some 23, .load 2 true false (.tmp 3), none, []⟩,
  ⟨some 24, .call 23500 0 [.tmp 23], none, []⟩,
  ⟨some 22, .mv (.tmp 24), none, []⟩,
  ⟨some 25, .ext 0 (.tmp 22), none, []⟩,
  ⟨some 26, .ext 1 (.tmp 22), none, []⟩,
  ⟨some 6, .alloc 102 [.sl (.own false) .tk [], .sl (.own false) .bx [], .int .i64 0, .int .i64 0, .sl (.own false) .int []], none, []⟩,
  ⟨none, .store 5 (.tmp 6) (.tmp 25), none, []⟩,
  ⟨some 7, .mv (.tmp 26), none, []⟩])
 (.seq (.seq (.region false [⟨some 27, .mv (.tmp 5), none, []⟩,
  ⟨some 28, .mv (.tmp 7), none, []⟩,
  ⟨some 29, .eqb true (.tmp 27) (.tmp 28), none, []⟩,
  ⟨some 30, .mv (.tmp 29), none, []⟩,
  ⟨some 31, .load 5 true false (.tmp 4), some (30, false), []⟩,
  ⟨some 32, .load 5 true false (.tmp 6), some (30, false), []⟩,
  ⟨some 33, .call 23700 0 [.tmp 31, .tmp 32], some (30, false), []⟩,
  ⟨some 34, .un .not (.tmp 33), some (30, false), []⟩,
  ⟨some 35, .pick (.tmp 30) (.const (.bool true)) (.tmp 34), none, []⟩,
  ⟨some 36, .mv (.tmp 35), none, []⟩,
  ⟨some 37, .mv (.tmp 5), some (36, false), []⟩,
  ⟨some 38, .un .not (.tmp 37), some (36, false), []⟩,
  ⟨some 39, .pick (.tmp 36) (.const (.bool true)) (.tmp 38), none, []⟩])
 (.cond (.tmp 39) (.seq (.region false [⟨some 40, .mv (.tmp 5), none, []⟩,
  ⟨some 41, .mv (.tmp 7), none, []⟩,
  ⟨some 42, .eqb false (.tmp 40) (.tmp 41), none, []⟩,
  ⟨some 43, .mv (.tmp 42), none, []⟩,
  ⟨some 44, .load 5 true false (.tmp 4), some (43, true), []⟩,
  ⟨some 45, .load 5 true false (.tmp 6), some (43, true), []⟩,
  ⟨some 46, .call 23700 0 [.tmp 44, .tmp 45], some (43, true), []⟩,
  ⟨some 47, .pick (.tmp 43) (.tmp 46) (.const (.bool false)), none, []⟩,
  ⟨some 2, .mv (.tmp 47), none, []⟩])
 .ret) .skip))
 (.seq (.seq (.region false [⟨some 8, .mv (.const (.int .i64 0)), none, []⟩])
 (.block 0 (.label 24101)))
 (.seq (.seq (.region false [⟨some 11, .mv (.const (.int .i64 0)), none, []⟩])
 (.block 2 (.label 24102)))
 (.seq (.region false [⟨some 105, .load 5 true false (.tmp 4), none, []⟩,
  ⟨some 106, .call 24000 0 [.tmp 105], none, []⟩,
  ⟨some 107, .mv (.tmp 106), none, []⟩,
  ⟨some 108, .fadr 3 (.tmp 4), some (107, true), []⟩,
  ⟨some 109, .load 1 false false (.tmp 108), some (107, true), []⟩,
  ⟨some 110, .bin .eql (.tmp 109) (.const (.int .i64 0)), some (107, true), []⟩,
  ⟨some 111, .pick (.tmp 107) (.tmp 110) (.const (.bool false)), none, []⟩,
  ⟨some 112, .mv (.tmp 111), none, []⟩,
  ⟨some 113, .fadr 4 (.tmp 4), some (112, true), []⟩,
  ⟨some 114, .load 1 false false (.tmp 113), some (112, true), []⟩,
  ⟨some 115, .len (.tmp 114), some (112, true), []⟩,
  ⟨some 116, .bin .eql (.tmp 115) (.const (.int .i64 0)), some (112, true), []⟩,
  ⟨some 117, .pick (.tmp 112) (.tmp 116) (.const (.bool false)), none, []⟩,
  ⟨some 118, .mv (.tmp 117), none, []⟩,
  ⟨some 119, .fadr 0 (.tmp 4), some (118, true), []⟩,
  ⟨some 120, .load 1 false false (.tmp 119), some (118, true), []⟩,
  ⟨some 121, .len (.tmp 120), some (118, true), []⟩,
  ⟨some 122, .fadr 1 (.tmp 3), some (118, true), []⟩,
  ⟨some 123, .load 1 false false (.tmp 122), some (118, true), []⟩,
  ⟨some 124, .len (.tmp 123), some (118, true), []⟩,
  ⟨some 125, .bin .eql (.tmp 121) (.tmp 124), some (118, true), []⟩,
  ⟨some 126, .pick (.tmp 118) (.tmp 125) (.const (.bool false)), none, []⟩,
  ⟨some 2, .mv (.tmp 126), none, []⟩])
 .ret))))))))) }
noncomputable def p24101 : ProcT := { kind := .loop, ins := [3, 4, 8], bins := [100, 101], outs := [2, 3, 4], bouts := [100, 101], code := (.seq (.seq (.region false [⟨some 48, .mv (.tmp 8), none, []⟩,
  ⟨some 49, .fadr 0 (.tmp 4), none, []⟩,
  ⟨some 50, .load 1 false false (.tmp 49), none, []⟩,
  ⟨some 51, .len (.tmp 50), none, []⟩,
  ⟨some 52, .bin .lss (.tmp 48) (.tmp 51), none, []⟩])
 (.cond (.tmp 52) .skip (.exit 0)))
 (.seq (.block 1 (.seq (.region false [⟨some 56, .fadr 1 (.tmp 3), none, []⟩,
  ⟨some 57, .load 1 false false (.tmp 56), none, []⟩,
  ⟨some 58, .mv (.tmp 8), none, []⟩,
  ⟨some 59, .iadr 1 (.tmp 57) (.tmp 58), none, []⟩,
  ⟨some 60, .load 1 false false (.tmp 59), none, []⟩,
  ⟨some 61, .call 9300 0 [.tmp 60], none, []⟩,
  ⟨some 55, .mv (.tmp 61), none, []⟩,
  ⟨some 62, .ext 0 (.tmp 55), none, []⟩,
  ⟨some 63, .ext 1 (.tmp 55), none, []⟩,
  ⟨some 9, .alloc 103 [.sl (.own false) .int [], .sl (.own false) .stm []], none, []⟩,
  ⟨none, .store 2 (.tmp 9) (.tmp 62), none, []⟩,
  ⟨some 10, .mv (.tmp 63), none, []⟩])
 (.seq (.region true [⟨some 64, .mv (.tmp 10), none, []⟩,
  ⟨some 65, .un .not (.tmp 64), none, []⟩,
  ⟨some 66, .mv (.tmp 65), none, []⟩,
  ⟨some 67, .load 2 true false (.tmp 9), some (66, false), [103]⟩,
  ⟨some 68, .fadr 0 (.tmp 4), some (66, false), [101]⟩,
  ⟨some 69, .load 1 false false (.tmp 68), some (66, false), [101]⟩,
  ⟨some 70, .mv (.tmp 8), some (66, false), []⟩,
  ⟨some 71, .iadr 2 (.tmp 69) (.tmp 70), some (66, false), []⟩,
  ⟨some 72, .load 2 true false (.tmp 71), some (66, false), []⟩,
  ⟨some 73, .call 10000 0 [.tmp 67, .tmp 72], some (66, false), []⟩,
  ⟨some 74, .un .not (.tmp 73), some (66, false), []⟩,
  ⟨some 75, .pick (.tmp 66) (.const (.bool true)) (.tmp 74), none, []⟩])
 (.cond (.tmp 75) (.seq (.region false [⟨some 2, .mv (.const (.bool false)), none, []⟩])
 .ret) .skip))))
 (.region false [⟨some 53, .mv (.tmp 8), none, []⟩,
  ⟨some 54, .bin .add (.tmp 53) (.const (.int .i64 1)), none, []⟩,
  ⟨some 8, .mv (.tmp 54), none, []⟩]))) }
noncomputable def p24102 : ProcT := { kind := .loop, ins := [3, 4, 11], bins := [100, 101], outs := [2, 3, 4], bouts := [100, 101], code := (.seq (.seq (.region false [⟨some 76, .mv (.tmp 11), none, []⟩,
  ⟨some 77, .fadr 1 (.tmp 4), none, []⟩,
  ⟨some 78, .load 1 false false (.tmp 77), none, []⟩,
  ⟨some 79, .len (.tmp 78), none, []⟩,
  ⟨some 80, .bin .lss (.tmp 76) (.tmp 79), none, []⟩])
 (.cond (.tmp 80) .skip (.exit 2)))
 (.seq (.block 3 (.seq (.region true [⟨some 83, .fadr 1 (.tmp 4), none, [101]⟩,
  ⟨some 84, .load 1 false false (.tmp 83), none, [101]⟩,
  ⟨some 85, .mv (.tmp 11), none, []⟩,
  ⟨some 86, .iadr 2 (.tmp 84) (.tmp 85), none, []⟩,
  ⟨some 87, .fadr 0 (.tmp 86), none, []⟩,
  ⟨some 88, .load 1 false false (.tmp 87), none, []⟩,
  ⟨some 89, .fadr 0 (.tmp 3), none, [100]⟩,
  ⟨some 90, .load 1 false false (.tmp 89), none, [100]⟩,
  ⟨some 91, .mv (.tmp 11), none, []⟩,
  ⟨some 92, .iadr 1 (.tmp 90) (.tmp 91), none, []⟩,
  ⟨some 93, .load 1 false false (.tmp 92), none, []⟩,
  ⟨some 94, .bin .neq (.tmp 88) (.tmp 93), none, []⟩,
  ⟨some 95, .mv (.tmp 94), none, []⟩,
  ⟨some 96, .fadr 1 (.tmp 4), some (95, false), [101]⟩,
  ⟨some 97, .load 1 false false (.tmp 96), some (95, false), [101]⟩,
  ⟨some 98, .mv (.tmp 11), some (95, false), []⟩,
  ⟨some 99, .iadr 2 (.tmp 97) (.tmp 98), some (95, false), []⟩,
  ⟨some 100, .fadr 1 (.tmp 99), some (95, false), []⟩,
  ⟨some 101, .load 1 false false (.tmp 100), some (95, false), []⟩,
  ⟨some 102, .len (.tmp 101), some (95, false), []⟩,
  ⟨some 103, .bin .gtr (.tmp 102) (.const (.int .i64 0)), some (95, false), []⟩,
  ⟨some 104, .pick (.tmp 95) (.const (.bool true)) (.tmp 103), none, []⟩])
 (.cond (.tmp 104) (.seq (.region false [⟨some 2, .mv (.const (.bool false)), none, []⟩])
 .ret) .skip)))
 (.region false [⟨some 81, .mv (.tmp 11), none, []⟩,
  ⟨some 82, .bin .add (.tmp 81) (.const (.int .i64 1)), none, []⟩,
  ⟨some 11, .mv (.tmp 82), none, []⟩]))) }
noncomputable def p38000 : ProcT := { kind := .fn, ins := [0, 1], bins := [0, 99], res := [.tmp 4], code := (.seq (.region false [⟨some 4, .mv (.const (.tr .stm none 0)), none, []⟩])
 (.seq (.region false [⟨some 6, .mv (.tmp 0), none, []⟩,
  ⟨some 7, .mv (.tmp 1), none, []⟩,
  ⟨some 8, .mv (.tmp 0), none, []⟩,
  ⟨some 9, .call 200 0 [.tmp 8, .const (.int .i64 6)], none, []⟩,
  ⟨some 10, .bin .add (.const (.int .i64 1)) (.tmp 9), none, []⟩,
  ⟨some 11, .tr (.call .pass 38100 [.tmp 6, .tmp 7, .const (.int .i64 3), .tmp 10, .const (.bool true)]), none, []⟩,
  ⟨some 5, .mv (.tmp 11), none, []⟩])
 (.seq (.block 0 (.label 38001))
 (.seq (.region false [⟨some 20, .mv (.tmp 5), none, []⟩,
  ⟨some 4, .mv (.tmp 20), none, []⟩])
 .ret)))) }
noncomputable def p38001 : ProcT := { kind := .loop, ins := [0, 5], bins := [0, 99], outs := [0, 4, 5], bouts := [0, 99], code := (.seq (.seq (.region false [⟨some 12, .mv (.tmp 5), none, []⟩,
  ⟨some 13, .tr (.call .view 4000 [.tmp 12]), none, []⟩,
  ⟨some 14, .bin .gtr (.tmp 13) (.const (.int .i64 16)), none, []⟩])
 (.cond (.tmp 14) .skip (.exit 0)))
 (.block 1 (.region false [⟨some 15, .mv (.tmp 5), none, []⟩,
  ⟨some 16, .mv (.tmp 5), none, []⟩,
  ⟨some 17, .tr (.len (.tmp 16)), none, []⟩,
  ⟨some 18, .bin .sub (.tmp 17) (.const (.int .i64 1)), none, []⟩,
  ⟨some 19, .tr (.cut 8 (.tmp 15) (.tmp 18)), none, []⟩,
  ⟨some 5, .mv (.tmp 19), none, []⟩]))) }
noncomputable def p38100 : ProcT := { kind := .fn, ins := [0, 1, 2, 3, 4], bins := [0, 99], res := [.tmp 10], code := (.seq (.region false [⟨some 10, .mv (.const (.tr .stm none 0)), none, []⟩])
 (.seq (.region false [⟨some 13, .tr (.lit .stm []), none, []⟩,
  ⟨some 11, .mv (.tmp 13), none, []⟩])
 (.seq (.seq (.region false [⟨some 12, .mv (.const (.int .i64 0)), none, []⟩])
 (.block 0 (.label 38101)))
 (.seq (.region false [⟨some 26, .mv (.tmp 11), none, []⟩,
  ⟨some 10, .mv (.tmp 26), none, []⟩])
 .ret)))) }
noncomputable def p38101 : ProcT := { kind := .loop, ins := [0, 1, 2, 3, 4, 11, 12], bins := [0, 99], outs := [0, 10, 11], bouts := [0, 99], code := (.seq (.seq (.region false [⟨some 14, .mv (.tmp 12), none, []⟩,
  ⟨some 15, .mv (.tmp 3), none, []⟩,
  ⟨some 16, .bin .lss (.tmp 14) (.tmp 15), none, []⟩])
 (.cond (.tmp 16) .skip (.exit 0)))
 (.seq (.block 1 (.region false [⟨some 19, .mv (.tmp 11), none, []⟩,
  ⟨some 20, .mv (.tmp 0), none, []⟩,
  ⟨some 21, .mv (.tmp 1), none, []⟩,
  ⟨some 22, .mv (.tmp 2), none, []⟩,
  ⟨some 23, .mv (.tmp 4), none, []⟩,
  ⟨some 24, .call 4500 0 [.tmp 20, .tmp 21, .tmp 22, .tmp 23], none, []⟩,
  ⟨some 25, .tr (.app 8 (.tmp 19) (.tmp 24)), none, []⟩,
  ⟨some 11, .mv (.tmp 25), none, []⟩]))
 (.region false [⟨some 17, .mv (.tmp 12), none, []⟩,
  ⟨some 18, .bin .add (.tmp 17) (.const (.int .i64 1)), none, []⟩,
  ⟨some 12, .mv (.tmp 18), none, []⟩]))) }
noncomputable def p39900 : ProcT := { kind := .fn, ins := [0], bins := [0, 99], res := [.cell 2 2 true], code := (.seq (.region false [⟨some 2, .alloc 100 [.tr .int none 0, .tr .stmsH none 0], none, []⟩])
 (.seq (.region false [⟨some 6, .mv (.tmp 0), none, []⟩,
  ⟨some 7, .tr (.call .pass 40200 [.tmp 6]), none, []⟩,
  ⟨some 8, .tr (.lit .stmsH []), none, []⟩,
  ⟨some 9, .build [.tr .int none 0, .tr .stmsH none 0] [(0, 1, .tmp 7), (1, 1, .tmp 8)], none, []⟩,
  ⟨some 3, .alloc 101 [.tr .int none 0, .tr .stmsH none 0], none, []⟩,
  ⟨none, .store 2 (.tmp 3) (.tmp 9), none, []⟩])
 (.seq (.region false [⟨some 10, .mv (.tmp 0), none, []⟩,
  ⟨some 11, .call 200 0 [.tmp 10, .const (.int .i64 3)], none, []⟩,
  ⟨some 12, .bin .add (.const (.int .i64 1)) (.tmp 11), none, []⟩,
  ⟨some 4, .mv (.tmp 12), none, []⟩])
 (.seq (.seq (.region false [⟨some 5, .mv (.const (.int .i64 0)), none, []⟩])
 (.block 0 (.label 39901)))
 (.seq (.seq (.region false [⟨some 28, .mv (.tmp 0), none, []⟩,
  ⟨some 29, .call 200 0 [.tmp 28, .const (.int .i64 16)], none, []⟩,
  ⟨some 30, .bin .eql (.tmp 29) (.const (.int .i64 0)), none, []⟩])
 (.cond (.tmp 30) (.region true [⟨some 31, .fadr 1 (.tmp 3), none, [101]⟩,
  ⟨some 32, .load 1 false false (.tmp 31), none, [101]⟩,
  ⟨some 33, .mv (.tmp 0), none, []⟩,
  ⟨some 34, .call 8700 0 [.tmp 33], none, [0]⟩,
  ⟨some 35, .tr (.lit .stm [.tmp 34]), none, [99]⟩,
  ⟨some 36, .tr (.iadr 1 (.tmp 32) (.const (.int .i64 0))), none, []⟩,
  ⟨none, .tr (.store 1 (.tmp 36) (.tmp 35)), none, [99]⟩]) .skip))
 (.seq (.region false [⟨some 37, .load 2 true false (.tmp 3), none, []⟩,
  ⟨none, .store 2 (.tmp 2) (.tmp 37), none, []⟩])
 .ret)))))) }
noncomputable def p39901 : ProcT := { kind := .loop, ins := [0, 2, 3, 4, 5], bins := [0, 100, 101, 99], outs := [0, 2, 3], bouts := [0, 100, 101, 99], code := (.seq (.seq (.region false [⟨some 13, .mv (.tmp 5), none, []⟩,
  ⟨some 14, .mv (.tmp 4), none, []⟩,
  ⟨some 15, .bin .lss (.tmp 13) (.tmp 14), none, []⟩])
 (.cond (.tmp 15) .skip (.exit 0)))
 (.seq (.block 1 (.region true [⟨some 18, .fadr 1 (.tmp 3), none, [101]⟩,
  ⟨some 19, .load 1 false false (.tmp 18), none, [101]⟩,
  ⟨some 20, .mv (.tmp 0), none, []⟩,
  ⟨some 21, .fadr 0 (.tmp 3), none, [101]⟩,
  ⟨some 22, .load 1 false false (.tmp 21), none, [101]⟩,
  ⟨some 23, .tr (.len (.tmp 22)), none, []⟩,
  ⟨some 24, .tr (.call .pass 38000 [.tmp 20, .tmp 23]), none, [0, 99]⟩,
  ⟨some 25, .buildS .full .stmsH [.tmp 24], none, []⟩,
  ⟨some 26, .tr (.app 1 (.tmp 19) (.tmp 25)), none, [99]⟩,
  ⟨some 27, .fadr 1 (.tmp 3), none, [101]⟩,
  ⟨none, .store 1 (.tmp 27) (.tmp 26), none, [101]⟩]))
 (.region false [⟨some 16, .mv (.tmp 5), none, []⟩,
  ⟨some 17, .bin .add (.tmp 16) (.const (.int .i64 1)), none, []⟩,
  ⟨some 5, .mv (.tmp 17), none, []⟩]))) }
noncomputable def p40200 : ProcT := { kind := .fn, ins := [0], bins := [0, 99], res := [.tmp 2], code := (.seq (.region false [⟨some 2, .mv (.const (.tr .int none 0)), none, []⟩])
 (.seq (.region false [⟨some 6, .tr (.lit .int []), none, []⟩,
  ⟨some 3, .mv (.tmp 6), none, []⟩])
 (.seq (.region false [⟨some 7, .buildS .full .int [.const (.int .i64 0), .const (.int .i64 1), .const (.int .i64 1), .const (.int .i64 2), .const (.int .i64 2), .const (.int .i64 3)], none, []⟩,
  ⟨some 8, .mv (.tmp 0), none, []⟩,
  ⟨some 9, .call 200 0 [.tmp 8, .const (.int .i64 6)], none, []⟩,
  ⟨some 10, .iadr 1 (.tmp 7) (.tmp 9), none, []⟩,
  ⟨some 11, .load 1 false false (.tmp 10), none, []⟩,
  ⟨some 4, .mv (.tmp 11), none, []⟩])
 (.seq (.seq (.region false [⟨some 5, .mv (.const (.int .i64 0)), none, []⟩])
 (.block 0 (.label 40201)))
 (.seq (.region false [⟨some 25, .mv (.tmp 3), none, []⟩,
  ⟨some 2, .mv (.tmp 25), none, []⟩])
 .ret))))) }
noncomputable def p40201 : ProcT := { kind := .loop, ins := [0, 3, 4, 5], bins := [0, 99], outs := [0, 2, 3], bouts := [0, 99], code := (.seq (.seq (.region false [⟨some 12, .mv (.tmp 5), none, []⟩,
  ⟨some 13, .mv (.tmp 4), none, []⟩,
  ⟨some 14, .bin .lss (.tmp 12) (.tmp 13), none, []⟩])
 (.cond (.tmp 14) .skip (.exit 0)))
 (.seq (.block 1 (.region false [⟨some 17, .mv (.tmp 3), none, []⟩,
  ⟨some 18, .buildS .full .int [.const (.int .i64 1), .const (.int .i64 1), .const (.int .i64 2), .const (.int .i64 3), .const (.int .i64 4)], none, []⟩,
  ⟨some 19, .mv (.tmp 0), none, []⟩,
  ⟨some 20, .call 200 0 [.tmp 19, .const (.int .i64 5)], none, []⟩,
  ⟨some 21, .iadr 1 (.tmp 18) (.tmp 20), none, []⟩,
  ⟨some 22, .load 1 false false (.tmp 21), none, []⟩,
  ⟨some 23, .buildS .full .int [.tmp 22], none, []⟩,
  ⟨some 24, .tr (.app 1 (.tmp 17) (.tmp 23)), none, []⟩,
  ⟨some 3, .mv (.tmp 24), none, []⟩]))
 (.region false [⟨some 15, .mv (.tmp 5), none, []⟩,
  ⟨some 16, .bin .add (.tmp 15) (.const (.int .i64 1)), none, []⟩,
  ⟨some 5, .mv (.tmp 16), none, []⟩]))) }
noncomputable def tab : List (Nat × ProcT) := [(100, p100), (200, p200), (300, p300), (400, p400), (500, p500), (600, p600), (700, p700), (1000, p1000), (1100, p1100), (1200, p1200), (1600, p1600), (1700, p1700), (1800, p1800), (1900, p1900), (4000, p4000), (4001, p4001), (4100, p4100), (4200, p4200), (4300, p4300), (4400, p4400), (4500, p4500), (4600, p4600), (4601, p4601), (5000, p5000), (5100, p5100), (5101, p5101), (5200, p5200), (5300, p5300), (5301, p5301), (5400, p5400), (5500, p5500), (5501, p5501), (5700, p5700), (5800, p5800), (5900, p5900), (6000, p6000), (6100, p6100), (6200, p6200), (6201, p6201), (6300, p6300), (8700, p8700), (9000, p9000), (9100, p9100), (9101, p9101), (9200, p9200), (9201, p9201), (9300, p9300), (9400, p9400), (9500, p9500), (9501, p9501), (9600, p9600), (9700, p9700), (9701, p9701), (9800, p9800), (9801, p9801), (9900, p9900), (9901, p9901), (10000, p10000), (11100, p11100), (17600, p17600), (18000, p18000), (22500, p22500), (22600, p22600), (22700, p22700), (22701, p22701), (22800, p22800), (22801, p22801), (22900, p22900), (22901, p22901), (23000, p23000), (23001, p23001), (23100, p23100), (23101, p23101), (23200, p23200), (23201, p23201), (23300, p23300), (23301, p23301), (23400, p23400), (23401, p23401), (23500, p23500), (23501, p23501), (23600, p23600), (23601, p23601), (23700, p23700), (23701, p23701), (23800, p23800), (23900, p23900), (23901, p23901), (24000, p24000), (24001, p24001), (24100, p24100), (24101, p24101), (24102, p24102), (38000, p38000), (38001, p38001), (38100, p38100), (38101, p38101), (39900, p39900), (39901, p39901), (40200, p40200), (40201, p40201)]
noncomputable abbrev Tb : Nat → Option ProcT := (Vs.look · tab)
@[reducible] def s100 : Sig := [⟨.ret, [.np 2], [], [.h (.sl .u8), .h (.int .i64)]⟩]
@[reducible] def s200 : Sig := [⟨.ret, [.one], [.var 2], [.h (.int .i64), .h (.sl .u8), .h (.int .i64)]⟩]
@[reducible] def s300 : Sig := [⟨.ret, [.agg 3], [], [.h (.int .i64), .h (.int .i64), .h (.slm .exp)]⟩]
@[reducible] def s400 : Sig := [⟨.ret, [.agg 3], [.var 2], [.h (.int .i64), .h (.int .i64), .h (.slm .exp), .h (.sl .u8), .h (.int .i64)]⟩]
@[reducible] def s500 : Sig := [⟨.ret, [.agg 3], [], [.h (.int .i64), .h (.int .i64), .h (.slm .exp)]⟩]
@[reducible] def s600 : Sig := [⟨.ret, [.one], [.var 2], [.h (.int .i64), .h (.sl .u8), .h (.int .i64)]⟩]
@[reducible] def s700 : Sig := [⟨.ret, [.agg 3], [.var 2], [.h (.int .i64), .h (.int .i64), .h (.slm .exp), .h (.sl .u8), .h (.int .i64)]⟩]
@[reducible] def s1000 : Sig := [⟨.ret, [.one], [], [.h (.bool)]⟩]
@[reducible] def s1100 : Sig := [⟨.ret, [.one], [], [.h (.bool)]⟩]
@[reducible] def s1200 : Sig := [⟨.ret, [.one], [], [.h (.bool)]⟩]
@[reducible] def s1600 : Sig := [⟨.ret, [.one], [], [.h (.bool)]⟩]
@[reducible] def s1700 : Sig := [⟨.ret, [.one], [], [.h (.bool)]⟩]
@[reducible] def s1800 : Sig := [⟨.ret, [.one], [], [.h (.bool)]⟩]
@[reducible] def s1900 : Sig := [⟨.ret, [.one], [], [.h (.bool)]⟩]
@[reducible] def s4000 : Sig := [⟨.ret, [.one], [], [.h (.int .i64)]⟩]
@[reducible] def s4001 : Sig := [⟨.exit 0, [.one, .one], [], [.undef, .h (.int .i64)]⟩]
@[reducible] def s4100 : Sig := [⟨.ret, [.one], [.var 2], [.h (.agg .stm), .h (.sl .u8), .h (.int .i64)]⟩]
@[reducible] def s4200 : Sig := [⟨.ret, [.one], [.var 2], [.h (.agg .stm), .h (.sl .u8), .h (.int .i64)]⟩]
@[reducible] def s4300 : Sig := [⟨.ret, [.one], [.var 2], [.h (.own .stm), .h (.sl .u8), .h (.int .i64)]⟩]
@[reducible] def s4400 : Sig := [⟨.ret, [.one], [.var 2], [.h (.agg .stm), .h (.sl .u8), .h (.int .i64)]⟩]
@[reducible] def s4500 : Sig := [⟨.ret, [.one], [.var 2], [.h (.own .stm), .h (.sl .u8), .h (.int .i64)]⟩]
@[reducible] def s4600 : Sig := [⟨.ret, [.one], [.var 2], [.h (.own .stm), .h (.sl .u8), .h (.int .i64)]⟩]
@[reducible] def s4601 : Sig := [⟨.exit 0, [.one, .one, .one], [.var 2], [.bp 0 0, .undef, .h (.ownb .stm), .h (.sl .u8), .h (.int .i64)]⟩]
@[reducible] def s5000 : Sig := [⟨.ret, [.one], [], [.h (.bool)]⟩]
@[reducible] def s5100 : Sig := [⟨.ret, [.one], [], [.h (.bool)]⟩]
@[reducible] def s5101 : Sig := [⟨.exit 0, [.one], [], [.undef]⟩, ⟨.ret, [.one], [], [.h (.bool)]⟩]
@[reducible] def s5200 : Sig := [⟨.ret, [.one], [], [.h (.bool)]⟩]
@[reducible] def s5300 : Sig := [⟨.ret, [.one], [.var 1], [.h (.bool), .h (.int .i64)]⟩]
@[reducible] def s5301 : Sig := [⟨.exit 0, [.one, .one], [.var 1], [.bp 0 0, .undef, .h (.int .i64)]⟩, ⟨.ret, [.one, .one], [.var 1], [.bp 0 0, .h (.bool), .h (.int .i64)]⟩]
@[reducible] def s5400 : Sig := [⟨.ret, [.one], [], [.h (.bool)]⟩]
@[reducible] def s5500 : Sig := [⟨.ret, [.one], [], [.h (.bool)]⟩]
@[reducible] def s5501 : Sig := [⟨.exit 0, [.one], [], [.undef]⟩, ⟨.ret, [.one], [], [.h (.bool)]⟩]
@[reducible] def s5700 : Sig := [⟨.ret, [.one], [], [.h (.bool)]⟩]
@[reducible] def s5800 : Sig := [⟨.ret, [.one], [], [.h (.bool)]⟩]
@[reducible] def s5900 : Sig := [⟨.ret, [.one], [], [.h (.bool)]⟩]
@[reducible] def s6000 : Sig := [⟨.ret, [.one], [], [.h (.bool)]⟩]
@[reducible] def s6100 : Sig := [⟨.ret, [.one], [], [.h (.bool)]⟩]
@[reducible] def s6200 : Sig := [⟨.ret, [.one], [], [.h (.bool)]⟩]
@[reducible] def s6201 : Sig := [⟨.exit 0, [.one], [], [.undef]⟩, ⟨.ret, [.one], [], [.h (.bool)]⟩]
@[reducible] def s6300 : Sig := [⟨.ret, [.one], [], [.h (.bool)]⟩]
@[reducible] def s8700 : Sig := [⟨.ret, [.one], [.var 2], [.h (.agg .stm), .h (.sl .u8), .h (.int .i64)]⟩]
@[reducible] def s9000 : Sig := [⟨.ret, [.one], [], [.h (.bool)]⟩]
@[reducible] def s9100 : Sig := [⟨.ret, [.one], [], [.h (.agg .exp)]⟩]
@[reducible] def s9101 : Sig := [⟨.exit 0, [.one, .one], [.var 3, .var 3], [.bp 101 0, .bp 102 0, .h (.int .i64), .h (.int .i64), .h (.ownb .exp), .h (.int .i64), .h (.int .i64), .h (.ownb .exp)]⟩]
@[reducible] def s9200 : Sig := [⟨.ret, [.one], [], [.h (.own .stm)]⟩]
@[reducible] def s9201 : Sig := [⟨.exit 0, [.one, .one], [], [.undef, .h (.ownb .stm)]⟩]
@[reducible] def s9300 : Sig := [⟨.ret, [.tup 2], [], [.h (.agg .tk), .h (.bool)]⟩]
@[reducible] def s9400 : Sig := [⟨.ret, [.one], [], [.h (.agg .exp)]⟩]
@[reducible] def s9500 : Sig := [⟨.ret, [.one], [], [.h (.own .stm)]⟩]
@[reducible] def s9501 : Sig := [⟨.exit 0, [.one, .one], [], [.undef, .h (.ownb .stm)]⟩]
@[reducible] def s9600 : Sig := [⟨.ret, [.tup 2], [], [.h (.agg .tk), .h (.bool)]⟩]
@[reducible] def s9700 : Sig := [⟨.ret, [.one], [], [.h (.bool)]⟩]
@[reducible] def s9701 : Sig := [⟨.exit 0, [.one], [], [.undef]⟩, ⟨.ret, [.one], [], [.h (.bool)]⟩]
@[reducible] def s9800 : Sig := [⟨.ret, [.one], [], [.h (.bool)]⟩]
@[reducible] def s9801 : Sig := [⟨.exit 0, [.one], [], [.undef]⟩, ⟨.ret, [.one], [], [.h (.bool)]⟩]
@[reducible] def s9900 : Sig := [⟨.ret, [.one], [], [.h (.bool)]⟩]
@[reducible] def s9901 : Sig := [⟨.exit 0, [.one], [], [.undef]⟩, ⟨.ret, [.one], [], [.h (.bool)]⟩]
@[reducible] def s10000 : Sig := [⟨.ret, [.one], [], [.h (.bool)]⟩]
@[reducible] def s11100 : Sig := [⟨.ret, [.one], [], [.h (.bool)]⟩]
@[reducible] def s17600 : Sig := [⟨.ret, [.one], [], [.h (.bool)]⟩]
@[reducible] def s18000 : Sig := [⟨.ret, [.one], [], [.h (.bool)]⟩]
@[reducible] def s22500 : Sig := [⟨.ret, [.one], [.var 2], [.h (.agg .prg), .h (.sl .u8), .h (.int .i64)]⟩]
@[reducible] def s22600 : Sig := [⟨.ret, [.one], [], [.h (.agg .prg)]⟩]
@[reducible] def s22700 : Sig := [⟨.ret, [.one], [], [.h (.bool)]⟩]
@[reducible] def s22701 : Sig := [⟨.exit 0, [.one, .one], [], [.h (.sl .int), .undef]⟩, ⟨.ret, [.one, .one], [], [.h (.sl .int), .h (.bool)]⟩]
@[reducible] def s22800 : Sig := [⟨.ret, [.one], [], [.h (.bool)]⟩]
@[reducible] def s22801 : Sig := [⟨.exit 0, [.one], [], [.undef]⟩, ⟨.ret, [.one], [], [.h (.bool)]⟩]
@[reducible] def s22900 : Sig := [⟨.ret, [.one], [], [.h (.own .bx)]⟩]
@[reducible] def s22901 : Sig := [⟨.exit 0, [.one, .one], [], [.undef, .h (.ownb .bx)]⟩]
@[reducible] def s23000 : Sig := [⟨.ret, [.tup 2], [], [.h (.agg .wld), .h (.bool)]⟩]
@[reducible] def s23001 : Sig := [⟨.exit 0, [.one, .one, .one], [.var 5, .var 5], [.bp 101 0, .undef, .bp 102 0, .h (.ownb .tk), .h (.ownb .bx), .h (.int .i64), .h (.int .i64), .h (.ownb .int), .h (.ownb .tk), .h (.sl .bx), .h (.int .i64), .h (.int .i64), .h (.ownb .int)]⟩]
@[reducible] def s23100 : Sig := [⟨.ret, [.one], [], [.h (.bool)]⟩]
@[reducible] def s23101 : Sig := [⟨.exit 0, [.one], [], [.undef]⟩, ⟨.ret, [.one], [], [.h (.bool)]⟩]
@[reducible] def s23200 : Sig := [⟨.ret, [.one], [], [.h (.bool)]⟩]
@[reducible] def s23201 : Sig := [⟨.exit 0, [.one, .one], [], [.h (.sl .int), .undef]⟩, ⟨.ret, [.one, .one], [], [.h (.sl .int), .h (.bool)]⟩]
@[reducible] def s23300 : Sig := [⟨.ret, [.one], [], [.h (.bool)]⟩]
@[reducible] def s23301 : Sig := [⟨.exit 0, [.one], [], [.undef]⟩, ⟨.ret, [.one], [], [.h (.bool)]⟩]
@[reducible] def s23400 : Sig := [⟨.ret, [.one], [], [.h (.own .bx)]⟩]
@[reducible] def s23401 : Sig := [⟨.exit 0, [.one, .one], [], [.undef, .h (.ownb .bx)]⟩]
@[reducible] def s23500 : Sig := [⟨.ret, [.tup 2], [], [.h (.agg .wld), .h (.bool)]⟩]
@[reducible] def s23501 : Sig := [⟨.exit 0, [.one, .one, .one], [.var 5, .var 5], [.bp 101 0, .undef, .bp 102 0, .h (.ownb .tk), .h (.ownb .bx), .h (.int .i64), .h (.int .i64), .h (.ownb .int), .h (.ownb .tk), .h (.sl .bx), .h (.int .i64), .h (.int .i64), .h (.ownb .int)]⟩]
@[reducible] def s23600 : Sig := [⟨.ret, [.one], [], [.h (.bool)]⟩]
@[reducible] def s23601 : Sig := [⟨.exit 0, [.one], [], [.undef]⟩, ⟨.ret, [.one], [], [.h (.bool)]⟩]
@[reducible] def s23700 : Sig := [⟨.ret, [.one], [], [.h (.bool)]⟩]
@[reducible] def s23701 : Sig := [⟨.exit 0, [.one, .one, .one], [.var 5, .var 5], [.bp 100 0, .bp 101 0, .undef, .h (.sl .tk), .h (.sl .bx), .h (.int .i64), .h (.int .i64), .h (.sl .int), .h (.sl .tk), .h (.sl .bx), .h (.int .i64), .h (.int .i64), .h (.sl .int)]⟩, ⟨.ret, [.one, .one, .one], [.var 5, .var 5], [.bp 100 0, .bp 101 0, .h (.bool), .h (.sl .tk), .h (.sl .bx), .h (.int .i64), .h (.int .i64), .h (.sl .int), .h (.sl .tk), .h (.sl .bx), .h (.int .i64), .h (.int .i64), .h (.sl .int)]⟩]
@[reducible] def s23800 : Sig := [⟨.ret, [.one], [], [.h (.bool)]⟩]
@[reducible] def s23900 : Sig := [⟨.ret, [.one], [], [.h (.bool)]⟩]
@[reducible] def s23901 : Sig := [⟨.exit 0, [.one, .one], [], [.h (.sl .bx), .undef]⟩, ⟨.ret, [.one, .one], [], [.h (.sl .bx), .h (.bool)]⟩]
@[reducible] def s24000 : Sig := [⟨.ret, [.one], [], [.h (.bool)]⟩]
@[reducible] def s24001 : Sig := [⟨.exit 0, [.one], [], [.undef]⟩, ⟨.ret, [.one], [], [.h (.bool)]⟩]
@[reducible] def s24100 : Sig := [⟨.ret, [.one], [], [.h (.bool)]⟩]
@[reducible] def s24101 : Sig := [⟨.exit 0, [.one, .one, .one], [.var 2, .var 5], [.undef, .bp 100 0, .bp 101 0, .h (.sl .int), .h (.sl .stms), .h (.sl .tk), .h (.sl .bx), .h (.int .i64), .h (.int .i64), .h (.sl .int)]⟩, ⟨.ret, [.one, .one, .one], [.var 2, .var 5], [.h (.bool), .bp 100 0, .bp 101 0, .h (.sl .int), .h (.sl .stms), .h (.sl .tk), .h (.sl .bx), .h (.int .i64), .h (.int .i64), .h (.sl .int)]⟩]
@[reducible] def s24102 : Sig := [⟨.exit 2, [.one, .one, .one], [.var 2, .var 5], [.undef, .bp 100 0, .bp 101 0, .h (.sl .int), .h (.sl .stms), .h (.sl .tk), .h (.sl .bx), .h (.int .i64), .h (.int .i64), .h (.sl .int)]⟩, ⟨.ret, [.one, .one, .one], [.var 2, .var 5], [.h (.bool), .bp 100 0, .bp 101 0, .h (.sl .int), .h (.sl .stms), .h (.sl .tk), .h (.sl .bx), .h (.int .i64), .h (.int .i64), .h (.sl .int)]⟩]
@[reducible] def s38000 : Sig := [⟨.ret, [.one], [.var 2, .ar], [.h (.tr .stm), .h (.sl .u8), .h (.int .i64), .h (.ar)]⟩]
@[reducible] def s38001 : Sig := [⟨.exit 0, [.one, .one, .one], [.var 2, .ar], [.bp 0 0, .undef, .h (.tr .stm), .h (.sl .u8), .h (.int .i64), .h (.ar)]⟩]
@[reducible] def s38100 : Sig := [⟨.ret, [.one], [.var 2, .ar], [.h (.tr .stm), .h (.sl .u8), .h (.int .i64), .h (.ar)]⟩]
@[reducible] def s38101 : Sig := [⟨.exit 0, [.one, .one, .one], [.var 2, .ar], [.bp 0 0, .undef, .h (.tr .stm), .h (.sl .u8), .h (.int .i64), .h (.ar)]⟩]
@[reducible] def s39900 : Sig := [⟨.ret, [.agg 2], [.var 2, .ar], [.h (.tr .int), .h (.tr .stmsH), .h (.sl .u8), .h (.int .i64), .h (.ar)]⟩]
@[reducible] def s39901 : Sig := [⟨.exit 0, [.one, .one, .one], [.var 2, .var 2, .var 2, .ar], [.bp 0 0, .bp 100 0, .bp 101 0, .h (.sl .u8), .h (.int .i64), .h (.tr .int), .h (.tr .stmsH), .h (.tr .int), .h (.tr .stmsH), .h (.ar)]⟩]
@[reducible] def s40200 : Sig := [⟨.ret, [.one], [.var 2, .ar], [.h (.tr .int), .h (.sl .u8), .h (.int .i64), .h (.ar)]⟩]
@[reducible] def s40201 : Sig := [⟨.exit 0, [.one, .one, .one], [.var 2, .ar], [.bp 0 0, .undef, .h (.tr .int), .h (.sl .u8), .h (.int .i64), .h (.ar)]⟩]
def sgs : List (Nat × Sig) := [(100, s100), (200, s200), (300, s300), (400, s400), (500, s500), (600, s600), (700, s700), (1000, s1000), (1100, s1100), (1200, s1200), (1600, s1600), (1700, s1700), (1800, s1800), (1900, s1900), (4000, s4000), (4001, s4001), (4100, s4100), (4200, s4200), (4300, s4300), (4400, s4400), (4500, s4500), (4600, s4600), (4601, s4601), (5000, s5000), (5100, s5100), (5101, s5101), (5200, s5200), (5300, s5300), (5301, s5301), (5400, s5400), (5500, s5500), (5501, s5501), (5700, s5700), (5800, s5800), (5900, s5900), (6000, s6000), (6100, s6100), (6200, s6200), (6201, s6201), (6300, s6300), (8700, s8700), (9000, s9000), (9100, s9100), (9101, s9101), (9200, s9200), (9201, s9201), (9300, s9300), (9400, s9400), (9500, s9500), (9501, s9501), (9600, s9600), (9700, s9700), (9701, s9701), (9800, s9800), (9801, s9801), (9900, s9900), (9901, s9901), (10000, s10000), (11100, s11100), (17600, s17600), (18000, s18000), (22500, s22500), (22600, s22600), (22700, s22700), (22701, s22701), (22800, s22800), (22801, s22801), (22900, s22900), (22901, s22901), (23000, s23000), (23001, s23001), (23100, s23100), (23101, s23101), (23200, s23200), (23201, s23201), (23300, s23300), (23301, s23301), (23400, s23400), (23401, s23401), (23500, s23500), (23501, s23501), (23600, s23600), (23601, s23601), (23700, s23700), (23701, s23701), (23800, s23800), (23900, s23900), (23901, s23901), (24000, s24000), (24001, s24001), (24100, s24100), (24101, s24101), (24102, s24102), (38000, s38000), (38001, s38001), (38100, s38100), (38101, s38101), (39900, s39900), (39901, s39901), (40200, s40200), (40201, s40201)]
def sg (g : Nat) : Sig := (Vs.look g sgs).getD []
def GT (i : Nat) : List TV := []
noncomputable def laws_FnWorldNew (a0 : List Int) : Option (Bool) := callTy Tb GT s24100 24100 [.sl .share .u8 a0] []
noncomputable def spec_DrawWorldNew (a0 : List Int) : Option (Prg) := callTy Tb GT s22600 22600 [.sl .share .u8 a0] []
noncomputable def impl_WorldNew (a0 : Prg) : Option (Wld × Bool) := callTy Tb GT s23000 23000 [.agg (rowT .prg a0)] []
noncomputable def spec_WorldNew (a0 : Prg) : Option (Wld × Bool) := callTy Tb GT s23500 23500 [.agg (rowT .prg a0)] []
noncomputable def laws_sameWorld (a0 : Wld) (a1 : Wld) : Option (Bool) := callTy Tb GT s23700 23700 [.agg (rowT .wld a0), .agg (rowT .wld a1)] []
noncomputable def impl_TaskNew (a0 : List Stm) : Option (Tk × Bool) := callTy Tb GT s9300 9300 [.sl .share .stm a0] []
noncomputable def laws_sameTask (a0 : Tk) (a1 : Tk) : Option (Bool) := callTy Tb GT s10000 10000 [.agg (rowT .tk a0), .agg (rowT .tk a1)] []
noncomputable def laws_FnWorldNew_l1 (t8 : Int) (b100_0 : List Int) (b100_1 : List (List Stm)) (b101_0 : List Tk) (b101_1 : List Bx) (b101_2 : Int) (b101_3 : Int) (b101_4 : List Int) : Option ((List Int × List (List Stm) × List Tk × List Bx × Int × Int × List Int) ⊕ (Bool × List Int × List (List Stm) × List Tk × List Bx × Int × Int × List Int)) := callTy Tb GT s24101 24101 [.bp 100 0, .bp 101 0, .int .i64 t8] [.var [.sl .share .int b100_0, .sl .share .stms b100_1], .var [.sl .share .tk b101_0, .sl .share .bx b101_1, .int .i64 b101_2, .int .i64 b101_3, .sl .share .int b101_4]]
noncomputable def laws_FnWorldNew_l2 (t11 : Int) (b100_0 : List Int) (b100_1 : List (List Stm)) (b101_0 : List Tk) (b101_1 : List Bx) (b101_2 : Int) (b101_3 : Int) (b101_4 : List Int) : Option ((List Int × List (List Stm) × List Tk × List Bx × Int × Int × List Int) ⊕ (Bool × List Int × List (List Stm) × List Tk × List Bx × Int × Int × List Int)) := callTy Tb GT s24102 24102 [.bp 100 0, .bp 101 0, .int .i64 t11] [.var [.sl .share .int b100_0, .sl .share .stms b100_1], .var [.sl .share .tk b101_0, .sl .share .bx b101_1, .int .i64 b101_2, .int .i64 b101_3, .sl .share .int b101_4]]
noncomputable def impl_WorldValid (a0 : Wld) : Option (Bool) := callTy Tb GT s24000 24000 [.agg (rowT .wld a0)] []
noncomputable def spec_l6Open (a0 : List Int) : Option (List Int × Int) := callTy Tb GT s100 100 [.sl .share .u8 a0] []
noncomputable def spec_l92Wrong (a0b : List Int) (a0p : Int) : Option (Prg × List Int × Int) := callTy Tb GT s22500 22500 [.bp 0 0] [.var [.sl .share .u8 a0b, .int .i64 a0p]]
noncomputable def impl_ProgramValid (a0 : Prg) : Option (Bool) := callTy Tb GT s22800 22800 [.agg (rowT .prg a0)] []
noncomputable def impl_boxesNew (a0 : List Int) : Option (List Bx) := callTy Tb GT s22900 22900 [.sl .share .int a0] []
noncomputable def impl_WorldNew_l1 (t18 : List (List Stm)) (t19 : Int) (t20 : Int) (b101_0b : Bool) (b101_0 : List Tk) (b101_1b : Bool) (b101_1 : List Bx) (b101_2 : Int) (b101_3 : Int) (b101_4b : Bool) (b101_4 : List Int) (b102_0b : Bool) (b102_0 : List Tk) (b102_1 : List Bx) (b102_2 : Int) (b102_3 : Int) (b102_4b : Bool) (b102_4 : List Int) : Option ((Bool × List Tk) × (Bool × List Bx) × Int × Int × (Bool × List Int) × (Bool × List Tk) × List Bx × Int × Int × (Bool × List Int)) := callTy Tb GT s23001 23001 [.bp 101 0, .bp 102 0, .sl .share .stms t18, .int .i64 t19, .int .i64 t20] [.var [.sl (.own b101_0b) .tk b101_0, .sl (.own b101_1b) .bx b101_1, .int .i64 b101_2, .int .i64 b101_3, .sl (.own b101_4b) .int b101_4], .var [.sl (.own b102_0b) .tk b102_0, .sl .share .bx b102_1, .int .i64 b102_2, .int .i64 b102_3, .sl (.own b102_4b) .int b102_4]]
noncomputable def spec_ProgramValid (a0 : Prg) : Option (Bool) := callTy Tb GT s23300 23300 [.agg (rowT .prg a0)] []
noncomputable def spec_l16Empty (a0 : List Int) : Option (List Bx) := callTy Tb GT s23400 23400 [.sl .share .int a0] []
noncomputable def spec_TaskNew (a0 : List Stm) : Option (Tk × Bool) := callTy Tb GT s9600 9600 [.sl .share .stm a0] []
noncomputable def spec_WorldNew_l1 (t5 : Int) (b100_0 : List Int) (b100_1 : List (List Stm)) (b101_0b : Bool) (b101_0 : List Tk) (b101_1b : Bool) (b101_1 : List Bx) (b101_2 : Int) (b101_3 : Int) (b101_4b : Bool) (b101_4 : List Int) (b102_0b : Bool) (b102_0 : List Tk) (b102_1 : List Bx) (b102_2 : Int) (b102_3 : Int) (b102_4b : Bool) (b102_4 : List Int) : Option ((Bool × List Tk) × (Bool × List Bx) × Int × Int × (Bool × List Int) × (Bool × List Tk) × List Bx × Int × Int × (Bool × List Int)) := callTy Tb GT s23501 23501 [.bp 100 0, .bp 101 0, .bp 102 0, .int .i64 t5] [.var [.sl .share .int b100_0, .sl .share .stms b100_1], .var [.sl (.own b101_0b) .tk b101_0, .sl (.own b101_1b) .bx b101_1, .int .i64 b101_2, .int .i64 b101_3, .sl (.own b101_4b) .int b101_4], .var [.sl (.own b102_0b) .tk b102_0, .sl .share .bx b102_1, .int .i64 b102_2, .int .i64 b102_3, .sl (.own b102_4b) .int b102_4]]
noncomputable def laws_sameWorld_l1 (t5 : Int) (b100_0 : List Tk) (b100_1 : List Bx) (b100_2 : Int) (b100_3 : Int) (b100_4 : List Int) (b101_0 : List Tk) (b101_1 : List Bx) (b101_2 : Int) (b101_3 : Int) (b101_4 : List Int) : Option ((List Tk × List Bx × Int × Int × List Int × List Tk × List Bx × Int × Int × List Int) ⊕ (Bool × List Tk × List Bx × Int × Int × List Int × List Tk × List Bx × Int × Int × List Int)) := callTy Tb GT s23701 23701 [.bp 100 0, .bp 101 0, .int .i64 t5] [.var [.sl .share .tk b100_0, .sl .share .bx b100_1, .int .i64 b100_2, .int .i64 b100_3, .sl .share .int b100_4], .var [.sl .share .tk b101_0, .sl .share .bx b101_1, .int .i64 b101_2, .int .i64 b101_3, .sl .share .int b101_4]]
noncomputable def laws_sameBoxes (a0 : List Bx) (a1 : List Bx) : Option (Bool) := callTy Tb GT s23600 23600 [.sl .share .bx a0, .sl .share .bx a1] []
noncomputable def laws_sameInts (a0 : List Int) (a1 : List Int) : Option (Bool) := callTy Tb GT s9700 9700 [.sl .share .int a0, .sl .share .int a1] []
noncomputable def impl_StmtsValid (a0 : List Stm) : Option (Bool) := callTy Tb GT s9000 9000 [.sl .share .stm a0] []
noncomputable def impl_stmtsCopy (a0 : List Stm) : Option (List Stm) := callTy Tb GT s9200 9200 [.sl .share .stm a0] []
noncomputable def laws_sameStmts (a0 : List Stm) (a1 : List Stm) : Option (Bool) := callTy Tb GT s9900 9900 [.sl .share .stm a0, .sl .share .stm a1] []
noncomputable def impl_turnsValid (a0 : Int) (a1 : Int) (a2 : Int) (a3 : List Int) : Option (Bool) := callTy Tb GT s23800 23800 [.int .i64 a0, .int .i64 a1, .int .i64 a2, .sl .share .int a3] []
noncomputable def impl_boxesValid (a0 : List Bx) : Option (Bool) := callTy Tb GT s23900 23900 [.sl .share .bx a0] []
noncomputable def impl_taskValid (a0 : Tk) (a1 : Int) : Option (Bool) := callTy Tb GT s5500 5500 [.agg (rowT .tk a0), .int .i64 a1] []
noncomputable def impl_WorldValid_l1 (t23 : List Tk) (t24 : Int) (t25 : Int) (b100_0 : List Tk) (b100_1 : List Bx) (b100_2 : Int) (b100_3 : Int) (b100_4 : List Int) : Option (Unit ⊕ Bool) := callTy Tb GT s24001 24001 [.bp 100 0, .sl .share .tk t23, .int .i64 t24, .int .i64 t25] [.var [.sl .share .tk b100_0, .sl .share .bx b100_1, .int .i64 b100_2, .int .i64 b100_3, .sl .share .int b100_4]]
noncomputable def spec_l92Program_p (a0b : List Int) (a0p : Int) (A : List Ent) : Option (Hd × Hd × List Int × Int × List Ent) := callTy Tb GT s39900 39900 [.bp 0 0] [.var [.sl .share .u8 a0b, .int .i64 a0p], .ar A]
noncomputable def spec_l6Rd_pick (a1 : Int) (a0b : List Int) (a0p : Int) : Option (Int × List Int × Int) := callTy Tb GT s200 200 [.bp 0 0, .int .i64 a1] [.var [.sl .share .u8 a0b, .int .i64 a0p]]
noncomputable def spec_l91Leaf (a0b : List Int) (a0p : Int) : Option (Int × Int × (Md × List Exp) × List Int × Int) := callTy Tb GT s400 400 [.bp 0 0] [.var [.sl .share .u8 a0b, .int .i64 a0p]]
noncomputable def impl_roomsValid (a0 : List Int) : Option (Bool) := callTy Tb GT s22700 22700 [.sl .share .int a0] []
noncomputable def impl_stmtsValid (a0 : List Stm) (a1 : Int) : Option (Bool) := callTy Tb GT s5400 5400 [.sl .share .stm a0, .int .i64 a1] []
noncomputable def impl_ProgramValid_l1 (t22 : List (List Stm)) (t23 : Int) (t24 : Int) (b100_0 : List Int) (b100_1 : List (List Stm)) : Option (Unit ⊕ Bool) := callTy Tb GT s22801 22801 [.bp 100 0, .sl .share .stms t22, .int .i64 t23, .int .i64 t24] [.var [.sl .share .int b100_0, .sl .share .stms b100_1]]
noncomputable def impl_boxesNew_l1 (t3b : Bool) (t3 : List Bx) (t6 : List Int) (t7 : Int) (t8 : Int) : Option ((Bool × List Bx)) := callTy Tb GT s22901 22901 [.sl (.own t3b) .bx t3, .sl .share .int t6, .int .i64 t7, .int .i64 t8] []
noncomputable def spec_l12Rooms (a0 : List Int) : Option (Bool) := callTy Tb GT s23200 23200 [.sl .share .int a0] []
noncomputable def spec_l6In (a0 : Int) (a1 : Int) (a2 : Int) : Option (Bool) := callTy Tb GT s1600 1600 [.int .i64 a0, .int .i64 a1, .int .i64 a2] []
noncomputable def spec_StmtsValid (a0 : List Stm) : Option (Bool) := callTy Tb GT s6300 6300 [.sl .share .stm a0] []
noncomputable def spec_l12Boxes (a0 : List Stm) (a1 : Int) : Option (Bool) := callTy Tb GT s23100 23100 [.sl .share .stm a0, .int .i64 a1] []
noncomputable def spec_ProgramValid_l1 (t3 : Int) (b100_0 : List Int) (b100_1 : List (List Stm)) : Option (Unit ⊕ Bool) := callTy Tb GT s23301 23301 [.bp 100 0, .int .i64 t3] [.var [.sl .share .int b100_0, .sl .share .stms b100_1]]
noncomputable def spec_l16Empty_l1 (t0 : List Int) (t3b : Bool) (t3 : List Bx) (t4 : Int) : Option ((Bool × List Bx)) := callTy Tb GT s23401 23401 [.sl .share .int t0, .sl (.own t3b) .bx t3, .int .i64 t4] []
noncomputable def spec_l11Copy (a0 : List Stm) : Option (List Stm) := callTy Tb GT s9500 9500 [.sl .share .stm a0] []
noncomputable def laws_sameBox (a0 : Bx) (a1 : Bx) : Option (Bool) := callTy Tb GT s18000 18000 [.agg (rowT .bx a0), .agg (rowT .bx a1)] []
noncomputable def laws_sameBoxes_l1 (t0 : List Bx) (t1 : List Bx) (t5 : Int) : Option (Unit ⊕ Bool) := callTy Tb GT s23601 23601 [.sl .share .bx t0, .sl .share .bx t1, .int .i64 t5] []
noncomputable def laws_sameInts_l1 (t0 : List Int) (t1 : List Int) (t5 : Int) : Option (Unit ⊕ Bool) := callTy Tb GT s9701 9701 [.sl .share .int t0, .sl .share .int t1, .int .i64 t5] []
noncomputable def impl_exprCopy (a0 : Exp) : Option (Exp) := callTy Tb GT s9100 9100 [.agg (rowT .exp a0)] []
noncomputable def impl_stmtsCopy_l1 (t3b : Bool) (t3 : List Stm) (t6 : List Stm) (t7 : Int) (t8 : Int) : Option ((Bool × List Stm)) := callTy Tb GT s9201 9201 [.sl (.own t3b) .stm t3, .sl .share .stm t6, .int .i64 t7, .int .i64 t8] []
noncomputable def laws_sameExpr (a0 : Exp) (a1 : Exp) : Option (Bool) := callTy Tb GT s9800 9800 [.agg (rowT .exp a0), .agg (rowT .exp a1)] []
noncomputable def laws_sameStmts_l1 (t0 : List Stm) (t1 : List Stm) (t5 : Int) : Option (Unit ⊕ Bool) := callTy Tb GT s9901 9901 [.sl .share .stm t0, .sl .share .stm t1, .int .i64 t5] []
noncomputable def impl_areWords (a0 : List Int) : Option (Bool) := callTy Tb GT s5100 5100 [.sl .share .int a0] []
noncomputable def impl_BoxValid (a0 : Bx) : Option (Bool) := callTy Tb GT s17600 17600 [.agg (rowT .bx a0)] []
noncomputable def impl_boxesValid_l1 (t0 : List Bx) (t5 : List Bx) (t6 : Int) (t7 : Int) : Option (List Bx ⊕ (List Bx × Bool)) := callTy Tb GT s23901 23901 [.sl .share .bx t0, .sl .share .bx t5, .int .i64 t6, .int .i64 t7] []
noncomputable def impl_taskValid_l1 (t1 : Int) (t18 : Int) (t19 : Int) (b100_0 : List Int) (b100_1 : List Stm) : Option (Unit ⊕ Bool) := callTy Tb GT s5501 5501 [.int .i64 t1, .bp 100 0, .int .i64 t18, .int .i64 t19] [.var [.sl .share .int b100_0, .sl .share .stm b100_1]]
noncomputable def spec_l92Rooms_p (a0b : List Int) (a0p : Int) (A : List Ent) : Option (Hd × List Int × Int × List Ent) := callTy Tb GT s40200 40200 [.bp 0 0] [.var [.sl .share .u8 a0b, .int .i64 a0p], .ar A]
noncomputable def spec_l92Stmts_p (a1 : Int) (a0b : List Int) (a0p : Int) (A : List Ent) : Option (Hd × List Int × Int × List Ent) := callTy Tb GT s38000 38000 [.bp 0 0, .int .i64 a1] [.var [.sl .share .u8 a0b, .int .i64 a0p], .ar A]
noncomputable def spec_l92Program_p_l1 (t4 : Int) (t5 : Int) (b0_0 : List Int) (b0_1 : Int) (b100_0 : Hd) (b100_1 : Hd) (b101_0 : Hd) (b101_1 : Hd) (b99 : List Ent) : Option (List Int × Int × Hd × Hd × Hd × Hd × List Ent) := callTy Tb GT s39901 39901 [.bp 0 0, .bp 100 0, .bp 101 0, .int .i64 t4, .int .i64 t5] [.var [.sl .share .u8 b0_0, .int .i64 b0_1], .var [.tr .int b100_0.id b100_0.n, .tr .stmsH b100_1.id b100_1.n], .var [.tr .int b101_0.id b101_0.n, .tr .stmsH b101_1.id b101_1.n], .ar b99]
noncomputable def spec_l92Endless (a0b : List Int) (a0p : Int) : Option (Stm × List Int × Int) := callTy Tb GT s8700 8700 [.bp 0 0] [.var [.sl .share .u8 a0b, .int .i64 a0p]]
noncomputable def spec_l4Leaf (a0 : Int) (a1 : Int) : Option (Int × Int × (Md × List Exp)) := callTy Tb GT s300 300 [.int .i64 a0, .int .i64 a1] []
noncomputable def impl_roomsValid_l1 (t0 : List Int) (t5 : List Int) (t6 : Int) (t7 : Int) : Option (List Int ⊕ (List Int × Bool)) := callTy Tb GT s22701 22701 [.sl .share .int t0, .sl .share .int t5, .int .i64 t6, .int .i64 t7] []
noncomputable def impl_blockValid (a0 : List Stm) (a1 : Int) (a2 : Int) (a3 : Int) : Option (Bool × Int) := callTy Tb GT s5300 5300 [.sl .share .stm a0, .int .i64 a1, .int .i64 a2, .bp 0 0] [.var [.int .i64 a3]]
noncomputable def spec_l12Rooms_l1 (t0 : List Int) (t3 : Int) : Option (List Int ⊕ (List Int × Bool)) := callTy Tb GT s23201 23201 [.sl .share .int t0, .int .i64 t3] []
noncomputable def spec_l11Blocks (a0 : List Stm) (a1 : Int) : Option (Bool) := callTy Tb GT s6200 6200 [.sl .share .stm a0, .int .i64 a1] []
noncomputable def spec_l11Count (a0 : List Stm) : Option (Int) := callTy Tb GT s4000 4000 [.sl .share .stm a0] []
noncomputable def spec_l12Boxes_l1 (t0 : List Stm) (t1 : Int) (t5 : Int) : Option (Unit ⊕ Bool) := callTy Tb GT s23101 23101 [.sl .share .stm t0, .int .i64 t1, .int .i64 t5] []
noncomputable def spec_l4Copy (a0 : Exp) : Option (Exp) := callTy Tb GT s9400 9400 [.agg (rowT .exp a0)] []
noncomputable def spec_l11Copy_l1 (t0 : List Stm) (t3b : Bool) (t3 : List Stm) (t4 : Int) : Option ((Bool × List Stm)) := callTy Tb GT s9501 9501 [.sl .share .stm t0, .sl (.own t3b) .stm t3, .int .i64 t4] []
noncomputable def impl_exprCopy_l1 (t12 : List Exp) (t13 : Int) (t14 : Int) (b101_0 : Int) (b101_1 : Int) (b101_2b : Bool) (b101_2 : List Exp) (b102_0 : Int) (b102_1 : Int) (b102_2b : Bool) (b102_2 : List Exp) : Option (Int × Int × (Bool × List Exp) × Int × Int × (Bool × List Exp)) := callTy Tb GT s9101 9101 [.bp 101 0, .bp 102 0, .sl .share .exp t12, .int .i64 t13, .int .i64 t14] [.var [.int .i64 b101_0, .int .i64 b101_1, .sl (.own b101_2b) .exp b101_2], .var [.int .i64 b102_0, .int .i64 b102_1, .sl (.own b102_2b) .exp b102_2]]
noncomputable def laws_sameExpr_l1 (t5 : Int) (b100_0 : Int) (b100_1 : Int) (b100_2 : List Exp) (b101_0 : Int) (b101_1 : Int) (b101_2 : List Exp) : Option (Unit ⊕ Bool) := callTy Tb GT s9801 9801 [.bp 100 0, .bp 101 0, .int .i64 t5] [.var [.int .i64 b100_0, .int .i64 b100_1, .sl .share .exp b100_2], .var [.int .i64 b101_0, .int .i64 b101_1, .sl .share .exp b101_2]]
noncomputable def impl_WordValid (a0 : Int) : Option (Bool) := callTy Tb GT s5000 5000 [.int .i64 a0] []
noncomputable def impl_areWords_l1 (t5 : List Int) (t6 : Int) (t7 : Int) : Option (Unit ⊕ Bool) := callTy Tb GT s5101 5101 [.sl .share .int t5, .int .i64 t6, .int .i64 t7] []
noncomputable def spec_l92Rooms_p_l1 (t3 : Hd) (t4 : Int) (t5 : Int) (b0_0 : List Int) (b0_1 : Int) (b99 : List Ent) : Option (Hd × List Int × Int × List Ent) := callTy Tb GT s40201 40201 [.bp 0 0, .tr .int t3.id t3.n, .int .i64 t4, .int .i64 t5] [.var [.sl .share .u8 b0_0, .int .i64 b0_1], .ar b99]
noncomputable def spec_l92Block_p (a1 : Int) (a2 : Int) (a3 : Int) (a4 : Bool) (a0b : List Int) (a0p : Int) (A : List Ent) : Option (Hd × List Int × Int × List Ent) := callTy Tb GT s38100 38100 [.bp 0 0, .int .i64 a1, .int .i64 a2, .int .i64 a3, .bool a4] [.var [.sl .share .u8 a0b, .int .i64 a0p], .ar A]
noncomputable def spec_l92Stmts_p_l1 (t5 : Hd) (b0_0 : List Int) (b0_1 : Int) (b99 : List Ent) : Option (Hd × List Int × Int × List Ent) := callTy Tb GT s38001 38001 [.bp 0 0, .tr .stm t5.id t5.n] [.var [.sl .share .u8 b0_0, .int .i64 b0_1], .ar b99]
noncomputable def spec_l92Block (a1 : Int) (a2 : Int) (a3 : Int) (a4 : Bool) (a0b : List Int) (a0p : Int) : Option (List Stm × List Int × Int) := callTy Tb GT s4600 4600 [.bp 0 0, .int .i64 a1, .int .i64 a2, .int .i64 a3, .bool a4] [.var [.sl .share .u8 a0b, .int .i64 a0p]]
noncomputable def impl_stmtValid (a0 : Stm) (a1 : Int) : Option (Bool) := callTy Tb GT s5200 5200 [.rp (rowT .stm a0) 0, .int .i64 a1] []
noncomputable def impl_blockValid_l1 (t0 : List Stm) (t1 : Int) (t2 : Int) (t23 : Int) (t24 : Int) (b0_0 : Int) : Option (Int ⊕ (Bool × Int)) := callTy Tb GT s5301 5301 [.sl .share .stm t0, .int .i64 t1, .int .i64 t2, .bp 0 0, .int .i64 t23, .int .i64 t24] [.var [.int .i64 b0_0]]
noncomputable def spec_l11Ok (a0 : Stm) (a1 : Int) : Option (Bool) := callTy Tb GT s6100 6100 [.agg (rowT .stm a0), .int .i64 a1] []
noncomputable def spec_l11Blocks_l1 (t0 : List Stm) (t1 : Int) (t5 : Int) : Option (Unit ⊕ Bool) := callTy Tb GT s6201 6201 [.sl .share .stm t0, .int .i64 t1, .int .i64 t5] []
noncomputable def spec_l11Count_l1 (t0 : List Stm) (t3 : Int) (t4 : Int) : Option (Int) := callTy Tb GT s4001 4001 [.sl .share .stm t0, .int .i64 t3, .int .i64 t4] []
noncomputable def spec_l4Both (a0 : Int) (a1 : Exp) (a2 : Exp) : Option (Int × Int × (Md × List Exp)) := callTy Tb GT s500 500 [.int .i64 a0, .agg (rowT .exp a1), .agg (rowT .exp a2)] []
noncomputable def spec_l92Stmt (a1 : Int) (a2 : Int) (a3 : Bool) (a0b : List Int) (a0p : Int) : Option (List Stm × List Int × Int) := callTy Tb GT s4500 4500 [.bp 0 0, .int .i64 a1, .int .i64 a2, .bool a3] [.var [.sl .share .u8 a0b, .int .i64 a0p]]
noncomputable def spec_l92Block_p_l1 (t1 : Int) (t2 : Int) (t3 : Int) (t4 : Bool) (t11 : Hd) (t12 : Int) (b0_0 : List Int) (b0_1 : Int) (b99 : List Ent) : Option (Hd × List Int × Int × List Ent) := callTy Tb GT s38101 38101 [.bp 0 0, .int .i64 t1, .int .i64 t2, .int .i64 t3, .bool t4, .tr .stm t11.id t11.n, .int .i64 t12] [.var [.sl .share .u8 b0_0, .int .i64 b0_1], .ar b99]
noncomputable def spec_l92Block_l1 (t1 : Int) (t2 : Int) (t3 : Int) (t4 : Bool) (t11b : Bool) (t11 : List Stm) (t12 : Int) (b0_0 : List Int) (b0_1 : Int) : Option ((Bool × List Stm) × List Int × Int) := callTy Tb GT s4601 4601 [.bp 0 0, .int .i64 t1, .int .i64 t2, .int .i64 t3, .bool t4, .sl (.own t11b) .stm t11, .int .i64 t12] [.var [.sl .share .u8 b0_0, .int .i64 b0_1]]
noncomputable def impl_stmtValid_1 (a0 : Int) (a1 : Int) (a2 : Bool) : Option (Bool) := callTy Tb GT s11100 11100 [.int .i64 a0, .int .i64 a1, .bool a2] []
noncomputable def impl_ExprValid (a0 : Exp) : Option (Bool) := callTy Tb GT s1200 1200 [.agg (rowT .exp a0)] []
noncomputable def spec_l11Simple (a0 : Stm) : Option (Bool) := callTy Tb GT s6000 6000 [.agg (rowT .stm a0)] []
noncomputable def spec_l11Var (a0 : Stm) (a1 : Bool) : Option (Bool) := callTy Tb GT s5700 5700 [.agg (rowT .stm a0), .bool a1] []
noncomputable def spec_l11Box (a0 : Stm) (a1 : Bool) : Option (Bool) := callTy Tb GT s5800 5800 [.agg (rowT .stm a0), .bool a1] []
noncomputable def spec_ExprValid (a0 : Exp) : Option (Bool) := callTy Tb GT s1900 1900 [.agg (rowT .exp a0)] []
noncomputable def spec_l92Set (a0b : List Int) (a0p : Int) : Option (Stm × List Int × Int) := callTy Tb GT s4200 4200 [.bp 0 0] [.var [.sl .share .u8 a0b, .int .i64 a0p]]
noncomputable def spec_l92If (a1 : Int) (a2 : Int) (a3 : Bool) (a0b : List Int) (a0p : Int) : Option (Stm × List Int × Int) := callTy Tb GT s4100 4100 [.bp 0 0, .int .i64 a1, .int .i64 a2, .bool a3] [.var [.sl .share .u8 a0b, .int .i64 a0p]]
noncomputable def spec_l91Expr (a1 : Int) (a0b : List Int) (a0p : Int) : Option (Int × Int × (Md × List Exp) × List Int × Int) := callTy Tb GT s700 700 [.bp 0 0, .int .i64 a1] [.var [.sl .share .u8 a0b, .int .i64 a0p]]
noncomputable def spec_l92Loop (a1 : Int) (a2 : Int) (a0b : List Int) (a0p : Int) : Option (List Stm × List Int × Int) := callTy Tb GT s4300 4300 [.bp 0 0, .int .i64 a1, .int .i64 a2] [.var [.sl .share .u8 a0b, .int .i64 a0p]]
noncomputable def spec_l92Talk (a1 : Int) (a0b : List Int) (a0p : Int) : Option (Stm × List Int × Int) := callTy Tb GT s4400 4400 [.bp 0 0, .int .i64 a1] [.var [.sl .share .u8 a0b, .int .i64 a0p]]
noncomputable def impl_exprValid (a0 : Exp) (a1 : Int) : Option (Bool) := callTy Tb GT s1100 1100 [.agg (rowT .exp a0), .int .i64 a1] []
noncomputable def spec_l11Plain (a0 : Exp) : Option (Bool) := callTy Tb GT s5900 5900 [.agg (rowT .exp a0)] []
noncomputable def spec_l4Ok (a0 : Exp) (a1 : Int) : Option (Bool) := callTy Tb GT s1800 1800 [.agg (rowT .exp a0), .int .i64 a1] []
noncomputable def spec_l91Op (a0b : List Int) (a0p : Int) : Option (Int × List Int × Int) := callTy Tb GT s600 600 [.bp 0 0] [.var [.sl .share .u8 a0b, .int .i64 a0p]]
noncomputable def impl_OpValid (a0 : Int) : Option (Bool) := callTy Tb GT s1000 1000 [.int .i64 a0] []
noncomputable def spec_OpValid (a0 : Int) : Option (Bool) := callTy Tb GT s1700 1700 [.int .i64 a0] []
end Go.TFnWorldNew
