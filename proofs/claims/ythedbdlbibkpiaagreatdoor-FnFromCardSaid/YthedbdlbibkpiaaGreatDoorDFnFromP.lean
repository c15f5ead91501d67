import Derived.Test.YthedbdlbibkpiaaGreatDoorTv6
import Derived.Test.YthedbdlbibkpiaaGreatDoorPm2
import Derived.Test.YthedbdlbibkpiaaGreatDoorPm4

set_option linter.unusedVariables false
namespace Go.TFnFrom
open Go Go.RowKit Go.Vs Go.Tv

noncomputable def p100 : ProcT := { kind := .fn, ins := [0], bins := [], res := [.tmp 2], code := (.seq (.region false [⟨some 2, .mv (.const (.con .nilp)), none, []⟩])
 (.seq (.seq (.region false [⟨some 3, .mv (.tmp 0), none, []⟩,
  ⟨some 4, .len (.tmp 3), none, []⟩,
  ⟨some 5, .bin .gtr (.tmp 4) (.const (.int .i64 2000)), none, []⟩])
 (.cond (.tmp 5) (.region false [⟨some 6, .mv (.tmp 0), none, []⟩,
  ⟨some 7, .slc 1 (.tmp 6) none (some (.const (.int .i64 2000))) none, none, []⟩,
  ⟨some 0, .mv (.take 7), none, []⟩]) .skip))
 (.seq (.region false [⟨some 8, .mv (.tmp 0), none, []⟩,
  ⟨some 9, .build [.sl (.own false) .u8 [], .int .i64 0] [(0, 1, .tmp 8)], none, []⟩,
  ⟨some 10, .box 100 (.tmp 9), none, []⟩,
  ⟨some 2, .mv (.tmp 10), none, []⟩])
 .ret))) }
noncomputable def p200 : ProcT := { kind := .fn, ins := [0, 1], bins := [0], res := [.tmp 4], code := (.seq (.region false [⟨some 4, .mv (.const (.int .i64 0)), none, []⟩])
 (.seq (.region false [⟨some 7, .mv (.tmp 0), none, []⟩,
  ⟨some 8, .mv (.tmp 0), none, []⟩,
  ⟨some 9, .nilck (.tmp 8), none, []⟩,
  ⟨some 10, .fadr 1 (.tmp 9), none, []⟩,
  ⟨some 11, .load 1 false false (.tmp 10), none, []⟩,
  ⟨some 12, .bin .add (.tmp 11) (.const (.int .i64 1)), none, []⟩,
  ⟨some 13, .nilck (.tmp 7), none, []⟩,
  ⟨some 14, .fadr 1 (.tmp 13), none, []⟩,
  ⟨none, .store 1 (.tmp 14) (.tmp 12), none, []⟩])
 (.seq (.seq (.region false [⟨some 15, .mv (.tmp 1), none, []⟩,
  ⟨some 16, .bin .lss (.tmp 15) (.const (.int .i64 1)), none, []⟩,
  ⟨some 17, .mv (.tmp 16), none, []⟩,
  ⟨some 18, .mv (.tmp 0), some (17, false), []⟩,
  ⟨some 19, .nilck (.tmp 18), some (17, false), []⟩,
  ⟨some 20, .fadr 0 (.tmp 19), some (17, false), []⟩,
  ⟨some 21, .load 1 false false (.tmp 20), some (17, false), []⟩,
  ⟨some 22, .len (.tmp 21), some (17, false), []⟩,
  ⟨some 23, .bin .eql (.tmp 22) (.const (.int .i64 0)), some (17, false), []⟩,
  ⟨some 24, .pick (.tmp 17) (.const (.bool true)) (.tmp 23), none, []⟩])
 (.cond (.tmp 24) (.seq (.region false [⟨some 4, .mv (.const (.int .i64 0)), none, []⟩])
 .ret) .skip))
 (.seq (.region false [⟨some 25, .mv (.tmp 0), none, []⟩,
  ⟨some 26, .nilck (.tmp 25), none, []⟩,
  ⟨some 27, .fadr 1 (.tmp 26), none, []⟩,
  ⟨some 28, .load 1 false false (.tmp 27), none, []⟩,
  ⟨some 29, .bin .sub (.tmp 28) (.const (.int .i64 1)), none, []⟩,
  ⟨some 5, .mv (.tmp 29), none, []⟩])
 (.seq (.seq (.region false [⟨some 30, .mv (.tmp 5), none, []⟩,
  ⟨some 31, .mv (.tmp 0), none, []⟩,
  ⟨some 32, .nilck (.tmp 31), none, []⟩,
  ⟨some 33, .fadr 0 (.tmp 32), none, []⟩,
  ⟨some 34, .load 1 false false (.tmp 33), none, []⟩,
  ⟨some 35, .len (.tmp 34), none, []⟩,
  ⟨some 36, .bin .lss (.tmp 30) (.tmp 35), none, []⟩])
 (.cond (.tmp 36) (.seq (.region false [⟨some 37, .mv (.tmp 0), none, []⟩,
  ⟨some 38, .nilck (.tmp 37), none, []⟩,
  ⟨some 39, .fadr 0 (.tmp 38), none, []⟩,
  ⟨some 40, .load 1 false false (.tmp 39), none, []⟩,
  ⟨some 41, .mv (.tmp 5), none, []⟩,
  ⟨some 42, .iadr 1 (.tmp 40) (.tmp 41), none, []⟩,
  ⟨some 43, .load 1 false false (.tmp 42), none, []⟩,
  ⟨some 44, .conv (.int .i64) (.tmp 43), none, []⟩,
  ⟨some 45, .mv (.tmp 1), none, []⟩,
  ⟨some 46, .bin .rem (.tmp 44) (.tmp 45), none, []⟩,
  ⟨some 4, .mv (.tmp 46), none, []⟩])
 .ret) .skip))
 (.seq (.region true [⟨some 47, .mv (.tmp 0), none, []⟩,
  ⟨some 48, .nilck (.tmp 47), none, [0]⟩,
  ⟨some 49, .fadr 0 (.tmp 48), none, [0]⟩,
  ⟨some 50, .load 1 false false (.tmp 49), none, [0]⟩,
  ⟨some 51, .mv (.tmp 5), none, []⟩,
  ⟨some 52, .mv (.tmp 0), none, []⟩,
  ⟨some 53, .nilck (.tmp 52), none, [0]⟩,
  ⟨some 54, .fadr 0 (.tmp 53), none, [0]⟩,
  ⟨some 55, .load 1 false false (.tmp 54), none, [0]⟩,
  ⟨some 56, .len (.tmp 55), none, []⟩,
  ⟨some 57, .bin .rem (.tmp 51) (.tmp 56), none, []⟩,
  ⟨some 58, .iadr 1 (.tmp 50) (.tmp 57), none, []⟩,
  ⟨some 59, .load 1 false false (.tmp 58), none, []⟩,
  ⟨some 60, .conv (.int .i64) (.tmp 59), none, []⟩,
  ⟨some 61, .bin .mul (.tmp 60) (.const (.int .i64 131)), none, []⟩,
  ⟨some 62, .mv (.tmp 0), none, []⟩,
  ⟨some 63, .nilck (.tmp 62), none, [0]⟩,
  ⟨some 64, .fadr 0 (.tmp 63), none, [0]⟩,
  ⟨some 65, .load 1 false false (.tmp 64), none, [0]⟩,
  ⟨some 66, .mv (.tmp 5), none, []⟩,
  ⟨some 67, .bin .mul (.tmp 66) (.const (.int .i64 7)), none, []⟩,
  ⟨some 68, .bin .add (.tmp 67) (.const (.int .i64 3)), none, []⟩,
  ⟨some 69, .mv (.tmp 0), none, []⟩,
  ⟨some 70, .nilck (.tmp 69), none, [0]⟩,
  ⟨some 71, .fadr 0 (.tmp 70), none, [0]⟩,
  ⟨some 72, .load 1 false false (.tmp 71), none, [0]⟩,
  ⟨some 73, .len (.tmp 72), none, []⟩,
  ⟨some 74, .bin .rem (.tmp 68) (.tmp 73), none, []⟩,
  ⟨some 75, .iadr 1 (.tmp 65) (.tmp 74), none, []⟩,
  ⟨some 76, .load 1 false false (.tmp 75), none, []⟩,
  ⟨some 77, .conv (.int .i64) (.tmp 76), none, []⟩,
  ⟨some 78, .bin .mul (.tmp 77) (.const (.int .i64 1117)), none, []⟩,
  ⟨some 79, .bin .add (.tmp 61) (.tmp 78), none, []⟩,
  ⟨some 80, .mv (.tmp 5), none, []⟩,
  ⟨some 81, .bin .mul (.tmp 80) (.const (.int .i64 29)), none, []⟩,
  ⟨some 82, .bin .add (.tmp 79) (.tmp 81), none, []⟩,
  ⟨some 83, .mv (.tmp 5), none, []⟩,
  ⟨some 84, .mv (.tmp 0), none, []⟩,
  ⟨some 85, .nilck (.tmp 84), none, [0]⟩,
  ⟨some 86, .fadr 0 (.tmp 85), none, [0]⟩,
  ⟨some 87, .load 1 false false (.tmp 86), none, [0]⟩,
  ⟨some 88, .len (.tmp 87), none, []⟩,
  ⟨some 89, .bin .quo (.tmp 83) (.tmp 88), none, []⟩,
  ⟨some 90, .bin .mul (.tmp 89) (.const (.int .i64 53)), none, []⟩,
  ⟨some 91, .bin .add (.tmp 82) (.tmp 90), none, []⟩,
  ⟨some 6, .mv (.tmp 91), none, []⟩])
 (.seq (.region false [⟨some 92, .mv (.tmp 6), none, []⟩,
  ⟨some 93, .mv (.tmp 6), none, []⟩,
  ⟨some 94, .bin .quo (.tmp 93) (.const (.int .i64 64)), none, []⟩,
  ⟨some 95, .bin .xor (.tmp 92) (.tmp 94), none, []⟩,
  ⟨some 6, .mv (.tmp 95), none, []⟩])
 (.seq (.region false [⟨some 96, .mv (.tmp 6), none, []⟩,
  ⟨some 97, .mv (.tmp 1), none, []⟩,
  ⟨some 98, .bin .rem (.tmp 96) (.tmp 97), none, []⟩,
  ⟨some 4, .mv (.tmp 98), none, []⟩])
 .ret)))))))) }
noncomputable def p300 : ProcT := { kind := .fn, ins := [0, 1], bins := [], res := [.keep 4 3], code := (.seq (.region false [⟨some 4, .alloc 100 [.int .i64 0, .int .i64 0, .sl (.own false) .exp []], none, []⟩])
 (.seq (.region false [⟨some 5, .mv (.tmp 0), none, []⟩,
  ⟨some 6, .mv (.tmp 1), none, []⟩,
  ⟨some 7, .buildS (.own false) .exp [], none, []⟩,
  ⟨some 8, .build [.int .i64 0, .int .i64 0, .sl (.own false) .exp []] [(0, 1, .tmp 5), (1, 1, .tmp 6), (2, 1, .tmp 7)], none, []⟩,
  ⟨none, .store 3 (.tmp 4) (.tmp 8), none, []⟩])
 .ret)) }
noncomputable def p400 : ProcT := { kind := .fn, ins := [0], bins := [0], res := [.keep 2 3], code := (.seq (.region false [⟨some 2, .alloc 100 [.int .i64 0, .int .i64 0, .sl (.own false) .exp []], none, []⟩])
 (.seq (.seq (.region false [⟨some 3, .mv (.tmp 0), none, []⟩,
  ⟨some 4, .call 200 0 [.tmp 3, .const (.int .i64 4)], none, []⟩])
 (.block 0 (.seq (.region false [⟨some 6, .bin .eql (.tmp 4) (.const (.int .i64 0)), none, []⟩,
  ⟨some 5, .mv (.tmp 6), none, []⟩])
 (.cond (.tmp 5) (.seq (.region false [⟨some 7, .mv (.tmp 0), none, []⟩,
  ⟨some 8, .call 200 0 [.tmp 7, .const (.int .i64 4)], none, []⟩,
  ⟨some 9, .call 300 0 [.const (.int .i64 0), .tmp 8], none, []⟩,
  ⟨none, .store 3 (.tmp 2) (.tmp 9), none, []⟩])
 .ret) (.seq (.region false [⟨some 11, .bin .eql (.tmp 4) (.const (.int .i64 1)), none, []⟩,
  ⟨some 10, .mv (.tmp 11), none, []⟩])
 (.cond (.tmp 10) (.seq (.region false [⟨some 12, .buildS .full .int [.const (.int .i64 5), .const (.int .i64 31), .const (.int .i64 32), .const (.int .i64 100), .const (.int .i64 2047), .const (.int .i64 2048), .const (.int .i64 65536), .const (.int .i64 99999)], none, []⟩,
  ⟨some 13, .mv (.tmp 0), none, []⟩,
  ⟨some 14, .call 200 0 [.tmp 13, .const (.int .i64 8)], none, []⟩,
  ⟨some 15, .iadr 1 (.tmp 12) (.tmp 14), none, []⟩,
  ⟨some 16, .load 1 false false (.tmp 15), none, []⟩,
  ⟨some 17, .call 300 0 [.const (.int .i64 0), .tmp 16], none, []⟩,
  ⟨none, .store 3 (.tmp 2) (.tmp 17), none, []⟩])
 .ret) .skip))))))
 (.seq (.region false [⟨some 18, .mv (.tmp 0), none, []⟩,
  ⟨some 19, .call 200 0 [.tmp 18, .const (.int .i64 4)], none, []⟩,
  ⟨some 20, .call 300 0 [.const (.int .i64 13), .tmp 19], none, []⟩,
  ⟨none, .store 3 (.tmp 2) (.tmp 20), none, []⟩])
 .ret))) }
noncomputable def p500 : ProcT := { kind := .fn, ins := [0, 1, 2], bins := [], res := [.keep 6 3], code := (.seq (.region false [⟨some 4, .box 100 (.tmp 1), none, []⟩,
  ⟨some 5, .box 101 (.tmp 2), none, []⟩,
  ⟨some 6, .alloc 102 [.int .i64 0, .int .i64 0, .sl (.own false) .exp []], none, []⟩])
 (.seq (.region false [⟨some 7, .mv (.tmp 0), none, []⟩,
  ⟨some 8, .load 3 true false (.tmp 4), none, []⟩,
  ⟨some 9, .load 3 true false (.tmp 5), none, []⟩,
  ⟨some 10, .buildS .full .exp [.tmp 8, .tmp 9], none, []⟩,
  ⟨some 11, .build [.int .i64 0, .int .i64 0, .sl (.own false) .exp []] [(0, 1, .tmp 7), (2, 1, .tmp 10)], none, []⟩,
  ⟨none, .store 3 (.tmp 6) (.tmp 11), none, []⟩])
 .ret)) }
noncomputable def p600 : ProcT := { kind := .fn, ins := [0], bins := [0], res := [.tmp 2], code := (.seq (.region false [⟨some 2, .mv (.const (.int .i64 0)), none, []⟩])
 (.seq (.region false [⟨some 3, .mv (.tmp 0), none, []⟩,
  ⟨some 4, .call 200 0 [.tmp 3, .const (.int .i64 12)], none, []⟩,
  ⟨some 5, .bin .add (.const (.int .i64 1)) (.tmp 4), none, []⟩,
  ⟨some 2, .mv (.tmp 5), none, []⟩])
 .ret)) }
noncomputable def p700 : ProcT := { kind := .fn, ins := [0, 1], bins := [0], res := [.keep 4 3], code := (.seq (.region false [⟨some 4, .alloc 100 [.int .i64 0, .int .i64 0, .sl (.own false) .exp []], none, []⟩])
 (.seq (.seq (.region false [⟨some 7, .mv (.tmp 1), none, []⟩,
  ⟨some 8, .bin .lss (.tmp 7) (.const (.int .i64 2)), none, []⟩,
  ⟨some 9, .mv (.tmp 8), none, []⟩,
  ⟨some 10, .mv (.tmp 0), some (9, false), []⟩,
  ⟨some 11, .call 200 0 [.tmp 10, .const (.int .i64 3)], some (9, false), []⟩,
  ⟨some 12, .bin .eql (.tmp 11) (.const (.int .i64 0)), some (9, false), []⟩,
  ⟨some 13, .pick (.tmp 9) (.const (.bool true)) (.tmp 12), none, []⟩])
 (.cond (.tmp 13) (.seq (.region false [⟨some 14, .mv (.tmp 0), none, []⟩,
  ⟨some 15, .call 400 0 [.tmp 14], none, []⟩,
  ⟨none, .store 3 (.tmp 4) (.tmp 15), none, []⟩])
 .ret) .skip))
 (.seq (.region false [⟨some 16, .mv (.tmp 0), none, []⟩,
  ⟨some 17, .call 600 0 [.tmp 16], none, []⟩,
  ⟨some 5, .mv (.tmp 17), none, []⟩])
 (.seq (.region false [⟨some 18, .mv (.tmp 0), none, []⟩,
  ⟨some 19, .mv (.tmp 1), none, []⟩,
  ⟨some 20, .bin .sub (.tmp 19) (.const (.int .i64 1)), none, []⟩,
  ⟨some 21, .call 700 0 [.tmp 18, .tmp 20], none, []⟩,
  ⟨some 6, .alloc 101 [.int .i64 0, .int .i64 0, .sl (.own false) .exp []], none, []⟩,
  ⟨none, .store 3 (.tmp 6) (.tmp 21), none, []⟩])
 (.seq (.region true [⟨some 22, .mv (.tmp 5), none, []⟩,
  ⟨some 23, .load 3 true false (.tmp 6), none, [101]⟩,
  ⟨some 24, .mv (.tmp 0), none, []⟩,
  ⟨some 25, .mv (.tmp 1), none, []⟩,
  ⟨some 26, .bin .sub (.tmp 25) (.const (.int .i64 1)), none, []⟩,
  ⟨some 27, .call 700 0 [.tmp 24, .tmp 26], none, [0]⟩,
  ⟨some 28, .call 500 0 [.tmp 22, .tmp 23, .tmp 27], none, []⟩,
  ⟨none, .store 3 (.tmp 4) (.tmp 28), none, [100]⟩])
 .ret))))) }
noncomputable def p1000 : ProcT := { kind := .fn, ins := [0], bins := [], res := [.tmp 2], code := (.seq (.region false [⟨some 2, .mv (.const (.bool false)), none, []⟩])
 (.seq (.region false [⟨some 3, .mv (.tmp 0), none, []⟩,
  ⟨some 4, .bin .geq (.tmp 3) (.const (.int .i64 1)), none, []⟩,
  ⟨some 5, .mv (.tmp 4), none, []⟩,
  ⟨some 6, .mv (.tmp 0), some (5, true), []⟩,
  ⟨some 7, .bin .leq (.tmp 6) (.const (.int .i64 12)), some (5, true), []⟩,
  ⟨some 8, .pick (.tmp 5) (.tmp 7) (.const (.bool false)), none, []⟩,
  ⟨some 2, .mv (.tmp 8), none, []⟩])
 .ret)) }
noncomputable def p1100 : ProcT := { kind := .fn, ins := [0, 1], bins := [], res := [.tmp 4], code := (.seq (.region false [⟨some 2, .box 100 (.tmp 0), none, []⟩,
  ⟨some 4, .mv (.const (.bool false)), none, []⟩])
 (.seq (.block 0 (.seq (.region false [⟨some 6, .fadr 0 (.tmp 2), none, []⟩,
  ⟨some 7, .load 1 false false (.tmp 6), none, []⟩,
  ⟨some 8, .bin .eql (.tmp 7) (.const (.int .i64 0)), none, []⟩,
  ⟨some 5, .mv (.tmp 8), none, []⟩])
 (.cond (.tmp 5) (.seq (.region false [⟨some 9, .fadr 1 (.tmp 2), none, []⟩,
  ⟨some 10, .load 1 false false (.tmp 9), none, []⟩,
  ⟨some 11, .bin .geq (.tmp 10) (.const (.int .i64 0)), none, []⟩,
  ⟨some 12, .mv (.tmp 11), none, []⟩,
  ⟨some 13, .fadr 1 (.tmp 2), some (12, true), []⟩,
  ⟨some 14, .load 1 false false (.tmp 13), some (12, true), []⟩,
  ⟨some 15, .bin .leq (.tmp 14) (.const (.int .i64 99999)), some (12, true), []⟩,
  ⟨some 16, .pick (.tmp 12) (.tmp 15) (.const (.bool false)), none, []⟩,
  ⟨some 17, .mv (.tmp 16), none, []⟩,
  ⟨some 18, .fadr 2 (.tmp 2), some (17, true), []⟩,
  ⟨some 19, .load 1 false false (.tmp 18), some (17, true), []⟩,
  ⟨some 20, .len (.tmp 19), some (17, true), []⟩,
  ⟨some 21, .bin .eql (.tmp 20) (.const (.int .i64 0)), some (17, true), []⟩,
  ⟨some 22, .pick (.tmp 17) (.tmp 21) (.const (.bool false)), none, []⟩,
  ⟨some 23, .mv (.tmp 22), none, []⟩,
  ⟨some 24, .mv (.tmp 1), some (23, true), []⟩,
  ⟨some 25, .bin .gtr (.tmp 24) (.const (.int .i64 0)), some (23, true), []⟩,
  ⟨some 26, .pick (.tmp 23) (.tmp 25) (.const (.bool false)), none, []⟩,
  ⟨some 4, .mv (.tmp 26), none, []⟩])
 .ret) (.seq (.region false [⟨some 28, .fadr 0 (.tmp 2), none, []⟩,
  ⟨some 29, .load 1 false false (.tmp 28), none, []⟩,
  ⟨some 30, .bin .eql (.tmp 29) (.const (.int .i64 13)), none, []⟩,
  ⟨some 27, .mv (.tmp 30), none, []⟩])
 (.cond (.tmp 27) (.seq (.region false [⟨some 31, .fadr 1 (.tmp 2), none, []⟩,
  ⟨some 32, .load 1 false false (.tmp 31), none, []⟩,
  ⟨some 33, .bin .geq (.tmp 32) (.const (.int .i64 0)), none, []⟩,
  ⟨some 34, .mv (.tmp 33), none, []⟩,
  ⟨some 35, .fadr 1 (.tmp 2), some (34, true), []⟩,
  ⟨some 36, .load 1 false false (.tmp 35), some (34, true), []⟩,
  ⟨some 37, .bin .lss (.tmp 36) (.const (.int .i64 4)), some (34, true), []⟩,
  ⟨some 38, .pick (.tmp 34) (.tmp 37) (.const (.bool false)), none, []⟩,
  ⟨some 39, .mv (.tmp 38), none, []⟩,
  ⟨some 40, .fadr 2 (.tmp 2), some (39, true), []⟩,
  ⟨some 41, .load 1 false false (.tmp 40), some (39, true), []⟩,
  ⟨some 42, .len (.tmp 41), some (39, true), []⟩,
  ⟨some 43, .bin .eql (.tmp 42) (.const (.int .i64 0)), some (39, true), []⟩,
  ⟨some 44, .pick (.tmp 39) (.tmp 43) (.const (.bool false)), none, []⟩,
  ⟨some 45, .mv (.tmp 44), none, []⟩,
  ⟨some 46, .mv (.tmp 1), some (45, true), []⟩,
  ⟨some 47, .bin .gtr (.tmp 46) (.const (.int .i64 0)), some (45, true), []⟩,
  ⟨some 48, .pick (.tmp 45) (.tmp 47) (.const (.bool false)), none, []⟩,
  ⟨some 4, .mv (.tmp 48), none, []⟩])
 .ret) .skip)))))
 (.seq (.region false [⟨some 49, .fadr 0 (.tmp 2), none, []⟩,
  ⟨some 50, .load 1 false false (.tmp 49), none, []⟩,
  ⟨some 51, .call 1000 0 [.tmp 50], none, []⟩,
  ⟨some 52, .mv (.tmp 51), none, []⟩,
  ⟨some 53, .fadr 1 (.tmp 2), some (52, true), []⟩,
  ⟨some 54, .load 1 false false (.tmp 53), some (52, true), []⟩,
  ⟨some 55, .bin .eql (.tmp 54) (.const (.int .i64 0)), some (52, true), []⟩,
  ⟨some 56, .pick (.tmp 52) (.tmp 55) (.const (.bool false)), none, []⟩,
  ⟨some 57, .mv (.tmp 56), none, []⟩,
  ⟨some 58, .fadr 2 (.tmp 2), some (57, true), []⟩,
  ⟨some 59, .load 1 false false (.tmp 58), some (57, true), []⟩,
  ⟨some 60, .len (.tmp 59), some (57, true), []⟩,
  ⟨some 61, .bin .eql (.tmp 60) (.const (.int .i64 2)), some (57, true), []⟩,
  ⟨some 62, .pick (.tmp 57) (.tmp 61) (.const (.bool false)), none, []⟩,
  ⟨some 63, .mv (.tmp 62), none, []⟩,
  ⟨some 64, .mv (.tmp 1), some (63, true), []⟩,
  ⟨some 65, .bin .gtr (.tmp 64) (.const (.int .i64 1)), some (63, true), []⟩,
  ⟨some 66, .pick (.tmp 63) (.tmp 65) (.const (.bool false)), none, []⟩,
  ⟨some 67, .mv (.tmp 66), none, []⟩,
  ⟨some 68, .fadr 2 (.tmp 2), some (67, true), []⟩,
  ⟨some 69, .load 1 false false (.tmp 68), some (67, true), []⟩,
  ⟨some 70, .iadr 3 (.tmp 69) (.const (.int .i64 0)), some (67, true), []⟩,
  ⟨some 71, .load 3 true false (.tmp 70), some (67, true), []⟩,
  ⟨some 72, .mv (.tmp 1), some (67, true), []⟩,
  ⟨some 73, .bin .sub (.tmp 72) (.const (.int .i64 1)), some (67, true), []⟩,
  ⟨some 74, .call 1100 0 [.tmp 71, .tmp 73], some (67, true), []⟩,
  ⟨some 75, .pick (.tmp 67) (.tmp 74) (.const (.bool false)), none, []⟩,
  ⟨some 76, .mv (.tmp 75), none, []⟩,
  ⟨some 77, .fadr 2 (.tmp 2), some (76, true), []⟩,
  ⟨some 78, .load 1 false false (.tmp 77), some (76, true), []⟩,
  ⟨some 79, .iadr 3 (.tmp 78) (.const (.int .i64 1)), some (76, true), []⟩,
  ⟨some 80, .load 3 true false (.tmp 79), some (76, true), []⟩,
  ⟨some 81, .mv (.tmp 1), some (76, true), []⟩,
  ⟨some 82, .bin .sub (.tmp 81) (.const (.int .i64 1)), some (76, true), []⟩,
  ⟨some 83, .call 1100 0 [.tmp 80, .tmp 82], some (76, true), []⟩,
  ⟨some 84, .pick (.tmp 76) (.tmp 83) (.const (.bool false)), none, []⟩,
  ⟨some 4, .mv (.tmp 84), none, []⟩])
 .ret))) }
noncomputable def p1200 : ProcT := { kind := .fn, ins := [0], bins := [], res := [.tmp 2], code := (.seq (.region false [⟨some 1, .box 100 (.tmp 0), none, []⟩,
  ⟨some 2, .mv (.const (.bool false)), none, []⟩])
 (.seq (.region false [⟨some 3, .load 3 true false (.tmp 1), none, []⟩,
  ⟨some 4, .call 1100 0 [.tmp 3, .const (.int .i64 5)], none, []⟩,
  ⟨some 2, .mv (.tmp 4), none, []⟩])
 .ret)) }
noncomputable def p1600 : ProcT := { kind := .fn, ins := [0, 1, 2], bins := [], res := [.tmp 6], code := (.seq (.region false [⟨some 6, .mv (.const (.bool false)), none, []⟩])
 (.seq (.region false [⟨some 7, .mv (.tmp 0), none, []⟩,
  ⟨some 8, .mv (.tmp 1), none, []⟩,
  ⟨some 9, .bin .geq (.tmp 7) (.tmp 8), none, []⟩,
  ⟨some 10, .mv (.tmp 9), none, []⟩,
  ⟨some 11, .mv (.tmp 0), some (10, true), []⟩,
  ⟨some 12, .mv (.tmp 2), some (10, true), []⟩,
  ⟨some 13, .bin .leq (.tmp 11) (.tmp 12), some (10, true), []⟩,
  ⟨some 14, .pick (.tmp 10) (.tmp 13) (.const (.bool false)), none, []⟩,
  ⟨some 6, .mv (.tmp 14), none, []⟩])
 .ret)) }
noncomputable def p1700 : ProcT := { kind := .fn, ins := [0], bins := [], res := [.tmp 2], code := (.seq (.region false [⟨some 2, .mv (.const (.bool false)), none, []⟩])
 (.seq (.region false [⟨some 3, .mv (.tmp 0), none, []⟩,
  ⟨some 4, .call 1600 0 [.tmp 3, .const (.int .i64 1), .const (.int .i64 12)], none, []⟩,
  ⟨some 2, .mv (.tmp 4), none, []⟩])
 .ret)) }
noncomputable def p1800 : ProcT := { kind := .fn, ins := [0, 1], bins := [], res := [.tmp 4], code := (.seq (.region false [⟨some 2, .box 100 (.tmp 0), none, []⟩,
  ⟨some 4, .mv (.const (.bool false)), none, []⟩])
 (.seq (.seq (.region false [⟨some 5, .mv (.tmp 1), none, []⟩,
  ⟨some 6, .bin .lss (.tmp 5) (.const (.int .i64 1)), none, []⟩])
 (.cond (.tmp 6) (.seq (.region false [⟨some 4, .mv (.const (.bool false)), none, []⟩])
 .ret) .skip))
 (.seq (.seq (.region false [⟨some 7, .fadr 0 (.tmp 2), none, []⟩,
  ⟨some 8, .load 1 false false (.tmp 7), none, []⟩,
  ⟨some 9, .bin .eql (.tmp 8) (.const (.int .i64 0)), none, []⟩])
 (.cond (.tmp 9) (.seq (.region false [⟨some 10, .fadr 1 (.tmp 2), none, []⟩,
  ⟨some 11, .load 1 false false (.tmp 10), none, []⟩,
  ⟨some 12, .call 1600 0 [.tmp 11, .const (.int .i64 0), .const (.int .i64 99999)], none, []⟩,
  ⟨some 13, .mv (.tmp 12), none, []⟩,
  ⟨some 14, .fadr 2 (.tmp 2), some (13, true), []⟩,
  ⟨some 15, .load 1 false false (.tmp 14), some (13, true), []⟩,
  ⟨some 16, .len (.tmp 15), some (13, true), []⟩,
  ⟨some 17, .bin .eql (.tmp 16) (.const (.int .i64 0)), some (13, true), []⟩,
  ⟨some 18, .pick (.tmp 13) (.tmp 17) (.const (.bool false)), none, []⟩,
  ⟨some 4, .mv (.tmp 18), none, []⟩])
 .ret) .skip))
 (.seq (.seq (.region false [⟨some 19, .fadr 0 (.tmp 2), none, []⟩,
  ⟨some 20, .load 1 false false (.tmp 19), none, []⟩,
  ⟨some 21, .bin .eql (.tmp 20) (.const (.int .i64 13)), none, []⟩])
 (.cond (.tmp 21) (.seq (.region false [⟨some 22, .fadr 1 (.tmp 2), none, []⟩,
  ⟨some 23, .load 1 false false (.tmp 22), none, []⟩,
  ⟨some 24, .call 1600 0 [.tmp 23, .const (.int .i64 0), .const (.int .i64 3)], none, []⟩,
  ⟨some 25, .mv (.tmp 24), none, []⟩,
  ⟨some 26, .fadr 2 (.tmp 2), some (25, true), []⟩,
  ⟨some 27, .load 1 false false (.tmp 26), some (25, true), []⟩,
  ⟨some 28, .len (.tmp 27), some (25, true), []⟩,
  ⟨some 29, .bin .eql (.tmp 28) (.const (.int .i64 0)), some (25, true), []⟩,
  ⟨some 30, .pick (.tmp 25) (.tmp 29) (.const (.bool false)), none, []⟩,
  ⟨some 4, .mv (.tmp 30), none, []⟩])
 .ret) .skip))
 (.seq (.region false [⟨some 31, .fadr 0 (.tmp 2), none, []⟩,
  ⟨some 32, .load 1 false false (.tmp 31), none, []⟩,
  ⟨some 33, .call 1700 0 [.tmp 32], none, []⟩,
  ⟨some 34, .mv (.tmp 33), none, []⟩,
  ⟨some 35, .fadr 1 (.tmp 2), some (34, true), []⟩,
  ⟨some 36, .load 1 false false (.tmp 35), some (34, true), []⟩,
  ⟨some 37, .bin .eql (.tmp 36) (.const (.int .i64 0)), some (34, true), []⟩,
  ⟨some 38, .pick (.tmp 34) (.tmp 37) (.const (.bool false)), none, []⟩,
  ⟨some 39, .mv (.tmp 38), none, []⟩,
  ⟨some 40, .fadr 2 (.tmp 2), some (39, true), []⟩,
  ⟨some 41, .load 1 false false (.tmp 40), some (39, true), []⟩,
  ⟨some 42, .len (.tmp 41), some (39, true), []⟩,
  ⟨some 43, .bin .eql (.tmp 42) (.const (.int .i64 2)), some (39, true), []⟩,
  ⟨some 44, .pick (.tmp 39) (.tmp 43) (.const (.bool false)), none, []⟩,
  ⟨some 45, .mv (.tmp 44), none, []⟩,
  ⟨some 46, .fadr 2 (.tmp 2), some (45, true), []⟩,
  ⟨some 47, .load 1 false false (.tmp 46), some (45, true), []⟩,
  ⟨some 48, .iadr 3 (.tmp 47) (.const (.int .i64 0)), some (45, true), []⟩,
  ⟨some 49, .load 3 true false (.tmp 48), some (45, true), []⟩,
  ⟨some 50, .mv (.tmp 1), some (45, true), []⟩,
  ⟨some 51, .bin .sub (.tmp 50) (.const (.int .i64 1)), some (45, true), []⟩,
  ⟨some 52, .call 1800 0 [.tmp 49, .tmp 51], some (45, true), []⟩,
  ⟨some 53, .pick (.tmp 45) (.tmp 52) (.const (.bool false)), none, []⟩,
  ⟨some 54, .mv (.tmp 53), none, []⟩,
  ⟨some 55, .fadr 2 (.tmp 2), some (54, true), []⟩,
  ⟨some 56, .load 1 false false (.tmp 55), some (54, true), []⟩,
  ⟨some 57, .iadr 3 (.tmp 56) (.const (.int .i64 1)), some (54, true), []⟩,
  ⟨some 58, .load 3 true false (.tmp 57), some (54, true), []⟩,
  ⟨some 59, .mv (.tmp 1), some (54, true), []⟩,
  ⟨some 60, .bin .sub (.tmp 59) (.const (.int .i64 1)), some (54, true), []⟩,
  ⟨some 61, .call 1800 0 [.tmp 58, .tmp 60], some (54, true), []⟩,
  ⟨some 62, .pick (.tmp 54) (.tmp 61) (.const (.bool false)), none, []⟩,
  ⟨some 4, .mv (.tmp 62), none, []⟩])
 .ret))))) }
noncomputable def p1900 : ProcT := { kind := .fn, ins := [0], bins := [], res := [.tmp 2], code := (.seq (.region false [⟨some 1, .box 100 (.tmp 0), none, []⟩,
  ⟨some 2, .mv (.const (.bool false)), none, []⟩])
 (.seq (.region false [⟨some 3, .load 3 true false (.tmp 1), none, []⟩,
  ⟨some 4, .call 1800 0 [.tmp 3, .const (.int .i64 5)], none, []⟩,
  ⟨some 2, .mv (.tmp 4), none, []⟩])
 .ret)) }
noncomputable def p9800 : ProcT := { kind := .fn, ins := [0, 1], bins := [], res := [.tmp 4], code := (.seq (.region false [⟨some 2, .box 100 (.tmp 0), none, []⟩,
  ⟨some 3, .box 101 (.tmp 1), none, []⟩,
  ⟨some 4, .mv (.const (.bool false)), none, []⟩])
 (.seq (.seq (.region false [⟨some 6, .fadr 0 (.tmp 2), none, []⟩,
  ⟨some 7, .load 1 false false (.tmp 6), none, []⟩,
  ⟨some 8, .fadr 0 (.tmp 3), none, []⟩,
  ⟨some 9, .load 1 false false (.tmp 8), none, []⟩,
  ⟨some 10, .bin .neq (.tmp 7) (.tmp 9), none, []⟩,
  ⟨some 11, .mv (.tmp 10), none, []⟩,
  ⟨some 12, .fadr 1 (.tmp 2), some (11, false), []⟩,
  ⟨some 13, .load 1 false false (.tmp 12), some (11, false), []⟩,
  ⟨some 14, .fadr 1 (.tmp 3), some (11, false), []⟩,
  ⟨some 15, .load 1 false false (.tmp 14), some (11, false), []⟩,
  ⟨some 16, .bin .neq (.tmp 13) (.tmp 15), some (11, false), []⟩,
  ⟨some 17, .pick (.tmp 11) (.const (.bool true)) (.tmp 16), none, []⟩,
  ⟨some 18, .mv (.tmp 17), none, []⟩,
  ⟨some 19, .fadr 2 (.tmp 2), some (18, false), []⟩,
  ⟨some 20, .load 1 false false (.tmp 19), some (18, false), []⟩,
  ⟨some 21, .len (.tmp 20), some (18, false), []⟩,
  ⟨some 22, .fadr 2 (.tmp 3), some (18, false), []⟩,
  ⟨some 23, .load 1 false false (.tmp 22), some (18, false), []⟩,
  ⟨some 24, .len (.tmp 23), some (18, false), []⟩,
  ⟨some 25, .bin .neq (.tmp 21) (.tmp 24), some (18, false), []⟩,
  ⟨some 26, .pick (.tmp 18) (.const (.bool true)) (.tmp 25), none, []⟩])
 (.cond (.tmp 26) (.seq (.region false [⟨some 4, .mv (.const (.bool false)), none, []⟩])
 .ret) .skip))
 (.seq (.seq (.region false [⟨some 5, .mv (.const (.int .i64 0)), none, []⟩])
 (.block 0 (.label 9801)))
 (.seq (.region false [⟨some 4, .mv (.const (.bool true)), none, []⟩])
 .ret)))) }
noncomputable def p9801 : ProcT := { kind := .loop, ins := [2, 3, 5], bins := [100, 101], outs := [4], bouts := [], code := (.seq (.seq (.region false [⟨some 27, .mv (.tmp 5), none, []⟩,
  ⟨some 28, .fadr 2 (.tmp 2), none, []⟩,
  ⟨some 29, .load 1 false false (.tmp 28), none, []⟩,
  ⟨some 30, .len (.tmp 29), none, []⟩,
  ⟨some 31, .bin .lss (.tmp 27) (.tmp 30), none, []⟩])
 (.cond (.tmp 31) .skip (.exit 0)))
 (.seq (.block 1 (.seq (.region true [⟨some 34, .fadr 2 (.tmp 2), none, [100]⟩,
  ⟨some 35, .load 1 false false (.tmp 34), none, [100]⟩,
  ⟨some 36, .mv (.tmp 5), none, []⟩,
  ⟨some 37, .iadr 3 (.tmp 35) (.tmp 36), none, []⟩,
  ⟨some 38, .load 3 true false (.tmp 37), none, []⟩,
  ⟨some 39, .fadr 2 (.tmp 3), none, [101]⟩,
  ⟨some 40, .load 1 false false (.tmp 39), none, [101]⟩,
  ⟨some 41, .mv (.tmp 5), none, []⟩,
  ⟨some 42, .iadr 3 (.tmp 40) (.tmp 41), none, []⟩,
  ⟨some 43, .load 3 true false (.tmp 42), none, []⟩,
  ⟨some 44, .call 9800 0 [.tmp 38, .tmp 43], none, []⟩,
  ⟨some 45, .un .not (.tmp 44), none, []⟩])
 (.cond (.tmp 45) (.seq (.region false [⟨some 4, .mv (.const (.bool false)), none, []⟩])
 .ret) .skip)))
 (.region false [⟨some 32, .mv (.tmp 5), none, []⟩,
  ⟨some 33, .bin .add (.tmp 32) (.const (.int .i64 1)), none, []⟩,
  ⟨some 5, .mv (.tmp 33), none, []⟩]))) }
noncomputable def p20500 : ProcT := { kind := .fn, ins := [0], bins := [], res := [.tmp 2], code := (.seq (.region false [⟨some 2, .mv (.const (.str [])), none, []⟩])
 (.seq (.seq (.region false [⟨some 3, .mv (.tmp 0), none, []⟩,
  ⟨some 4, .bin .lss (.tmp 3) (.const (.int .i64 (-9223372036854775807))), none, []⟩])
 (.cond (.tmp 4) (.seq (.region false [⟨some 2, .mv (.const (.str ([45, 57, 50, 50, 51, 51, 55, 50, 48, 51, 54, 56, 53, 52, 55, 55, 53, 56, 48, 56]))), none, []⟩])
 .ret) .skip))
 (.seq (.seq (.region false [⟨some 5, .mv (.tmp 0), none, []⟩,
  ⟨some 6, .bin .lss (.tmp 5) (.const (.int .i64 0)), none, []⟩])
 (.cond (.tmp 6) (.seq (.region false [⟨some 7, .mv (.tmp 0), none, []⟩,
  ⟨some 8, .un .neg (.tmp 7), none, []⟩,
  ⟨some 9, .call 20500 0 [.tmp 8], none, []⟩,
  ⟨some 10, .bin .add (.const (.str [45])) (.tmp 9), none, []⟩,
  ⟨some 2, .mv (.tmp 10), none, []⟩])
 .ret) .skip))
 (.seq (.seq (.region false [⟨some 11, .mv (.tmp 0), none, []⟩,
  ⟨some 12, .bin .lss (.tmp 11) (.const (.int .i64 10)), none, []⟩])
 (.cond (.tmp 12) (.seq (.region false [⟨some 13, .mv (.tmp 0), none, []⟩,
  ⟨some 14, .bin .add (.const (.int .i64 48)) (.tmp 13), none, []⟩,
  ⟨some 15, .conv (.int .u8) (.tmp 14), none, []⟩,
  ⟨some 16, .buildS .full .u8 [.tmp 15], none, []⟩,
  ⟨some 17, .conv .bytesStr (.tmp 16), none, []⟩,
  ⟨some 2, .mv (.tmp 17), none, []⟩])
 .ret) .skip))
 (.seq (.region true [⟨some 18, .mv (.tmp 0), none, []⟩,
  ⟨some 19, .bin .quo (.tmp 18) (.const (.int .i64 10)), none, []⟩,
  ⟨some 20, .call 20500 0 [.tmp 19], none, []⟩,
  ⟨some 21, .mv (.tmp 0), none, []⟩,
  ⟨some 22, .bin .rem (.tmp 21) (.const (.int .i64 10)), none, []⟩,
  ⟨some 23, .bin .add (.const (.int .i64 48)) (.tmp 22), none, []⟩,
  ⟨some 24, .conv (.int .u8) (.tmp 23), none, []⟩,
  ⟨some 25, .buildS .full .u8 [.tmp 24], none, []⟩,
  ⟨some 26, .conv .bytesStr (.tmp 25), none, []⟩,
  ⟨some 27, .bin .add (.tmp 20) (.tmp 26), none, []⟩,
  ⟨some 2, .mv (.tmp 27), none, []⟩])
 .ret))))) }
noncomputable def p20700 : ProcT := { kind := .fn, ins := [0], bins := [], res := [.tmp 2], code := (.seq (.region false [⟨some 2, .mv (.const (.str [])), none, []⟩])
 (.seq (.seq (.region false [⟨some 3, .mv (.tmp 0), none, []⟩,
  ⟨some 4, .call 1700 0 [.tmp 3], none, []⟩,
  ⟨some 5, .un .not (.tmp 4), none, []⟩])
 (.cond (.tmp 5) (.seq (.region false [⟨some 2, .mv (.const (.str [])), none, []⟩])
 .ret) .skip))
 (.seq (.region false [⟨some 6, .buildS .full .str [.const (.str [124]), .const (.str [94]), .const (.str [38]), .const (.str ([61, 61])), .const (.str [60]), .const (.str ([60, 60])), .const (.str ([62, 62])), .const (.str [43]), .const (.str [45]), .const (.str [42]), .const (.str [47]), .const (.str [37])], none, []⟩,
  ⟨some 7, .mv (.tmp 0), none, []⟩,
  ⟨some 8, .bin .sub (.tmp 7) (.const (.int .i64 1)), none, []⟩,
  ⟨some 9, .iadr 1 (.tmp 6) (.tmp 8), none, []⟩,
  ⟨some 10, .load 1 false false (.tmp 9), none, []⟩,
  ⟨some 2, .mv (.tmp 10), none, []⟩])
 .ret))) }
noncomputable def p21000 : ProcT := { kind := .fn, ins := [0], bins := [], res := [.tmp 2], code := (.seq (.region false [⟨some 2, .mv (.const (.str [])), none, []⟩])
 (.seq (.seq (.region false [⟨some 3, .mv (.tmp 0), none, []⟩,
  ⟨some 4, .call 1000 0 [.tmp 3], none, []⟩,
  ⟨some 5, .un .not (.tmp 4), none, []⟩])
 (.cond (.tmp 5) (.seq (.region false [⟨some 2, .mv (.const (.str [])), none, []⟩])
 .ret) .skip))
 (.seq (.region false [⟨some 6, .mv (.tmp 0), none, []⟩,
  ⟨some 7, .bin .sub (.tmp 6) (.const (.int .i64 1)), none, []⟩,
  ⟨some 8, .iadrA 1 12 (.glob 0) (.tmp 7), none, []⟩,
  ⟨some 9, .load 1 false false (.tmp 8), none, []⟩,
  ⟨some 2, .mv (.tmp 9), none, []⟩])
 .ret))) }
noncomputable def p31800 : ProcT := { kind := .fn, ins := [0], bins := [], res := [.tmp 2], code := (.seq (.region false [⟨some 2, .mv (.const (.int .i64 0)), none, []⟩])
 (.seq (.block 0 (.seq (.region false [⟨some 6, .mv (.tmp 0), none, []⟩,
  ⟨some 7, .bin .geq (.tmp 6) (.const (.int .u8 48)), none, []⟩,
  ⟨some 8, .mv (.tmp 7), none, []⟩,
  ⟨some 9, .mv (.tmp 0), some (8, true), []⟩,
  ⟨some 10, .bin .leq (.tmp 9) (.const (.int .u8 57)), some (8, true), []⟩,
  ⟨some 11, .pick (.tmp 8) (.tmp 10) (.const (.bool false)), none, []⟩,
  ⟨some 5, .mv (.tmp 11), none, []⟩])
 (.cond (.tmp 5) (.seq (.region false [⟨some 2, .mv (.const (.int .i64 1)), none, []⟩])
 .ret) (.seq (.region false [⟨some 13, .mv (.tmp 0), none, []⟩,
  ⟨some 14, .bin .geq (.tmp 13) (.const (.int .u8 97)), none, []⟩,
  ⟨some 15, .mv (.tmp 14), none, []⟩,
  ⟨some 16, .mv (.tmp 0), some (15, true), []⟩,
  ⟨some 17, .bin .leq (.tmp 16) (.const (.int .u8 122)), some (15, true), []⟩,
  ⟨some 18, .pick (.tmp 15) (.tmp 17) (.const (.bool false)), none, []⟩,
  ⟨some 12, .mv (.tmp 18), none, []⟩])
 (.cond (.tmp 12) (.seq (.region false [⟨some 2, .mv (.const (.int .i64 2)), none, []⟩])
 .ret) (.seq (.region false [⟨some 20, .mv (.tmp 0), none, []⟩,
  ⟨some 21, .bin .eql (.tmp 20) (.const (.int .u8 32)), none, []⟩,
  ⟨some 22, .mv (.tmp 21), none, []⟩,
  ⟨some 23, .mv (.tmp 0), some (22, false), []⟩,
  ⟨some 24, .bin .eql (.tmp 23) (.const (.int .u8 10)), some (22, false), []⟩,
  ⟨some 25, .pick (.tmp 22) (.const (.bool true)) (.tmp 24), none, []⟩,
  ⟨some 19, .mv (.tmp 25), none, []⟩])
 (.cond (.tmp 19) (.seq (.region false [⟨some 2, .mv (.const (.int .i64 3)), none, []⟩])
 .ret) .skip)))))))
 (.seq (.region false [⟨some 3, .mv (.const (.str ([43, 45, 42, 47, 37, 38, 124, 94, 60, 62, 40, 41, 123, 125, 61, 59]))), none, []⟩])
 (.seq (.seq (.region false [⟨some 4, .mv (.const (.int .i64 0)), none, []⟩])
 (.block 1 (.label 31801)))
 (.seq (.region false [⟨some 2, .mv (.const (.int .i64 0)), none, []⟩])
 .ret))))) }
noncomputable def p31801 : ProcT := { kind := .loop, ins := [0, 3, 4], bins := [], outs := [2], bouts := [], code := (.seq (.seq (.region false [⟨some 26, .mv (.tmp 4), none, []⟩,
  ⟨some 27, .mv (.tmp 3), none, []⟩,
  ⟨some 28, .lenS (.tmp 27), none, []⟩,
  ⟨some 29, .bin .lss (.tmp 26) (.tmp 28), none, []⟩])
 (.cond (.tmp 29) .skip (.exit 1)))
 (.seq (.block 2 (.seq (.region false [⟨some 32, .mv (.tmp 3), none, []⟩,
  ⟨some 33, .mv (.tmp 4), none, []⟩,
  ⟨some 34, .idxS (.tmp 32) (.tmp 33), none, []⟩,
  ⟨some 35, .mv (.tmp 0), none, []⟩,
  ⟨some 36, .bin .eql (.tmp 34) (.tmp 35), none, []⟩])
 (.cond (.tmp 36) (.seq (.region false [⟨some 2, .mv (.const (.int .i64 4)), none, []⟩])
 .ret) .skip)))
 (.region false [⟨some 30, .mv (.tmp 4), none, []⟩,
  ⟨some 31, .bin .add (.tmp 30) (.const (.int .i64 1)), none, []⟩,
  ⟨some 4, .mv (.tmp 31), none, []⟩]))) }
noncomputable def p31900 : ProcT := { kind := .fn, ins := [0, 1], bins := [], res := [.tmp 4], code := (.seq (.region false [⟨some 4, .mv (.const (.int .i64 0)), none, []⟩])
 (.seq (.region false [⟨some 6, .mv (.tmp 1), none, []⟩,
  ⟨some 5, .mv (.tmp 6), none, []⟩])
 (.seq (.block 0 (.label 31901))
 (.seq (.region false [⟨some 24, .mv (.tmp 5), none, []⟩,
  ⟨some 4, .mv (.tmp 24), none, []⟩])
 .ret)))) }
noncomputable def p31901 : ProcT := { kind := .loop, ins := [0, 1, 5], bins := [], outs := [4, 5], bouts := [], code := (.seq (.seq (.region true [⟨some 7, .mv (.tmp 5), none, []⟩,
  ⟨some 8, .mv (.tmp 0), none, []⟩,
  ⟨some 9, .lenS (.tmp 8), none, []⟩,
  ⟨some 10, .bin .lss (.tmp 7) (.tmp 9), none, []⟩,
  ⟨some 11, .mv (.tmp 10), none, []⟩,
  ⟨some 12, .mv (.tmp 0), some (11, true), []⟩,
  ⟨some 13, .mv (.tmp 5), some (11, true), []⟩,
  ⟨some 14, .idxS (.tmp 12) (.tmp 13), some (11, true), []⟩,
  ⟨some 15, .call 31800 0 [.tmp 14], some (11, true), []⟩,
  ⟨some 16, .mv (.tmp 0), some (11, true), []⟩,
  ⟨some 17, .mv (.tmp 1), some (11, true), []⟩,
  ⟨some 18, .idxS (.tmp 16) (.tmp 17), some (11, true), []⟩,
  ⟨some 19, .call 31800 0 [.tmp 18], some (11, true), []⟩,
  ⟨some 20, .bin .eql (.tmp 15) (.tmp 19), some (11, true), []⟩,
  ⟨some 21, .pick (.tmp 11) (.tmp 20) (.const (.bool false)), none, []⟩])
 (.cond (.tmp 21) .skip (.exit 0)))
 (.block 1 (.region false [⟨some 22, .mv (.tmp 5), none, []⟩,
  ⟨some 23, .bin .add (.tmp 22) (.const (.int .i64 1)), none, []⟩,
  ⟨some 5, .mv (.tmp 23), none, []⟩]))) }
noncomputable def p32000 : ProcT := { kind := .fn, ins := [0], bins := [], res := [.tmp 2], code := (.seq (.region false [⟨some 2, .mv (.const (.bool false)), none, []⟩])
 (.seq (.region false [⟨some 3, .mv (.tmp 0), none, []⟩,
  ⟨some 4, .bin .eql (.tmp 3) (.const (.str ([60, 60]))), none, []⟩,
  ⟨some 5, .mv (.tmp 4), none, []⟩,
  ⟨some 6, .mv (.tmp 0), some (5, false), []⟩,
  ⟨some 7, .bin .eql (.tmp 6) (.const (.str ([62, 62]))), some (5, false), []⟩,
  ⟨some 8, .pick (.tmp 5) (.const (.bool true)) (.tmp 7), none, []⟩,
  ⟨some 9, .mv (.tmp 8), none, []⟩,
  ⟨some 10, .mv (.tmp 0), some (9, false), []⟩,
  ⟨some 11, .bin .eql (.tmp 10) (.const (.str ([61, 61]))), some (9, false), []⟩,
  ⟨some 12, .pick (.tmp 9) (.const (.bool true)) (.tmp 11), none, []⟩,
  ⟨some 2, .mv (.tmp 12), none, []⟩])
 .ret)) }
noncomputable def p32100 : ProcT := { kind := .fn, ins := [0, 1], bins := [], res := [.tmp 4], code := (.seq (.region false [⟨some 4, .mv (.const (.int .i64 0)), none, []⟩])
 (.seq (.region false [⟨some 6, .mv (.tmp 0), none, []⟩,
  ⟨some 7, .mv (.tmp 1), none, []⟩,
  ⟨some 8, .idxS (.tmp 6) (.tmp 7), none, []⟩,
  ⟨some 9, .call 31800 0 [.tmp 8], none, []⟩,
  ⟨some 5, .mv (.tmp 9), none, []⟩])
 (.seq (.seq (.region false [⟨some 10, .mv (.tmp 5), none, []⟩,
  ⟨some 11, .bin .eql (.tmp 10) (.const (.int .i64 1)), none, []⟩,
  ⟨some 12, .mv (.tmp 11), none, []⟩,
  ⟨some 13, .mv (.tmp 5), some (12, false), []⟩,
  ⟨some 14, .bin .eql (.tmp 13) (.const (.int .i64 2)), some (12, false), []⟩,
  ⟨some 15, .pick (.tmp 12) (.const (.bool true)) (.tmp 14), none, []⟩])
 (.cond (.tmp 15) (.seq (.region false [⟨some 16, .mv (.tmp 0), none, []⟩,
  ⟨some 17, .mv (.tmp 1), none, []⟩,
  ⟨some 18, .call 31900 0 [.tmp 16, .tmp 17], none, []⟩,
  ⟨some 4, .mv (.tmp 18), none, []⟩])
 .ret) .skip))
 (.seq (.seq (.region false [⟨some 19, .mv (.tmp 5), none, []⟩,
  ⟨some 20, .bin .neq (.tmp 19) (.const (.int .i64 4)), none, []⟩])
 (.cond (.tmp 20) (.seq (.region false [⟨some 4, .mv (.const (.int .i64 (-1))), none, []⟩])
 .ret) .skip))
 (.seq (.seq (.region false [⟨some 21, .mv (.tmp 1), none, []⟩,
  ⟨some 22, .bin .add (.tmp 21) (.const (.int .i64 2)), none, []⟩,
  ⟨some 23, .mv (.tmp 0), none, []⟩,
  ⟨some 24, .lenS (.tmp 23), none, []⟩,
  ⟨some 25, .bin .leq (.tmp 22) (.tmp 24), none, []⟩,
  ⟨some 26, .mv (.tmp 25), none, []⟩,
  ⟨some 27, .mv (.tmp 0), some (26, true), []⟩,
  ⟨some 28, .mv (.tmp 1), some (26, true), []⟩,
  ⟨some 29, .mv (.tmp 1), some (26, true), []⟩,
  ⟨some 30, .bin .add (.tmp 29) (.const (.int .i64 2)), some (26, true), []⟩,
  ⟨some 31, .slcS (.tmp 27) (some (.tmp 28)) (some (.tmp 30)), some (26, true), []⟩,
  ⟨some 32, .call 32000 0 [.tmp 31], some (26, true), []⟩,
  ⟨some 33, .pick (.tmp 26) (.tmp 32) (.const (.bool false)), none, []⟩])
 (.cond (.tmp 33) (.seq (.region false [⟨some 34, .mv (.tmp 1), none, []⟩,
  ⟨some 35, .bin .add (.tmp 34) (.const (.int .i64 2)), none, []⟩,
  ⟨some 4, .mv (.tmp 35), none, []⟩])
 .ret) .skip))
 (.seq (.seq (.region false [⟨some 36, .mv (.tmp 0), none, []⟩,
  ⟨some 37, .mv (.tmp 1), none, []⟩,
  ⟨some 38, .idxS (.tmp 36) (.tmp 37), none, []⟩,
  ⟨some 39, .bin .eql (.tmp 38) (.const (.int .u8 62)), none, []⟩])
 (.cond (.tmp 39) (.seq (.region false [⟨some 4, .mv (.const (.int .i64 (-1))), none, []⟩])
 .ret) .skip))
 (.seq (.region false [⟨some 40, .mv (.tmp 1), none, []⟩,
  ⟨some 41, .bin .add (.tmp 40) (.const (.int .i64 1)), none, []⟩,
  ⟨some 4, .mv (.tmp 41), none, []⟩])
 .ret))))))) }
noncomputable def p32200 : ProcT := { kind := .fn, ins := [0], bins := [], res := [.tmp 2, .tmp 3], code := (.seq (.region false [⟨some 2, .mv (.const (.sl (.own false) .str [])), none, []⟩,
  ⟨some 3, .mv (.const (.bool false)), none, []⟩])
 (.seq (.region false [⟨some 7, .buildS (.own true) .str [], none, []⟩,
  ⟨some 4, .mv (.take 7), none, []⟩])
 (.seq (.seq (.region false [⟨some 8, .mv (.tmp 0), none, []⟩,
  ⟨some 9, .lenS (.tmp 8), none, []⟩,
  ⟨some 10, .bin .gtr (.tmp 9) (.const (.int .i64 20000)), none, []⟩])
 (.cond (.tmp 10) (.seq (.region false [⟨some 11, .mv (.tmp 4), none, []⟩,
  ⟨some 2, .mv (.take 11), none, []⟩,
  ⟨some 3, .mv (.const (.bool false)), none, []⟩])
 .ret) .skip))
 (.seq (.region false [⟨some 5, .mv (.const (.int .i64 0)), none, []⟩])
 (.seq (.block 0 (.label 32201))
 (.seq (.region false [⟨some 37, .mv (.tmp 4), none, []⟩,
  ⟨some 2, .mv (.take 37), none, []⟩,
  ⟨some 3, .mv (.const (.bool true)), none, []⟩])
 .ret)))))) }
noncomputable def p32201 : ProcT := { kind := .loop, ins := [0, 4, 5], bins := [], outs := [2, 3, 4], bouts := [], code := (.seq (.seq (.region false [⟨some 12, .mv (.tmp 5), none, []⟩,
  ⟨some 13, .mv (.tmp 0), none, []⟩,
  ⟨some 14, .lenS (.tmp 13), none, []⟩,
  ⟨some 15, .bin .lss (.tmp 12) (.tmp 14), none, []⟩])
 (.cond (.tmp 15) .skip (.exit 0)))
 (.block 1 (.seq (.seq (.region false [⟨some 16, .mv (.tmp 0), none, []⟩,
  ⟨some 17, .mv (.tmp 5), none, []⟩,
  ⟨some 18, .idxS (.tmp 16) (.tmp 17), none, []⟩,
  ⟨some 19, .call 31800 0 [.tmp 18], none, []⟩,
  ⟨some 20, .bin .eql (.tmp 19) (.const (.int .i64 3)), none, []⟩])
 (.cond (.tmp 20) (.seq (.region false [⟨some 21, .mv (.tmp 5), none, []⟩,
  ⟨some 22, .bin .add (.tmp 21) (.const (.int .i64 1)), none, []⟩,
  ⟨some 5, .mv (.tmp 22), none, []⟩])
 (.exit 1)) .skip))
 (.seq (.region false [⟨some 23, .mv (.tmp 0), none, []⟩,
  ⟨some 24, .mv (.tmp 5), none, []⟩,
  ⟨some 25, .call 32100 0 [.tmp 23, .tmp 24], none, []⟩,
  ⟨some 6, .mv (.tmp 25), none, []⟩])
 (.seq (.seq (.region false [⟨some 26, .mv (.tmp 6), none, []⟩,
  ⟨some 27, .bin .lss (.tmp 26) (.const (.int .i64 0)), none, []⟩])
 (.cond (.tmp 27) (.seq (.region false [⟨some 28, .buildS (.own false) .str [], none, []⟩,
  ⟨some 2, .mv (.take 28), none, []⟩,
  ⟨some 3, .mv (.const (.bool false)), none, []⟩])
 .ret) .skip))
 (.seq (.region false [⟨some 29, .mv (.take 4), none, []⟩,
  ⟨some 30, .mv (.tmp 0), none, []⟩,
  ⟨some 31, .mv (.tmp 5), none, []⟩,
  ⟨some 32, .mv (.tmp 6), none, []⟩,
  ⟨some 33, .slcS (.tmp 30) (some (.tmp 31)) (some (.tmp 32)), none, []⟩,
  ⟨some 34, .buildS .full .str [.tmp 33], none, []⟩,
  ⟨some 35, .app 1 (.take 29) (.tmp 34), none, []⟩,
  ⟨some 4, .mv (.take 35), none, []⟩])
 (.region false [⟨some 36, .mv (.tmp 6), none, []⟩,
  ⟨some 5, .mv (.tmp 36), none, []⟩]))))))) }
noncomputable def p32300 : ProcT := { kind := .fn, ins := [0], bins := [], res := [.tmp 2], code := (.seq (.region false [⟨some 2, .mv (.const (.int .i64 0)), none, []⟩])
 (.seq (.seq (.region false [⟨some 5, .mv (.tmp 0), none, []⟩,
  ⟨some 6, .lenS (.tmp 5), none, []⟩,
  ⟨some 7, .call 1600 0 [.tmp 6, .const (.int .i64 1), .const (.int .i64 5)], none, []⟩,
  ⟨some 8, .un .not (.tmp 7), none, []⟩])
 (.cond (.tmp 8) (.seq (.region false [⟨some 2, .mv (.const (.int .i64 (-1))), none, []⟩])
 .ret) .skip))
 (.seq (.region false [⟨some 3, .mv (.const (.int .i64 0)), none, []⟩])
 (.seq (.seq (.region false [⟨some 4, .mv (.const (.int .i64 0)), none, []⟩])
 (.block 0 (.label 32301)))
 (.seq (.region false [⟨some 33, .mv (.tmp 3), none, []⟩,
  ⟨some 2, .mv (.tmp 33), none, []⟩])
 .ret))))) }
noncomputable def p32301 : ProcT := { kind := .loop, ins := [0, 3, 4], bins := [], outs := [2, 3], bouts := [], code := (.seq (.seq (.region false [⟨some 9, .mv (.tmp 4), none, []⟩,
  ⟨some 10, .mv (.tmp 0), none, []⟩,
  ⟨some 11, .lenS (.tmp 10), none, []⟩,
  ⟨some 12, .bin .lss (.tmp 9) (.tmp 11), none, []⟩])
 (.cond (.tmp 12) .skip (.exit 0)))
 (.seq (.block 1 (.seq (.seq (.region false [⟨some 15, .mv (.tmp 0), none, []⟩,
  ⟨some 16, .mv (.tmp 4), none, []⟩,
  ⟨some 17, .idxS (.tmp 15) (.tmp 16), none, []⟩,
  ⟨some 18, .bin .lss (.tmp 17) (.const (.int .u8 48)), none, []⟩,
  ⟨some 19, .mv (.tmp 18), none, []⟩,
  ⟨some 20, .mv (.tmp 0), some (19, false), []⟩,
  ⟨some 21, .mv (.tmp 4), some (19, false), []⟩,
  ⟨some 22, .idxS (.tmp 20) (.tmp 21), some (19, false), []⟩,
  ⟨some 23, .bin .gtr (.tmp 22) (.const (.int .u8 57)), some (19, false), []⟩,
  ⟨some 24, .pick (.tmp 19) (.const (.bool true)) (.tmp 23), none, []⟩])
 (.cond (.tmp 24) (.seq (.region false [⟨some 2, .mv (.const (.int .i64 (-1))), none, []⟩])
 .ret) .skip))
 (.region false [⟨some 25, .mv (.tmp 3), none, []⟩,
  ⟨some 26, .bin .mul (.const (.int .i64 10)) (.tmp 25), none, []⟩,
  ⟨some 27, .mv (.tmp 0), none, []⟩,
  ⟨some 28, .mv (.tmp 4), none, []⟩,
  ⟨some 29, .idxS (.tmp 27) (.tmp 28), none, []⟩,
  ⟨some 30, .bin .sub (.tmp 29) (.const (.int .u8 48)), none, []⟩,
  ⟨some 31, .conv (.int .i64) (.tmp 30), none, []⟩,
  ⟨some 32, .bin .add (.tmp 26) (.tmp 31), none, []⟩,
  ⟨some 3, .mv (.tmp 32), none, []⟩])))
 (.region false [⟨some 13, .mv (.tmp 4), none, []⟩,
  ⟨some 14, .bin .add (.tmp 13) (.const (.int .i64 1)), none, []⟩,
  ⟨some 4, .mv (.tmp 14), none, []⟩]))) }
noncomputable def p32400 : ProcT := { kind := .fn, ins := [0], bins := [], res := [.tmp 2], code := (.seq (.region false [⟨some 2, .mv (.const (.str [])), none, []⟩])
 (.seq (.region false [⟨some 3, .mv (.tmp 0), none, []⟩,
  ⟨some 4, .bin .add (.const (.int .i64 97)) (.tmp 3), none, []⟩,
  ⟨some 5, .conv (.int .u8) (.tmp 4), none, []⟩,
  ⟨some 6, .buildS .full .u8 [.tmp 5], none, []⟩,
  ⟨some 7, .conv .bytesStr (.tmp 6), none, []⟩,
  ⟨some 2, .mv (.tmp 7), none, []⟩])
 .ret)) }
noncomputable def p32500 : ProcT := { kind := .fn, ins := [0], bins := [], res := [.tmp 2], code := (.seq (.region false [⟨some 2, .mv (.const (.int .i64 0)), none, []⟩])
 (.seq (.seq (.region false [⟨some 3, .mv (.const (.int .i64 0)), none, []⟩])
 (.block 0 (.label 32501)))
 (.seq (.region false [⟨some 2, .mv (.const (.int .i64 (-1))), none, []⟩])
 .ret))) }
noncomputable def p32501 : ProcT := { kind := .loop, ins := [0, 3], bins := [], outs := [2], bouts := [], code := (.seq (.seq (.region false [⟨some 4, .mv (.tmp 3), none, []⟩,
  ⟨some 5, .bin .lss (.tmp 4) (.const (.int .i64 4)), none, []⟩])
 (.cond (.tmp 5) .skip (.exit 0)))
 (.seq (.block 1 (.seq (.region false [⟨some 8, .mv (.tmp 0), none, []⟩,
  ⟨some 9, .mv (.tmp 3), none, []⟩,
  ⟨some 10, .call 32400 0 [.tmp 9], none, []⟩,
  ⟨some 11, .bin .eql (.tmp 8) (.tmp 10), none, []⟩])
 (.cond (.tmp 11) (.seq (.region false [⟨some 12, .mv (.tmp 3), none, []⟩,
  ⟨some 2, .mv (.tmp 12), none, []⟩])
 .ret) .skip)))
 (.region false [⟨some 6, .mv (.tmp 3), none, []⟩,
  ⟨some 7, .bin .add (.tmp 6) (.const (.int .i64 1)), none, []⟩,
  ⟨some 3, .mv (.tmp 7), none, []⟩]))) }
noncomputable def p32600 : ProcT := { kind := .fn, ins := [0, 1], bins := [], res := [.cell 4 3 true, .tmp 5], code := (.seq (.region false [⟨some 4, .alloc 100 [.int .i64 0, .int .i64 0, .sl (.own false) .exp []], none, []⟩,
  ⟨some 5, .mv (.const (.int .i64 0)), none, []⟩])
 (.seq (.seq (.region false [⟨some 8, .mv (.tmp 1), none, []⟩,
  ⟨some 9, .mv (.tmp 0), none, []⟩,
  ⟨some 10, .len (.tmp 9), none, []⟩,
  ⟨some 11, .bin .geq (.tmp 8) (.tmp 10), none, []⟩])
 (.cond (.tmp 11) (.seq (.region false [⟨some 12, .build [.int .i64 0, .int .i64 0, .sl (.own false) .exp []] [], none, []⟩,
  ⟨none, .store 3 (.tmp 4) (.tmp 12), none, []⟩,
  ⟨some 5, .mv (.const (.int .i64 (-1))), none, []⟩])
 .ret) .skip))
 (.seq (.seq (.region false [⟨some 13, .mv (.tmp 0), none, []⟩,
  ⟨some 14, .mv (.tmp 1), none, []⟩,
  ⟨some 15, .iadr 1 (.tmp 13) (.tmp 14), none, []⟩,
  ⟨some 16, .load 1 false false (.tmp 15), none, []⟩,
  ⟨some 17, .bin .eql (.tmp 16) (.const (.str [40])), none, []⟩])
 (.cond (.tmp 17) (.seq (.region false [⟨some 19, .mv (.tmp 0), none, []⟩,
  ⟨some 20, .mv (.tmp 1), none, []⟩,
  ⟨some 21, .bin .add (.tmp 20) (.const (.int .i64 1)), none, []⟩,
  ⟨some 22, .call 32900 0 [.tmp 19, .tmp 21, .const (.int .i64 1)], none, []⟩,
  ⟨some 18, .mv (.tmp 22), none, []⟩,
  ⟨some 23, .ext 0 (.tmp 18), none, []⟩,
  ⟨some 24, .ext 1 (.tmp 18), none, []⟩,
  ⟨some 6, .alloc 101 [.int .i64 0, .int .i64 0, .sl (.own false) .exp []], none, []⟩,
  ⟨none, .store 3 (.tmp 6) (.tmp 23), none, []⟩,
  ⟨some 7, .mv (.tmp 24), none, []⟩])
 (.seq (.seq (.region false [⟨some 25, .mv (.tmp 7), none, []⟩,
  ⟨some 26, .bin .lss (.tmp 25) (.const (.int .i64 0)), none, []⟩,
  ⟨some 27, .mv (.tmp 26), none, []⟩,
  ⟨some 28, .mv (.tmp 7), some (27, false), []⟩,
  ⟨some 29, .mv (.tmp 0), some (27, false), []⟩,
  ⟨some 30, .len (.tmp 29), some (27, false), []⟩,
  ⟨some 31, .bin .geq (.tmp 28) (.tmp 30), some (27, false), []⟩,
  ⟨some 32, .pick (.tmp 27) (.const (.bool true)) (.tmp 31), none, []⟩,
  ⟨some 33, .mv (.tmp 32), none, []⟩,
  ⟨some 34, .mv (.tmp 0), some (33, false), []⟩,
  ⟨some 35, .mv (.tmp 7), some (33, false), []⟩,
  ⟨some 36, .iadr 1 (.tmp 34) (.tmp 35), some (33, false), []⟩,
  ⟨some 37, .load 1 false false (.tmp 36), some (33, false), []⟩,
  ⟨some 38, .bin .neq (.tmp 37) (.const (.str [41])), some (33, false), []⟩,
  ⟨some 39, .pick (.tmp 33) (.const (.bool true)) (.tmp 38), none, []⟩])
 (.cond (.tmp 39) (.seq (.region false [⟨some 40, .build [.int .i64 0, .int .i64 0, .sl (.own false) .exp []] [], none, []⟩,
  ⟨none, .store 3 (.tmp 4) (.tmp 40), none, []⟩,
  ⟨some 5, .mv (.const (.int .i64 (-1))), none, []⟩])
 .ret) .skip))
 (.seq (.region false [⟨some 41, .load 3 true false (.tmp 6), none, []⟩,
  ⟨some 42, .mv (.tmp 7), none, []⟩,
  ⟨some 43, .bin .add (.tmp 42) (.const (.int .i64 1)), none, []⟩,
  ⟨none, .store 3 (.tmp 4) (.tmp 41), none, []⟩,
  ⟨some 5, .mv (.tmp 43), none, []⟩])
 .ret))) .skip))
 (.seq (.seq (.region false [⟨some 44, .mv (.tmp 0), none, []⟩,
  ⟨some 45, .mv (.tmp 1), none, []⟩,
  ⟨some 46, .iadr 1 (.tmp 44) (.tmp 45), none, []⟩,
  ⟨some 47, .load 1 false false (.tmp 46), none, []⟩,
  ⟨some 48, .call 32300 0 [.tmp 47], none, []⟩,
  ⟨some 49, .bin .geq (.tmp 48) (.const (.int .i64 0)), none, []⟩])
 (.cond (.tmp 49) (.seq (.region false [⟨some 50, .mv (.tmp 0), none, []⟩,
  ⟨some 51, .mv (.tmp 1), none, []⟩,
  ⟨some 52, .iadr 1 (.tmp 50) (.tmp 51), none, []⟩,
  ⟨some 53, .load 1 false false (.tmp 52), none, []⟩,
  ⟨some 54, .call 32300 0 [.tmp 53], none, []⟩,
  ⟨some 55, .call 300 0 [.const (.int .i64 0), .tmp 54], none, []⟩,
  ⟨some 56, .mv (.tmp 1), none, []⟩,
  ⟨some 57, .bin .add (.tmp 56) (.const (.int .i64 1)), none, []⟩,
  ⟨none, .store 3 (.tmp 4) (.tmp 55), none, []⟩,
  ⟨some 5, .mv (.tmp 57), none, []⟩])
 .ret) .skip))
 (.seq (.seq (.region false [⟨some 58, .mv (.tmp 0), none, []⟩,
  ⟨some 59, .mv (.tmp 1), none, []⟩,
  ⟨some 60, .iadr 1 (.tmp 58) (.tmp 59), none, []⟩,
  ⟨some 61, .load 1 false false (.tmp 60), none, []⟩,
  ⟨some 62, .call 32500 0 [.tmp 61], none, []⟩,
  ⟨some 63, .bin .geq (.tmp 62) (.const (.int .i64 0)), none, []⟩])
 (.cond (.tmp 63) (.seq (.region false [⟨some 64, .mv (.tmp 0), none, []⟩,
  ⟨some 65, .mv (.tmp 1), none, []⟩,
  ⟨some 66, .iadr 1 (.tmp 64) (.tmp 65), none, []⟩,
  ⟨some 67, .load 1 false false (.tmp 66), none, []⟩,
  ⟨some 68, .call 32500 0 [.tmp 67], none, []⟩,
  ⟨some 69, .call 300 0 [.const (.int .i64 13), .tmp 68], none, []⟩,
  ⟨some 70, .mv (.tmp 1), none, []⟩,
  ⟨some 71, .bin .add (.tmp 70) (.const (.int .i64 1)), none, []⟩,
  ⟨none, .store 3 (.tmp 4) (.tmp 69), none, []⟩,
  ⟨some 5, .mv (.tmp 71), none, []⟩])
 .ret) .skip))
 (.seq (.region false [⟨some 72, .build [.int .i64 0, .int .i64 0, .sl (.own false) .exp []] [], none, []⟩,
  ⟨none, .store 3 (.tmp 4) (.tmp 72), none, []⟩,
  ⟨some 5, .mv (.const (.int .i64 (-1))), none, []⟩])
 .ret)))))) }
noncomputable def p32700 : ProcT := { kind := .fn, ins := [0], bins := [], res := [.tmp 2], code := (.seq (.region false [⟨some 2, .mv (.const (.int .i64 0)), none, []⟩])
 (.seq (.seq (.region false [⟨some 3, .mv (.tmp 0), none, []⟩,
  ⟨some 4, .call 1700 0 [.tmp 3], none, []⟩,
  ⟨some 5, .un .not (.tmp 4), none, []⟩])
 (.cond (.tmp 5) (.seq (.region false [⟨some 2, .mv (.const (.int .i64 0)), none, []⟩])
 .ret) .skip))
 (.seq (.region false [⟨some 6, .buildS .full .int [.const (.int .i64 1), .const (.int .i64 2), .const (.int .i64 3), .const (.int .i64 4), .const (.int .i64 5), .const (.int .i64 6), .const (.int .i64 6), .const (.int .i64 7), .const (.int .i64 7), .const (.int .i64 8), .const (.int .i64 8), .const (.int .i64 8)], none, []⟩,
  ⟨some 7, .mv (.tmp 0), none, []⟩,
  ⟨some 8, .bin .sub (.tmp 7) (.const (.int .i64 1)), none, []⟩,
  ⟨some 9, .iadr 1 (.tmp 6) (.tmp 8), none, []⟩,
  ⟨some 10, .load 1 false false (.tmp 9), none, []⟩,
  ⟨some 2, .mv (.tmp 10), none, []⟩])
 .ret))) }
noncomputable def p32800 : ProcT := { kind := .fn, ins := [0], bins := [], res := [.tmp 2], code := (.seq (.region false [⟨some 2, .mv (.const (.int .i64 0)), none, []⟩])
 (.seq (.seq (.region false [⟨some 3, .mv (.const (.int .i64 1)), none, []⟩])
 (.block 0 (.label 32801)))
 (.seq (.region false [⟨some 2, .mv (.const (.int .i64 0)), none, []⟩])
 .ret))) }
noncomputable def p32801 : ProcT := { kind := .loop, ins := [0, 3], bins := [], outs := [2], bouts := [], code := (.seq (.seq (.region false [⟨some 4, .mv (.tmp 3), none, []⟩,
  ⟨some 5, .bin .leq (.tmp 4) (.const (.int .i64 12)), none, []⟩])
 (.cond (.tmp 5) .skip (.exit 0)))
 (.seq (.block 1 (.seq (.region false [⟨some 8, .mv (.tmp 0), none, []⟩,
  ⟨some 9, .mv (.tmp 3), none, []⟩,
  ⟨some 10, .call 20700 0 [.tmp 9], none, []⟩,
  ⟨some 11, .bin .eql (.tmp 8) (.tmp 10), none, []⟩])
 (.cond (.tmp 11) (.seq (.region false [⟨some 12, .mv (.tmp 3), none, []⟩,
  ⟨some 2, .mv (.tmp 12), none, []⟩])
 .ret) .skip)))
 (.region false [⟨some 6, .mv (.tmp 3), none, []⟩,
  ⟨some 7, .bin .add (.tmp 6) (.const (.int .i64 1)), none, []⟩,
  ⟨some 3, .mv (.tmp 7), none, []⟩]))) }
noncomputable def p32900 : ProcT := { kind := .fn, ins := [0, 1, 2], bins := [], res := [.cell 6 3 true, .tmp 7], code := (.seq (.region false [⟨some 6, .alloc 100 [.int .i64 0, .int .i64 0, .sl (.own false) .exp []], none, []⟩,
  ⟨some 7, .mv (.const (.int .i64 0)), none, []⟩])
 (.seq (.seq (.region false [⟨some 13, .mv (.tmp 2), none, []⟩,
  ⟨some 14, .bin .gtr (.tmp 13) (.const (.int .i64 8)), none, []⟩])
 (.cond (.tmp 14) (.seq (.region false [⟨some 15, .mv (.tmp 0), none, []⟩,
  ⟨some 16, .mv (.tmp 1), none, []⟩,
  ⟨some 17, .call 32600 0 [.tmp 15, .tmp 16], none, []⟩,
  ⟨some 18, .ext 0 (.tmp 17), none, []⟩,
  ⟨some 19, .ext 1 (.tmp 17), none, []⟩,
  ⟨none, .store 3 (.tmp 6) (.tmp 18), none, []⟩,
  ⟨some 7, .mv (.tmp 19), none, []⟩])
 .ret) .skip))
 (.seq (.region false [⟨some 21, .mv (.tmp 0), none, []⟩,
  ⟨some 22, .mv (.tmp 1), none, []⟩,
  ⟨some 23, .mv (.tmp 2), none, []⟩,
  ⟨some 24, .bin .add (.tmp 23) (.const (.int .i64 1)), none, []⟩,
  ⟨some 25, .call 32900 0 [.tmp 21, .tmp 22, .tmp 24], none, []⟩,
  ⟨some 20, .mv (.tmp 25), none, []⟩,
  ⟨some 26, .ext 0 (.tmp 20), none, []⟩,
  ⟨some 27, .ext 1 (.tmp 20), none, []⟩,
  ⟨some 8, .alloc 101 [.int .i64 0, .int .i64 0, .sl (.own false) .exp []], none, []⟩,
  ⟨none, .store 3 (.tmp 8) (.tmp 26), none, []⟩,
  ⟨some 9, .mv (.tmp 27), none, []⟩])
 (.seq (.block 0 (.label 32901))
 (.seq (.region false [⟨some 65, .load 3 true false (.tmp 8), none, []⟩,
  ⟨some 66, .mv (.tmp 9), none, []⟩,
  ⟨none, .store 3 (.tmp 6) (.tmp 65), none, []⟩,
  ⟨some 7, .mv (.tmp 66), none, []⟩])
 .ret))))) }
noncomputable def p32901 : ProcT := { kind := .loop, ins := [0, 2, 6, 8, 9], bins := [100, 101], outs := [6, 7, 8, 9], bouts := [100, 101], code := (.seq (.seq (.region false [⟨some 28, .mv (.tmp 9), none, []⟩,
  ⟨some 29, .bin .geq (.tmp 28) (.const (.int .i64 0)), none, []⟩,
  ⟨some 30, .mv (.tmp 29), none, []⟩,
  ⟨some 31, .mv (.tmp 9), some (30, true), []⟩,
  ⟨some 32, .mv (.tmp 0), some (30, true), []⟩,
  ⟨some 33, .len (.tmp 32), some (30, true), []⟩,
  ⟨some 34, .bin .lss (.tmp 31) (.tmp 33), some (30, true), []⟩,
  ⟨some 35, .pick (.tmp 30) (.tmp 34) (.const (.bool false)), none, []⟩,
  ⟨some 36, .mv (.tmp 35), none, []⟩,
  ⟨some 37, .mv (.tmp 0), some (36, true), []⟩,
  ⟨some 38, .mv (.tmp 9), some (36, true), []⟩,
  ⟨some 39, .iadr 1 (.tmp 37) (.tmp 38), some (36, true), []⟩,
  ⟨some 40, .load 1 false false (.tmp 39), some (36, true), []⟩,
  ⟨some 41, .call 32800 0 [.tmp 40], some (36, true), []⟩,
  ⟨some 42, .call 32700 0 [.tmp 41], some (36, true), []⟩,
  ⟨some 43, .mv (.tmp 2), some (36, true), []⟩,
  ⟨some 44, .bin .eql (.tmp 42) (.tmp 43), some (36, true), []⟩,
  ⟨some 45, .pick (.tmp 36) (.tmp 44) (.const (.bool false)), none, []⟩])
 (.cond (.tmp 45) .skip (.exit 0)))
 (.block 1 (.seq (.region false [⟨some 46, .mv (.tmp 0), none, []⟩,
  ⟨some 47, .mv (.tmp 9), none, []⟩,
  ⟨some 48, .iadr 1 (.tmp 46) (.tmp 47), none, []⟩,
  ⟨some 49, .load 1 false false (.tmp 48), none, []⟩,
  ⟨some 50, .call 32800 0 [.tmp 49], none, []⟩,
  ⟨some 10, .mv (.tmp 50), none, []⟩])
 (.seq (.region false [⟨some 52, .mv (.tmp 0), none, []⟩,
  ⟨some 53, .mv (.tmp 9), none, []⟩,
  ⟨some 54, .bin .add (.tmp 53) (.const (.int .i64 1)), none, []⟩,
  ⟨some 55, .mv (.tmp 2), none, []⟩,
  ⟨some 56, .bin .add (.tmp 55) (.const (.int .i64 1)), none, []⟩,
  ⟨some 57, .call 32900 0 [.tmp 52, .tmp 54, .tmp 56], none, []⟩,
  ⟨some 51, .mv (.tmp 57), none, []⟩,
  ⟨some 58, .ext 0 (.tmp 51), none, []⟩,
  ⟨some 59, .ext 1 (.tmp 51), none, []⟩,
  ⟨some 11, .alloc 102 [.int .i64 0, .int .i64 0, .sl (.own false) .exp []], none, []⟩,
  ⟨none, .store 3 (.tmp 11) (.tmp 58), none, []⟩,
  ⟨some 12, .mv (.tmp 59), none, []⟩])
 (.seq (.region false [⟨some 60, .mv (.tmp 10), none, []⟩,
  ⟨some 61, .load 3 true false (.tmp 8), none, []⟩,
  ⟨some 62, .load 3 true false (.tmp 11), none, []⟩,
  ⟨some 63, .call 500 0 [.tmp 60, .tmp 61, .tmp 62], none, []⟩,
  ⟨none, .store 3 (.tmp 8) (.tmp 63), none, []⟩])
 (.region false [⟨some 64, .mv (.tmp 12), none, []⟩,
  ⟨some 9, .mv (.tmp 64), none, []⟩])))))) }
noncomputable def p33000 : ProcT := { kind := .fn, ins := [0], bins := [], res := [.cell 2 3 true, .tmp 3], code := (.seq (.region false [⟨some 2, .alloc 100 [.int .i64 0, .int .i64 0, .sl (.own false) .exp []], none, []⟩,
  ⟨some 3, .mv (.const (.bool false)), none, []⟩])
 (.seq (.region false [⟨some 9, .mv (.tmp 0), none, []⟩,
  ⟨some 10, .call 32200 0 [.tmp 9], none, []⟩,
  ⟨some 8, .mv (.tmp 10), none, []⟩,
  ⟨some 11, .ext 0 (.tmp 8), none, []⟩,
  ⟨some 12, .ext 1 (.tmp 8), none, []⟩,
  ⟨some 4, .mv (.take 11), none, []⟩,
  ⟨some 5, .mv (.tmp 12), none, []⟩])
 (.seq (.seq (.region false [⟨some 13, .mv (.tmp 5), none, []⟩,
  ⟨some 14, .un .not (.tmp 13), none, []⟩])
 (.cond (.tmp 14) (.seq (.region false [⟨some 15, .build [.int .i64 0, .int .i64 0, .sl (.own false) .exp []] [], none, []⟩,
  ⟨none, .store 3 (.tmp 2) (.tmp 15), none, []⟩,
  ⟨some 3, .mv (.const (.bool false)), none, []⟩])
 .ret) .skip))
 (.seq (.region false [⟨some 17, .mv (.tmp 4), none, []⟩,
  ⟨some 18, .call 32900 0 [.tmp 17, .const (.int .i64 0), .const (.int .i64 1)], none, []⟩,
  ⟨some 16, .mv (.tmp 18), none, []⟩,
  ⟨some 19, .ext 0 (.tmp 16), none, []⟩,
  ⟨some 20, .ext 1 (.tmp 16), none, []⟩,
  ⟨some 6, .alloc 101 [.int .i64 0, .int .i64 0, .sl (.own false) .exp []], none, []⟩,
  ⟨none, .store 3 (.tmp 6) (.tmp 19), none, []⟩,
  ⟨some 7, .mv (.tmp 20), none, []⟩])
 (.seq (.seq (.region false [⟨some 21, .mv (.tmp 7), none, []⟩,
  ⟨some 22, .mv (.tmp 4), none, []⟩,
  ⟨some 23, .len (.tmp 22), none, []⟩,
  ⟨some 24, .bin .neq (.tmp 21) (.tmp 23), none, []⟩,
  ⟨some 25, .mv (.tmp 24), none, []⟩,
  ⟨some 26, .mv (.tmp 7), some (25, false), []⟩,
  ⟨some 27, .bin .lss (.tmp 26) (.const (.int .i64 0)), some (25, false), []⟩,
  ⟨some 28, .pick (.tmp 25) (.const (.bool true)) (.tmp 27), none, []⟩,
  ⟨some 29, .mv (.tmp 28), none, []⟩,
  ⟨some 30, .load 3 true false (.tmp 6), some (29, false), []⟩,
  ⟨some 31, .call 1900 0 [.tmp 30], some (29, false), []⟩,
  ⟨some 32, .un .not (.tmp 31), some (29, false), []⟩,
  ⟨some 33, .pick (.tmp 29) (.const (.bool true)) (.tmp 32), none, []⟩])
 (.cond (.tmp 33) (.seq (.region false [⟨some 34, .build [.int .i64 0, .int .i64 0, .sl (.own false) .exp []] [], none, []⟩,
  ⟨none, .store 3 (.tmp 2) (.tmp 34), none, []⟩,
  ⟨some 3, .mv (.const (.bool false)), none, []⟩])
 .ret) .skip))
 (.seq (.region false [⟨some 35, .load 3 true false (.tmp 6), none, []⟩,
  ⟨none, .store 3 (.tmp 2) (.tmp 35), none, []⟩,
  ⟨some 3, .mv (.const (.bool true)), none, []⟩])
 .ret)))))) }
noncomputable def p33100 : ProcT := { kind := .fn, ins := [0], bins := [], res := [.tmp 2], code := (.seq (.region false [⟨some 2, .mv (.const (.bool false)), none, []⟩])
 (.seq (.region false [⟨some 3, .mv (.tmp 0), none, []⟩,
  ⟨some 4, .bin .geq (.tmp 3) (.const (.int .u8 48)), none, []⟩,
  ⟨some 5, .mv (.tmp 4), none, []⟩,
  ⟨some 6, .mv (.tmp 0), some (5, true), []⟩,
  ⟨some 7, .bin .leq (.tmp 6) (.const (.int .u8 57)), some (5, true), []⟩,
  ⟨some 8, .pick (.tmp 5) (.tmp 7) (.const (.bool false)), none, []⟩,
  ⟨some 2, .mv (.tmp 8), none, []⟩])
 .ret)) }
noncomputable def p33200 : ProcT := { kind := .fn, ins := [0], bins := [], res := [.tmp 2], code := (.seq (.region false [⟨some 2, .mv (.const (.bool false)), none, []⟩])
 (.seq (.region false [⟨some 3, .mv (.tmp 0), none, []⟩,
  ⟨some 4, .bin .geq (.tmp 3) (.const (.int .u8 97)), none, []⟩,
  ⟨some 5, .mv (.tmp 4), none, []⟩,
  ⟨some 6, .mv (.tmp 0), some (5, true), []⟩,
  ⟨some 7, .bin .leq (.tmp 6) (.const (.int .u8 122)), some (5, true), []⟩,
  ⟨some 8, .pick (.tmp 5) (.tmp 7) (.const (.bool false)), none, []⟩,
  ⟨some 2, .mv (.tmp 8), none, []⟩])
 .ret)) }
noncomputable def p33300 : ProcT := { kind := .fn, ins := [0], bins := [], res := [.tmp 2], code := (.seq (.region false [⟨some 2, .mv (.const (.int .i64 0)), none, []⟩])
 (.seq (.seq (.region false [⟨some 8, .buildS .full .fn [.func 33100, .func 33200], none, []⟩,
  ⟨some 9, .len (.tmp 8), none, []⟩,
  ⟨some 10, .mv (.const (.int .i64 0)), none, []⟩])
 (.block 0 (.label 33301)))
 (.seq (.seq (.region false [⟨some 31, .buildS .full .str [.const (.str ([61, 61])), .const (.str ([60, 60])), .const (.str ([62, 62]))], none, []⟩,
  ⟨some 32, .len (.tmp 31), none, []⟩,
  ⟨some 33, .mv (.const (.int .i64 0)), none, []⟩])
 (.block 4 (.label 33303)))
 (.seq (.seq (.region false [⟨some 41, .mv (.tmp 0), none, []⟩,
  ⟨some 42, .bin .neq (.tmp 41) (.const (.str [])), none, []⟩,
  ⟨some 43, .mv (.tmp 42), none, []⟩,
  ⟨some 44, .mv (.tmp 0), some (43, true), []⟩,
  ⟨some 45, .idxS (.tmp 44) (.const (.int .i64 0)), some (43, true), []⟩,
  ⟨some 46, .call 37600 0 [.const (.str ([124, 94, 38, 60, 43, 45, 42, 47, 37, 40, 41, 123, 125, 61, 59])), .tmp 45], some (43, true), []⟩,
  ⟨some 47, .bin .geq (.tmp 46) (.const (.int .i64 0)), some (43, true), []⟩,
  ⟨some 48, .pick (.tmp 43) (.tmp 47) (.const (.bool false)), none, []⟩])
 (.cond (.tmp 48) (.seq (.region false [⟨some 2, .mv (.const (.int .i64 1)), none, []⟩])
 .ret) .skip))
 (.seq (.region false [⟨some 2, .mv (.const (.int .i64 0)), none, []⟩])
 .ret))))) }
noncomputable def p33301 : ProcT := { kind := .loop, ins := [0, 8, 9, 10], bins := [], outs := [0, 2], bouts := [], code := (.seq (.region false [⟨some 11, .bin .lss (.tmp 10) (.tmp 9), none, []⟩])
 (.seq (.cond (.tmp 11) .skip (.exit 0))
 (.seq (.block 1 (.seq (.region false [⟨some 12, .iadr 1 (.tmp 8) (.tmp 10), none, []⟩,
  ⟨some 13, .load 1 false false (.tmp 12), none, []⟩,
  ⟨some 4, .mv (.tmp 13), none, []⟩])
 (.seq (.region false [⟨some 5, .mv (.const (.int .i64 0)), none, []⟩])
 (.seq (.block 2 (.label 33302))
 (.seq (.region false [⟨some 27, .mv (.tmp 5), none, []⟩,
  ⟨some 28, .bin .gtr (.tmp 27) (.const (.int .i64 0)), none, []⟩])
 (.cond (.tmp 28) (.seq (.region false [⟨some 29, .mv (.tmp 5), none, []⟩,
  ⟨some 2, .mv (.tmp 29), none, []⟩])
 .ret) .skip))))))
 (.region false [⟨some 30, .bin .add (.tmp 10) (.const (.int .i64 1)), none, []⟩,
  ⟨some 10, .mv (.tmp 30), none, []⟩])))) }
noncomputable def p33302 : ProcT := { kind := .loop, ins := [0, 4, 5, 8, 9, 10], bins := [], outs := [0, 2, 5, 8, 9, 10], bouts := [], code := (.seq (.seq (.region false [⟨some 14, .mv (.tmp 5), none, []⟩,
  ⟨some 15, .mv (.tmp 0), none, []⟩,
  ⟨some 16, .lenS (.tmp 15), none, []⟩,
  ⟨some 17, .bin .lss (.tmp 14) (.tmp 16), none, []⟩,
  ⟨some 18, .mv (.tmp 17), none, []⟩,
  ⟨some 19, .mv (.tmp 4), some (18, true), []⟩,
  ⟨some 20, .mv (.tmp 0), some (18, true), []⟩,
  ⟨some 21, .mv (.tmp 5), some (18, true), []⟩,
  ⟨some 22, .idxS (.tmp 20) (.tmp 21), some (18, true), []⟩,
  ⟨some 23, .callv (.tmp 19) [.tmp 22], some (18, true), []⟩,
  ⟨some 24, .pick (.tmp 18) (.tmp 23) (.const (.bool false)), none, []⟩])
 (.cond (.tmp 24) .skip (.exit 2)))
 (.block 3 (.region false [⟨some 25, .mv (.tmp 5), none, []⟩,
  ⟨some 26, .bin .add (.tmp 25) (.const (.int .i64 1)), none, []⟩,
  ⟨some 5, .mv (.tmp 26), none, []⟩]))) }
noncomputable def p33303 : ProcT := { kind := .loop, ins := [0, 31, 32, 33], bins := [], outs := [0, 2], bouts := [], code := (.seq (.region false [⟨some 34, .bin .lss (.tmp 33) (.tmp 32), none, []⟩])
 (.seq (.cond (.tmp 34) .skip (.exit 4))
 (.seq (.block 5 (.seq (.region false [⟨some 35, .iadr 1 (.tmp 31) (.tmp 33), none, []⟩,
  ⟨some 36, .load 1 false false (.tmp 35), none, []⟩,
  ⟨some 7, .mv (.tmp 36), none, []⟩])
 (.seq (.region false [⟨some 37, .mv (.tmp 0), none, []⟩,
  ⟨some 38, .mv (.tmp 7), none, []⟩,
  ⟨some 39, .call 37500 0 [.tmp 37, .tmp 38], none, []⟩])
 (.cond (.tmp 39) (.seq (.region false [⟨some 2, .mv (.const (.int .i64 2)), none, []⟩])
 .ret) .skip))))
 (.region false [⟨some 40, .bin .add (.tmp 33) (.const (.int .i64 1)), none, []⟩,
  ⟨some 33, .mv (.tmp 40), none, []⟩])))) }
noncomputable def p33400 : ProcT := { kind := .fn, ins := [0], bins := [], res := [.tmp 2, .tmp 3], code := (.seq (.region false [⟨some 2, .mv (.const (.sl (.own false) .str [])), none, []⟩,
  ⟨some 3, .mv (.const (.bool false)), none, []⟩])
 (.seq (.seq (.region false [⟨some 7, .mv (.tmp 0), none, []⟩,
  ⟨some 8, .lenS (.tmp 7), none, []⟩,
  ⟨some 9, .bin .gtr (.tmp 8) (.const (.int .i64 20000)), none, []⟩])
 (.cond (.tmp 9) (.seq (.region false [⟨some 2, .mv (.const (.sl (.own false) .str [])), none, []⟩,
  ⟨some 3, .mv (.const (.bool false)), none, []⟩])
 .ret) .skip))
 (.seq (.region false [⟨some 4, .mv (.const (.sl (.own false) .str [])), none, []⟩])
 (.seq (.seq (.region false [⟨some 5, .mv (.const (.int .i64 0)), none, []⟩])
 (.block 0 (.label 33401)))
 (.seq (.region false [⟨some 44, .mv (.tmp 4), none, []⟩,
  ⟨some 2, .mv (.take 44), none, []⟩,
  ⟨some 3, .mv (.const (.bool true)), none, []⟩])
 .ret))))) }
noncomputable def p33401 : ProcT := { kind := .loop, ins := [0, 4, 5], bins := [], outs := [2, 3, 4], bouts := [], code := (.seq (.seq (.region false [⟨some 10, .mv (.tmp 5), none, []⟩,
  ⟨some 11, .mv (.tmp 0), none, []⟩,
  ⟨some 12, .lenS (.tmp 11), none, []⟩,
  ⟨some 13, .bin .lss (.tmp 10) (.tmp 12), none, []⟩])
 (.cond (.tmp 13) .skip (.exit 0)))
 (.block 1 (.seq (.seq (.region false [⟨some 14, .mv (.tmp 0), none, []⟩,
  ⟨some 15, .mv (.tmp 5), none, []⟩,
  ⟨some 16, .idxS (.tmp 14) (.tmp 15), none, []⟩,
  ⟨some 17, .bin .eql (.tmp 16) (.const (.int .u8 32)), none, []⟩,
  ⟨some 18, .mv (.tmp 17), none, []⟩,
  ⟨some 19, .mv (.tmp 0), some (18, false), []⟩,
  ⟨some 20, .mv (.tmp 5), some (18, false), []⟩,
  ⟨some 21, .idxS (.tmp 19) (.tmp 20), some (18, false), []⟩,
  ⟨some 22, .bin .eql (.tmp 21) (.const (.int .u8 10)), some (18, false), []⟩,
  ⟨some 23, .pick (.tmp 18) (.const (.bool true)) (.tmp 22), none, []⟩])
 (.cond (.tmp 23) (.seq (.region false [⟨some 24, .mv (.tmp 5), none, []⟩,
  ⟨some 25, .bin .add (.tmp 24) (.const (.int .i64 1)), none, []⟩,
  ⟨some 5, .mv (.tmp 25), none, []⟩])
 (.exit 1)) .skip))
 (.seq (.region false [⟨some 26, .mv (.tmp 0), none, []⟩,
  ⟨some 27, .mv (.tmp 5), none, []⟩,
  ⟨some 28, .slcS (.tmp 26) (some (.tmp 27)) none, none, []⟩,
  ⟨some 29, .call 33300 0 [.tmp 28], none, []⟩,
  ⟨some 6, .mv (.tmp 29), none, []⟩])
 (.seq (.seq (.region false [⟨some 30, .mv (.tmp 6), none, []⟩,
  ⟨some 31, .bin .eql (.tmp 30) (.const (.int .i64 0)), none, []⟩])
 (.cond (.tmp 31) (.seq (.region false [⟨some 2, .mv (.const (.sl (.own false) .str [])), none, []⟩,
  ⟨some 3, .mv (.const (.bool false)), none, []⟩])
 .ret) .skip))
 (.seq (.region false [⟨some 32, .mv (.take 4), none, []⟩,
  ⟨some 33, .mv (.tmp 0), none, []⟩,
  ⟨some 34, .mv (.tmp 5), none, []⟩,
  ⟨some 35, .mv (.tmp 5), none, []⟩,
  ⟨some 36, .mv (.tmp 6), none, []⟩,
  ⟨some 37, .bin .add (.tmp 35) (.tmp 36), none, []⟩,
  ⟨some 38, .slcS (.tmp 33) (some (.tmp 34)) (some (.tmp 37)), none, []⟩,
  ⟨some 39, .buildS .full .str [.tmp 38], none, []⟩,
  ⟨some 40, .app 1 (.take 32) (.tmp 39), none, []⟩,
  ⟨some 4, .mv (.take 40), none, []⟩])
 (.region false [⟨some 41, .mv (.tmp 5), none, []⟩,
  ⟨some 42, .mv (.tmp 6), none, []⟩,
  ⟨some 43, .bin .add (.tmp 41) (.tmp 42), none, []⟩,
  ⟨some 5, .mv (.tmp 43), none, []⟩]))))))) }
noncomputable def p33500 : ProcT := { kind := .fn, ins := [0], bins := [0], res := [.tmp 2], code := (.seq (.region false [⟨some 2, .mv (.const (.str [])), none, []⟩])
 (.seq (.seq (.region true [⟨some 3, .mv (.tmp 0), none, []⟩,
  ⟨some 4, .nilck (.tmp 3), none, [0]⟩,
  ⟨some 5, .fadr 1 (.tmp 4), none, [0]⟩,
  ⟨some 6, .load 1 false false (.tmp 5), none, [0]⟩,
  ⟨some 7, .mv (.tmp 0), none, []⟩,
  ⟨some 8, .nilck (.tmp 7), none, [0]⟩,
  ⟨some 9, .fadr 0 (.tmp 8), none, [0]⟩,
  ⟨some 10, .load 1 false false (.tmp 9), none, [0]⟩,
  ⟨some 11, .len (.tmp 10), none, []⟩,
  ⟨some 12, .bin .lss (.tmp 6) (.tmp 11), none, []⟩,
  ⟨some 13, .mv (.tmp 12), none, []⟩,
  ⟨some 14, .mv (.tmp 0), some (13, true), []⟩,
  ⟨some 15, .nilck (.tmp 14), some (13, true), [0]⟩,
  ⟨some 16, .fadr 2 (.tmp 15), some (13, true), [0]⟩,
  ⟨some 17, .load 1 false false (.tmp 16), some (13, true), [0]⟩,
  ⟨some 18, .un .not (.tmp 17), some (13, true), []⟩,
  ⟨some 19, .pick (.tmp 13) (.tmp 18) (.const (.bool false)), none, []⟩])
 (.cond (.tmp 19) (.seq (.region true [⟨some 20, .mv (.tmp 0), none, []⟩,
  ⟨some 21, .nilck (.tmp 20), none, [0]⟩,
  ⟨some 22, .fadr 0 (.tmp 21), none, [0]⟩,
  ⟨some 23, .load 1 false false (.tmp 22), none, [0]⟩,
  ⟨some 24, .mv (.tmp 0), none, []⟩,
  ⟨some 25, .nilck (.tmp 24), none, [0]⟩,
  ⟨some 26, .fadr 1 (.tmp 25), none, [0]⟩,
  ⟨some 27, .load 1 false false (.tmp 26), none, [0]⟩,
  ⟨some 28, .iadr 1 (.tmp 23) (.tmp 27), none, []⟩,
  ⟨some 29, .load 1 false false (.tmp 28), none, []⟩,
  ⟨some 2, .mv (.tmp 29), none, []⟩])
 .ret) .skip))
 (.seq (.region false [⟨some 2, .mv (.const (.str [])), none, []⟩])
 .ret))) }
noncomputable def p33600 : ProcT := { kind := .fn, ins := [0, 1], bins := [0], res := [.tmp 4], code := (.seq (.region false [⟨some 4, .mv (.const (.bool false)), none, []⟩])
 (.seq (.seq (.region false [⟨some 5, .mv (.tmp 0), none, []⟩,
  ⟨some 6, .call 33500 0 [.tmp 5], none, []⟩,
  ⟨some 7, .mv (.tmp 1), none, []⟩,
  ⟨some 8, .bin .neq (.tmp 6) (.tmp 7), none, []⟩])
 (.cond (.tmp 8) (.seq (.region false [⟨some 4, .mv (.const (.bool false)), none, []⟩])
 .ret) .skip))
 (.seq (.region false [⟨some 9, .mv (.tmp 0), none, []⟩,
  ⟨some 10, .nilck (.tmp 9), none, []⟩,
  ⟨some 11, .fadr 1 (.tmp 10), none, []⟩,
  ⟨some 12, .load 1 false false (.tmp 11), none, []⟩,
  ⟨some 13, .bin .add (.tmp 12) (.const (.int .i64 1)), none, []⟩,
  ⟨some 14, .nilck (.tmp 9), none, []⟩,
  ⟨some 15, .fadr 1 (.tmp 14), none, []⟩,
  ⟨none, .store 1 (.tmp 15) (.tmp 13), none, []⟩])
 (.seq (.region false [⟨some 4, .mv (.const (.bool true)), none, []⟩])
 .ret)))) }
noncomputable def p33700 : ProcT := { kind := .fn, ins := [0, 1], bins := [0], res := [], code := (.seq (.region false [⟨some 4, .mv (.tmp 0), none, []⟩,
  ⟨some 5, .mv (.tmp 1), none, []⟩,
  ⟨some 6, .call 33600 0 [.tmp 4, .tmp 5], none, []⟩,
  ⟨some 7, .un .not (.tmp 6), none, []⟩])
 (.cond (.tmp 7) (.region false [⟨some 8, .mv (.tmp 0), none, []⟩,
  ⟨some 9, .nilck (.tmp 8), none, []⟩,
  ⟨some 10, .fadr 2 (.tmp 9), none, []⟩,
  ⟨none, .store 1 (.tmp 10) (.const (.bool true)), none, []⟩]) .skip)) }
noncomputable def p33800 : ProcT := { kind := .fn, ins := [0], bins := [0], res := [.tmp 2], code := (.seq (.region false [⟨some 2, .mv (.const (.str [])), none, []⟩])
 (.seq (.region false [⟨some 4, .mv (.tmp 0), none, []⟩,
  ⟨some 5, .call 33500 0 [.tmp 4], none, []⟩,
  ⟨some 3, .mv (.tmp 5), none, []⟩])
 (.seq (.seq (.region false [⟨some 6, .mv (.tmp 3), none, []⟩,
  ⟨some 7, .bin .eql (.tmp 6) (.const (.str [])), none, []⟩])
 (.cond (.tmp 7) (.region false [⟨some 8, .mv (.tmp 0), none, []⟩,
  ⟨some 9, .nilck (.tmp 8), none, []⟩,
  ⟨some 10, .fadr 2 (.tmp 9), none, []⟩,
  ⟨none, .store 1 (.tmp 10) (.const (.bool true)), none, []⟩]) .skip))
 (.seq (.region false [⟨some 11, .mv (.tmp 0), none, []⟩,
  ⟨some 12, .nilck (.tmp 11), none, []⟩,
  ⟨some 13, .fadr 1 (.tmp 12), none, []⟩,
  ⟨some 14, .load 1 false false (.tmp 13), none, []⟩,
  ⟨some 15, .bin .add (.tmp 14) (.const (.int .i64 1)), none, []⟩,
  ⟨some 16, .nilck (.tmp 11), none, []⟩,
  ⟨some 17, .fadr 1 (.tmp 16), none, []⟩,
  ⟨none, .store 1 (.tmp 17) (.tmp 15), none, []⟩])
 (.seq (.region false [⟨some 18, .mv (.tmp 3), none, []⟩,
  ⟨some 2, .mv (.tmp 18), none, []⟩])
 .ret))))) }
noncomputable def p33900 : ProcT := { kind := .fn, ins := [0], bins := [0], res := [.tmp 2], code := (.seq (.region false [⟨some 2, .mv (.const (.int .i64 0)), none, []⟩])
 (.seq (.region false [⟨some 6, .mv (.tmp 0), none, []⟩,
  ⟨some 7, .call 33800 0 [.tmp 6], none, []⟩,
  ⟨some 3, .mv (.tmp 7), none, []⟩])
 (.seq (.seq (.region false [⟨some 8, .mv (.tmp 3), none, []⟩,
  ⟨some 9, .bin .eql (.tmp 8) (.const (.str [])), none, []⟩,
  ⟨some 10, .mv (.tmp 9), none, []⟩,
  ⟨some 11, .mv (.tmp 3), some (10, false), []⟩,
  ⟨some 12, .lenS (.tmp 11), some (10, false), []⟩,
  ⟨some 13, .bin .gtr (.tmp 12) (.const (.int .i64 5)), some (10, false), []⟩,
  ⟨some 14, .pick (.tmp 10) (.const (.bool true)) (.tmp 13), none, []⟩,
  ⟨some 15, .mv (.tmp 14), none, []⟩,
  ⟨some 16, .mv (.tmp 3), some (15, false), []⟩,
  ⟨some 17, .idxS (.tmp 16) (.const (.int .i64 0)), some (15, false), []⟩,
  ⟨some 18, .call 33100 0 [.tmp 17], some (15, false), []⟩,
  ⟨some 19, .un .not (.tmp 18), some (15, false), []⟩,
  ⟨some 20, .pick (.tmp 15) (.const (.bool true)) (.tmp 19), none, []⟩])
 (.cond (.tmp 20) (.seq (.region false [⟨some 21, .mv (.tmp 0), none, []⟩,
  ⟨some 22, .nilck (.tmp 21), none, []⟩,
  ⟨some 23, .fadr 2 (.tmp 22), none, []⟩,
  ⟨none, .store 1 (.tmp 23) (.const (.bool true)), none, []⟩])
 (.seq (.region false [⟨some 2, .mv (.const (.int .i64 0)), none, []⟩])
 .ret)) .skip))
 (.seq (.region false [⟨some 25, .mv (.tmp 3), none, []⟩,
  ⟨some 26, .call 37700 0 [.tmp 25], none, []⟩,
  ⟨some 24, .mv (.tmp 26), none, []⟩,
  ⟨some 27, .ext 0 (.tmp 24), none, []⟩,
  ⟨some 28, .ext 1 (.tmp 24), none, []⟩,
  ⟨some 4, .mv (.tmp 27), none, []⟩,
  ⟨some 5, .mv (.tmp 28), none, []⟩])
 (.seq (.region false [⟨some 29, .mv (.tmp 4), none, []⟩,
  ⟨some 2, .mv (.tmp 29), none, []⟩])
 .ret))))) }
noncomputable def p34000 : ProcT := { kind := .fn, ins := [0], bins := [0], res := [.tmp 2], code := (.seq (.region false [⟨some 2, .mv (.const (.int .i64 0)), none, []⟩])
 (.seq (.region false [⟨some 4, .mv (.tmp 0), none, []⟩,
  ⟨some 5, .call 33800 0 [.tmp 4], none, []⟩,
  ⟨some 3, .mv (.tmp 5), none, []⟩])
 (.seq (.seq (.region false [⟨some 6, .mv (.tmp 3), none, []⟩,
  ⟨some 7, .lenS (.tmp 6), none, []⟩,
  ⟨some 8, .bin .neq (.tmp 7) (.const (.int .i64 1)), none, []⟩,
  ⟨some 9, .mv (.tmp 8), none, []⟩,
  ⟨some 10, .mv (.tmp 3), some (9, false), []⟩,
  ⟨some 11, .idxS (.tmp 10) (.const (.int .i64 0)), some (9, false), []⟩,
  ⟨some 12, .bin .lss (.tmp 11) (.const (.int .u8 97)), some (9, false), []⟩,
  ⟨some 13, .pick (.tmp 9) (.const (.bool true)) (.tmp 12), none, []⟩,
  ⟨some 14, .mv (.tmp 13), none, []⟩,
  ⟨some 15, .mv (.tmp 3), some (14, false), []⟩,
  ⟨some 16, .idxS (.tmp 15) (.const (.int .i64 0)), some (14, false), []⟩,
  ⟨some 17, .bin .geq (.tmp 16) (.const (.int .u8 101)), some (14, false), []⟩,
  ⟨some 18, .pick (.tmp 14) (.const (.bool true)) (.tmp 17), none, []⟩])
 (.cond (.tmp 18) (.seq (.region false [⟨some 19, .mv (.tmp 0), none, []⟩,
  ⟨some 20, .nilck (.tmp 19), none, []⟩,
  ⟨some 21, .fadr 2 (.tmp 20), none, []⟩,
  ⟨none, .store 1 (.tmp 21) (.const (.bool true)), none, []⟩])
 (.seq (.region false [⟨some 2, .mv (.const (.int .i64 0)), none, []⟩])
 .ret)) .skip))
 (.seq (.region false [⟨some 22, .mv (.tmp 3), none, []⟩,
  ⟨some 23, .idxS (.tmp 22) (.const (.int .i64 0)), none, []⟩,
  ⟨some 24, .bin .sub (.tmp 23) (.const (.int .u8 97)), none, []⟩,
  ⟨some 25, .conv (.int .i64) (.tmp 24), none, []⟩,
  ⟨some 2, .mv (.tmp 25), none, []⟩])
 .ret)))) }
noncomputable def p34100 : ProcT := { kind := .fn, ins := [0], bins := [0], res := [.cell 2 3 true], code := (.seq (.region false [⟨some 2, .alloc 100 [.int .i64 0, .int .i64 0, .sl (.own false) .exp []], none, []⟩])
 (.seq (.region false [⟨some 5, .mv (.tmp 0), none, []⟩,
  ⟨some 6, .call 33500 0 [.tmp 5], none, []⟩,
  ⟨some 3, .mv (.tmp 6), none, []⟩])
 (.seq (.block 0 (.seq (.region false [⟨some 8, .mv (.tmp 3), none, []⟩,
  ⟨some 9, .bin .eql (.tmp 8) (.const (.str [40])), none, []⟩,
  ⟨some 7, .mv (.tmp 9), none, []⟩])
 (.cond (.tmp 7) (.seq (.region false [⟨some 10, .mv (.tmp 0), none, []⟩,
  ⟨some 11, .nilck (.tmp 10), none, []⟩,
  ⟨some 12, .fadr 1 (.tmp 11), none, []⟩,
  ⟨some 13, .load 1 false false (.tmp 12), none, []⟩,
  ⟨some 14, .bin .add (.tmp 13) (.const (.int .i64 1)), none, []⟩,
  ⟨some 15, .nilck (.tmp 10), none, []⟩,
  ⟨some 16, .fadr 1 (.tmp 15), none, []⟩,
  ⟨none, .store 1 (.tmp 16) (.tmp 14), none, []⟩])
 (.seq (.region false [⟨some 17, .mv (.tmp 0), none, []⟩,
  ⟨some 18, .call 34400 0 [.tmp 17, .const (.int .i64 1)], none, []⟩,
  ⟨some 4, .alloc 101 [.int .i64 0, .int .i64 0, .sl (.own false) .exp []], none, []⟩,
  ⟨none, .store 3 (.tmp 4) (.tmp 18), none, []⟩])
 (.seq (.region false [⟨some 19, .mv (.tmp 0), none, []⟩,
  ⟨some 20, .call 33700 0 [.tmp 19, .const (.str [41])], none, []⟩])
 (.seq (.region false [⟨some 21, .load 3 true false (.tmp 4), none, []⟩,
  ⟨none, .store 3 (.tmp 2) (.tmp 21), none, []⟩])
 .ret)))) (.seq (.region false [⟨some 23, .mv (.tmp 3), none, []⟩,
  ⟨some 24, .bin .neq (.tmp 23) (.const (.str [])), none, []⟩,
  ⟨some 25, .mv (.tmp 24), none, []⟩,
  ⟨some 26, .mv (.tmp 3), some (25, true), []⟩,
  ⟨some 27, .idxS (.tmp 26) (.const (.int .i64 0)), some (25, true), []⟩,
  ⟨some 28, .call 33100 0 [.tmp 27], some (25, true), []⟩,
  ⟨some 29, .pick (.tmp 25) (.tmp 28) (.const (.bool false)), none, []⟩,
  ⟨some 22, .mv (.tmp 29), none, []⟩])
 (.cond (.tmp 22) (.seq (.region false [⟨some 30, .mv (.tmp 0), none, []⟩,
  ⟨some 31, .call 33900 0 [.tmp 30], none, []⟩,
  ⟨some 32, .build [.int .i64 0, .int .i64 0, .sl (.own false) .exp []] [(0, 1, .const (.int .i64 0)), (1, 1, .tmp 31)], none, []⟩,
  ⟨none, .store 3 (.tmp 2) (.tmp 32), none, []⟩])
 .ret) .skip)))))
 (.seq (.region false [⟨some 33, .mv (.tmp 0), none, []⟩,
  ⟨some 34, .call 34000 0 [.tmp 33], none, []⟩,
  ⟨some 35, .build [.int .i64 0, .int .i64 0, .sl (.own false) .exp []] [(0, 1, .const (.int .i64 13)), (1, 1, .tmp 34)], none, []⟩,
  ⟨none, .store 3 (.tmp 2) (.tmp 35), none, []⟩])
 .ret)))) }
noncomputable def p34200 : ProcT := { kind := .fn, ins := [0], bins := [], res := [.tmp 2], code := (.seq (.region false [⟨some 2, .mv (.const (.int .i64 0)), none, []⟩])
 (.seq (.seq (.region false [⟨some 5, .load 12 true false (.glob 0), none, []⟩,
  ⟨some 6, .mv (.const (.int .i64 0)), none, []⟩])
 (.block 0 (.label 34201)))
 (.seq (.region false [⟨some 2, .mv (.const (.int .i64 0)), none, []⟩])
 .ret))) }
noncomputable def p34201 : ProcT := { kind := .loop, ins := [0, 5, 6], bins := [], outs := [2], bouts := [], code := (.seq (.region false [⟨some 7, .bin .lss (.tmp 6) (.const (.int .i64 12)), none, []⟩])
 (.seq (.cond (.tmp 7) .skip (.exit 0))
 (.seq (.block 1 (.seq (.region false [⟨some 8, .mv (.tmp 6), none, []⟩,
  ⟨some 9, .idxA 1 12 1 false (.tmp 5) (.tmp 6), none, []⟩,
  ⟨some 3, .mv (.tmp 8), none, []⟩,
  ⟨some 4, .mv (.tmp 9), none, []⟩])
 (.seq (.region false [⟨some 10, .mv (.tmp 4), none, []⟩,
  ⟨some 11, .mv (.tmp 0), none, []⟩,
  ⟨some 12, .bin .eql (.tmp 10) (.tmp 11), none, []⟩])
 (.cond (.tmp 12) (.seq (.region false [⟨some 13, .mv (.tmp 3), none, []⟩,
  ⟨some 14, .bin .add (.const (.int .i64 1)) (.tmp 13), none, []⟩,
  ⟨some 2, .mv (.tmp 14), none, []⟩])
 .ret) .skip))))
 (.region false [⟨some 15, .bin .add (.tmp 6) (.const (.int .i64 1)), none, []⟩,
  ⟨some 6, .mv (.tmp 15), none, []⟩])))) }
noncomputable def p34300 : ProcT := { kind := .fn, ins := [0], bins := [], res := [.tmp 2], code := (.seq (.region false [⟨some 2, .mv (.const (.int .i64 0)), none, []⟩])
 (.seq (.seq (.region false [⟨some 3, .mv (.tmp 0), none, []⟩])
 (.block 0 (.seq (.region false [⟨some 5, .bin .eql (.tmp 3) (.const (.int .i64 1)), none, []⟩,
  ⟨some 4, .mv (.tmp 5), none, []⟩])
 (.cond (.tmp 4) (.seq (.region false [⟨some 2, .mv (.const (.int .i64 1)), none, []⟩])
 .ret) (.seq (.region false [⟨some 7, .bin .eql (.tmp 3) (.const (.int .i64 2)), none, []⟩,
  ⟨some 6, .mv (.tmp 7), none, []⟩])
 (.cond (.tmp 6) (.seq (.region false [⟨some 2, .mv (.const (.int .i64 2)), none, []⟩])
 .ret) (.seq (.region false [⟨some 9, .bin .eql (.tmp 3) (.const (.int .i64 3)), none, []⟩,
  ⟨some 8, .mv (.tmp 9), none, []⟩])
 (.cond (.tmp 8) (.seq (.region false [⟨some 2, .mv (.const (.int .i64 3)), none, []⟩])
 .ret) (.seq (.region false [⟨some 11, .bin .eql (.tmp 3) (.const (.int .i64 4)), none, []⟩,
  ⟨some 10, .mv (.tmp 11), none, []⟩])
 (.cond (.tmp 10) (.seq (.region false [⟨some 2, .mv (.const (.int .i64 4)), none, []⟩])
 .ret) (.seq (.region false [⟨some 13, .bin .eql (.tmp 3) (.const (.int .i64 5)), none, []⟩,
  ⟨some 12, .mv (.tmp 13), none, []⟩])
 (.cond (.tmp 12) (.seq (.region false [⟨some 2, .mv (.const (.int .i64 5)), none, []⟩])
 .ret) (.seq (.seq (.region false [⟨some 15, .bin .eql (.tmp 3) (.const (.int .i64 6)), none, []⟩,
  ⟨some 14, .mv (.tmp 15), none, []⟩])
 (.cond (.tmp 14) .skip (.region false [⟨some 16, .bin .eql (.tmp 3) (.const (.int .i64 7)), none, []⟩,
  ⟨some 14, .mv (.tmp 16), none, []⟩])))
 (.cond (.tmp 14) (.seq (.region false [⟨some 2, .mv (.const (.int .i64 6)), none, []⟩])
 .ret) (.seq (.seq (.region false [⟨some 18, .bin .eql (.tmp 3) (.const (.int .i64 8)), none, []⟩,
  ⟨some 17, .mv (.tmp 18), none, []⟩])
 (.cond (.tmp 17) .skip (.region false [⟨some 19, .bin .eql (.tmp 3) (.const (.int .i64 9)), none, []⟩,
  ⟨some 17, .mv (.tmp 19), none, []⟩])))
 (.cond (.tmp 17) (.seq (.region false [⟨some 2, .mv (.const (.int .i64 7)), none, []⟩])
 .ret) (.seq (.seq (.region false [⟨some 21, .bin .eql (.tmp 3) (.const (.int .i64 10)), none, []⟩,
  ⟨some 20, .mv (.tmp 21), none, []⟩])
 (.cond (.tmp 20) .skip (.seq (.region false [⟨some 22, .bin .eql (.tmp 3) (.const (.int .i64 11)), none, []⟩,
  ⟨some 20, .mv (.tmp 22), none, []⟩])
 (.cond (.tmp 20) .skip (.region false [⟨some 23, .bin .eql (.tmp 3) (.const (.int .i64 12)), none, []⟩,
  ⟨some 20, .mv (.tmp 23), none, []⟩])))))
 (.cond (.tmp 20) (.seq (.region false [⟨some 2, .mv (.const (.int .i64 8)), none, []⟩])
 .ret) .skip))))))))))))))))))
 (.seq (.region false [⟨some 2, .mv (.const (.int .i64 0)), none, []⟩])
 .ret))) }
noncomputable def p34400 : ProcT := { kind := .fn, ins := [0, 1], bins := [0], res := [.cell 4 3 true], code := (.seq (.region false [⟨some 4, .alloc 100 [.int .i64 0, .int .i64 0, .sl (.own false) .exp []], none, []⟩])
 (.seq (.region false [⟨some 7, .mv (.tmp 0), none, []⟩,
  ⟨some 8, .call 34100 0 [.tmp 7], none, []⟩,
  ⟨some 5, .alloc 101 [.int .i64 0, .int .i64 0, .sl (.own false) .exp []], none, []⟩,
  ⟨none, .store 3 (.tmp 5) (.tmp 8), none, []⟩])
 (.seq (.block 0 (.label 34401))
 (.seq (.region false [⟨some 41, .load 3 true false (.tmp 5), none, []⟩,
  ⟨none, .store 3 (.tmp 4) (.tmp 41), none, []⟩])
 .ret)))) }
noncomputable def p34401 : ProcT := { kind := .loop, ins := [0, 1, 4, 5], bins := [0, 100, 101], outs := [0, 4, 5], bouts := [0, 100, 101], code := (.seq (.seq (.region false [⟨some 9, .mv (.tmp 0), none, []⟩,
  ⟨some 10, .nilck (.tmp 9), none, []⟩,
  ⟨some 11, .fadr 2 (.tmp 10), none, []⟩,
  ⟨some 12, .load 1 false false (.tmp 11), none, []⟩,
  ⟨some 13, .un .not (.tmp 12), none, []⟩])
 (.cond (.tmp 13) .skip (.exit 0)))
 (.block 1 (.seq (.region false [⟨some 14, .mv (.tmp 0), none, []⟩,
  ⟨some 15, .call 33500 0 [.tmp 14], none, []⟩,
  ⟨some 16, .call 34200 0 [.tmp 15], none, []⟩,
  ⟨some 6, .mv (.tmp 16), none, []⟩])
 (.seq (.seq (.region false [⟨some 17, .mv (.tmp 6), none, []⟩,
  ⟨some 18, .bin .eql (.tmp 17) (.const (.int .i64 0)), none, []⟩,
  ⟨some 19, .mv (.tmp 18), none, []⟩,
  ⟨some 20, .mv (.tmp 6), some (19, false), []⟩,
  ⟨some 21, .call 34300 0 [.tmp 20], some (19, false), []⟩,
  ⟨some 22, .mv (.tmp 1), some (19, false), []⟩,
  ⟨some 23, .bin .lss (.tmp 21) (.tmp 22), some (19, false), []⟩,
  ⟨some 24, .pick (.tmp 19) (.const (.bool true)) (.tmp 23), none, []⟩])
 (.cond (.tmp 24) (.exit 0) .skip))
 (.seq (.region false [⟨some 25, .mv (.tmp 0), none, []⟩,
  ⟨some 26, .nilck (.tmp 25), none, []⟩,
  ⟨some 27, .fadr 1 (.tmp 26), none, []⟩,
  ⟨some 28, .load 1 false false (.tmp 27), none, []⟩,
  ⟨some 29, .bin .add (.tmp 28) (.const (.int .i64 1)), none, []⟩,
  ⟨some 30, .nilck (.tmp 25), none, []⟩,
  ⟨some 31, .fadr 1 (.tmp 30), none, []⟩,
  ⟨none, .store 1 (.tmp 31) (.tmp 29), none, []⟩])
 (.region true [⟨some 32, .mv (.tmp 6), none, []⟩,
  ⟨some 33, .load 3 true false (.tmp 5), none, [101]⟩,
  ⟨some 34, .mv (.tmp 0), none, []⟩,
  ⟨some 35, .mv (.tmp 6), none, []⟩,
  ⟨some 36, .call 34300 0 [.tmp 35], none, []⟩,
  ⟨some 37, .bin .add (.tmp 36) (.const (.int .i64 1)), none, []⟩,
  ⟨some 38, .call 34400 0 [.tmp 34, .tmp 37], none, [0]⟩,
  ⟨some 39, .buildS .full .exp [.tmp 33, .tmp 38], none, []⟩,
  ⟨some 40, .build [.int .i64 0, .int .i64 0, .sl (.own false) .exp []] [(0, 1, .tmp 32), (2, 1, .tmp 39)], none, []⟩,
  ⟨none, .store 3 (.tmp 5) (.tmp 40), none, [101]⟩])))))) }
noncomputable def p34500 : ProcT := { kind := .fn, ins := [0], bins := [], res := [.cell 2 3 true, .tmp 3], code := (.seq (.region false [⟨some 2, .alloc 100 [.int .i64 0, .int .i64 0, .sl (.own false) .exp []], none, []⟩,
  ⟨some 3, .mv (.const (.bool false)), none, []⟩])
 (.seq (.region false [⟨some 9, .mv (.tmp 0), none, []⟩,
  ⟨some 10, .call 33400 0 [.tmp 9], none, []⟩,
  ⟨some 8, .mv (.tmp 10), none, []⟩,
  ⟨some 11, .ext 0 (.tmp 8), none, []⟩,
  ⟨some 12, .ext 1 (.tmp 8), none, []⟩,
  ⟨some 4, .mv (.take 11), none, []⟩,
  ⟨some 5, .mv (.tmp 12), none, []⟩])
 (.seq (.seq (.region false [⟨some 13, .mv (.tmp 5), none, []⟩,
  ⟨some 14, .un .not (.tmp 13), none, []⟩])
 (.cond (.tmp 14) (.seq (.region false [⟨some 15, .build [.int .i64 0, .int .i64 0, .sl (.own false) .exp []] [], none, []⟩,
  ⟨none, .store 3 (.tmp 2) (.tmp 15), none, []⟩,
  ⟨some 3, .mv (.const (.bool false)), none, []⟩])
 .ret) .skip))
 (.seq (.region false [⟨some 16, .mv (.tmp 4), none, []⟩,
  ⟨some 17, .build [.sl (.own false) .str [], .int .i64 0, .bool false] [(0, 1, .tmp 16)], none, []⟩,
  ⟨some 6, .alloc 101 [.sl (.own false) .str [], .int .i64 0, .bool false], none, []⟩,
  ⟨none, .store 3 (.tmp 6) (.tmp 17), none, []⟩])
 (.seq (.region false [⟨some 18, .call 34400 0 [.tmp 6, .const (.int .i64 1)], none, []⟩,
  ⟨some 7, .alloc 102 [.int .i64 0, .int .i64 0, .sl (.own false) .exp []], none, []⟩,
  ⟨none, .store 3 (.tmp 7) (.tmp 18), none, []⟩])
 (.seq (.seq (.region false [⟨some 19, .fadr 2 (.tmp 6), none, []⟩,
  ⟨some 20, .load 1 false false (.tmp 19), none, []⟩,
  ⟨some 21, .mv (.tmp 20), none, []⟩,
  ⟨some 22, .fadr 1 (.tmp 6), some (21, false), []⟩,
  ⟨some 23, .load 1 false false (.tmp 22), some (21, false), []⟩,
  ⟨some 24, .mv (.tmp 4), some (21, false), []⟩,
  ⟨some 25, .len (.tmp 24), some (21, false), []⟩,
  ⟨some 26, .bin .neq (.tmp 23) (.tmp 25), some (21, false), []⟩,
  ⟨some 27, .pick (.tmp 21) (.const (.bool true)) (.tmp 26), none, []⟩,
  ⟨some 28, .mv (.tmp 27), none, []⟩,
  ⟨some 29, .load 3 true false (.tmp 7), some (28, false), []⟩,
  ⟨some 30, .call 1200 0 [.tmp 29], some (28, false), []⟩,
  ⟨some 31, .un .not (.tmp 30), some (28, false), []⟩,
  ⟨some 32, .pick (.tmp 28) (.const (.bool true)) (.tmp 31), none, []⟩])
 (.cond (.tmp 32) (.seq (.region false [⟨some 33, .build [.int .i64 0, .int .i64 0, .sl (.own false) .exp []] [], none, []⟩,
  ⟨none, .store 3 (.tmp 2) (.tmp 33), none, []⟩,
  ⟨some 3, .mv (.const (.bool false)), none, []⟩])
 .ret) .skip))
 (.seq (.region false [⟨some 34, .load 3 true false (.tmp 7), none, []⟩,
  ⟨none, .store 3 (.tmp 2) (.tmp 34), none, []⟩,
  ⟨some 3, .mv (.const (.bool true)), none, []⟩])
 .ret))))))) }
noncomputable def p34900 : ProcT := { kind := .fn, ins := [0], bins := [], res := [.tmp 2], code := (.seq (.region false [⟨some 2, .mv (.const (.bool false)), none, []⟩])
 (.seq (.region false [⟨some 3, .mv (.tmp 0), none, []⟩,
  ⟨some 4, .bin .neq (.tmp 3) (.const (.str [])), none, []⟩,
  ⟨some 5, .mv (.tmp 4), none, []⟩,
  ⟨some 6, .mv (.tmp 0), some (5, true), []⟩,
  ⟨some 7, .call 32100 0 [.tmp 6, .const (.int .i64 0)], some (5, true), []⟩,
  ⟨some 8, .mv (.tmp 0), some (5, true), []⟩,
  ⟨some 9, .lenS (.tmp 8), some (5, true), []⟩,
  ⟨some 10, .bin .eql (.tmp 7) (.tmp 9), some (5, true), []⟩,
  ⟨some 11, .pick (.tmp 5) (.tmp 10) (.const (.bool false)), none, []⟩,
  ⟨some 2, .mv (.tmp 11), none, []⟩])
 .ret)) }
noncomputable def p35000 : ProcT := { kind := .fn, ins := [0], bins := [], res := [.tmp 2], code := (.seq (.region false [⟨some 2, .mv (.const (.str [])), none, []⟩])
 (.seq (.region false [⟨some 3, .mv (.const (.str [])), none, []⟩])
 (.seq (.seq (.region false [⟨some 4, .mv (.const (.int .i64 0)), none, []⟩])
 (.block 0 (.label 35001)))
 (.seq (.region false [⟨some 27, .mv (.tmp 3), none, []⟩,
  ⟨some 2, .mv (.tmp 27), none, []⟩])
 .ret)))) }
noncomputable def p35001 : ProcT := { kind := .loop, ins := [0, 3, 4], bins := [], outs := [2, 3], bouts := [], code := (.seq (.seq (.region false [⟨some 5, .mv (.tmp 4), none, []⟩,
  ⟨some 6, .mv (.tmp 0), none, []⟩,
  ⟨some 7, .len (.tmp 6), none, []⟩,
  ⟨some 8, .bin .lss (.tmp 5) (.tmp 7), none, []⟩])
 (.cond (.tmp 8) .skip (.exit 0)))
 (.seq (.block 1 (.seq (.seq (.region false [⟨some 11, .mv (.tmp 0), none, []⟩,
  ⟨some 12, .mv (.tmp 4), none, []⟩,
  ⟨some 13, .iadr 1 (.tmp 11) (.tmp 12), none, []⟩,
  ⟨some 14, .load 1 false false (.tmp 13), none, []⟩,
  ⟨some 15, .call 34900 0 [.tmp 14], none, []⟩,
  ⟨some 16, .un .not (.tmp 15), none, []⟩])
 (.cond (.tmp 16) (.seq (.region false [⟨some 2, .mv (.const (.str [])), none, []⟩])
 .ret) .skip))
 (.seq (.seq (.region false [⟨some 17, .mv (.tmp 4), none, []⟩,
  ⟨some 18, .bin .gtr (.tmp 17) (.const (.int .i64 0)), none, []⟩])
 (.cond (.tmp 18) (.region false [⟨some 19, .mv (.tmp 3), none, []⟩,
  ⟨some 20, .bin .add (.tmp 19) (.const (.str [32])), none, []⟩,
  ⟨some 3, .mv (.tmp 20), none, []⟩]) .skip))
 (.region false [⟨some 21, .mv (.tmp 3), none, []⟩,
  ⟨some 22, .mv (.tmp 0), none, []⟩,
  ⟨some 23, .mv (.tmp 4), none, []⟩,
  ⟨some 24, .iadr 1 (.tmp 22) (.tmp 23), none, []⟩,
  ⟨some 25, .load 1 false false (.tmp 24), none, []⟩,
  ⟨some 26, .bin .add (.tmp 21) (.tmp 25), none, []⟩,
  ⟨some 3, .mv (.tmp 26), none, []⟩]))))
 (.region false [⟨some 9, .mv (.tmp 4), none, []⟩,
  ⟨some 10, .bin .add (.tmp 9) (.const (.int .i64 1)), none, []⟩,
  ⟨some 4, .mv (.tmp 10), none, []⟩]))) }
noncomputable def p35100 : ProcT := { kind := .fn, ins := [0, 1], bins := [], res := [.tmp 4], code := (.seq (.region false [⟨some 4, .mv (.const (.sl (.own false) .str [])), none, []⟩])
 (.seq (.seq (.region false [⟨some 6, .mv (.tmp 1), none, []⟩,
  ⟨some 7, .un .not (.tmp 6), none, []⟩])
 (.cond (.tmp 7) (.seq (.region false [⟨some 8, .mv (.take 0), none, []⟩,
  ⟨some 4, .mv (.take 8), none, []⟩])
 .ret) .skip))
 (.seq (.region false [⟨some 9, .buildS (.own true) .str [.const (.str [40])], none, []⟩,
  ⟨some 10, .mv (.tmp 0), none, []⟩,
  ⟨some 11, .app 1 (.take 9) (.tmp 10), none, []⟩,
  ⟨some 5, .mv (.take 11), none, []⟩])
 (.seq (.region false [⟨some 12, .mv (.take 5), none, []⟩,
  ⟨some 13, .buildS .full .str [.const (.str [41])], none, []⟩,
  ⟨some 14, .app 1 (.take 12) (.tmp 13), none, []⟩,
  ⟨some 4, .mv (.take 14), none, []⟩])
 .ret)))) }
noncomputable def p35200 : ProcT := { kind := .fn, ins := [0], bins := [], res := [.tmp 2], code := (.seq (.region false [⟨some 1, .box 100 (.tmp 0), none, []⟩,
  ⟨some 2, .mv (.const (.int .i64 0)), none, []⟩])
 (.seq (.seq (.region false [⟨some 3, .fadr 2 (.tmp 1), none, []⟩,
  ⟨some 4, .load 1 false false (.tmp 3), none, []⟩,
  ⟨some 5, .len (.tmp 4), none, []⟩,
  ⟨some 6, .bin .eql (.tmp 5) (.const (.int .i64 0)), none, []⟩])
 (.cond (.tmp 6) (.seq (.region false [⟨some 2, .mv (.const (.int .i64 9)), none, []⟩])
 .ret) .skip))
 (.seq (.region false [⟨some 7, .fadr 0 (.tmp 1), none, []⟩,
  ⟨some 8, .load 1 false false (.tmp 7), none, []⟩,
  ⟨some 9, .call 32700 0 [.tmp 8], none, []⟩,
  ⟨some 2, .mv (.tmp 9), none, []⟩])
 .ret))) }
noncomputable def p35300 : ProcT := { kind := .fn, ins := [0], bins := [], res := [.tmp 2], code := (.seq (.region false [⟨some 1, .box 100 (.tmp 0), none, []⟩,
  ⟨some 2, .mv (.const (.sl (.own false) .str [])), none, []⟩])
 (.seq (.seq (.region false [⟨some 5, .fadr 0 (.tmp 1), none, []⟩,
  ⟨some 6, .load 1 false false (.tmp 5), none, []⟩,
  ⟨some 7, .bin .eql (.tmp 6) (.const (.int .i64 0)), none, []⟩])
 (.cond (.tmp 7) (.seq (.region false [⟨some 8, .fadr 1 (.tmp 1), none, []⟩,
  ⟨some 9, .load 1 false false (.tmp 8), none, []⟩,
  ⟨some 10, .call 20500 0 [.tmp 9], none, []⟩,
  ⟨some 11, .buildS (.own true) .str [.tmp 10], none, []⟩,
  ⟨some 2, .mv (.take 11), none, []⟩])
 .ret) .skip))
 (.seq (.seq (.region false [⟨some 12, .fadr 0 (.tmp 1), none, []⟩,
  ⟨some 13, .load 1 false false (.tmp 12), none, []⟩,
  ⟨some 14, .bin .eql (.tmp 13) (.const (.int .i64 13)), none, []⟩])
 (.cond (.tmp 14) (.seq (.region false [⟨some 15, .fadr 1 (.tmp 1), none, []⟩,
  ⟨some 16, .load 1 false false (.tmp 15), none, []⟩,
  ⟨some 17, .call 32400 0 [.tmp 16], none, []⟩,
  ⟨some 18, .buildS (.own true) .str [.tmp 17], none, []⟩,
  ⟨some 2, .mv (.take 18), none, []⟩])
 .ret) .skip))
 (.seq (.region false [⟨some 19, .fadr 0 (.tmp 1), none, []⟩,
  ⟨some 20, .load 1 false false (.tmp 19), none, []⟩,
  ⟨some 21, .call 32700 0 [.tmp 20], none, []⟩,
  ⟨some 3, .mv (.tmp 21), none, []⟩])
 (.seq (.region true [⟨some 22, .fadr 2 (.tmp 1), none, [100]⟩,
  ⟨some 23, .load 1 false false (.tmp 22), none, [100]⟩,
  ⟨some 24, .iadr 3 (.tmp 23) (.const (.int .i64 0)), none, []⟩,
  ⟨some 25, .load 3 true false (.tmp 24), none, []⟩,
  ⟨some 26, .call 35300 0 [.tmp 25], none, []⟩,
  ⟨some 27, .fadr 2 (.tmp 1), none, [100]⟩,
  ⟨some 28, .load 1 false false (.tmp 27), none, [100]⟩,
  ⟨some 29, .iadr 3 (.tmp 28) (.const (.int .i64 0)), none, []⟩,
  ⟨some 30, .load 3 true false (.tmp 29), none, []⟩,
  ⟨some 31, .call 35200 0 [.tmp 30], none, []⟩,
  ⟨some 32, .mv (.tmp 3), none, []⟩,
  ⟨some 33, .bin .lss (.tmp 31) (.tmp 32), none, []⟩,
  ⟨some 34, .call 35100 0 [.take 26, .tmp 33], none, []⟩,
  ⟨some 4, .mv (.take 34), none, []⟩])
 (.seq (.region false [⟨some 35, .mv (.take 4), none, []⟩,
  ⟨some 36, .fadr 0 (.tmp 1), none, []⟩,
  ⟨some 37, .load 1 false false (.tmp 36), none, []⟩,
  ⟨some 38, .call 20700 0 [.tmp 37], none, []⟩,
  ⟨some 39, .buildS .full .str [.tmp 38], none, []⟩,
  ⟨some 40, .app 1 (.take 35) (.tmp 39), none, []⟩,
  ⟨some 4, .mv (.take 40), none, []⟩])
 (.seq (.region true [⟨some 41, .mv (.take 4), none, []⟩,
  ⟨some 42, .fadr 2 (.tmp 1), none, [100]⟩,
  ⟨some 43, .load 1 false false (.tmp 42), none, [100]⟩,
  ⟨some 44, .iadr 3 (.tmp 43) (.const (.int .i64 1)), none, []⟩,
  ⟨some 45, .load 3 true false (.tmp 44), none, []⟩,
  ⟨some 46, .call 35300 0 [.tmp 45], none, []⟩,
  ⟨some 47, .fadr 2 (.tmp 1), none, [100]⟩,
  ⟨some 48, .load 1 false false (.tmp 47), none, [100]⟩,
  ⟨some 49, .iadr 3 (.tmp 48) (.const (.int .i64 1)), none, []⟩,
  ⟨some 50, .load 3 true false (.tmp 49), none, []⟩,
  ⟨some 51, .call 35200 0 [.tmp 50], none, []⟩,
  ⟨some 52, .mv (.tmp 3), none, []⟩,
  ⟨some 53, .bin .leq (.tmp 51) (.tmp 52), none, []⟩,
  ⟨some 54, .call 35100 0 [.take 46, .tmp 53], none, []⟩,
  ⟨some 55, .app 1 (.take 41) (.tmp 54), none, []⟩,
  ⟨some 2, .mv (.take 55), none, []⟩])
 .ret))))))) }
noncomputable def p35400 : ProcT := { kind := .fn, ins := [0], bins := [], res := [.tmp 2], code := (.seq (.region false [⟨some 1, .box 100 (.tmp 0), none, []⟩,
  ⟨some 2, .mv (.const (.str [])), none, []⟩])
 (.seq (.seq (.region false [⟨some 3, .load 3 true false (.tmp 1), none, []⟩,
  ⟨some 4, .call 1900 0 [.tmp 3], none, []⟩,
  ⟨some 5, .un .not (.tmp 4), none, []⟩])
 (.cond (.tmp 5) (.seq (.region false [⟨some 2, .mv (.const (.str [])), none, []⟩])
 .ret) .skip))
 (.seq (.region false [⟨some 6, .load 3 true false (.tmp 1), none, []⟩,
  ⟨some 7, .call 35300 0 [.tmp 6], none, []⟩,
  ⟨some 8, .call 35000 0 [.tmp 7], none, []⟩,
  ⟨some 2, .mv (.tmp 8), none, []⟩])
 .ret))) }
noncomputable def p35500 : ProcT := { kind := .fn, ins := [0, 1], bins := [0], res := [.tmp 4], code := (.seq (.region false [⟨some 4, .mv (.const (.str [])), none, []⟩])
 (.seq (.region false [⟨some 5, .mv (.tmp 1), none, []⟩,
  ⟨some 6, .mv (.tmp 0), none, []⟩,
  ⟨some 7, .mv (.tmp 1), none, []⟩,
  ⟨some 8, .len (.tmp 7), none, []⟩,
  ⟨some 9, .call 200 0 [.tmp 6, .tmp 8], none, []⟩,
  ⟨some 10, .iadr 1 (.tmp 5) (.tmp 9), none, []⟩,
  ⟨some 11, .load 1 false false (.tmp 10), none, []⟩,
  ⟨some 4, .mv (.tmp 11), none, []⟩])
 .ret)) }
noncomputable def p35600 : ProcT := { kind := .fn, ins := [0], bins := [0], res := [.tmp 2], code := (.seq (.region false [⟨some 2, .mv (.const (.str [])), none, []⟩])
 (.seq (.seq (.region false [⟨some 3, .mv (.tmp 0), none, []⟩,
  ⟨some 4, .call 200 0 [.tmp 3, .const (.int .i64 8)], none, []⟩])
 (.block 0 (.seq (.seq (.region false [⟨some 6, .bin .eql (.tmp 4) (.const (.int .i64 0)), none, []⟩,
  ⟨some 5, .mv (.tmp 6), none, []⟩])
 (.cond (.tmp 5) .skip (.region false [⟨some 7, .bin .eql (.tmp 4) (.const (.int .i64 1)), none, []⟩,
  ⟨some 5, .mv (.tmp 7), none, []⟩])))
 (.cond (.tmp 5) (.seq (.region false [⟨some 8, .mv (.tmp 0), none, []⟩,
  ⟨some 9, .buildS .full .str [.const (.str [97]), .const (.str [98]), .const (.str [99]), .const (.str [100]), .const (.str ([105, 102])), .const (.str ([101, 108, 115, 101])), .const (.str ([119, 104, 105, 108, 101])), .const (.str ([115, 101, 110, 100])), .const (.str ([114, 101, 99, 118])), .const (.str ([116, 97, 115, 107])), .const (.str ([98, 111, 120])), .const (.str ([112, 114, 105, 110, 116])), .const (.str ([121, 105, 101, 108, 100])), .const (.str [120])], none, []⟩,
  ⟨some 10, .call 35500 0 [.tmp 8, .tmp 9], none, []⟩,
  ⟨some 2, .mv (.tmp 10), none, []⟩])
 .ret) (.seq (.seq (.region false [⟨some 12, .bin .eql (.tmp 4) (.const (.int .i64 2)), none, []⟩,
  ⟨some 11, .mv (.tmp 12), none, []⟩])
 (.cond (.tmp 11) .skip (.region false [⟨some 13, .bin .eql (.tmp 4) (.const (.int .i64 3)), none, []⟩,
  ⟨some 11, .mv (.tmp 13), none, []⟩])))
 (.cond (.tmp 11) (.seq (.region false [⟨some 14, .mv (.tmp 0), none, []⟩,
  ⟨some 15, .call 200 0 [.tmp 14, .const (.int .i64 200)], none, []⟩,
  ⟨some 16, .call 20500 0 [.tmp 15], none, []⟩,
  ⟨some 2, .mv (.tmp 16), none, []⟩])
 .ret) (.seq (.region false [⟨some 18, .bin .eql (.tmp 4) (.const (.int .i64 4)), none, []⟩,
  ⟨some 17, .mv (.tmp 18), none, []⟩])
 (.cond (.tmp 17) (.seq (.region false [⟨some 19, .mv (.tmp 0), none, []⟩,
  ⟨some 20, .buildS .full .str [.const (.str ([48, 48, 55])), .const (.str ([57, 57, 57, 57, 57])), .const (.str ([49, 48, 48, 48, 48, 48])), .const (.str [40]), .const (.str [41]), .const (.str [123]), .const (.str [125]), .const (.str [61]), .const (.str [59])], none, []⟩,
  ⟨some 21, .call 35500 0 [.tmp 19, .tmp 20], none, []⟩,
  ⟨some 2, .mv (.tmp 21), none, []⟩])
 .ret) .skip))))))))
 (.seq (.seq (.region false [⟨some 22, .mv (.tmp 0), none, []⟩,
  ⟨some 23, .call 200 0 [.tmp 22, .const (.int .i64 40)], none, []⟩,
  ⟨some 24, .bin .eql (.tmp 23) (.const (.int .i64 0)), none, []⟩])
 (.cond (.tmp 24) (.seq (.region false [⟨some 25, .mv (.tmp 0), none, []⟩,
  ⟨some 26, .buildS .full .str [.const (.str []), .const (.str [33]), .const (.str [62]), .const (.str ([97, 49])), .const (.str ([61, 32, 61])), .const (.str [32]), .const (.str [65]), .const (.str ([60, 60, 60]))], none, []⟩,
  ⟨some 27, .call 35500 0 [.tmp 25, .tmp 26], none, []⟩,
  ⟨some 2, .mv (.tmp 27), none, []⟩])
 .ret) .skip))
 (.seq (.region false [⟨some 28, .mv (.tmp 0), none, []⟩,
  ⟨some 29, .call 600 0 [.tmp 28], none, []⟩,
  ⟨some 30, .call 20700 0 [.tmp 29], none, []⟩,
  ⟨some 2, .mv (.tmp 30), none, []⟩])
 .ret)))) }
noncomputable def p35700 : ProcT := { kind := .fn, ins := [0], bins := [0], res := [.tmp 2], code := (.seq (.region false [⟨some 2, .mv (.const (.sl (.own false) .str [])), none, []⟩])
 (.seq (.region false [⟨some 6, .buildS (.own true) .str [], none, []⟩,
  ⟨some 3, .mv (.take 6), none, []⟩])
 (.seq (.region false [⟨some 7, .mv (.tmp 0), none, []⟩,
  ⟨some 8, .call 200 0 [.tmp 7, .const (.int .i64 10)], none, []⟩,
  ⟨some 4, .mv (.tmp 8), none, []⟩])
 (.seq (.seq (.region false [⟨some 5, .mv (.const (.int .i64 0)), none, []⟩])
 (.block 0 (.label 35701)))
 (.seq (.region false [⟨some 19, .mv (.take 3), none, []⟩,
  ⟨some 2, .mv (.take 19), none, []⟩])
 .ret))))) }
noncomputable def p35701 : ProcT := { kind := .loop, ins := [0, 3, 4, 5], bins := [0], outs := [0, 2, 3], bouts := [0], code := (.seq (.seq (.region false [⟨some 9, .mv (.tmp 5), none, []⟩,
  ⟨some 10, .mv (.tmp 4), none, []⟩,
  ⟨some 11, .bin .lss (.tmp 9) (.tmp 10), none, []⟩])
 (.cond (.tmp 11) .skip (.exit 0)))
 (.seq (.block 1 (.region false [⟨some 14, .mv (.take 3), none, []⟩,
  ⟨some 15, .mv (.tmp 0), none, []⟩,
  ⟨some 16, .call 35600 0 [.tmp 15], none, []⟩,
  ⟨some 17, .buildS .full .str [.tmp 16], none, []⟩,
  ⟨some 18, .app 1 (.take 14) (.tmp 17), none, []⟩,
  ⟨some 3, .mv (.take 18), none, []⟩]))
 (.region false [⟨some 12, .mv (.tmp 5), none, []⟩,
  ⟨some 13, .bin .add (.tmp 12) (.const (.int .i64 1)), none, []⟩,
  ⟨some 5, .mv (.tmp 13), none, []⟩]))) }
noncomputable def p35800 : ProcT := { kind := .fn, ins := [0], bins := [], res := [.tmp 2], code := (.seq (.region false [⟨some 2, .mv (.const (.str [])), none, []⟩])
 (.seq (.region false [⟨some 5, .mv (.tmp 0), none, []⟩,
  ⟨some 6, .call 100 100 [.tmp 5], none, []⟩,
  ⟨some 3, .mv (.tmp 6), none, []⟩])
 (.seq (.region false [⟨some 7, .mv (.tmp 3), none, []⟩,
  ⟨some 8, .mv (.tmp 3), none, []⟩,
  ⟨some 9, .call 200 0 [.tmp 8, .const (.int .i64 4)], none, []⟩,
  ⟨some 10, .bin .add (.const (.int .i64 2)) (.tmp 9), none, []⟩,
  ⟨some 11, .call 700 0 [.tmp 7, .tmp 10], none, []⟩,
  ⟨some 12, .call 35400 0 [.tmp 11], none, []⟩,
  ⟨some 4, .mv (.tmp 12), none, []⟩])
 (.seq (.seq (.region false [⟨some 13, .mv (.tmp 3), none, []⟩,
  ⟨some 14, .call 200 0 [.tmp 13, .const (.int .i64 16)], none, []⟩])
 (.block 0 (.seq (.region false [⟨some 16, .bin .eql (.tmp 14) (.const (.int .i64 0)), none, []⟩,
  ⟨some 15, .mv (.tmp 16), none, []⟩])
 (.cond (.tmp 15) (.seq (.region false [⟨some 17, .mv (.tmp 4), none, []⟩,
  ⟨some 18, .bin .add (.const (.str ([40, 32]))) (.tmp 17), none, []⟩,
  ⟨some 19, .bin .add (.tmp 18) (.const (.str ([32, 41]))), none, []⟩,
  ⟨some 2, .mv (.tmp 19), none, []⟩])
 .ret) (.seq (.region false [⟨some 21, .bin .eql (.tmp 14) (.const (.int .i64 1)), none, []⟩,
  ⟨some 20, .mv (.tmp 21), none, []⟩])
 (.cond (.tmp 20) (.seq (.region false [⟨some 22, .mv (.tmp 4), none, []⟩,
  ⟨some 23, .mv (.tmp 3), none, []⟩,
  ⟨some 24, .buildS .full .str [.const (.str ([32, 43])), .const (.str ([32, 41])), .const (.str [120]), .const (.str [10]), .const (.str ([32, 49])), .const (.str ([32, 43, 32, 97])), .const (.str ([32, 42, 32, 48, 48, 55]))], none, []⟩,
  ⟨some 25, .call 35500 0 [.tmp 23, .tmp 24], none, []⟩,
  ⟨some 26, .bin .add (.tmp 22) (.tmp 25), none, []⟩,
  ⟨some 2, .mv (.tmp 26), none, []⟩])
 .ret) (.seq (.region false [⟨some 28, .bin .eql (.tmp 14) (.const (.int .i64 2)), none, []⟩,
  ⟨some 27, .mv (.tmp 28), none, []⟩])
 (.cond (.tmp 27) (.seq (.region false [⟨some 29, .mv (.tmp 3), none, []⟩,
  ⟨some 30, .call 35700 0 [.tmp 29], none, []⟩,
  ⟨some 31, .call 35000 0 [.tmp 30], none, []⟩,
  ⟨some 2, .mv (.tmp 31), none, []⟩])
 .ret) (.seq (.region false [⟨some 33, .bin .eql (.tmp 14) (.const (.int .i64 3)), none, []⟩,
  ⟨some 32, .mv (.tmp 33), none, []⟩])
 (.cond (.tmp 32) (.seq (.region false [⟨some 34, .mv (.tmp 4), none, []⟩,
  ⟨some 35, .bin .add (.const (.str ([40, 40]))) (.tmp 34), none, []⟩,
  ⟨some 36, .bin .add (.tmp 35) (.const (.str ([41, 41, 43, 32]))), none, []⟩,
  ⟨some 37, .mv (.tmp 3), none, []⟩,
  ⟨some 38, .call 200 0 [.tmp 37, .const (.int .i64 100)], none, []⟩,
  ⟨some 39, .call 20500 0 [.tmp 38], none, []⟩,
  ⟨some 40, .bin .add (.tmp 36) (.tmp 39), none, []⟩,
  ⟨some 41, .bin .add (.tmp 40) (.const (.str ([45, 49]))), none, []⟩,
  ⟨some 2, .mv (.tmp 41), none, []⟩])
 .ret) .skip))))))))))
 (.seq (.region false [⟨some 42, .mv (.tmp 4), none, []⟩,
  ⟨some 2, .mv (.tmp 42), none, []⟩])
 .ret))))) }
noncomputable def p36200 : ProcT := { kind := .fn, ins := [0], bins := [], res := [.tmp 2], code := (.seq (.region false [⟨some 2, .mv (.const (.bool false)), none, []⟩])
 (.seq (.region false [⟨some 3, .mv (.tmp 0), none, []⟩,
  ⟨some 4, .bin .neq (.tmp 3) (.const (.str [])), none, []⟩,
  ⟨some 5, .mv (.tmp 4), none, []⟩,
  ⟨some 6, .mv (.tmp 0), some (5, true), []⟩,
  ⟨some 7, .call 33300 0 [.tmp 6], some (5, true), []⟩,
  ⟨some 8, .mv (.tmp 0), some (5, true), []⟩,
  ⟨some 9, .lenS (.tmp 8), some (5, true), []⟩,
  ⟨some 10, .bin .eql (.tmp 7) (.tmp 9), some (5, true), []⟩,
  ⟨some 11, .pick (.tmp 5) (.tmp 10) (.const (.bool false)), none, []⟩,
  ⟨some 2, .mv (.tmp 11), none, []⟩])
 .ret)) }
noncomputable def p36300 : ProcT := { kind := .fn, ins := [0], bins := [], res := [.tmp 2], code := (.seq (.region false [⟨some 2, .mv (.const (.str [])), none, []⟩])
 (.seq (.seq (.region false [⟨some 5, .mv (.tmp 0), none, []⟩,
  ⟨some 6, .len (.tmp 5), none, []⟩,
  ⟨some 7, .mv (.const (.int .i64 0)), none, []⟩])
 (.block 0 (.label 36301)))
 (.seq (.region false [⟨some 15, .mv (.tmp 0), none, []⟩,
  ⟨some 16, .call 37800 0 [.tmp 15, .const (.str [32])], none, []⟩,
  ⟨some 2, .mv (.tmp 16), none, []⟩])
 .ret))) }
noncomputable def p36301 : ProcT := { kind := .loop, ins := [0, 5, 6, 7], bins := [], outs := [0, 2], bouts := [], code := (.seq (.region false [⟨some 8, .bin .lss (.tmp 7) (.tmp 6), none, []⟩])
 (.seq (.cond (.tmp 8) .skip (.exit 0))
 (.seq (.block 1 (.seq (.region false [⟨some 9, .iadr 1 (.tmp 5) (.tmp 7), none, []⟩,
  ⟨some 10, .load 1 false false (.tmp 9), none, []⟩,
  ⟨some 4, .mv (.tmp 10), none, []⟩])
 (.seq (.region false [⟨some 11, .mv (.tmp 4), none, []⟩,
  ⟨some 12, .call 36200 0 [.tmp 11], none, []⟩,
  ⟨some 13, .un .not (.tmp 12), none, []⟩])
 (.cond (.tmp 13) (.seq (.region false [⟨some 2, .mv (.const (.str [])), none, []⟩])
 .ret) .skip))))
 (.region false [⟨some 14, .bin .add (.tmp 7) (.const (.int .i64 1)), none, []⟩,
  ⟨some 7, .mv (.tmp 14), none, []⟩])))) }
noncomputable def p36400 : ProcT := { kind := .fn, ins := [0], bins := [], res := [.tmp 2], code := (.seq (.region false [⟨some 2, .mv (.const (.str [])), none, []⟩])
 (.seq (.region false [⟨some 3, .mv (.tmp 0), none, []⟩,
  ⟨some 4, .bin .add (.const (.int .i64 97)) (.tmp 3), none, []⟩,
  ⟨some 5, .conv (.int .i32) (.tmp 4), none, []⟩,
  ⟨some 6, .conv .runeStr (.tmp 5), none, []⟩,
  ⟨some 2, .mv (.tmp 6), none, []⟩])
 .ret)) }
noncomputable def p36500 : ProcT := { kind := .fn, ins := [0, 1, 2], bins := [], res := [.tmp 6], code := (.seq (.region false [⟨some 3, .box 100 (.tmp 0), none, []⟩,
  ⟨some 6, .mv (.const (.sl (.own false) .str [])), none, []⟩])
 (.seq (.seq (.region false [⟨some 7, .fadr 0 (.tmp 3), none, []⟩,
  ⟨some 8, .load 1 false false (.tmp 7), none, []⟩,
  ⟨some 9, .call 1000 0 [.tmp 8], none, []⟩,
  ⟨some 10, .un .not (.tmp 9), none, []⟩,
  ⟨some 11, .mv (.tmp 10), none, []⟩,
  ⟨some 12, .fadr 0 (.tmp 3), some (11, false), []⟩,
  ⟨some 13, .load 1 false false (.tmp 12), some (11, false), []⟩,
  ⟨some 14, .call 34300 0 [.tmp 13], some (11, false), []⟩,
  ⟨some 15, .mv (.tmp 1), some (11, false), []⟩,
  ⟨some 16, .bin .geq (.tmp 14) (.tmp 15), some (11, false), []⟩,
  ⟨some 17, .pick (.tmp 11) (.const (.bool true)) (.tmp 16), none, []⟩])
 (.cond (.tmp 17) (.seq (.region false [⟨some 18, .load 3 true false (.tmp 3), none, []⟩,
  ⟨some 19, .mv (.take 2), none, []⟩,
  ⟨some 20, .call 36600 0 [.tmp 18, .take 19], none, []⟩,
  ⟨some 6, .mv (.take 20), none, []⟩])
 .ret) .skip))
 (.seq (.region true [⟨some 21, .load 3 true false (.tmp 3), none, [100]⟩,
  ⟨some 22, .mv (.take 2), none, []⟩,
  ⟨some 23, .buildS .full .str [.const (.str [40])], none, []⟩,
  ⟨some 24, .app 1 (.take 22) (.tmp 23), none, []⟩,
  ⟨some 25, .call 36600 0 [.tmp 21, .take 24], none, []⟩,
  ⟨some 2, .mv (.take 25), none, []⟩])
 (.seq (.region false [⟨some 26, .mv (.take 2), none, []⟩,
  ⟨some 27, .buildS .full .str [.const (.str [41])], none, []⟩,
  ⟨some 28, .app 1 (.take 26) (.tmp 27), none, []⟩,
  ⟨some 6, .mv (.take 28), none, []⟩])
 .ret)))) }
noncomputable def p36600 : ProcT := { kind := .fn, ins := [0, 1], bins := [], res := [.tmp 4], code := (.seq (.region false [⟨some 2, .box 100 (.tmp 0), none, []⟩,
  ⟨some 4, .mv (.const (.sl (.own false) .str [])), none, []⟩])
 (.seq (.seq (.region false [⟨some 6, .fadr 0 (.tmp 2), none, []⟩,
  ⟨some 7, .load 1 false false (.tmp 6), none, []⟩])
 (.block 0 (.seq (.region false [⟨some 9, .bin .eql (.tmp 7) (.const (.int .i64 0)), none, []⟩,
  ⟨some 8, .mv (.tmp 9), none, []⟩])
 (.cond (.tmp 8) (.seq (.region false [⟨some 10, .mv (.take 1), none, []⟩,
  ⟨some 11, .fadr 1 (.tmp 2), none, []⟩,
  ⟨some 12, .load 1 false false (.tmp 11), none, []⟩,
  ⟨some 13, .call 22000 0 [.tmp 12], none, []⟩,
  ⟨some 14, .buildS .full .str [.tmp 13], none, []⟩,
  ⟨some 15, .app 1 (.take 10) (.tmp 14), none, []⟩,
  ⟨some 4, .mv (.take 15), none, []⟩])
 .ret) (.seq (.region false [⟨some 17, .bin .eql (.tmp 7) (.const (.int .i64 13)), none, []⟩,
  ⟨some 16, .mv (.tmp 17), none, []⟩])
 (.cond (.tmp 16) (.seq (.region false [⟨some 18, .mv (.take 1), none, []⟩,
  ⟨some 19, .fadr 1 (.tmp 2), none, []⟩,
  ⟨some 20, .load 1 false false (.tmp 19), none, []⟩,
  ⟨some 21, .call 36400 0 [.tmp 20], none, []⟩,
  ⟨some 22, .buildS .full .str [.tmp 21], none, []⟩,
  ⟨some 23, .app 1 (.take 18) (.tmp 22), none, []⟩,
  ⟨some 4, .mv (.take 23), none, []⟩])
 .ret) .skip))))))
 (.seq (.region false [⟨some 24, .fadr 0 (.tmp 2), none, []⟩,
  ⟨some 25, .load 1 false false (.tmp 24), none, []⟩,
  ⟨some 26, .call 34300 0 [.tmp 25], none, []⟩,
  ⟨some 5, .mv (.tmp 26), none, []⟩])
 (.seq (.region false [⟨some 27, .fadr 2 (.tmp 2), none, []⟩,
  ⟨some 28, .load 1 false false (.tmp 27), none, []⟩,
  ⟨some 29, .iadr 3 (.tmp 28) (.const (.int .i64 0)), none, []⟩,
  ⟨some 30, .load 3 true false (.tmp 29), none, []⟩,
  ⟨some 31, .mv (.tmp 5), none, []⟩,
  ⟨some 32, .mv (.take 1), none, []⟩,
  ⟨some 33, .call 36500 0 [.tmp 30, .tmp 31, .take 32], none, []⟩,
  ⟨some 1, .mv (.take 33), none, []⟩])
 (.seq (.region false [⟨some 34, .mv (.take 1), none, []⟩,
  ⟨some 35, .fadr 0 (.tmp 2), none, []⟩,
  ⟨some 36, .load 1 false false (.tmp 35), none, []⟩,
  ⟨some 37, .call 21000 0 [.tmp 36], none, []⟩,
  ⟨some 38, .buildS .full .str [.tmp 37], none, []⟩,
  ⟨some 39, .app 1 (.take 34) (.tmp 38), none, []⟩,
  ⟨some 1, .mv (.take 39), none, []⟩])
 (.seq (.region false [⟨some 40, .fadr 2 (.tmp 2), none, []⟩,
  ⟨some 41, .load 1 false false (.tmp 40), none, []⟩,
  ⟨some 42, .iadr 3 (.tmp 41) (.const (.int .i64 1)), none, []⟩,
  ⟨some 43, .load 3 true false (.tmp 42), none, []⟩,
  ⟨some 44, .mv (.tmp 5), none, []⟩,
  ⟨some 45, .bin .add (.tmp 44) (.const (.int .i64 1)), none, []⟩,
  ⟨some 46, .mv (.take 1), none, []⟩,
  ⟨some 47, .call 36500 0 [.tmp 43, .tmp 45, .take 46], none, []⟩,
  ⟨some 4, .mv (.take 47), none, []⟩])
 .ret)))))) }
noncomputable def p36700 : ProcT := { kind := .fn, ins := [0], bins := [], res := [.tmp 2], code := (.seq (.region false [⟨some 1, .box 100 (.tmp 0), none, []⟩,
  ⟨some 2, .mv (.const (.str [])), none, []⟩])
 (.seq (.seq (.region false [⟨some 3, .load 3 true false (.tmp 1), none, []⟩,
  ⟨some 4, .call 1200 0 [.tmp 3], none, []⟩,
  ⟨some 5, .un .not (.tmp 4), none, []⟩])
 (.cond (.tmp 5) (.seq (.region false [⟨some 2, .mv (.const (.str [])), none, []⟩])
 .ret) .skip))
 (.seq (.region false [⟨some 6, .load 3 true false (.tmp 1), none, []⟩,
  ⟨some 7, .call 36600 0 [.tmp 6, .const (.sl (.own false) .str [])], none, []⟩,
  ⟨some 8, .call 36300 0 [.tmp 7], none, []⟩,
  ⟨some 2, .mv (.tmp 8), none, []⟩])
 .ret))) }
noncomputable def p37900 : ProcT := { kind := .fn, ins := [0], bins := [], res := [.tmp 2], code := (.seq (.region false [⟨some 2, .mv (.const (.bool false)), none, []⟩])
 (.seq (.seq (.region false [⟨some 10, .mv (.tmp 0), none, []⟩,
  ⟨some 11, .len (.tmp 10), none, []⟩,
  ⟨some 12, .bin .gtr (.tmp 11) (.const (.int .i64 1048576)), none, []⟩])
 (.cond (.tmp 12) (.seq (.region false [⟨some 2, .mv (.const (.bool true)), none, []⟩])
 .ret) .skip))
 (.seq (.region false [⟨some 13, .mv (.tmp 0), none, []⟩,
  ⟨some 14, .call 35800 0 [.tmp 13], none, []⟩,
  ⟨some 3, .mv (.tmp 14), none, []⟩])
 (.seq (.region false [⟨some 16, .mv (.tmp 3), none, []⟩,
  ⟨some 17, .call 34500 0 [.tmp 16], none, []⟩,
  ⟨some 15, .mv (.tmp 17), none, []⟩,
  ⟨some 18, .ext 0 (.tmp 15), none, []⟩,
  ⟨some 19, .ext 1 (.tmp 15), none, []⟩,
  ⟨some 4, .alloc 100 [.int .i64 0, .int .i64 0, .sl (.own false) .exp []], none, []⟩,
  ⟨none, .store 3 (.tmp 4) (.tmp 18), none, []⟩,
  ⟨some 5, .mv (.tmp 19), none, []⟩])
 (.seq (.region false [⟨some 21, .mv (.tmp 3), none, []⟩,
  ⟨some 22, .call 33000 0 [.tmp 21], none, []⟩,
  ⟨some 20, .mv (.tmp 22), none, []⟩,
  ⟨some 23, .ext 0 (.tmp 20), none, []⟩,
  ⟨some 24, .ext 1 (.tmp 20), none, []⟩,
  ⟨some 6, .alloc 101 [.int .i64 0, .int .i64 0, .sl (.own false) .exp []], none, []⟩,
  ⟨none, .store 3 (.tmp 6) (.tmp 23), none, []⟩,
  ⟨some 7, .mv (.tmp 24), none, []⟩])
 (.seq (.seq (.region false [⟨some 25, .mv (.tmp 5), none, []⟩,
  ⟨some 26, .mv (.tmp 7), none, []⟩,
  ⟨some 27, .eqb true (.tmp 25) (.tmp 26), none, []⟩,
  ⟨some 28, .mv (.tmp 27), none, []⟩,
  ⟨some 29, .load 3 true false (.tmp 4), some (28, false), []⟩,
  ⟨some 30, .load 3 true false (.tmp 6), some (28, false), []⟩,
  ⟨some 31, .call 9800 0 [.tmp 29, .tmp 30], some (28, false), []⟩,
  ⟨some 32, .un .not (.tmp 31), some (28, false), []⟩,
  ⟨some 33, .pick (.tmp 28) (.const (.bool true)) (.tmp 32), none, []⟩,
  ⟨some 34, .mv (.tmp 33), none, []⟩,
  ⟨some 35, .mv (.tmp 5), some (34, false), []⟩,
  ⟨some 36, .un .not (.tmp 35), some (34, false), []⟩,
  ⟨some 37, .pick (.tmp 34) (.const (.bool true)) (.tmp 36), none, []⟩])
 (.cond (.tmp 37) (.seq (.region false [⟨some 38, .mv (.tmp 5), none, []⟩,
  ⟨some 39, .mv (.tmp 7), none, []⟩,
  ⟨some 40, .eqb false (.tmp 38) (.tmp 39), none, []⟩,
  ⟨some 41, .mv (.tmp 40), none, []⟩,
  ⟨some 42, .load 3 true false (.tmp 4), some (41, true), []⟩,
  ⟨some 43, .load 3 true false (.tmp 6), some (41, true), []⟩,
  ⟨some 44, .call 9800 0 [.tmp 42, .tmp 43], some (41, true), []⟩,
  ⟨some 45, .pick (.tmp 41) (.tmp 44) (.const (.bool false)), none, []⟩,
  ⟨some 2, .mv (.tmp 45), none, []⟩])
 .ret) .skip))
 (.seq (.region false [⟨some 47, .load 3 true false (.tmp 4), none, []⟩,
  ⟨some 48, .call 36700 0 [.tmp 47], none, []⟩,
  ⟨some 49, .call 34500 0 [.tmp 48], none, []⟩,
  ⟨some 46, .mv (.tmp 49), none, []⟩,
  ⟨some 50, .ext 0 (.tmp 46), none, []⟩,
  ⟨some 51, .ext 1 (.tmp 46), none, []⟩,
  ⟨some 8, .alloc 102 [.int .i64 0, .int .i64 0, .sl (.own false) .exp []], none, []⟩,
  ⟨none, .store 3 (.tmp 8) (.tmp 50), none, []⟩,
  ⟨some 9, .mv (.tmp 51), none, []⟩])
 (.seq (.region false [⟨some 52, .load 3 true false (.tmp 4), none, []⟩,
  ⟨some 53, .call 1200 0 [.tmp 52], none, []⟩,
  ⟨some 54, .mv (.tmp 53), none, []⟩,
  ⟨some 55, .mv (.tmp 9), some (54, true), []⟩,
  ⟨some 56, .pick (.tmp 54) (.tmp 55) (.const (.bool false)), none, []⟩,
  ⟨some 57, .mv (.tmp 56), none, []⟩,
  ⟨some 58, .load 3 true false (.tmp 8), some (57, true), []⟩,
  ⟨some 59, .load 3 true false (.tmp 4), some (57, true), []⟩,
  ⟨some 60, .call 9800 0 [.tmp 58, .tmp 59], some (57, true), []⟩,
  ⟨some 61, .pick (.tmp 57) (.tmp 60) (.const (.bool false)), none, []⟩,
  ⟨some 2, .mv (.tmp 61), none, []⟩])
 .ret)))))))) }
noncomputable def p22000 : ProcT := { kind := .prim, ins := [], bins := [], code := .skip, pf := Vs.itoaF }
noncomputable def p37500 : ProcT := { kind := .prim, ins := [], bins := [], code := .skip, pf := Vs.prefixF }
noncomputable def p37600 : ProcT := { kind := .prim, ins := [], bins := [], code := .skip, pf := Vs.indexF }
noncomputable def p37700 : ProcT := { kind := .prim, ins := [], bins := [], code := .skip, pf := Vs.atoiF }
noncomputable def p37800 : ProcT := { kind := .prim, ins := [], bins := [], code := .skip, pf := Vs.joinF }
noncomputable def tab : List (Nat × ProcT) := [(100, p100), (200, p200), (300, p300), (400, p400), (500, p500), (600, p600), (700, p700), (1000, p1000), (1100, p1100), (1200, p1200), (1600, p1600), (1700, p1700), (1800, p1800), (1900, p1900), (9800, p9800), (9801, p9801), (20500, p20500), (20700, p20700), (21000, p21000), (22000, p22000), (31800, p31800), (31801, p31801), (31900, p31900), (31901, p31901), (32000, p32000), (32100, p32100), (32200, p32200), (32201, p32201), (32300, p32300), (32301, p32301), (32400, p32400), (32500, p32500), (32501, p32501), (32600, p32600), (32700, p32700), (32800, p32800), (32801, p32801), (32900, p32900), (32901, p32901), (33000, p33000), (33100, p33100), (33200, p33200), (33300, p33300), (33301, p33301), (33302, p33302), (33303, p33303), (33400, p33400), (33401, p33401), (33500, p33500), (33600, p33600), (33700, p33700), (33800, p33800), (33900, p33900), (34000, p34000), (34100, p34100), (34200, p34200), (34201, p34201), (34300, p34300), (34400, p34400), (34401, p34401), (34500, p34500), (34900, p34900), (35000, p35000), (35001, p35001), (35100, p35100), (35200, p35200), (35300, p35300), (35400, p35400), (35500, p35500), (35600, p35600), (35700, p35700), (35701, p35701), (35800, p35800), (36200, p36200), (36300, p36300), (36301, p36301), (36400, p36400), (36500, p36500), (36600, p36600), (36700, p36700), (37500, p37500), (37600, p37600), (37700, p37700), (37800, p37800), (37900, p37900)]
noncomputable abbrev Tb : Nat → Option ProcT := (Vs.look · tab)
@[reducible] def s100 : Sig := [⟨.ret, [.np 2], [], [.h (.sl .u8), .h (.int .i64)]⟩]
@[reducible] def s200 : Sig := [⟨.ret, [.one], [.var 2], [.h (.int .i64), .h (.sl .u8), .h (.int .i64)]⟩]
@[reducible] def s300 : Sig := [⟨.ret, [.agg 3], [], [.h (.int .i64), .h (.int .i64), .h (.slm .exp)]⟩]
@[reducible] def s400 : Sig := [⟨.ret, [.agg 3], [.var 2], [.h (.int .i64), .h (.int .i64), .h (.slm .exp), .h (.sl .u8), .h (.int .i64)]⟩]
@[reducible] def s500 : Sig := [⟨.ret, [.agg 3], [], [.h (.int .i64), .h (.int .i64), .h (.slm .exp)]⟩]
@[reducible] def s600 : Sig := [⟨.ret, [.one], [.var 2], [.h (.int .i64), .h (.sl .u8), .h (.int .i64)]⟩]
@[reducible] def s700 : Sig := [⟨.ret, [.agg 3], [.var 2], [.h (.int .i64), .h (.int .i64), .h (.slm .exp), .h (.sl .u8), .h (.int .i64)]⟩]
@[reducible] def s1000 : Sig := [⟨.ret, [.one], [], [.h (.bool)]⟩]
@[reducible] def s1100 : Sig := [⟨.ret, [.one], [], [.h (.bool)]⟩]
@[reducible] def s1200 : Sig := [⟨.ret, [.one], [], [.h (.bool)]⟩]
@[reducible] def s1600 : Sig := [⟨.ret, [.one], [], [.h (.bool)]⟩]
@[reducible] def s1700 : Sig := [⟨.ret, [.one], [], [.h (.bool)]⟩]
@[reducible] def s1800 : Sig := [⟨.ret, [.one], [], [.h (.bool)]⟩]
@[reducible] def s1900 : Sig := [⟨.ret, [.one], [], [.h (.bool)]⟩]
@[reducible] def s9800 : Sig := [⟨.ret, [.one], [], [.h (.bool)]⟩]
@[reducible] def s9801 : Sig := [⟨.exit 0, [.one], [], [.undef]⟩, ⟨.ret, [.one], [], [.h (.bool)]⟩]
@[reducible] def s20500 : Sig := [⟨.ret, [.one], [], [.h (.str)]⟩]
@[reducible] def s20700 : Sig := [⟨.ret, [.one], [], [.h (.str)]⟩]
@[reducible] def s21000 : Sig := [⟨.ret, [.one], [], [.h (.str)]⟩]
@[reducible] def s22000 : Sig := [⟨.ret, [.one], [], [.h (.str)]⟩]
@[reducible] def s31800 : Sig := [⟨.ret, [.one], [], [.h (.int .i64)]⟩]
@[reducible] def s31801 : Sig := [⟨.exit 1, [.one], [], [.undef]⟩, ⟨.ret, [.one], [], [.h (.int .i64)]⟩]
@[reducible] def s31900 : Sig := [⟨.ret, [.one], [], [.h (.int .i64)]⟩]
@[reducible] def s31901 : Sig := [⟨.exit 0, [.one, .one], [], [.undef, .h (.int .i64)]⟩]
@[reducible] def s32000 : Sig := [⟨.ret, [.one], [], [.h (.bool)]⟩]
@[reducible] def s32100 : Sig := [⟨.ret, [.one], [], [.h (.int .i64)]⟩]
@[reducible] def s32200 : Sig := [⟨.ret, [.tup 2], [], [.h (.sl .str), .h (.bool)]⟩]
@[reducible] def s32201 : Sig := [⟨.exit 0, [.one, .one, .one], [], [.undef, .undef, .h (.ownb .str)]⟩, ⟨.ret, [.one, .one, .one], [], [.h (.ownb .str), .h (.bool), .h (.ownb .str)]⟩]
@[reducible] def s32300 : Sig := [⟨.ret, [.one], [], [.h (.int .i64)]⟩]
@[reducible] def s32301 : Sig := [⟨.exit 0, [.one, .one], [], [.undef, .h (.int .i64)]⟩, ⟨.ret, [.one, .one], [], [.h (.int .i64), .h (.int .i64)]⟩]
@[reducible] def s32400 : Sig := [⟨.ret, [.one], [], [.h (.str)]⟩]
@[reducible] def s32500 : Sig := [⟨.ret, [.one], [], [.h (.int .i64)]⟩]
@[reducible] def s32501 : Sig := [⟨.exit 0, [.one], [], [.undef]⟩, ⟨.ret, [.one], [], [.h (.int .i64)]⟩]
@[reducible] def s32600 : Sig := [⟨.ret, [.tup 2], [], [.h (.agg .exp), .h (.int .i64)]⟩]
@[reducible] def s32700 : Sig := [⟨.ret, [.one], [], [.h (.int .i64)]⟩]
@[reducible] def s32800 : Sig := [⟨.ret, [.one], [], [.h (.int .i64)]⟩]
@[reducible] def s32801 : Sig := [⟨.exit 0, [.one], [], [.undef]⟩, ⟨.ret, [.one], [], [.h (.int .i64)]⟩]
@[reducible] def s32900 : Sig := [⟨.ret, [.tup 2], [], [.h (.agg .exp), .h (.int .i64)]⟩]
@[reducible] def s32901 : Sig := [⟨.exit 0, [.one, .one, .one, .one], [.var 3, .var 3], [.bp 100 0, .undef, .bp 101 0, .h (.int .i64), .h (.int .i64), .h (.int .i64), .h (.ownb .exp), .h (.int .i64), .h (.int .i64), .h (.slm .exp)]⟩]
@[reducible] def s33000 : Sig := [⟨.ret, [.tup 2], [], [.h (.agg .exp), .h (.bool)]⟩]
@[reducible] def s33100 : Sig := [⟨.ret, [.one], [], [.h (.bool)]⟩]
@[reducible] def s33200 : Sig := [⟨.ret, [.one], [], [.h (.bool)]⟩]
@[reducible] def s33300 : Sig := [⟨.ret, [.one], [], [.h (.int .i64)]⟩]
@[reducible] def s33301 : Sig := [⟨.exit 0, [.one, .one], [], [.h (.str), .undef]⟩, ⟨.ret, [.one, .one], [], [.h (.str), .h (.int .i64)]⟩]
@[reducible] def s33302 : Sig := [⟨.exit 2, [.one, .one, .one, .one, .one, .one], [], [.h (.str), .undef, .h (.int .i64), .fnl ([33100, 33200] : List Nat), .h (.int .i64), .h (.int .i64)]⟩]
@[reducible] def s33303 : Sig := [⟨.exit 4, [.one, .one], [], [.h (.str), .undef]⟩, ⟨.ret, [.one, .one], [], [.h (.str), .h (.int .i64)]⟩]
@[reducible] def s33400 : Sig := [⟨.ret, [.tup 2], [], [.h (.sl .str), .h (.bool)]⟩]
@[reducible] def s33401 : Sig := [⟨.exit 0, [.one, .one, .one], [], [.undef, .undef, .h (.ownb .str)]⟩, ⟨.ret, [.one, .one, .one], [], [.h (.ownb .str), .h (.bool), .h (.ownb .str)]⟩]
@[reducible] def s33500 : Sig := [⟨.ret, [.one], [.var 3], [.h (.str), .h (.sl .str), .h (.int .i64), .h (.bool)]⟩]
@[reducible] def s33600 : Sig := [⟨.ret, [.one], [.var 3], [.h (.bool), .h (.sl .str), .h (.int .i64), .h (.bool)]⟩]
@[reducible] def s33700 : Sig := [⟨.ret, [.tup 0], [.var 3], [.h (.sl .str), .h (.int .i64), .h (.bool)]⟩]
@[reducible] def s33800 : Sig := [⟨.ret, [.one], [.var 3], [.h (.str), .h (.sl .str), .h (.int .i64), .h (.bool)]⟩]
@[reducible] def s33900 : Sig := [⟨.ret, [.one], [.var 3], [.h (.int .i64), .h (.sl .str), .h (.int .i64), .h (.bool)]⟩]
@[reducible] def s34000 : Sig := [⟨.ret, [.one], [.var 3], [.h (.int .i64), .h (.sl .str), .h (.int .i64), .h (.bool)]⟩]
@[reducible] def s34100 : Sig := [⟨.ret, [.one], [.var 3], [.h (.agg .exp), .h (.sl .str), .h (.int .i64), .h (.bool)]⟩]
@[reducible] def s34200 : Sig := [⟨.ret, [.one], [], [.h (.int .i64)]⟩]
@[reducible] def s34201 : Sig := [⟨.exit 0, [.one], [], [.undef]⟩, ⟨.ret, [.one], [], [.h (.int .i64)]⟩]
@[reducible] def s34300 : Sig := [⟨.ret, [.one], [], [.h (.int .i64)]⟩]
@[reducible] def s34400 : Sig := [⟨.ret, [.one], [.var 3], [.h (.agg .exp), .h (.sl .str), .h (.int .i64), .h (.bool)]⟩]
@[reducible] def s34401 : Sig := [⟨.exit 0, [.one, .one, .one], [.var 3, .var 3, .var 3], [.bp 0 0, .bp 100 0, .bp 101 0, .h (.sl .str), .h (.int .i64), .h (.bool), .h (.int .i64), .h (.int .i64), .h (.ownb .exp), .h (.int .i64), .h (.int .i64), .h (.slm .exp)]⟩]
@[reducible] def s34500 : Sig := [⟨.ret, [.tup 2], [], [.h (.agg .exp), .h (.bool)]⟩]
@[reducible] def s34900 : Sig := [⟨.ret, [.one], [], [.h (.bool)]⟩]
@[reducible] def s35000 : Sig := [⟨.ret, [.one], [], [.h (.str)]⟩]
@[reducible] def s35001 : Sig := [⟨.exit 0, [.one, .one], [], [.undef, .h (.str)]⟩, ⟨.ret, [.one, .one], [], [.h (.str), .h (.str)]⟩]
@[reducible] def s35100 : Sig := [⟨.ret, [.one], [], [.h (.own .str)]⟩]
@[reducible] def s35200 : Sig := [⟨.ret, [.one], [], [.h (.int .i64)]⟩]
@[reducible] def s35300 : Sig := [⟨.ret, [.one], [], [.h (.own .str)]⟩]
@[reducible] def s35400 : Sig := [⟨.ret, [.one], [], [.h (.str)]⟩]
@[reducible] def s35500 : Sig := [⟨.ret, [.one], [.var 2], [.h (.str), .h (.sl .u8), .h (.int .i64)]⟩]
@[reducible] def s35600 : Sig := [⟨.ret, [.one], [.var 2], [.h (.str), .h (.sl .u8), .h (.int .i64)]⟩]
@[reducible] def s35700 : Sig := [⟨.ret, [.one], [.var 2], [.h (.own .str), .h (.sl .u8), .h (.int .i64)]⟩]
@[reducible] def s35701 : Sig := [⟨.exit 0, [.one, .one, .one], [.var 2], [.bp 0 0, .undef, .h (.ownb .str), .h (.sl .u8), .h (.int .i64)]⟩]
@[reducible] def s35800 : Sig := [⟨.ret, [.one], [], [.h (.str)]⟩]
@[reducible] def s36200 : Sig := [⟨.ret, [.one], [], [.h (.bool)]⟩]
@[reducible] def s36300 : Sig := [⟨.ret, [.one], [], [.h (.str)]⟩]
@[reducible] def s36301 : Sig := [⟨.exit 0, [.one, .one], [], [.h (.sl .str), .undef]⟩, ⟨.ret, [.one, .one], [], [.h (.sl .str), .h (.str)]⟩]
@[reducible] def s36400 : Sig := [⟨.ret, [.one], [], [.h (.str)]⟩]
@[reducible] def s36500 : Sig := [⟨.ret, [.one], [], [.h (.own .str)]⟩]
@[reducible] def s36600 : Sig := [⟨.ret, [.one], [], [.h (.own .str)]⟩]
@[reducible] def s36700 : Sig := [⟨.ret, [.one], [], [.h (.str)]⟩]
@[reducible] def s37500 : Sig := [⟨.ret, [.one], [], [.h (.bool)]⟩]
@[reducible] def s37600 : Sig := [⟨.ret, [.one], [], [.h (.int .i64)]⟩]
@[reducible] def s37700 : Sig := [⟨.ret, [.tup 2], [], [.h (.int .i64), .undef]⟩]
@[reducible] def s37800 : Sig := [⟨.ret, [.one], [], [.h (.str)]⟩]
@[reducible] def s37900 : Sig := [⟨.ret, [.one], [], [.h (.bool)]⟩]
def sgs : List (Nat × Sig) := [(100, s100), (200, s200), (300, s300), (400, s400), (500, s500), (600, s600), (700, s700), (1000, s1000), (1100, s1100), (1200, s1200), (1600, s1600), (1700, s1700), (1800, s1800), (1900, s1900), (9800, s9800), (9801, s9801), (20500, s20500), (20700, s20700), (21000, s21000), (22000, s22000), (31800, s31800), (31801, s31801), (31900, s31900), (31901, s31901), (32000, s32000), (32100, s32100), (32200, s32200), (32201, s32201), (32300, s32300), (32301, s32301), (32400, s32400), (32500, s32500), (32501, s32501), (32600, s32600), (32700, s32700), (32800, s32800), (32801, s32801), (32900, s32900), (32901, s32901), (33000, s33000), (33100, s33100), (33200, s33200), (33300, s33300), (33301, s33301), (33302, s33302), (33303, s33303), (33400, s33400), (33401, s33401), (33500, s33500), (33600, s33600), (33700, s33700), (33800, s33800), (33900, s33900), (34000, s34000), (34100, s34100), (34200, s34200), (34201, s34201), (34300, s34300), (34400, s34400), (34401, s34401), (34500, s34500), (34900, s34900), (35000, s35000), (35001, s35001), (35100, s35100), (35200, s35200), (35300, s35300), (35400, s35400), (35500, s35500), (35600, s35600), (35700, s35700), (35701, s35701), (35800, s35800), (36200, s36200), (36300, s36300), (36301, s36301), (36400, s36400), (36500, s36500), (36600, s36600), (36700, s36700), (37500, s37500), (37600, s37600), (37700, s37700), (37800, s37800), (37900, s37900)]
def sg (g : Nat) : Sig := (Vs.look g sgs).getD []
def GT (i : Nat) : List TV := if i = 0 then [.str [124], .str [94], .str [38], .str ([61, 61]), .str [60], .str ([60, 60]), .str ([62, 62]), .str [43], .str [45], .str [42], .str [47], .str [37]] else []
noncomputable def laws_FnFrom (a0 : List Int) : Option (Bool) := callTy Tb GT s37900 37900 [.sl .share .u8 a0] []
noncomputable def spec_DrawExprFrom (a0 : List Int) : Option (List UInt8) := callTy Tb GT s35800 35800 [.sl .share .u8 a0] []
noncomputable def impl_ExprFrom (a0 : List UInt8) : Option (Exp × Bool) := callTy Tb GT s34500 34500 [.str a0] []
noncomputable def spec_ExprFrom (a0 : List UInt8) : Option (Exp × Bool) := callTy Tb GT s33000 33000 [.str a0] []
noncomputable def laws_sameExpr (a0 : Exp) (a1 : Exp) : Option (Bool) := callTy Tb GT s9800 9800 [.agg (rowT .exp a0), .agg (rowT .exp a1)] []
noncomputable def impl_ExprText (a0 : Exp) : Option (List UInt8) := callTy Tb GT s36700 36700 [.agg (rowT .exp a0)] []
noncomputable def impl_ExprValid (a0 : Exp) : Option (Bool) := callTy Tb GT s1200 1200 [.agg (rowT .exp a0)] []
noncomputable def spec_l6Open (a0 : List Int) : Option (List Int × Int) := callTy Tb GT s100 100 [.sl .share .u8 a0] []
noncomputable def spec_l6Rd_pick (a1 : Int) (a0b : List Int) (a0p : Int) : Option (Int × List Int × Int) := callTy Tb GT s200 200 [.bp 0 0, .int .i64 a1] [.var [.sl .share .u8 a0b, .int .i64 a0p]]
noncomputable def spec_l91Expr (a1 : Int) (a0b : List Int) (a0p : Int) : Option (Int × Int × (Md × List Exp) × List Int × Int) := callTy Tb GT s700 700 [.bp 0 0, .int .i64 a1] [.var [.sl .share .u8 a0b, .int .i64 a0p]]
noncomputable def spec_ExprText (a0 : Exp) : Option (List UInt8) := callTy Tb GT s35400 35400 [.agg (rowT .exp a0)] []
noncomputable def spec_l6Rd_of (a1 : List (List UInt8)) (a0b : List Int) (a0p : Int) : Option (List UInt8 × List Int × Int) := callTy Tb GT s35500 35500 [.bp 0 0, .sl .share .str a1] [.var [.sl .share .u8 a0b, .int .i64 a0p]]
noncomputable def spec_l91Tokens (a0b : List Int) (a0p : Int) : Option (List (List UInt8) × List Int × Int) := callTy Tb GT s35700 35700 [.bp 0 0] [.var [.sl .share .u8 a0b, .int .i64 a0p]]
noncomputable def spec_TokensText (a0 : List (List UInt8)) : Option (List UInt8) := callTy Tb GT s35000 35000 [.sl .share .str a0] []
noncomputable def spec_l6Dec (a0 : Int) : Option (List UInt8) := callTy Tb GT s20500 20500 [.int .i64 a0] []
noncomputable def impl_Tokens (a0 : List UInt8) : Option (List (List UInt8) × Bool) := callTy Tb GT s33400 33400 [.str a0] []
noncomputable def impl_parser_expr (a1 : Int) (a0tokens : List (List UInt8)) (a0at : Int) (a0failed : Bool) : Option (Exp × List (List UInt8) × Int × Bool) := callTy Tb GT s34400 34400 [.bp 0 0, .int .i64 a1] [.var [.sl .share .str a0tokens, .int .i64 a0at, .bool a0failed]]
noncomputable def spec_Tokens (a0 : List UInt8) : Option (List (List UInt8) × Bool) := callTy Tb GT s32200 32200 [.str a0] []
noncomputable def spec_l5Parse (a0 : List (List UInt8)) (a1 : Int) (a2 : Int) : Option (Exp × Int) := callTy Tb GT s32900 32900 [.sl .share .str a0, .int .i64 a1, .int .i64 a2] []
noncomputable def spec_ExprValid (a0 : Exp) : Option (Bool) := callTy Tb GT s1900 1900 [.agg (rowT .exp a0)] []
noncomputable def laws_sameExpr_l1 (t5 : Int) (b100_0 : Int) (b100_1 : Int) (b100_2 : List Exp) (b101_0 : Int) (b101_1 : Int) (b101_2 : List Exp) : Option (Unit ⊕ Bool) := callTy Tb GT s9801 9801 [.bp 100 0, .bp 101 0, .int .i64 t5] [.var [.int .i64 b100_0, .int .i64 b100_1, .sl .share .exp b100_2], .var [.int .i64 b101_0, .int .i64 b101_1, .sl .share .exp b101_2]]
noncomputable def impl_exprTokens (a0 : Exp) (a1 : List (List UInt8)) : Option (List (List UInt8)) := callTy Tb GT s36600 36600 [.agg (rowT .exp a0), .sl (.own true) .str a1] []
noncomputable def impl_TokensText (a0 : List (List UInt8)) : Option (List UInt8) := callTy Tb GT s36300 36300 [.sl .share .str a0] []
noncomputable def impl_exprValid (a0 : Exp) (a1 : Int) : Option (Bool) := callTy Tb GT s1100 1100 [.agg (rowT .exp a0), .int .i64 a1] []
noncomputable def spec_l91Leaf (a0b : List Int) (a0p : Int) : Option (Int × Int × (Md × List Exp) × List Int × Int) := callTy Tb GT s400 400 [.bp 0 0] [.var [.sl .share .u8 a0b, .int .i64 a0p]]
noncomputable def spec_l91Op (a0b : List Int) (a0p : Int) : Option (Int × List Int × Int) := callTy Tb GT s600 600 [.bp 0 0] [.var [.sl .share .u8 a0b, .int .i64 a0p]]
noncomputable def spec_l4Both (a0 : Int) (a1 : Exp) (a2 : Exp) : Option (Int × Int × (Md × List Exp)) := callTy Tb GT s500 500 [.int .i64 a0, .agg (rowT .exp a1), .agg (rowT .exp a2)] []
noncomputable def spec_l5Tokens (a0 : Exp) : Option (List (List UInt8)) := callTy Tb GT s35300 35300 [.agg (rowT .exp a0)] []
noncomputable def spec_l91Token (a0b : List Int) (a0p : Int) : Option (List UInt8 × List Int × Int) := callTy Tb GT s35600 35600 [.bp 0 0] [.var [.sl .share .u8 a0b, .int .i64 a0p]]
noncomputable def spec_l91Tokens_l1 (t3b : Bool) (t3 : List (List UInt8)) (t4 : Int) (t5 : Int) (b0_0 : List Int) (b0_1 : Int) : Option ((Bool × List (List UInt8)) × List Int × Int) := callTy Tb GT s35701 35701 [.bp 0 0, .sl (.own t3b) .str t3, .int .i64 t4, .int .i64 t5] [.var [.sl .share .u8 b0_0, .int .i64 b0_1]]
noncomputable def spec_TokenValid (a0 : List UInt8) : Option (Bool) := callTy Tb GT s34900 34900 [.str a0] []
noncomputable def spec_TokensText_l1 (t0 : List (List UInt8)) (t3 : List UInt8) (t4 : Int) : Option (List UInt8 ⊕ (List UInt8 × List UInt8)) := callTy Tb GT s35001 35001 [.sl .share .str t0, .str t3, .int .i64 t4] []
noncomputable def impl_tokenLength (a0 : List UInt8) : Option (Int) := callTy Tb GT s33300 33300 [.str a0] []
noncomputable def impl_Tokens_l1 (t0 : List UInt8) (t4b : Bool) (t4 : List (List UInt8)) (t5 : Int) : Option (((Bool × List (List UInt8))) ⊕ ((Bool × List (List UInt8)) × Bool × (Bool × List (List UInt8)))) := callTy Tb GT s33401 33401 [.str t0, .sl (.own t4b) .str t4, .int .i64 t5] []
noncomputable def impl_parser_operand (a0tokens : List (List UInt8)) (a0at : Int) (a0failed : Bool) : Option (Exp × List (List UInt8) × Int × Bool) := callTy Tb GT s34100 34100 [.bp 0 0] [.var [.sl .share .str a0tokens, .int .i64 a0at, .bool a0failed]]
noncomputable def impl_parser_peek (a0tokens : List (List UInt8)) (a0at : Int) (a0failed : Bool) : Option (List UInt8 × List (List UInt8) × Int × Bool) := callTy Tb GT s33500 33500 [.bp 0 0] [.var [.sl .share .str a0tokens, .int .i64 a0at, .bool a0failed]]
noncomputable def impl_opFrom (a0 : List UInt8) : Option (Int) := callTy Tb GT s34200 34200 [.str a0] []
noncomputable def impl_OpLevel (a0 : Int) : Option (Int) := callTy Tb GT s34300 34300 [.int .i64 a0] []
noncomputable def impl_parser_expr_l1 (t1 : Int) (b0_0 : List (List UInt8)) (b0_1 : Int) (b0_2 : Bool) (b100_0 : Int) (b100_1 : Int) (b100_2b : Bool) (b100_2 : List Exp) (b101_0 : Int) (b101_1 : Int) (b101_2m : Md) (b101_2 : List Exp) : Option (List (List UInt8) × Int × Bool × Int × Int × (Bool × List Exp) × Int × Int × (Md × List Exp)) := callTy Tb GT s34401 34401 [.bp 0 0, .int .i64 t1, .bp 100 0, .bp 101 0] [.var [.sl .share .str b0_0, .int .i64 b0_1, .bool b0_2], .var [.int .i64 b100_0, .int .i64 b100_1, .sl (.own b100_2b) .exp b100_2], .var [.int .i64 b101_0, .int .i64 b101_1, .sl b101_2m .exp b101_2]]
noncomputable def spec_l3Kind (a0 : Int) : Option (Int) := callTy Tb GT s31800 31800 [.int .u8 a0] []
noncomputable def spec_l3End (a0 : List UInt8) (a1 : Int) : Option (Int) := callTy Tb GT s32100 32100 [.str a0, .int .i64 a1] []
noncomputable def spec_Tokens_l1 (t0 : List UInt8) (t4b : Bool) (t4 : List (List UInt8)) (t5 : Int) : Option (((Bool × List (List UInt8))) ⊕ ((Bool × List (List UInt8)) × Bool × (Bool × List (List UInt8)))) := callTy Tb GT s32201 32201 [.str t0, .sl (.own t4b) .str t4, .int .i64 t5] []
noncomputable def spec_l5First (a0 : List (List UInt8)) (a1 : Int) : Option (Exp × Int) := callTy Tb GT s32600 32600 [.sl .share .str a0, .int .i64 a1] []
noncomputable def spec_l5Op (a0 : List UInt8) : Option (Int) := callTy Tb GT s32800 32800 [.str a0] []
noncomputable def spec_OpLevel (a0 : Int) : Option (Int) := callTy Tb GT s32700 32700 [.int .i64 a0] []
noncomputable def spec_l5Parse_l1 (t0 : List (List UInt8)) (t2 : Int) (t9 : Int) (b100_0 : Int) (b100_1 : Int) (b100_2b : Bool) (b100_2 : List Exp) (b101_0 : Int) (b101_1 : Int) (b101_2m : Md) (b101_2 : List Exp) : Option (Int × Int × Int × (Bool × List Exp) × Int × Int × (Md × List Exp)) := callTy Tb GT s32901 32901 [.sl .share .str t0, .int .i64 t2, .bp 100 0, .bp 101 0, .int .i64 t9] [.var [.int .i64 b100_0, .int .i64 b100_1, .sl (.own b100_2b) .exp b100_2], .var [.int .i64 b101_0, .int .i64 b101_1, .sl b101_2m .exp b101_2]]
noncomputable def spec_l4Ok (a0 : Exp) (a1 : Int) : Option (Bool) := callTy Tb GT s1800 1800 [.agg (rowT .exp a0), .int .i64 a1] []
noncomputable def strconv_Itoa (a0 : Int) : Option (List UInt8) := callTy Tb GT s22000 22000 [.int .i64 a0] []
noncomputable def impl_varText (a0 : Int) : Option (List UInt8) := callTy Tb GT s36400 36400 [.int .i64 a0] []
noncomputable def impl_operandTokens (a0 : Exp) (a1 : Int) (a2 : List (List UInt8)) : Option (List (List UInt8)) := callTy Tb GT s36500 36500 [.agg (rowT .exp a0), .int .i64 a1, .sl (.own true) .str a2] []
noncomputable def impl_OpText (a0 : Int) : Option (List UInt8) := callTy Tb GT s21000 21000 [.int .i64 a0] []
noncomputable def impl_TokenValid (a0 : List UInt8) : Option (Bool) := callTy Tb GT s36200 36200 [.str a0] []
noncomputable def impl_TokensText_l1 (t0 : List (List UInt8)) (t5 : List (List UInt8)) (t6 : Int) (t7 : Int) : Option (List (List UInt8) ⊕ (List (List UInt8) × List UInt8)) := callTy Tb GT s36301 36301 [.sl .share .str t0, .sl .share .str t5, .int .i64 t6, .int .i64 t7] []
noncomputable def strings_Join (a0 : List (List UInt8)) (a1 : List UInt8) : Option (List UInt8) := callTy Tb GT s37800 37800 [.sl .share .str a0, .str a1] []
noncomputable def impl_OpValid (a0 : Int) : Option (Bool) := callTy Tb GT s1000 1000 [.int .i64 a0] []
noncomputable def spec_l4Leaf (a0 : Int) (a1 : Int) : Option (Int × Int × (Md × List Exp)) := callTy Tb GT s300 300 [.int .i64 a0, .int .i64 a1] []
noncomputable def spec_l5Name (a0 : Int) : Option (List UInt8) := callTy Tb GT s32400 32400 [.int .i64 a0] []
noncomputable def spec_l5Level (a0 : Exp) : Option (Int) := callTy Tb GT s35200 35200 [.agg (rowT .exp a0)] []
noncomputable def spec_l5Wrap (a0 : List (List UInt8)) (a1 : Bool) : Option (List (List UInt8)) := callTy Tb GT s35100 35100 [.sl (.own true) .str a0, .bool a1] []
noncomputable def spec_OpText (a0 : Int) : Option (List UInt8) := callTy Tb GT s20700 20700 [.int .i64 a0] []
noncomputable def impl_isDigit (a0 : Int) : Option (Bool) := callTy Tb GT s33100 33100 [.int .u8 a0] []
noncomputable def impl_tokenLength_l1_l2_33100 (t0 : List UInt8) (t5 : Int) (t9 : Int) (t10 : Int) : Option (List UInt8 × Int × Int × Int) := callTy Tb GT s33302 33302 [.str t0, .fn 33100 [], .int .i64 t5, .sl .full .fn ([33100, 33200] : List Nat), .int .i64 t9, .int .i64 t10] []
noncomputable def impl_isLetter (a0 : Int) : Option (Bool) := callTy Tb GT s33200 33200 [.int .u8 a0] []
noncomputable def impl_tokenLength_l1_l2_33200 (t0 : List UInt8) (t5 : Int) (t9 : Int) (t10 : Int) : Option (List UInt8 × Int × Int × Int) := callTy Tb GT s33302 33302 [.str t0, .fn 33200 [], .int .i64 t5, .sl .full .fn ([33100, 33200] : List Nat), .int .i64 t9, .int .i64 t10] []
noncomputable def impl_tokenLength_l1 (t0 : List UInt8) (t9 : Int) (t10 : Int) : Option (List UInt8 ⊕ (List UInt8 × Int)) := callTy Tb GT s33301 33301 [.str t0, .sl .full .fn ([33100, 33200] : List Nat), .int .i64 t9, .int .i64 t10] []
noncomputable def strings_HasPrefix (a0 : List UInt8) (a1 : List UInt8) : Option (Bool) := callTy Tb GT s37500 37500 [.str a0, .str a1] []
noncomputable def impl_tokenLength_l3 (t0 : List UInt8) (t31m : Md) (t31 : List (List UInt8)) (t32 : Int) (t33 : Int) : Option (List UInt8 ⊕ (List UInt8 × Int)) := callTy Tb GT s33303 33303 [.str t0, .sl t31m .str t31, .int .i64 t32, .int .i64 t33] []
noncomputable def strings_IndexByte (a0 : List UInt8) (a1 : Int) : Option (Int) := callTy Tb GT s37600 37600 [.str a0, .int .u8 a1] []
noncomputable def impl_parser_need (a1 : List UInt8) (a0tokens : List (List UInt8)) (a0at : Int) (a0failed : Bool) : Option (List (List UInt8) × Int × Bool) := callTy Tb GT s33700 33700 [.bp 0 0, .str a1] [.var [.sl .share .str a0tokens, .int .i64 a0at, .bool a0failed]]
noncomputable def impl_parser_number (a0tokens : List (List UInt8)) (a0at : Int) (a0failed : Bool) : Option (Int × List (List UInt8) × Int × Bool) := callTy Tb GT s33900 33900 [.bp 0 0] [.var [.sl .share .str a0tokens, .int .i64 a0at, .bool a0failed]]
noncomputable def impl_parser_variable (a0tokens : List (List UInt8)) (a0at : Int) (a0failed : Bool) : Option (Int × List (List UInt8) × Int × Bool) := callTy Tb GT s34000 34000 [.bp 0 0] [.var [.sl .share .str a0tokens, .int .i64 a0at, .bool a0failed]]
noncomputable def impl_opFrom_l1 (t0 : List UInt8) (t6 : Int) : Option (Unit ⊕ Int) := callTy Tb GT s34201 34201 [.str t0, .agg [.str [124], .str [94], .str [38], .str ([61, 61]), .str [60], .str ([60, 60]), .str ([62, 62]), .str [43], .str [45], .str [42], .str [47], .str [37]], .int .i64 t6] []
noncomputable def spec_l3Kind_l1 (t0 : Int) (t3 : List UInt8) (t4 : Int) : Option (Unit ⊕ Int) := callTy Tb GT s31801 31801 [.int .u8 t0, .str t3, .int .i64 t4] []
noncomputable def spec_l3Run (a0 : List UInt8) (a1 : Int) : Option (Int) := callTy Tb GT s31900 31900 [.str a0, .int .i64 a1] []
noncomputable def spec_l3Two (a0 : List UInt8) : Option (Bool) := callTy Tb GT s32000 32000 [.str a0] []
noncomputable def spec_l5Number (a0 : List UInt8) : Option (Int) := callTy Tb GT s32300 32300 [.str a0] []
noncomputable def spec_l5Var (a0 : List UInt8) : Option (Int) := callTy Tb GT s32500 32500 [.str a0] []
noncomputable def spec_l5Op_l1 (t0 : List UInt8) (t3 : Int) : Option (Unit ⊕ Int) := callTy Tb GT s32801 32801 [.str t0, .int .i64 t3] []
noncomputable def spec_OpValid (a0 : Int) : Option (Bool) := callTy Tb GT s1700 1700 [.int .i64 a0] []
noncomputable def spec_l6In (a0 : Int) (a1 : Int) (a2 : Int) : Option (Bool) := callTy Tb GT s1600 1600 [.int .i64 a0, .int .i64 a1, .int .i64 a2] []
noncomputable def impl_parser_accept (a1 : List UInt8) (a0tokens : List (List UInt8)) (a0at : Int) (a0failed : Bool) : Option (Bool × List (List UInt8) × Int × Bool) := callTy Tb GT s33600 33600 [.bp 0 0, .str a1] [.var [.sl .share .str a0tokens, .int .i64 a0at, .bool a0failed]]
noncomputable def impl_parser_take (a0tokens : List (List UInt8)) (a0at : Int) (a0failed : Bool) : Option (List UInt8 × List (List UInt8) × Int × Bool) := callTy Tb GT s33800 33800 [.bp 0 0] [.var [.sl .share .str a0tokens, .int .i64 a0at, .bool a0failed]]
noncomputable def strconv_Atoi (a0 : List UInt8) : Option (Int) := callTy Tb GT s37700 37700 [.str a0] []
noncomputable def spec_l3Run_l1 (t0 : List UInt8) (t1 : Int) (t5 : Int) : Option (Int) := callTy Tb GT s31901 31901 [.str t0, .int .i64 t1, .int .i64 t5] []
noncomputable def spec_l5Number_l1 (t0 : List UInt8) (t3 : Int) (t4 : Int) : Option (Int ⊕ (Int × Int)) := callTy Tb GT s32301 32301 [.str t0, .int .i64 t3, .int .i64 t4] []
noncomputable def spec_l5Var_l1 (t0 : List UInt8) (t3 : Int) : Option (Unit ⊕ Int) := callTy Tb GT s32501 32501 [.str t0, .int .i64 t3] []
end Go.TFnFrom
