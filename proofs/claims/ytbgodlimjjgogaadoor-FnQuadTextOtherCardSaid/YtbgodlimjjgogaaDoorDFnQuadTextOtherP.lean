import Derived.Test.YtbgodlimjjgogaaDoorTv6
import Derived.Test.YtbgodlimjjgogaaDoorPm2
import Derived.Test.YtbgodlimjjgogaaDoorPm4

set_option linter.unusedVariables false
namespace Go.TFnQuadTextOther
open Go Go.RowKit Go.Vs Go.Tv

noncomputable def p100 : ProcT := { kind := .fn, ins := [0], bins := [], res := [.tmp 2], code := (.seq (.region false [⟨some 2, .mv (.const (.con .nilp)), none, []⟩])
 (.seq (.seq (.region false [⟨some 3, .mv (.tmp 0), none, []⟩,
  ⟨some 4, .len (.tmp 3), none, []⟩,
  ⟨some 5, .bin .gtr (.tmp 4) (.const (.int .i64 2000)), none, []⟩])
 (.cond (.tmp 5) (.region false [⟨some 6, .mv (.tmp 0), none, []⟩,
  ⟨some 7, .slc 1 (.tmp 6) none (some (.const (.int .i64 2000))) none, none, []⟩,
  ⟨some 0, .mv (.take 7), none, []⟩]) .skip))
 (.seq (.region false [⟨some 8, .mv (.tmp 0), none, []⟩,
  ⟨some 9, .build [.sl (.own false) .u8 [], .int .i64 0] [(0, 1, .tmp 8)], none, []⟩,
  ⟨some 10, .box 100 (.tmp 9), none, []⟩,
  ⟨some 2, .mv (.tmp 10), none, []⟩])
 .ret))) }
noncomputable def p200 : ProcT := { kind := .fn, ins := [0, 1], bins := [0], res := [.tmp 4], code := (.seq (.region false [⟨some 4, .mv (.const (.int .i64 0)), none, []⟩])
 (.seq (.region false [⟨some 7, .mv (.tmp 0), none, []⟩,
  ⟨some 8, .mv (.tmp 0), none, []⟩,
  ⟨some 9, .nilck (.tmp 8), none, []⟩,
  ⟨some 10, .fadr 1 (.tmp 9), none, []⟩,
  ⟨some 11, .load 1 false false (.tmp 10), none, []⟩,
  ⟨some 12, .bin .add (.tmp 11) (.const (.int .i64 1)), none, []⟩,
  ⟨some 13, .nilck (.tmp 7), none, []⟩,
  ⟨some 14, .fadr 1 (.tmp 13), none, []⟩,
  ⟨none, .store 1 (.tmp 14) (.tmp 12), none, []⟩])
 (.seq (.seq (.region false [⟨some 15, .mv (.tmp 1), none, []⟩,
  ⟨some 16, .bin .lss (.tmp 15) (.const (.int .i64 1)), none, []⟩,
  ⟨some 17, .mv (.tmp 16), none, []⟩,
  ⟨some 18, .mv (.tmp 0), some (17, false), []⟩,
  ⟨some 19, .nilck (.tmp 18), some (17, false), []⟩,
  ⟨some 20, .fadr 0 (.tmp 19), some (17, false), []⟩,
  ⟨some 21, .load 1 false false (.tmp 20), some (17, false), []⟩,
  ⟨some 22, .len (.tmp 21), some (17, false), []⟩,
  ⟨some 23, .bin .eql (.tmp 22) (.const (.int .i64 0)), some (17, false), []⟩,
  ⟨some 24, .pick (.tmp 17) (.const (.bool true)) (.tmp 23), none, []⟩])
 (.cond (.tmp 24) (.seq (.region false [⟨some 4, .mv (.const (.int .i64 0)), none, []⟩])
 .ret) .skip))
 (.seq (.region false [⟨some 25, .mv (.tmp 0), none, []⟩,
  ⟨some 26, .nilck (.tmp 25), none, []⟩,
  ⟨some 27, .fadr 1 (.tmp 26), none, []⟩,
  ⟨some 28, .load 1 false false (.tmp 27), none, []⟩,
  ⟨some 29, .bin .sub (.tmp 28) (.const (.int .i64 1)), none, []⟩,
  ⟨some 5, .mv (.tmp 29), none, []⟩])
 (.seq (.seq (.region false [⟨some 30, .mv (.tmp 5), none, []⟩,
  ⟨some 31, .mv (.tmp 0), none, []⟩,
  ⟨some 32, .nilck (.tmp 31), none, []⟩,
  ⟨some 33, .fadr 0 (.tmp 32), none, []⟩,
  ⟨some 34, .load 1 false false (.tmp 33), none, []⟩,
  ⟨some 35, .len (.tmp 34), none, []⟩,
  ⟨some 36, .bin .lss (.tmp 30) (.tmp 35), none, []⟩])
 (.cond (.tmp 36) (.seq (.region false [⟨some 37, .mv (.tmp 0), none, []⟩,
  ⟨some 38, .nilck (.tmp 37), none, []⟩,
  ⟨some 39, .fadr 0 (.tmp 38), none, []⟩,
  ⟨some 40, .load 1 false false (.tmp 39), none, []⟩,
  ⟨some 41, .mv (.tmp 5), none, []⟩,
  ⟨some 42, .iadr 1 (.tmp 40) (.tmp 41), none, []⟩,
  ⟨some 43, .load 1 false false (.tmp 42), none, []⟩,
  ⟨some 44, .conv (.int .i64) (.tmp 43), none, []⟩,
  ⟨some 45, .mv (.tmp 1), none, []⟩,
  ⟨some 46, .bin .rem (.tmp 44) (.tmp 45), none, []⟩,
  ⟨some 4, .mv (.tmp 46), none, []⟩])
 .ret) .skip))
 (.seq (.region true [⟨some 47, .mv (.tmp 0), none, []⟩,
  ⟨some 48, .nilck (.tmp 47), none, [0]⟩,
  ⟨some 49, .fadr 0 (.tmp 48), none, [0]⟩,
  ⟨some 50, .load 1 false false (.tmp 49), none, [0]⟩,
  ⟨some 51, .mv (.tmp 5), none, []⟩,
  ⟨some 52, .mv (.tmp 0), none, []⟩,
  ⟨some 53, .nilck (.tmp 52), none, [0]⟩,
  ⟨some 54, .fadr 0 (.tmp 53), none, [0]⟩,
  ⟨some 55, .load 1 false false (.tmp 54), none, [0]⟩,
  ⟨some 56, .len (.tmp 55), none, []⟩,
  ⟨some 57, .bin .rem (.tmp 51) (.tmp 56), none, []⟩,
  ⟨some 58, .iadr 1 (.tmp 50) (.tmp 57), none, []⟩,
  ⟨some 59, .load 1 false false (.tmp 58), none, []⟩,
  ⟨some 60, .conv (.int .i64) (.tmp 59), none, []⟩,
  ⟨some 61, .bin .mul (.tmp 60) (.const (.int .i64 131)), none, []⟩,
  ⟨some 62, .mv (.tmp 0), none, []⟩,
  ⟨some 63, .nilck (.tmp 62), none, [0]⟩,
  ⟨some 64, .fadr 0 (.tmp 63), none, [0]⟩,
  ⟨some 65, .load 1 false false (.tmp 64), none, [0]⟩,
  ⟨some 66, .mv (.tmp 5), none, []⟩,
  ⟨some 67, .bin .mul (.tmp 66) (.const (.int .i64 7)), none, []⟩,
  ⟨some 68, .bin .add (.tmp 67) (.const (.int .i64 3)), none, []⟩,
  ⟨some 69, .mv (.tmp 0), none, []⟩,
  ⟨some 70, .nilck (.tmp 69), none, [0]⟩,
  ⟨some 71, .fadr 0 (.tmp 70), none, [0]⟩,
  ⟨some 72, .load 1 false false (.tmp 71), none, [0]⟩,
  ⟨some 73, .len (.tmp 72), none, []⟩,
  ⟨some 74, .bin .rem (.tmp 68) (.tmp 73), none, []⟩,
  ⟨some 75, .iadr 1 (.tmp 65) (.tmp 74), none, []⟩,
  ⟨some 76, .load 1 false false (.tmp 75), none, []⟩,
  ⟨some 77, .conv (.int .i64) (.tmp 76), none, []⟩,
  ⟨some 78, .bin .mul (.tmp 77) (.const (.int .i64 1117)), none, []⟩,
  ⟨some 79, .bin .add (.tmp 61) (.tmp 78), none, []⟩,
  ⟨some 80, .mv (.tmp 5), none, []⟩,
  ⟨some 81, .bin .mul (.tmp 80) (.const (.int .i64 29)), none, []⟩,
  ⟨some 82, .bin .add (.tmp 79) (.tmp 81), none, []⟩,
  ⟨some 83, .mv (.tmp 5), none, []⟩,
  ⟨some 84, .mv (.tmp 0), none, []⟩,
  ⟨some 85, .nilck (.tmp 84), none, [0]⟩,
  ⟨some 86, .fadr 0 (.tmp 85), none, [0]⟩,
  ⟨some 87, .load 1 false false (.tmp 86), none, [0]⟩,
  ⟨some 88, .len (.tmp 87), none, []⟩,
  ⟨some 89, .bin .quo (.tmp 83) (.tmp 88), none, []⟩,
  ⟨some 90, .bin .mul (.tmp 89) (.const (.int .i64 53)), none, []⟩,
  ⟨some 91, .bin .add (.tmp 82) (.tmp 90), none, []⟩,
  ⟨some 6, .mv (.tmp 91), none, []⟩])
 (.seq (.region false [⟨some 92, .mv (.tmp 6), none, []⟩,
  ⟨some 93, .mv (.tmp 6), none, []⟩,
  ⟨some 94, .bin .quo (.tmp 93) (.const (.int .i64 64)), none, []⟩,
  ⟨some 95, .bin .xor (.tmp 92) (.tmp 94), none, []⟩,
  ⟨some 6, .mv (.tmp 95), none, []⟩])
 (.seq (.region false [⟨some 96, .mv (.tmp 6), none, []⟩,
  ⟨some 97, .mv (.tmp 1), none, []⟩,
  ⟨some 98, .bin .rem (.tmp 96) (.tmp 97), none, []⟩,
  ⟨some 4, .mv (.tmp 98), none, []⟩])
 .ret)))))))) }
noncomputable def p600 : ProcT := { kind := .fn, ins := [0], bins := [0], res := [.tmp 2], code := (.seq (.region false [⟨some 2, .mv (.const (.int .i64 0)), none, []⟩])
 (.seq (.region false [⟨some 3, .mv (.tmp 0), none, []⟩,
  ⟨some 4, .call 200 0 [.tmp 3, .const (.int .i64 12)], none, []⟩,
  ⟨some 5, .bin .add (.const (.int .i64 1)) (.tmp 4), none, []⟩,
  ⟨some 2, .mv (.tmp 5), none, []⟩])
 .ret)) }
noncomputable def p1000 : ProcT := { kind := .fn, ins := [0], bins := [], res := [.tmp 2], code := (.seq (.region false [⟨some 2, .mv (.const (.bool false)), none, []⟩])
 (.seq (.region false [⟨some 3, .mv (.tmp 0), none, []⟩,
  ⟨some 4, .bin .geq (.tmp 3) (.const (.int .i64 1)), none, []⟩,
  ⟨some 5, .mv (.tmp 4), none, []⟩,
  ⟨some 6, .mv (.tmp 0), some (5, true), []⟩,
  ⟨some 7, .bin .leq (.tmp 6) (.const (.int .i64 12)), some (5, true), []⟩,
  ⟨some 8, .pick (.tmp 5) (.tmp 7) (.const (.bool false)), none, []⟩,
  ⟨some 2, .mv (.tmp 8), none, []⟩])
 .ret)) }
noncomputable def p1600 : ProcT := { kind := .fn, ins := [0, 1, 2], bins := [], res := [.tmp 6], code := (.seq (.region false [⟨some 6, .mv (.const (.bool false)), none, []⟩])
 (.seq (.region false [⟨some 7, .mv (.tmp 0), none, []⟩,
  ⟨some 8, .mv (.tmp 1), none, []⟩,
  ⟨some 9, .bin .geq (.tmp 7) (.tmp 8), none, []⟩,
  ⟨some 10, .mv (.tmp 9), none, []⟩,
  ⟨some 11, .mv (.tmp 0), some (10, true), []⟩,
  ⟨some 12, .mv (.tmp 2), some (10, true), []⟩,
  ⟨some 13, .bin .leq (.tmp 11) (.tmp 12), some (10, true), []⟩,
  ⟨some 14, .pick (.tmp 10) (.tmp 13) (.const (.bool false)), none, []⟩,
  ⟨some 6, .mv (.tmp 14), none, []⟩])
 .ret)) }
noncomputable def p1700 : ProcT := { kind := .fn, ins := [0], bins := [], res := [.tmp 2], code := (.seq (.region false [⟨some 2, .mv (.const (.bool false)), none, []⟩])
 (.seq (.region false [⟨some 3, .mv (.tmp 0), none, []⟩,
  ⟨some 4, .call 1600 0 [.tmp 3, .const (.int .i64 1), .const (.int .i64 12)], none, []⟩,
  ⟨some 2, .mv (.tmp 4), none, []⟩])
 .ret)) }
noncomputable def p3700 : ProcT := { kind := .fn, ins := [0], bins := [], res := [.tmp 2], code := (.seq (.region false [⟨some 2, .mv (.const (.int .i64 0)), none, []⟩])
 (.seq (.region false [⟨some 4, .mv (.tmp 0), none, []⟩,
  ⟨some 5, .bin .rem (.tmp 4) (.const (.int .i64 4294967296)), none, []⟩,
  ⟨some 3, .mv (.tmp 5), none, []⟩])
 (.seq (.seq (.region false [⟨some 6, .mv (.tmp 3), none, []⟩,
  ⟨some 7, .bin .gtr (.tmp 6) (.const (.int .i64 2147483647)), none, []⟩])
 (.cond (.tmp 7) (.seq (.region false [⟨some 8, .mv (.tmp 3), none, []⟩,
  ⟨some 9, .bin .sub (.tmp 8) (.const (.int .i64 4294967296)), none, []⟩,
  ⟨some 2, .mv (.tmp 9), none, []⟩])
 .ret) .skip))
 (.seq (.seq (.region false [⟨some 10, .mv (.tmp 3), none, []⟩,
  ⟨some 11, .bin .lss (.tmp 10) (.const (.int .i64 (-2147483648))), none, []⟩])
 (.cond (.tmp 11) (.seq (.region false [⟨some 12, .mv (.tmp 3), none, []⟩,
  ⟨some 13, .bin .add (.tmp 12) (.const (.int .i64 4294967296)), none, []⟩,
  ⟨some 2, .mv (.tmp 13), none, []⟩])
 .ret) .skip))
 (.seq (.region false [⟨some 14, .mv (.tmp 3), none, []⟩,
  ⟨some 2, .mv (.tmp 14), none, []⟩])
 .ret))))) }
noncomputable def p3800 : ProcT := { kind := .fn, ins := [0], bins := [0], res := [.tmp 2], code := (.seq (.region false [⟨some 2, .mv (.const (.int .i64 0)), none, []⟩])
 (.seq (.seq (.region false [⟨some 3, .mv (.tmp 0), none, []⟩,
  ⟨some 4, .call 200 0 [.tmp 3, .const (.int .i64 6)], none, []⟩])
 (.block 0 (.seq (.region false [⟨some 6, .bin .eql (.tmp 4) (.const (.int .i64 0)), none, []⟩,
  ⟨some 5, .mv (.tmp 6), none, []⟩])
 (.cond (.tmp 5) (.seq (.region false [⟨some 7, .buildS .full .int [.const (.int .i64 (-2147483648)), .const (.int .i64 2147483647), .const (.int .i64 (-1)), .const (.int .i64 0), .const (.int .i64 1), .const (.int .i64 (-2147483647)), .const (.int .i64 65536), .const (.int .i64 (-65536))], none, []⟩,
  ⟨some 8, .mv (.tmp 0), none, []⟩,
  ⟨some 9, .call 200 0 [.tmp 8, .const (.int .i64 8)], none, []⟩,
  ⟨some 10, .iadr 1 (.tmp 7) (.tmp 9), none, []⟩,
  ⟨some 11, .load 1 false false (.tmp 10), none, []⟩,
  ⟨some 2, .mv (.tmp 11), none, []⟩])
 .ret) (.seq (.region false [⟨some 13, .bin .eql (.tmp 4) (.const (.int .i64 1)), none, []⟩,
  ⟨some 12, .mv (.tmp 13), none, []⟩])
 (.cond (.tmp 12) (.seq (.region false [⟨some 14, .mv (.tmp 0), none, []⟩,
  ⟨some 15, .call 200 0 [.tmp 14, .const (.int .i64 256)], none, []⟩,
  ⟨some 16, .bin .mul (.tmp 15) (.const (.int .i64 65536)), none, []⟩,
  ⟨some 17, .mv (.tmp 0), none, []⟩,
  ⟨some 18, .call 200 0 [.tmp 17, .const (.int .i64 256)], none, []⟩,
  ⟨some 19, .bin .mul (.tmp 18) (.const (.int .i64 256)), none, []⟩,
  ⟨some 20, .bin .add (.tmp 16) (.tmp 19), none, []⟩,
  ⟨some 21, .mv (.tmp 0), none, []⟩,
  ⟨some 22, .call 200 0 [.tmp 21, .const (.int .i64 256)], none, []⟩,
  ⟨some 23, .bin .add (.tmp 20) (.tmp 22), none, []⟩,
  ⟨some 24, .mv (.tmp 0), none, []⟩,
  ⟨some 25, .call 200 0 [.tmp 24, .const (.int .i64 200)], none, []⟩,
  ⟨some 26, .bin .add (.const (.int .i64 1)) (.tmp 25), none, []⟩,
  ⟨some 27, .bin .mul (.tmp 23) (.tmp 26), none, []⟩,
  ⟨some 28, .call 3700 0 [.tmp 27], none, []⟩,
  ⟨some 2, .mv (.tmp 28), none, []⟩])
 .ret) (.seq (.region false [⟨some 30, .bin .eql (.tmp 4) (.const (.int .i64 2)), none, []⟩,
  ⟨some 29, .mv (.tmp 30), none, []⟩])
 (.cond (.tmp 29) (.seq (.region false [⟨some 31, .mv (.tmp 0), none, []⟩,
  ⟨some 32, .call 200 0 [.tmp 31, .const (.int .i64 200)], none, []⟩,
  ⟨some 33, .bin .sub (.const (.int .i64 0)) (.tmp 32), none, []⟩,
  ⟨some 2, .mv (.tmp 33), none, []⟩])
 .ret) .skip))))))))
 (.seq (.region false [⟨some 34, .mv (.tmp 0), none, []⟩,
  ⟨some 35, .call 200 0 [.tmp 34, .const (.int .i64 20)], none, []⟩,
  ⟨some 2, .mv (.tmp 35), none, []⟩])
 .ret))) }
noncomputable def p5000 : ProcT := { kind := .fn, ins := [0], bins := [], res := [.tmp 2], code := (.seq (.region false [⟨some 2, .mv (.const (.bool false)), none, []⟩])
 (.seq (.region false [⟨some 3, .mv (.tmp 0), none, []⟩,
  ⟨some 4, .bin .geq (.tmp 3) (.const (.int .i64 (-2147483648))), none, []⟩,
  ⟨some 5, .mv (.tmp 4), none, []⟩,
  ⟨some 6, .mv (.tmp 0), some (5, true), []⟩,
  ⟨some 7, .bin .leq (.tmp 6) (.const (.int .i64 2147483647)), some (5, true), []⟩,
  ⟨some 8, .pick (.tmp 5) (.tmp 7) (.const (.bool false)), none, []⟩,
  ⟨some 2, .mv (.tmp 8), none, []⟩])
 .ret)) }
noncomputable def p6400 : ProcT := { kind := .fn, ins := [0], bins := [], res := [.tmp 2], code := (.seq (.region false [⟨some 2, .mv (.const (.bool false)), none, []⟩])
 (.seq (.region false [⟨some 3, .mv (.tmp 0), none, []⟩,
  ⟨some 4, .call 1600 0 [.tmp 3, .const (.int .i64 (-2147483648)), .const (.int .i64 2147483647)], none, []⟩,
  ⟨some 2, .mv (.tmp 4), none, []⟩])
 .ret)) }
noncomputable def p11800 : ProcT := { kind := .fn, ins := [0, 1], bins := [], res := [.tmp 4], code := (.seq (.region false [⟨some 4, .mv (.const (.bool false)), none, []⟩])
 (.seq (.seq (.region false [⟨some 5, .mv (.tmp 1), none, []⟩])
 (.cond (.tmp 5) (.seq (.region false [⟨some 6, .mv (.tmp 0), none, []⟩,
  ⟨some 7, .call 1600 0 [.tmp 6, .const (.int .i64 0), .const (.int .i64 11)], none, []⟩,
  ⟨some 4, .mv (.tmp 7), none, []⟩])
 .ret) .skip))
 (.seq (.region false [⟨some 8, .mv (.tmp 0), none, []⟩,
  ⟨some 9, .bin .eql (.tmp 8) (.const (.int .i64 0)), none, []⟩,
  ⟨some 4, .mv (.tmp 9), none, []⟩])
 .ret))) }
noncomputable def p11900 : ProcT := { kind := .fn, ins := [0, 1, 2, 3], bins := [], res := [.tmp 8], code := (.seq (.region false [⟨some 4, .box 100 (.tmp 0), none, []⟩,
  ⟨some 8, .mv (.const (.bool false)), none, []⟩])
 (.seq (.region false [⟨some 9, .fadr 1 (.tmp 4), none, []⟩,
  ⟨some 10, .load 1 false false (.tmp 9), none, []⟩,
  ⟨some 11, .mv (.tmp 1), none, []⟩,
  ⟨some 12, .call 11800 0 [.tmp 10, .tmp 11], none, []⟩,
  ⟨some 13, .mv (.tmp 12), none, []⟩,
  ⟨some 14, .fadr 2 (.tmp 4), some (13, true), []⟩,
  ⟨some 15, .load 1 false false (.tmp 14), some (13, true), []⟩,
  ⟨some 16, .mv (.tmp 2), some (13, true), []⟩,
  ⟨some 17, .call 11800 0 [.tmp 15, .tmp 16], some (13, true), []⟩,
  ⟨some 18, .pick (.tmp 13) (.tmp 17) (.const (.bool false)), none, []⟩,
  ⟨some 19, .mv (.tmp 18), none, []⟩,
  ⟨some 20, .fadr 3 (.tmp 4), some (19, true), []⟩,
  ⟨some 21, .load 1 false false (.tmp 20), some (19, true), []⟩,
  ⟨some 22, .mv (.tmp 3), some (19, true), []⟩,
  ⟨some 23, .call 11800 0 [.tmp 21, .tmp 22], some (19, true), []⟩,
  ⟨some 24, .pick (.tmp 19) (.tmp 23) (.const (.bool false)), none, []⟩,
  ⟨some 8, .mv (.tmp 24), none, []⟩])
 .ret)) }
noncomputable def p12000 : ProcT := { kind := .fn, ins := [0, 1], bins := [], res := [.tmp 4], code := (.seq (.region false [⟨some 2, .box 100 (.tmp 0), none, []⟩,
  ⟨some 4, .mv (.const (.bool false)), none, []⟩])
 (.seq (.seq (.region false [⟨some 5, .fadr 0 (.tmp 2), none, []⟩,
  ⟨some 6, .load 1 false false (.tmp 5), none, []⟩])
 (.block 0 (.seq (.region false [⟨some 8, .bin .eql (.tmp 6) (.const (.int .i64 1)), none, []⟩,
  ⟨some 7, .mv (.tmp 8), none, []⟩])
 (.cond (.tmp 7) (.seq (.region false [⟨some 9, .load 5 true false (.tmp 2), none, []⟩,
  ⟨some 10, .call 11900 0 [.tmp 9, .const (.bool true), .const (.bool false), .const (.bool false)], none, []⟩,
  ⟨some 11, .mv (.tmp 10), none, []⟩,
  ⟨some 12, .fadr 4 (.tmp 2), some (11, true), []⟩,
  ⟨some 13, .load 1 false false (.tmp 12), some (11, true), []⟩,
  ⟨some 14, .call 6400 0 [.tmp 13], some (11, true), []⟩,
  ⟨some 15, .pick (.tmp 11) (.tmp 14) (.const (.bool false)), none, []⟩,
  ⟨some 4, .mv (.tmp 15), none, []⟩])
 .ret) (.seq (.region false [⟨some 17, .bin .eql (.tmp 6) (.const (.int .i64 2)), none, []⟩,
  ⟨some 16, .mv (.tmp 17), none, []⟩])
 (.cond (.tmp 16) (.seq (.region false [⟨some 18, .load 5 true false (.tmp 2), none, []⟩,
  ⟨some 19, .call 11900 0 [.tmp 18, .const (.bool true), .const (.bool true), .const (.bool false)], none, []⟩,
  ⟨some 20, .mv (.tmp 19), none, []⟩,
  ⟨some 21, .fadr 4 (.tmp 2), some (20, true), []⟩,
  ⟨some 22, .load 1 false false (.tmp 21), some (20, true), []⟩,
  ⟨some 23, .bin .eql (.tmp 22) (.const (.int .i64 0)), some (20, true), []⟩,
  ⟨some 24, .pick (.tmp 20) (.tmp 23) (.const (.bool false)), none, []⟩,
  ⟨some 4, .mv (.tmp 24), none, []⟩])
 .ret) (.seq (.region false [⟨some 26, .bin .eql (.tmp 6) (.const (.int .i64 3)), none, []⟩,
  ⟨some 25, .mv (.tmp 26), none, []⟩])
 (.cond (.tmp 25) (.seq (.region false [⟨some 27, .load 5 true false (.tmp 2), none, []⟩,
  ⟨some 28, .call 11900 0 [.tmp 27, .const (.bool true), .const (.bool true), .const (.bool true)], none, []⟩,
  ⟨some 29, .mv (.tmp 28), none, []⟩,
  ⟨some 30, .fadr 4 (.tmp 2), some (29, true), []⟩,
  ⟨some 31, .load 1 false false (.tmp 30), some (29, true), []⟩,
  ⟨some 32, .call 1700 0 [.tmp 31], some (29, true), []⟩,
  ⟨some 33, .pick (.tmp 29) (.tmp 32) (.const (.bool false)), none, []⟩,
  ⟨some 4, .mv (.tmp 33), none, []⟩])
 .ret) (.seq (.region false [⟨some 35, .bin .eql (.tmp 6) (.const (.int .i64 4)), none, []⟩,
  ⟨some 34, .mv (.tmp 35), none, []⟩])
 (.cond (.tmp 34) (.seq (.region false [⟨some 36, .load 5 true false (.tmp 2), none, []⟩,
  ⟨some 37, .call 11900 0 [.tmp 36, .const (.bool false), .const (.bool false), .const (.bool false)], none, []⟩,
  ⟨some 38, .mv (.tmp 37), none, []⟩,
  ⟨some 39, .fadr 4 (.tmp 2), some (38, true), []⟩,
  ⟨some 40, .load 1 false false (.tmp 39), some (38, true), []⟩,
  ⟨some 41, .bin .geq (.tmp 40) (.const (.int .i64 0)), some (38, true), []⟩,
  ⟨some 42, .pick (.tmp 38) (.tmp 41) (.const (.bool false)), none, []⟩,
  ⟨some 43, .mv (.tmp 42), none, []⟩,
  ⟨some 44, .fadr 4 (.tmp 2), some (43, true), []⟩,
  ⟨some 45, .load 1 false false (.tmp 44), some (43, true), []⟩,
  ⟨some 46, .mv (.tmp 1), some (43, true), []⟩,
  ⟨some 47, .bin .lss (.tmp 45) (.tmp 46), some (43, true), []⟩,
  ⟨some 48, .pick (.tmp 43) (.tmp 47) (.const (.bool false)), none, []⟩,
  ⟨some 4, .mv (.tmp 48), none, []⟩])
 .ret) (.seq (.region false [⟨some 50, .bin .eql (.tmp 6) (.const (.int .i64 5)), none, []⟩,
  ⟨some 49, .mv (.tmp 50), none, []⟩])
 (.cond (.tmp 49) (.seq (.region false [⟨some 51, .load 5 true false (.tmp 2), none, []⟩,
  ⟨some 52, .call 11900 0 [.tmp 51, .const (.bool false), .const (.bool true), .const (.bool false)], none, []⟩,
  ⟨some 53, .mv (.tmp 52), none, []⟩,
  ⟨some 54, .fadr 4 (.tmp 2), some (53, true), []⟩,
  ⟨some 55, .load 1 false false (.tmp 54), some (53, true), []⟩,
  ⟨some 56, .bin .geq (.tmp 55) (.const (.int .i64 0)), some (53, true), []⟩,
  ⟨some 57, .pick (.tmp 53) (.tmp 56) (.const (.bool false)), none, []⟩,
  ⟨some 58, .mv (.tmp 57), none, []⟩,
  ⟨some 59, .fadr 4 (.tmp 2), some (58, true), []⟩,
  ⟨some 60, .load 1 false false (.tmp 59), some (58, true), []⟩,
  ⟨some 61, .mv (.tmp 1), some (58, true), []⟩,
  ⟨some 62, .bin .lss (.tmp 60) (.tmp 61), some (58, true), []⟩,
  ⟨some 63, .pick (.tmp 58) (.tmp 62) (.const (.bool false)), none, []⟩,
  ⟨some 4, .mv (.tmp 63), none, []⟩])
 .ret) (.seq (.region false [⟨some 65, .bin .eql (.tmp 6) (.const (.int .i64 6)), none, []⟩,
  ⟨some 64, .mv (.tmp 65), none, []⟩])
 (.cond (.tmp 64) (.seq (.region false [⟨some 66, .load 5 true false (.tmp 2), none, []⟩,
  ⟨some 67, .call 11900 0 [.tmp 66, .const (.bool false), .const (.bool true), .const (.bool false)], none, []⟩,
  ⟨some 68, .mv (.tmp 67), none, []⟩,
  ⟨some 69, .fadr 4 (.tmp 2), some (68, true), []⟩,
  ⟨some 70, .load 1 false false (.tmp 69), some (68, true), []⟩,
  ⟨some 71, .call 1600 0 [.tmp 70, .const (.int .i64 0), .const (.int .i64 2)], some (68, true), []⟩,
  ⟨some 72, .pick (.tmp 68) (.tmp 71) (.const (.bool false)), none, []⟩,
  ⟨some 4, .mv (.tmp 72), none, []⟩])
 .ret) (.seq (.region false [⟨some 74, .bin .eql (.tmp 6) (.const (.int .i64 7)), none, []⟩,
  ⟨some 73, .mv (.tmp 74), none, []⟩])
 (.cond (.tmp 73) (.seq (.region false [⟨some 75, .load 5 true false (.tmp 2), none, []⟩,
  ⟨some 76, .call 11900 0 [.tmp 75, .const (.bool true), .const (.bool false), .const (.bool false)], none, []⟩,
  ⟨some 77, .mv (.tmp 76), none, []⟩,
  ⟨some 78, .fadr 4 (.tmp 2), some (77, true), []⟩,
  ⟨some 79, .load 1 false false (.tmp 78), some (77, true), []⟩,
  ⟨some 80, .call 1600 0 [.tmp 79, .const (.int .i64 0), .const (.int .i64 2)], some (77, true), []⟩,
  ⟨some 81, .pick (.tmp 77) (.tmp 80) (.const (.bool false)), none, []⟩,
  ⟨some 4, .mv (.tmp 81), none, []⟩])
 .ret) (.seq (.region false [⟨some 83, .bin .eql (.tmp 6) (.const (.int .i64 9)), none, []⟩,
  ⟨some 82, .mv (.tmp 83), none, []⟩])
 (.cond (.tmp 82) (.seq (.region false [⟨some 84, .load 5 true false (.tmp 2), none, []⟩,
  ⟨some 85, .call 11900 0 [.tmp 84, .const (.bool false), .const (.bool true), .const (.bool false)], none, []⟩,
  ⟨some 86, .mv (.tmp 85), none, []⟩,
  ⟨some 87, .fadr 4 (.tmp 2), some (86, true), []⟩,
  ⟨some 88, .load 1 false false (.tmp 87), some (86, true), []⟩,
  ⟨some 89, .bin .eql (.tmp 88) (.const (.int .i64 0)), some (86, true), []⟩,
  ⟨some 90, .pick (.tmp 86) (.tmp 89) (.const (.bool false)), none, []⟩,
  ⟨some 4, .mv (.tmp 90), none, []⟩])
 .ret) (.seq (.seq (.region false [⟨some 92, .bin .eql (.tmp 6) (.const (.int .i64 8)), none, []⟩,
  ⟨some 91, .mv (.tmp 92), none, []⟩])
 (.cond (.tmp 91) .skip (.region false [⟨some 93, .bin .eql (.tmp 6) (.const (.int .i64 10)), none, []⟩,
  ⟨some 91, .mv (.tmp 93), none, []⟩])))
 (.cond (.tmp 91) (.seq (.region false [⟨some 94, .load 5 true false (.tmp 2), none, []⟩,
  ⟨some 95, .call 11900 0 [.tmp 94, .const (.bool false), .const (.bool false), .const (.bool false)], none, []⟩,
  ⟨some 96, .mv (.tmp 95), none, []⟩,
  ⟨some 97, .fadr 4 (.tmp 2), some (96, true), []⟩,
  ⟨some 98, .load 1 false false (.tmp 97), some (96, true), []⟩,
  ⟨some 99, .bin .eql (.tmp 98) (.const (.int .i64 0)), some (96, true), []⟩,
  ⟨some 100, .pick (.tmp 96) (.tmp 99) (.const (.bool false)), none, []⟩,
  ⟨some 4, .mv (.tmp 100), none, []⟩])
 .ret) .skip))))))))))))))))))))
 (.seq (.region false [⟨some 4, .mv (.const (.bool false)), none, []⟩])
 .ret))) }
noncomputable def p12200 : ProcT := { kind := .fn, ins := [0], bins := [], res := [.tmp 2], code := (.seq (.region false [⟨some 2, .mv (.const (.bool false)), none, []⟩])
 (.seq (.region false [⟨some 3, .mv (.tmp 0), none, []⟩,
  ⟨some 4, .bin .geq (.tmp 3) (.const (.int .i64 0)), none, []⟩,
  ⟨some 5, .mv (.tmp 4), none, []⟩,
  ⟨some 6, .mv (.tmp 0), some (5, true), []⟩,
  ⟨some 7, .bin .lss (.tmp 6) (.const (.int .i64 12)), some (5, true), []⟩,
  ⟨some 8, .pick (.tmp 5) (.tmp 7) (.const (.bool false)), none, []⟩,
  ⟨some 2, .mv (.tmp 8), none, []⟩])
 .ret)) }
noncomputable def p12300 : ProcT := { kind := .fn, ins := [0, 1], bins := [], res := [.tmp 4], code := (.seq (.region false [⟨some 2, .box 100 (.tmp 0), none, []⟩,
  ⟨some 4, .mv (.const (.bool false)), none, []⟩])
 (.seq (.region true [⟨some 9, .fadr 1 (.tmp 2), none, [100]⟩,
  ⟨some 10, .load 1 false false (.tmp 9), none, [100]⟩,
  ⟨some 11, .call 12200 0 [.tmp 10], none, []⟩,
  ⟨some 12, .fadr 2 (.tmp 2), none, [100]⟩,
  ⟨some 13, .load 1 false false (.tmp 12), none, [100]⟩,
  ⟨some 14, .call 12200 0 [.tmp 13], none, []⟩,
  ⟨some 15, .fadr 3 (.tmp 2), none, [100]⟩,
  ⟨some 16, .load 1 false false (.tmp 15), none, [100]⟩,
  ⟨some 17, .call 12200 0 [.tmp 16], none, []⟩,
  ⟨some 18, .fadr 4 (.tmp 2), none, [100]⟩,
  ⟨some 19, .load 1 false false (.tmp 18), none, [100]⟩,
  ⟨some 5, .mv (.tmp 11), none, []⟩,
  ⟨some 6, .mv (.tmp 14), none, []⟩,
  ⟨some 7, .mv (.tmp 17), none, []⟩,
  ⟨some 8, .mv (.tmp 19), none, []⟩])
 (.seq (.seq (.region false [⟨some 20, .fadr 0 (.tmp 2), none, []⟩,
  ⟨some 21, .load 1 false false (.tmp 20), none, []⟩])
 (.block 0 (.seq (.region false [⟨some 23, .bin .eql (.tmp 21) (.const (.int .i64 1)), none, []⟩,
  ⟨some 22, .mv (.tmp 23), none, []⟩])
 (.cond (.tmp 22) (.seq (.region false [⟨some 24, .load 5 true false (.tmp 2), none, []⟩,
  ⟨some 25, .fadr 1 (.tmp 2), none, []⟩,
  ⟨some 26, .load 1 false false (.tmp 25), none, []⟩,
  ⟨some 27, .mv (.tmp 8), none, []⟩,
  ⟨some 28, .build [.int .i64 0, .int .i64 0, .int .i64 0, .int .i64 0, .int .i64 0] [(0, 1, .const (.int .i64 1)), (1, 1, .tmp 26), (4, 1, .tmp 27)], none, []⟩,
  ⟨some 29, .eqs false 5 (.tmp 24) (.tmp 28), none, []⟩,
  ⟨some 30, .mv (.tmp 29), none, []⟩,
  ⟨some 31, .mv (.tmp 5), some (30, true), []⟩,
  ⟨some 32, .pick (.tmp 30) (.tmp 31) (.const (.bool false)), none, []⟩,
  ⟨some 33, .mv (.tmp 32), none, []⟩,
  ⟨some 34, .mv (.tmp 8), some (33, true), []⟩,
  ⟨some 35, .call 5000 0 [.tmp 34], some (33, true), []⟩,
  ⟨some 36, .pick (.tmp 33) (.tmp 35) (.const (.bool false)), none, []⟩,
  ⟨some 4, .mv (.tmp 36), none, []⟩])
 .ret) (.seq (.region false [⟨some 38, .bin .eql (.tmp 21) (.const (.int .i64 2)), none, []⟩,
  ⟨some 37, .mv (.tmp 38), none, []⟩])
 (.cond (.tmp 37) (.seq (.region false [⟨some 39, .load 5 true false (.tmp 2), none, []⟩,
  ⟨some 40, .fadr 1 (.tmp 2), none, []⟩,
  ⟨some 41, .load 1 false false (.tmp 40), none, []⟩,
  ⟨some 42, .fadr 2 (.tmp 2), none, []⟩,
  ⟨some 43, .load 1 false false (.tmp 42), none, []⟩,
  ⟨some 44, .build [.int .i64 0, .int .i64 0, .int .i64 0, .int .i64 0, .int .i64 0] [(0, 1, .const (.int .i64 2)), (1, 1, .tmp 41), (2, 1, .tmp 43)], none, []⟩,
  ⟨some 45, .eqs false 5 (.tmp 39) (.tmp 44), none, []⟩,
  ⟨some 46, .mv (.tmp 45), none, []⟩,
  ⟨some 47, .mv (.tmp 5), some (46, true), []⟩,
  ⟨some 48, .pick (.tmp 46) (.tmp 47) (.const (.bool false)), none, []⟩,
  ⟨some 49, .mv (.tmp 48), none, []⟩,
  ⟨some 50, .mv (.tmp 6), some (49, true), []⟩,
  ⟨some 51, .pick (.tmp 49) (.tmp 50) (.const (.bool false)), none, []⟩,
  ⟨some 4, .mv (.tmp 51), none, []⟩])
 .ret) (.seq (.region false [⟨some 53, .bin .eql (.tmp 21) (.const (.int .i64 3)), none, []⟩,
  ⟨some 52, .mv (.tmp 53), none, []⟩])
 (.cond (.tmp 52) (.seq (.region false [⟨some 54, .mv (.tmp 5), none, []⟩,
  ⟨some 55, .mv (.tmp 54), none, []⟩,
  ⟨some 56, .mv (.tmp 6), some (55, true), []⟩,
  ⟨some 57, .pick (.tmp 55) (.tmp 56) (.const (.bool false)), none, []⟩,
  ⟨some 58, .mv (.tmp 57), none, []⟩,
  ⟨some 59, .mv (.tmp 7), some (58, true), []⟩,
  ⟨some 60, .pick (.tmp 58) (.tmp 59) (.const (.bool false)), none, []⟩,
  ⟨some 61, .mv (.tmp 60), none, []⟩,
  ⟨some 62, .mv (.tmp 8), some (61, true), []⟩,
  ⟨some 63, .call 1000 0 [.tmp 62], some (61, true), []⟩,
  ⟨some 64, .pick (.tmp 61) (.tmp 63) (.const (.bool false)), none, []⟩,
  ⟨some 4, .mv (.tmp 64), none, []⟩])
 .ret) (.seq (.region false [⟨some 66, .bin .eql (.tmp 21) (.const (.int .i64 4)), none, []⟩,
  ⟨some 65, .mv (.tmp 66), none, []⟩])
 (.cond (.tmp 65) (.seq (.region false [⟨some 67, .load 5 true false (.tmp 2), none, []⟩,
  ⟨some 68, .mv (.tmp 8), none, []⟩,
  ⟨some 69, .build [.int .i64 0, .int .i64 0, .int .i64 0, .int .i64 0, .int .i64 0] [(0, 1, .const (.int .i64 4)), (4, 1, .tmp 68)], none, []⟩,
  ⟨some 70, .eqs false 5 (.tmp 67) (.tmp 69), none, []⟩,
  ⟨some 71, .mv (.tmp 70), none, []⟩,
  ⟨some 72, .mv (.tmp 8), some (71, true), []⟩,
  ⟨some 73, .bin .geq (.tmp 72) (.const (.int .i64 0)), some (71, true), []⟩,
  ⟨some 74, .pick (.tmp 71) (.tmp 73) (.const (.bool false)), none, []⟩,
  ⟨some 75, .mv (.tmp 74), none, []⟩,
  ⟨some 76, .mv (.tmp 8), some (75, true), []⟩,
  ⟨some 77, .mv (.tmp 1), some (75, true), []⟩,
  ⟨some 78, .bin .lss (.tmp 76) (.tmp 77), some (75, true), []⟩,
  ⟨some 79, .pick (.tmp 75) (.tmp 78) (.const (.bool false)), none, []⟩,
  ⟨some 4, .mv (.tmp 79), none, []⟩])
 .ret) (.seq (.region false [⟨some 81, .bin .eql (.tmp 21) (.const (.int .i64 5)), none, []⟩,
  ⟨some 80, .mv (.tmp 81), none, []⟩])
 (.cond (.tmp 80) (.seq (.region false [⟨some 82, .load 5 true false (.tmp 2), none, []⟩,
  ⟨some 83, .fadr 2 (.tmp 2), none, []⟩,
  ⟨some 84, .load 1 false false (.tmp 83), none, []⟩,
  ⟨some 85, .mv (.tmp 8), none, []⟩,
  ⟨some 86, .build [.int .i64 0, .int .i64 0, .int .i64 0, .int .i64 0, .int .i64 0] [(0, 1, .const (.int .i64 5)), (2, 1, .tmp 84), (4, 1, .tmp 85)], none, []⟩,
  ⟨some 87, .eqs false 5 (.tmp 82) (.tmp 86), none, []⟩,
  ⟨some 88, .mv (.tmp 87), none, []⟩,
  ⟨some 89, .mv (.tmp 6), some (88, true), []⟩,
  ⟨some 90, .pick (.tmp 88) (.tmp 89) (.const (.bool false)), none, []⟩,
  ⟨some 91, .mv (.tmp 90), none, []⟩,
  ⟨some 92, .mv (.tmp 8), some (91, true), []⟩,
  ⟨some 93, .bin .geq (.tmp 92) (.const (.int .i64 0)), some (91, true), []⟩,
  ⟨some 94, .pick (.tmp 91) (.tmp 93) (.const (.bool false)), none, []⟩,
  ⟨some 95, .mv (.tmp 94), none, []⟩,
  ⟨some 96, .mv (.tmp 8), some (95, true), []⟩,
  ⟨some 97, .mv (.tmp 1), some (95, true), []⟩,
  ⟨some 98, .bin .lss (.tmp 96) (.tmp 97), some (95, true), []⟩,
  ⟨some 99, .pick (.tmp 95) (.tmp 98) (.const (.bool false)), none, []⟩,
  ⟨some 4, .mv (.tmp 99), none, []⟩])
 .ret) (.seq (.region false [⟨some 101, .bin .eql (.tmp 21) (.const (.int .i64 6)), none, []⟩,
  ⟨some 100, .mv (.tmp 101), none, []⟩])
 (.cond (.tmp 100) (.seq (.region false [⟨some 102, .load 5 true false (.tmp 2), none, []⟩,
  ⟨some 103, .fadr 2 (.tmp 2), none, []⟩,
  ⟨some 104, .load 1 false false (.tmp 103), none, []⟩,
  ⟨some 105, .mv (.tmp 8), none, []⟩,
  ⟨some 106, .build [.int .i64 0, .int .i64 0, .int .i64 0, .int .i64 0, .int .i64 0] [(0, 1, .const (.int .i64 6)), (2, 1, .tmp 104), (4, 1, .tmp 105)], none, []⟩,
  ⟨some 107, .eqs false 5 (.tmp 102) (.tmp 106), none, []⟩,
  ⟨some 108, .mv (.tmp 107), none, []⟩,
  ⟨some 109, .mv (.tmp 6), some (108, true), []⟩,
  ⟨some 110, .pick (.tmp 108) (.tmp 109) (.const (.bool false)), none, []⟩,
  ⟨some 111, .mv (.tmp 110), none, []⟩,
  ⟨some 112, .mv (.tmp 8), some (111, true), []⟩,
  ⟨some 113, .bin .geq (.tmp 112) (.const (.int .i64 0)), some (111, true), []⟩,
  ⟨some 114, .pick (.tmp 111) (.tmp 113) (.const (.bool false)), none, []⟩,
  ⟨some 115, .mv (.tmp 114), none, []⟩,
  ⟨some 116, .mv (.tmp 8), some (115, true), []⟩,
  ⟨some 117, .bin .lss (.tmp 116) (.const (.int .i64 3)), some (115, true), []⟩,
  ⟨some 118, .pick (.tmp 115) (.tmp 117) (.const (.bool false)), none, []⟩,
  ⟨some 4, .mv (.tmp 118), none, []⟩])
 .ret) (.seq (.region false [⟨some 120, .bin .eql (.tmp 21) (.const (.int .i64 7)), none, []⟩,
  ⟨some 119, .mv (.tmp 120), none, []⟩])
 (.cond (.tmp 119) (.seq (.region false [⟨some 121, .load 5 true false (.tmp 2), none, []⟩,
  ⟨some 122, .fadr 1 (.tmp 2), none, []⟩,
  ⟨some 123, .load 1 false false (.tmp 122), none, []⟩,
  ⟨some 124, .mv (.tmp 8), none, []⟩,
  ⟨some 125, .build [.int .i64 0, .int .i64 0, .int .i64 0, .int .i64 0, .int .i64 0] [(0, 1, .const (.int .i64 7)), (1, 1, .tmp 123), (4, 1, .tmp 124)], none, []⟩,
  ⟨some 126, .eqs false 5 (.tmp 121) (.tmp 125), none, []⟩,
  ⟨some 127, .mv (.tmp 126), none, []⟩,
  ⟨some 128, .mv (.tmp 5), some (127, true), []⟩,
  ⟨some 129, .pick (.tmp 127) (.tmp 128) (.const (.bool false)), none, []⟩,
  ⟨some 130, .mv (.tmp 129), none, []⟩,
  ⟨some 131, .mv (.tmp 8), some (130, true), []⟩,
  ⟨some 132, .bin .geq (.tmp 131) (.const (.int .i64 0)), some (130, true), []⟩,
  ⟨some 133, .pick (.tmp 130) (.tmp 132) (.const (.bool false)), none, []⟩,
  ⟨some 134, .mv (.tmp 133), none, []⟩,
  ⟨some 135, .mv (.tmp 8), some (134, true), []⟩,
  ⟨some 136, .bin .lss (.tmp 135) (.const (.int .i64 3)), some (134, true), []⟩,
  ⟨some 137, .pick (.tmp 134) (.tmp 136) (.const (.bool false)), none, []⟩,
  ⟨some 4, .mv (.tmp 137), none, []⟩])
 .ret) (.seq (.region false [⟨some 139, .bin .eql (.tmp 21) (.const (.int .i64 9)), none, []⟩,
  ⟨some 138, .mv (.tmp 139), none, []⟩])
 (.cond (.tmp 138) (.seq (.region false [⟨some 140, .load 5 true false (.tmp 2), none, []⟩,
  ⟨some 141, .fadr 2 (.tmp 2), none, []⟩,
  ⟨some 142, .load 1 false false (.tmp 141), none, []⟩,
  ⟨some 143, .build [.int .i64 0, .int .i64 0, .int .i64 0, .int .i64 0, .int .i64 0] [(0, 1, .const (.int .i64 9)), (2, 1, .tmp 142)], none, []⟩,
  ⟨some 144, .eqs false 5 (.tmp 140) (.tmp 143), none, []⟩,
  ⟨some 145, .mv (.tmp 144), none, []⟩,
  ⟨some 146, .mv (.tmp 6), some (145, true), []⟩,
  ⟨some 147, .pick (.tmp 145) (.tmp 146) (.const (.bool false)), none, []⟩,
  ⟨some 4, .mv (.tmp 147), none, []⟩])
 .ret) (.seq (.seq (.region false [⟨some 149, .bin .eql (.tmp 21) (.const (.int .i64 8)), none, []⟩,
  ⟨some 148, .mv (.tmp 149), none, []⟩])
 (.cond (.tmp 148) .skip (.region false [⟨some 150, .bin .eql (.tmp 21) (.const (.int .i64 10)), none, []⟩,
  ⟨some 148, .mv (.tmp 150), none, []⟩])))
 (.cond (.tmp 148) (.seq (.region false [⟨some 151, .load 5 true false (.tmp 2), none, []⟩,
  ⟨some 152, .fadr 0 (.tmp 2), none, []⟩,
  ⟨some 153, .load 1 false false (.tmp 152), none, []⟩,
  ⟨some 154, .build [.int .i64 0, .int .i64 0, .int .i64 0, .int .i64 0, .int .i64 0] [(0, 1, .tmp 153)], none, []⟩,
  ⟨some 155, .eqs false 5 (.tmp 151) (.tmp 154), none, []⟩,
  ⟨some 4, .mv (.tmp 155), none, []⟩])
 .ret) .skip))))))))))))))))))))
 (.seq (.region false [⟨some 4, .mv (.const (.bool false)), none, []⟩])
 .ret)))) }
noncomputable def p15300 : ProcT := { kind := .fn, ins := [0], bins := [0], res := [.tmp 2], code := (.seq (.region false [⟨some 2, .mv (.const (.int .i64 0)), none, []⟩])
 (.seq (.region false [⟨some 3, .mv (.tmp 0), none, []⟩,
  ⟨some 4, .call 200 0 [.tmp 3, .const (.int .i64 6)], none, []⟩,
  ⟨some 2, .mv (.tmp 4), none, []⟩])
 .ret)) }
noncomputable def p15400 : ProcT := { kind := .fn, ins := [0, 1], bins := [0], res := [.cell 4 5 true], code := (.seq (.region false [⟨some 4, .alloc 100 [.int .i64 0, .int .i64 0, .int .i64 0, .int .i64 0, .int .i64 0], none, []⟩])
 (.seq (.seq (.region false [⟨some 12, .mv (.tmp 0), none, []⟩,
  ⟨some 13, .call 200 0 [.tmp 12, .const (.int .i64 12)], none, []⟩])
 (.block 0 (.seq (.seq (.region false [⟨some 15, .bin .eql (.tmp 13) (.const (.int .i64 0)), none, []⟩,
  ⟨some 14, .mv (.tmp 15), none, []⟩])
 (.cond (.tmp 14) .skip (.region false [⟨some 16, .bin .eql (.tmp 13) (.const (.int .i64 1)), none, []⟩,
  ⟨some 14, .mv (.tmp 16), none, []⟩])))
 (.cond (.tmp 14) (.seq (.region false [⟨some 17, .mv (.tmp 0), none, []⟩,
  ⟨some 18, .call 15300 0 [.tmp 17], none, []⟩,
  ⟨some 19, .mv (.tmp 0), none, []⟩,
  ⟨some 20, .call 3800 0 [.tmp 19], none, []⟩,
  ⟨some 21, .buildS .full .int [.const (.int .i64 0), .const (.int .i64 1), .const (.int .i64 2), .tmp 20], none, []⟩,
  ⟨some 22, .mv (.tmp 0), none, []⟩,
  ⟨some 23, .call 200 0 [.tmp 22, .const (.int .i64 4)], none, []⟩,
  ⟨some 24, .iadr 1 (.tmp 21) (.tmp 23), none, []⟩,
  ⟨some 25, .load 1 false false (.tmp 24), none, []⟩,
  ⟨some 26, .build [.int .i64 0, .int .i64 0, .int .i64 0, .int .i64 0, .int .i64 0] [(0, 1, .const (.int .i64 1)), (1, 1, .tmp 18), (4, 1, .tmp 25)], none, []⟩,
  ⟨none, .store 5 (.tmp 4) (.tmp 26), none, []⟩])
 .ret) (.seq (.seq (.region false [⟨some 28, .bin .eql (.tmp 13) (.const (.int .i64 2)), none, []⟩,
  ⟨some 27, .mv (.tmp 28), none, []⟩])
 (.cond (.tmp 27) .skip (.region false [⟨some 29, .bin .eql (.tmp 13) (.const (.int .i64 3)), none, []⟩,
  ⟨some 27, .mv (.tmp 29), none, []⟩])))
 (.cond (.tmp 27) (.seq (.region false [⟨some 30, .mv (.tmp 0), none, []⟩,
  ⟨some 31, .call 15300 0 [.tmp 30], none, []⟩,
  ⟨some 5, .mv (.tmp 31), none, []⟩])
 (.seq (.region false [⟨some 32, .mv (.tmp 5), none, []⟩,
  ⟨some 33, .mv (.tmp 0), none, []⟩,
  ⟨some 34, .call 15300 0 [.tmp 33], none, []⟩,
  ⟨some 35, .build [.int .i64 0, .int .i64 0, .int .i64 0, .int .i64 0, .int .i64 0] [(0, 1, .const (.int .i64 2)), (1, 1, .tmp 32), (2, 1, .tmp 34)], none, []⟩,
  ⟨none, .store 5 (.tmp 4) (.tmp 35), none, []⟩])
 .ret)) (.seq (.seq (.region false [⟨some 37, .bin .eql (.tmp 13) (.const (.int .i64 4)), none, []⟩,
  ⟨some 36, .mv (.tmp 37), none, []⟩])
 (.cond (.tmp 36) .skip (.seq (.region false [⟨some 38, .bin .eql (.tmp 13) (.const (.int .i64 5)), none, []⟩,
  ⟨some 36, .mv (.tmp 38), none, []⟩])
 (.cond (.tmp 36) .skip (.region false [⟨some 39, .bin .eql (.tmp 13) (.const (.int .i64 6)), none, []⟩,
  ⟨some 36, .mv (.tmp 39), none, []⟩])))))
 (.cond (.tmp 36) (.seq (.region false [⟨some 40, .mv (.tmp 0), none, []⟩,
  ⟨some 41, .call 15300 0 [.tmp 40], none, []⟩,
  ⟨some 6, .mv (.tmp 41), none, []⟩])
 (.seq (.region false [⟨some 42, .mv (.tmp 0), none, []⟩,
  ⟨some 43, .call 15300 0 [.tmp 42], none, []⟩,
  ⟨some 7, .mv (.tmp 43), none, []⟩])
 (.seq (.region false [⟨some 44, .mv (.tmp 0), none, []⟩,
  ⟨some 45, .call 15300 0 [.tmp 44], none, []⟩,
  ⟨some 8, .mv (.tmp 45), none, []⟩])
 (.seq (.region false [⟨some 46, .mv (.tmp 6), none, []⟩,
  ⟨some 47, .mv (.tmp 7), none, []⟩,
  ⟨some 48, .mv (.tmp 8), none, []⟩,
  ⟨some 49, .mv (.tmp 0), none, []⟩,
  ⟨some 50, .call 600 0 [.tmp 49], none, []⟩,
  ⟨some 51, .build [.int .i64 0, .int .i64 0, .int .i64 0, .int .i64 0, .int .i64 0] [(0, 1, .const (.int .i64 3)), (1, 1, .tmp 46), (2, 1, .tmp 47), (3, 1, .tmp 48), (4, 1, .tmp 50)], none, []⟩,
  ⟨none, .store 5 (.tmp 4) (.tmp 51), none, []⟩])
 .ret)))) (.seq (.region false [⟨some 53, .bin .eql (.tmp 13) (.const (.int .i64 7)), none, []⟩,
  ⟨some 52, .mv (.tmp 53), none, []⟩])
 (.cond (.tmp 52) (.seq (.region false [⟨some 54, .mv (.tmp 0), none, []⟩,
  ⟨some 55, .mv (.tmp 1), none, []⟩,
  ⟨some 56, .call 200 0 [.tmp 54, .tmp 55], none, []⟩,
  ⟨some 57, .build [.int .i64 0, .int .i64 0, .int .i64 0, .int .i64 0, .int .i64 0] [(0, 1, .const (.int .i64 4)), (4, 1, .tmp 56)], none, []⟩,
  ⟨none, .store 5 (.tmp 4) (.tmp 57), none, []⟩])
 .ret) (.seq (.region false [⟨some 59, .bin .eql (.tmp 13) (.const (.int .i64 8)), none, []⟩,
  ⟨some 58, .mv (.tmp 59), none, []⟩])
 (.cond (.tmp 58) (.seq (.region false [⟨some 60, .mv (.tmp 0), none, []⟩,
  ⟨some 61, .call 15300 0 [.tmp 60], none, []⟩,
  ⟨some 9, .mv (.tmp 61), none, []⟩])
 (.seq (.region false [⟨some 62, .mv (.tmp 9), none, []⟩,
  ⟨some 63, .mv (.tmp 0), none, []⟩,
  ⟨some 64, .mv (.tmp 1), none, []⟩,
  ⟨some 65, .call 200 0 [.tmp 63, .tmp 64], none, []⟩,
  ⟨some 66, .build [.int .i64 0, .int .i64 0, .int .i64 0, .int .i64 0, .int .i64 0] [(0, 1, .const (.int .i64 5)), (2, 1, .tmp 62), (4, 1, .tmp 65)], none, []⟩,
  ⟨none, .store 5 (.tmp 4) (.tmp 66), none, []⟩])
 .ret)) (.seq (.region false [⟨some 68, .bin .eql (.tmp 13) (.const (.int .i64 9)), none, []⟩,
  ⟨some 67, .mv (.tmp 68), none, []⟩])
 (.cond (.tmp 67) (.seq (.region false [⟨some 69, .mv (.tmp 0), none, []⟩,
  ⟨some 70, .call 15300 0 [.tmp 69], none, []⟩,
  ⟨some 10, .mv (.tmp 70), none, []⟩])
 (.seq (.region false [⟨some 71, .mv (.tmp 10), none, []⟩,
  ⟨some 72, .mv (.tmp 0), none, []⟩,
  ⟨some 73, .call 200 0 [.tmp 72, .const (.int .i64 2)], none, []⟩,
  ⟨some 74, .build [.int .i64 0, .int .i64 0, .int .i64 0, .int .i64 0, .int .i64 0] [(0, 1, .const (.int .i64 6)), (2, 1, .tmp 71), (4, 1, .tmp 73)], none, []⟩,
  ⟨none, .store 5 (.tmp 4) (.tmp 74), none, []⟩])
 .ret)) (.seq (.region false [⟨some 76, .bin .eql (.tmp 13) (.const (.int .i64 10)), none, []⟩,
  ⟨some 75, .mv (.tmp 76), none, []⟩])
 (.cond (.tmp 75) (.seq (.region false [⟨some 77, .mv (.tmp 0), none, []⟩,
  ⟨some 78, .call 15300 0 [.tmp 77], none, []⟩,
  ⟨some 11, .mv (.tmp 78), none, []⟩])
 (.seq (.region false [⟨some 79, .mv (.tmp 11), none, []⟩,
  ⟨some 80, .mv (.tmp 0), none, []⟩,
  ⟨some 81, .call 200 0 [.tmp 80, .const (.int .i64 2)], none, []⟩,
  ⟨some 82, .build [.int .i64 0, .int .i64 0, .int .i64 0, .int .i64 0, .int .i64 0] [(0, 1, .const (.int .i64 7)), (1, 1, .tmp 79), (4, 1, .tmp 81)], none, []⟩,
  ⟨none, .store 5 (.tmp 4) (.tmp 82), none, []⟩])
 .ret)) .skip))))))))))))))))
 (.seq (.seq (.region false [⟨some 83, .mv (.tmp 0), none, []⟩,
  ⟨some 84, .call 200 0 [.tmp 83, .const (.int .i64 4)], none, []⟩,
  ⟨some 85, .bin .eql (.tmp 84) (.const (.int .i64 0)), none, []⟩])
 (.cond (.tmp 85) (.seq (.region false [⟨some 86, .build [.int .i64 0, .int .i64 0, .int .i64 0, .int .i64 0, .int .i64 0] [(0, 1, .const (.int .i64 8))], none, []⟩,
  ⟨none, .store 5 (.tmp 4) (.tmp 86), none, []⟩])
 .ret) .skip))
 (.seq (.region false [⟨some 87, .mv (.tmp 0), none, []⟩,
  ⟨some 88, .call 15300 0 [.tmp 87], none, []⟩,
  ⟨some 89, .build [.int .i64 0, .int .i64 0, .int .i64 0, .int .i64 0, .int .i64 0] [(0, 1, .const (.int .i64 9)), (2, 1, .tmp 88)], none, []⟩,
  ⟨none, .store 5 (.tmp 4) (.tmp 89), none, []⟩])
 .ret)))) }
noncomputable def p15500 : ProcT := { kind := .fn, ins := [0], bins := [0], res := [.cell 2 5 true], code := (.seq (.region false [⟨some 2, .alloc 100 [.int .i64 0, .int .i64 0, .int .i64 0, .int .i64 0, .int .i64 0], none, []⟩])
 (.seq (.region false [⟨some 4, .mv (.tmp 0), none, []⟩,
  ⟨some 5, .call 15400 0 [.tmp 4, .const (.int .i64 20)], none, []⟩,
  ⟨some 3, .alloc 101 [.int .i64 0, .int .i64 0, .int .i64 0, .int .i64 0, .int .i64 0], none, []⟩,
  ⟨none, .store 5 (.tmp 3) (.tmp 5), none, []⟩])
 (.seq (.seq (.region false [⟨some 6, .mv (.tmp 0), none, []⟩,
  ⟨some 7, .call 200 0 [.tmp 6, .const (.int .i64 12)], none, []⟩,
  ⟨some 8, .bin .eql (.tmp 7) (.const (.int .i64 0)), none, []⟩])
 (.cond (.tmp 8) (.region false [⟨some 9, .build [.int .i64 0, .int .i64 0, .int .i64 0, .int .i64 0, .int .i64 0] [(0, 1, .const (.int .i64 10))], none, []⟩,
  ⟨none, .store 5 (.tmp 3) (.tmp 9), none, []⟩]) .skip))
 (.seq (.seq (.region false [⟨some 10, .mv (.tmp 0), none, []⟩,
  ⟨some 11, .call 200 0 [.tmp 10, .const (.int .i64 24)], none, []⟩])
 (.block 0 (.seq (.region false [⟨some 13, .bin .eql (.tmp 11) (.const (.int .i64 0)), none, []⟩,
  ⟨some 12, .mv (.tmp 13), none, []⟩])
 (.cond (.tmp 12) (.region false [⟨some 14, .fadr 2 (.tmp 3), none, []⟩,
  ⟨none, .store 1 (.tmp 14) (.const (.int .i64 12)), none, []⟩]) (.seq (.region false [⟨some 16, .bin .eql (.tmp 11) (.const (.int .i64 1)), none, []⟩,
  ⟨some 15, .mv (.tmp 16), none, []⟩])
 (.cond (.tmp 15) (.region false [⟨some 17, .fadr 3 (.tmp 3), none, []⟩,
  ⟨none, .store 1 (.tmp 17) (.const (.int .i64 1)), none, []⟩]) (.seq (.region false [⟨some 19, .bin .eql (.tmp 11) (.const (.int .i64 2)), none, []⟩,
  ⟨some 18, .mv (.tmp 19), none, []⟩])
 (.cond (.tmp 18) (.region false [⟨some 20, .buildS .full .int [.const (.int .i64 0), .const (.int .i64 11)], none, []⟩,
  ⟨some 21, .mv (.tmp 0), none, []⟩,
  ⟨some 22, .call 200 0 [.tmp 21, .const (.int .i64 2)], none, []⟩,
  ⟨some 23, .iadr 1 (.tmp 20) (.tmp 22), none, []⟩,
  ⟨some 24, .load 1 false false (.tmp 23), none, []⟩,
  ⟨some 25, .fadr 0 (.tmp 3), none, []⟩,
  ⟨none, .store 1 (.tmp 25) (.tmp 24), none, []⟩]) (.seq (.region false [⟨some 27, .bin .eql (.tmp 11) (.const (.int .i64 3)), none, []⟩,
  ⟨some 26, .mv (.tmp 27), none, []⟩])
 (.cond (.tmp 26) (.region false [⟨some 28, .fadr 4 (.tmp 3), none, []⟩,
  ⟨none, .store 1 (.tmp 28) (.const (.int .i64 600)), none, []⟩]) .skip))))))))))
 (.seq (.region false [⟨some 29, .load 5 true false (.tmp 3), none, []⟩,
  ⟨none, .store 5 (.tmp 2) (.tmp 29), none, []⟩])
 .ret))))) }
noncomputable def p20500 : ProcT := { kind := .fn, ins := [0], bins := [], res := [.tmp 2], code := (.seq (.region false [⟨some 2, .mv (.const (.str [])), none, []⟩])
 (.seq (.seq (.region false [⟨some 3, .mv (.tmp 0), none, []⟩,
  ⟨some 4, .bin .lss (.tmp 3) (.const (.int .i64 (-9223372036854775807))), none, []⟩])
 (.cond (.tmp 4) (.seq (.region false [⟨some 2, .mv (.const (.str ([45, 57, 50, 50, 51, 51, 55, 50, 48, 51, 54, 56, 53, 52, 55, 55, 53, 56, 48, 56]))), none, []⟩])
 .ret) .skip))
 (.seq (.seq (.region false [⟨some 5, .mv (.tmp 0), none, []⟩,
  ⟨some 6, .bin .lss (.tmp 5) (.const (.int .i64 0)), none, []⟩])
 (.cond (.tmp 6) (.seq (.region false [⟨some 7, .mv (.tmp 0), none, []⟩,
  ⟨some 8, .un .neg (.tmp 7), none, []⟩,
  ⟨some 9, .call 20500 0 [.tmp 8], none, []⟩,
  ⟨some 10, .bin .add (.const (.str [45])) (.tmp 9), none, []⟩,
  ⟨some 2, .mv (.tmp 10), none, []⟩])
 .ret) .skip))
 (.seq (.seq (.region false [⟨some 11, .mv (.tmp 0), none, []⟩,
  ⟨some 12, .bin .lss (.tmp 11) (.const (.int .i64 10)), none, []⟩])
 (.cond (.tmp 12) (.seq (.region false [⟨some 13, .mv (.tmp 0), none, []⟩,
  ⟨some 14, .bin .add (.const (.int .i64 48)) (.tmp 13), none, []⟩,
  ⟨some 15, .conv (.int .u8) (.tmp 14), none, []⟩,
  ⟨some 16, .buildS .full .u8 [.tmp 15], none, []⟩,
  ⟨some 17, .conv .bytesStr (.tmp 16), none, []⟩,
  ⟨some 2, .mv (.tmp 17), none, []⟩])
 .ret) .skip))
 (.seq (.region true [⟨some 18, .mv (.tmp 0), none, []⟩,
  ⟨some 19, .bin .quo (.tmp 18) (.const (.int .i64 10)), none, []⟩,
  ⟨some 20, .call 20500 0 [.tmp 19], none, []⟩,
  ⟨some 21, .mv (.tmp 0), none, []⟩,
  ⟨some 22, .bin .rem (.tmp 21) (.const (.int .i64 10)), none, []⟩,
  ⟨some 23, .bin .add (.const (.int .i64 48)) (.tmp 22), none, []⟩,
  ⟨some 24, .conv (.int .u8) (.tmp 23), none, []⟩,
  ⟨some 25, .buildS .full .u8 [.tmp 24], none, []⟩,
  ⟨some 26, .conv .bytesStr (.tmp 25), none, []⟩,
  ⟨some 27, .bin .add (.tmp 20) (.tmp 26), none, []⟩,
  ⟨some 2, .mv (.tmp 27), none, []⟩])
 .ret))))) }
noncomputable def p20600 : ProcT := { kind := .fn, ins := [0], bins := [], res := [.tmp 2], code := (.seq (.region false [⟨some 2, .mv (.const (.str [])), none, []⟩])
 (.seq (.region false [⟨some 3, .mv (.tmp 0), none, []⟩,
  ⟨some 4, .call 20500 0 [.tmp 3], none, []⟩,
  ⟨some 5, .bin .add (.const (.str [114])) (.tmp 4), none, []⟩,
  ⟨some 2, .mv (.tmp 5), none, []⟩])
 .ret)) }
noncomputable def p20700 : ProcT := { kind := .fn, ins := [0], bins := [], res := [.tmp 2], code := (.seq (.region false [⟨some 2, .mv (.const (.str [])), none, []⟩])
 (.seq (.seq (.region false [⟨some 3, .mv (.tmp 0), none, []⟩,
  ⟨some 4, .call 1700 0 [.tmp 3], none, []⟩,
  ⟨some 5, .un .not (.tmp 4), none, []⟩])
 (.cond (.tmp 5) (.seq (.region false [⟨some 2, .mv (.const (.str [])), none, []⟩])
 .ret) .skip))
 (.seq (.region false [⟨some 6, .buildS .full .str [.const (.str [124]), .const (.str [94]), .const (.str [38]), .const (.str ([61, 61])), .const (.str [60]), .const (.str ([60, 60])), .const (.str ([62, 62])), .const (.str [43]), .const (.str [45]), .const (.str [42]), .const (.str [47]), .const (.str [37])], none, []⟩,
  ⟨some 7, .mv (.tmp 0), none, []⟩,
  ⟨some 8, .bin .sub (.tmp 7) (.const (.int .i64 1)), none, []⟩,
  ⟨some 9, .iadr 1 (.tmp 6) (.tmp 8), none, []⟩,
  ⟨some 10, .load 1 false false (.tmp 9), none, []⟩,
  ⟨some 2, .mv (.tmp 10), none, []⟩])
 .ret))) }
noncomputable def p20800 : ProcT := { kind := .fn, ins := [0], bins := [], res := [.tmp 2], code := (.seq (.region false [⟨some 1, .box 100 (.tmp 0), none, []⟩,
  ⟨some 2, .mv (.const (.str [])), none, []⟩])
 (.seq (.seq (.region false [⟨some 3, .load 5 true false (.tmp 1), none, []⟩,
  ⟨some 4, .call 12000 0 [.tmp 3, .const (.int .i64 600)], none, []⟩,
  ⟨some 5, .un .not (.tmp 4), none, []⟩])
 (.cond (.tmp 5) (.seq (.region false [⟨some 2, .mv (.const (.str [])), none, []⟩])
 .ret) .skip))
 (.seq (.seq (.region false [⟨some 6, .fadr 0 (.tmp 1), none, []⟩,
  ⟨some 7, .load 1 false false (.tmp 6), none, []⟩])
 (.block 0 (.seq (.region false [⟨some 9, .bin .eql (.tmp 7) (.const (.int .i64 1)), none, []⟩,
  ⟨some 8, .mv (.tmp 9), none, []⟩])
 (.cond (.tmp 8) (.seq (.region true [⟨some 10, .fadr 1 (.tmp 1), none, [100]⟩,
  ⟨some 11, .load 1 false false (.tmp 10), none, [100]⟩,
  ⟨some 12, .call 20600 0 [.tmp 11], none, []⟩,
  ⟨some 13, .bin .add (.tmp 12) (.const (.str ([32, 61, 32]))), none, []⟩,
  ⟨some 14, .fadr 4 (.tmp 1), none, [100]⟩,
  ⟨some 15, .load 1 false false (.tmp 14), none, [100]⟩,
  ⟨some 16, .call 20500 0 [.tmp 15], none, []⟩,
  ⟨some 17, .bin .add (.tmp 13) (.tmp 16), none, []⟩,
  ⟨some 2, .mv (.tmp 17), none, []⟩])
 .ret) (.seq (.region false [⟨some 19, .bin .eql (.tmp 7) (.const (.int .i64 2)), none, []⟩,
  ⟨some 18, .mv (.tmp 19), none, []⟩])
 (.cond (.tmp 18) (.seq (.region true [⟨some 20, .fadr 1 (.tmp 1), none, [100]⟩,
  ⟨some 21, .load 1 false false (.tmp 20), none, [100]⟩,
  ⟨some 22, .call 20600 0 [.tmp 21], none, []⟩,
  ⟨some 23, .bin .add (.tmp 22) (.const (.str ([32, 61, 32]))), none, []⟩,
  ⟨some 24, .fadr 2 (.tmp 1), none, [100]⟩,
  ⟨some 25, .load 1 false false (.tmp 24), none, [100]⟩,
  ⟨some 26, .call 20600 0 [.tmp 25], none, []⟩,
  ⟨some 27, .bin .add (.tmp 23) (.tmp 26), none, []⟩,
  ⟨some 2, .mv (.tmp 27), none, []⟩])
 .ret) (.seq (.region false [⟨some 29, .bin .eql (.tmp 7) (.const (.int .i64 3)), none, []⟩,
  ⟨some 28, .mv (.tmp 29), none, []⟩])
 (.cond (.tmp 28) (.seq (.region true [⟨some 30, .fadr 1 (.tmp 1), none, [100]⟩,
  ⟨some 31, .load 1 false false (.tmp 30), none, [100]⟩,
  ⟨some 32, .call 20600 0 [.tmp 31], none, []⟩,
  ⟨some 33, .bin .add (.tmp 32) (.const (.str ([32, 61, 32]))), none, []⟩,
  ⟨some 34, .fadr 2 (.tmp 1), none, [100]⟩,
  ⟨some 35, .load 1 false false (.tmp 34), none, [100]⟩,
  ⟨some 36, .call 20600 0 [.tmp 35], none, []⟩,
  ⟨some 37, .bin .add (.tmp 33) (.tmp 36), none, []⟩,
  ⟨some 38, .bin .add (.tmp 37) (.const (.str [32])), none, []⟩,
  ⟨some 39, .fadr 4 (.tmp 1), none, [100]⟩,
  ⟨some 40, .load 1 false false (.tmp 39), none, [100]⟩,
  ⟨some 41, .call 20700 0 [.tmp 40], none, []⟩,
  ⟨some 42, .bin .add (.tmp 38) (.tmp 41), none, []⟩,
  ⟨some 43, .bin .add (.tmp 42) (.const (.str [32])), none, []⟩,
  ⟨some 44, .fadr 3 (.tmp 1), none, [100]⟩,
  ⟨some 45, .load 1 false false (.tmp 44), none, [100]⟩,
  ⟨some 46, .call 20600 0 [.tmp 45], none, []⟩,
  ⟨some 47, .bin .add (.tmp 43) (.tmp 46), none, []⟩,
  ⟨some 2, .mv (.tmp 47), none, []⟩])
 .ret) (.seq (.region false [⟨some 49, .bin .eql (.tmp 7) (.const (.int .i64 4)), none, []⟩,
  ⟨some 48, .mv (.tmp 49), none, []⟩])
 (.cond (.tmp 48) (.seq (.region false [⟨some 50, .fadr 4 (.tmp 1), none, []⟩,
  ⟨some 51, .load 1 false false (.tmp 50), none, []⟩,
  ⟨some 52, .call 20500 0 [.tmp 51], none, []⟩,
  ⟨some 53, .bin .add (.const (.str ([106, 117, 109, 112, 32]))) (.tmp 52), none, []⟩,
  ⟨some 2, .mv (.tmp 53), none, []⟩])
 .ret) (.seq (.region false [⟨some 55, .bin .eql (.tmp 7) (.const (.int .i64 5)), none, []⟩,
  ⟨some 54, .mv (.tmp 55), none, []⟩])
 (.cond (.tmp 54) (.seq (.region true [⟨some 56, .fadr 2 (.tmp 1), none, [100]⟩,
  ⟨some 57, .load 1 false false (.tmp 56), none, [100]⟩,
  ⟨some 58, .call 20600 0 [.tmp 57], none, []⟩,
  ⟨some 59, .bin .add (.const (.str ([122, 101, 114, 111, 32]))) (.tmp 58), none, []⟩,
  ⟨some 60, .bin .add (.tmp 59) (.const (.str [32])), none, []⟩,
  ⟨some 61, .fadr 4 (.tmp 1), none, [100]⟩,
  ⟨some 62, .load 1 false false (.tmp 61), none, [100]⟩,
  ⟨some 63, .call 20500 0 [.tmp 62], none, []⟩,
  ⟨some 64, .bin .add (.tmp 60) (.tmp 63), none, []⟩,
  ⟨some 2, .mv (.tmp 64), none, []⟩])
 .ret) (.seq (.region false [⟨some 66, .bin .eql (.tmp 7) (.const (.int .i64 6)), none, []⟩,
  ⟨some 65, .mv (.tmp 66), none, []⟩])
 (.cond (.tmp 65) (.seq (.region true [⟨some 67, .fadr 4 (.tmp 1), none, [100]⟩,
  ⟨some 68, .load 1 false false (.tmp 67), none, [100]⟩,
  ⟨some 69, .call 20500 0 [.tmp 68], none, []⟩,
  ⟨some 70, .bin .add (.const (.str ([115, 101, 110, 100, 32]))) (.tmp 69), none, []⟩,
  ⟨some 71, .bin .add (.tmp 70) (.const (.str [32])), none, []⟩,
  ⟨some 72, .fadr 2 (.tmp 1), none, [100]⟩,
  ⟨some 73, .load 1 false false (.tmp 72), none, [100]⟩,
  ⟨some 74, .call 20600 0 [.tmp 73], none, []⟩,
  ⟨some 75, .bin .add (.tmp 71) (.tmp 74), none, []⟩,
  ⟨some 2, .mv (.tmp 75), none, []⟩])
 .ret) (.seq (.region false [⟨some 77, .bin .eql (.tmp 7) (.const (.int .i64 7)), none, []⟩,
  ⟨some 76, .mv (.tmp 77), none, []⟩])
 (.cond (.tmp 76) (.seq (.region true [⟨some 78, .fadr 1 (.tmp 1), none, [100]⟩,
  ⟨some 79, .load 1 false false (.tmp 78), none, [100]⟩,
  ⟨some 80, .call 20600 0 [.tmp 79], none, []⟩,
  ⟨some 81, .bin .add (.tmp 80) (.const (.str ([32, 61, 32, 114, 101, 99, 118, 32]))), none, []⟩,
  ⟨some 82, .fadr 4 (.tmp 1), none, [100]⟩,
  ⟨some 83, .load 1 false false (.tmp 82), none, [100]⟩,
  ⟨some 84, .call 20500 0 [.tmp 83], none, []⟩,
  ⟨some 85, .bin .add (.tmp 81) (.tmp 84), none, []⟩,
  ⟨some 2, .mv (.tmp 85), none, []⟩])
 .ret) (.seq (.region false [⟨some 87, .bin .eql (.tmp 7) (.const (.int .i64 8)), none, []⟩,
  ⟨some 86, .mv (.tmp 87), none, []⟩])
 (.cond (.tmp 86) (.seq (.region false [⟨some 2, .mv (.const (.str ([121, 105, 101, 108, 100]))), none, []⟩])
 .ret) (.seq (.region false [⟨some 89, .bin .eql (.tmp 7) (.const (.int .i64 9)), none, []⟩,
  ⟨some 88, .mv (.tmp 89), none, []⟩])
 (.cond (.tmp 88) (.seq (.region false [⟨some 90, .fadr 2 (.tmp 1), none, []⟩,
  ⟨some 91, .load 1 false false (.tmp 90), none, []⟩,
  ⟨some 92, .call 20600 0 [.tmp 91], none, []⟩,
  ⟨some 93, .bin .add (.const (.str ([112, 114, 105, 110, 116, 32]))) (.tmp 92), none, []⟩,
  ⟨some 2, .mv (.tmp 93), none, []⟩])
 .ret) .skip))))))))))))))))))))
 (.seq (.region false [⟨some 2, .mv (.const (.str ([104, 97, 108, 116]))), none, []⟩])
 .ret)))) }
noncomputable def p20900 : ProcT := { kind := .fn, ins := [0], bins := [], res := [.tmp 2], code := (.seq (.region false [⟨some 2, .mv (.const (.str [])), none, []⟩])
 (.seq (.region false [⟨some 3, .mv (.tmp 0), none, []⟩,
  ⟨some 4, .call 22000 0 [.tmp 3], none, []⟩,
  ⟨some 5, .bin .add (.const (.str [114])) (.tmp 4), none, []⟩,
  ⟨some 2, .mv (.tmp 5), none, []⟩])
 .ret)) }
noncomputable def p21000 : ProcT := { kind := .fn, ins := [0], bins := [], res := [.tmp 2], code := (.seq (.region false [⟨some 2, .mv (.const (.str [])), none, []⟩])
 (.seq (.seq (.region false [⟨some 3, .mv (.tmp 0), none, []⟩,
  ⟨some 4, .call 1000 0 [.tmp 3], none, []⟩,
  ⟨some 5, .un .not (.tmp 4), none, []⟩])
 (.cond (.tmp 5) (.seq (.region false [⟨some 2, .mv (.const (.str [])), none, []⟩])
 .ret) .skip))
 (.seq (.region false [⟨some 6, .mv (.tmp 0), none, []⟩,
  ⟨some 7, .bin .sub (.tmp 6) (.const (.int .i64 1)), none, []⟩,
  ⟨some 8, .iadrA 1 12 (.glob 0) (.tmp 7), none, []⟩,
  ⟨some 9, .load 1 false false (.tmp 8), none, []⟩,
  ⟨some 2, .mv (.tmp 9), none, []⟩])
 .ret))) }
noncomputable def p21100 : ProcT := { kind := .fn, ins := [0], bins := [], res := [.tmp 2], code := (.seq (.region false [⟨some 1, .box 100 (.tmp 0), none, []⟩,
  ⟨some 2, .mv (.const (.str [])), none, []⟩])
 (.seq (.seq (.region false [⟨some 6, .load 5 true false (.tmp 1), none, []⟩,
  ⟨some 7, .call 12300 0 [.tmp 6, .const (.int .i64 600)], none, []⟩,
  ⟨some 8, .un .not (.tmp 7), none, []⟩])
 (.cond (.tmp 8) (.seq (.region false [⟨some 2, .mv (.const (.str [])), none, []⟩])
 .ret) .skip))
 (.seq (.region true [⟨some 9, .fadr 1 (.tmp 1), none, [100]⟩,
  ⟨some 10, .load 1 false false (.tmp 9), none, [100]⟩,
  ⟨some 11, .call 20900 0 [.tmp 10], none, []⟩,
  ⟨some 12, .fadr 2 (.tmp 1), none, [100]⟩,
  ⟨some 13, .load 1 false false (.tmp 12), none, [100]⟩,
  ⟨some 14, .call 20900 0 [.tmp 13], none, []⟩,
  ⟨some 15, .fadr 4 (.tmp 1), none, [100]⟩,
  ⟨some 16, .load 1 false false (.tmp 15), none, [100]⟩,
  ⟨some 17, .call 22000 0 [.tmp 16], none, []⟩,
  ⟨some 3, .mv (.tmp 11), none, []⟩,
  ⟨some 4, .mv (.tmp 14), none, []⟩,
  ⟨some 5, .mv (.tmp 17), none, []⟩])
 (.seq (.seq (.region false [⟨some 18, .fadr 0 (.tmp 1), none, []⟩,
  ⟨some 19, .load 1 false false (.tmp 18), none, []⟩])
 (.block 0 (.seq (.region false [⟨some 21, .bin .eql (.tmp 19) (.const (.int .i64 1)), none, []⟩,
  ⟨some 20, .mv (.tmp 21), none, []⟩])
 (.cond (.tmp 20) (.seq (.region false [⟨some 22, .mv (.tmp 3), none, []⟩,
  ⟨some 23, .bin .add (.tmp 22) (.const (.str ([32, 61, 32]))), none, []⟩,
  ⟨some 24, .mv (.tmp 5), none, []⟩,
  ⟨some 25, .bin .add (.tmp 23) (.tmp 24), none, []⟩,
  ⟨some 2, .mv (.tmp 25), none, []⟩])
 .ret) (.seq (.region false [⟨some 27, .bin .eql (.tmp 19) (.const (.int .i64 2)), none, []⟩,
  ⟨some 26, .mv (.tmp 27), none, []⟩])
 (.cond (.tmp 26) (.seq (.region false [⟨some 28, .mv (.tmp 3), none, []⟩,
  ⟨some 29, .bin .add (.tmp 28) (.const (.str ([32, 61, 32]))), none, []⟩,
  ⟨some 30, .mv (.tmp 4), none, []⟩,
  ⟨some 31, .bin .add (.tmp 29) (.tmp 30), none, []⟩,
  ⟨some 2, .mv (.tmp 31), none, []⟩])
 .ret) (.seq (.region false [⟨some 33, .bin .eql (.tmp 19) (.const (.int .i64 3)), none, []⟩,
  ⟨some 32, .mv (.tmp 33), none, []⟩])
 (.cond (.tmp 32) (.seq (.region true [⟨some 34, .mv (.tmp 3), none, []⟩,
  ⟨some 35, .bin .add (.tmp 34) (.const (.str ([32, 61, 32]))), none, []⟩,
  ⟨some 36, .mv (.tmp 4), none, []⟩,
  ⟨some 37, .bin .add (.tmp 35) (.tmp 36), none, []⟩,
  ⟨some 38, .bin .add (.tmp 37) (.const (.str [32])), none, []⟩,
  ⟨some 39, .fadr 4 (.tmp 1), none, [100]⟩,
  ⟨some 40, .load 1 false false (.tmp 39), none, [100]⟩,
  ⟨some 41, .call 21000 0 [.tmp 40], none, []⟩,
  ⟨some 42, .bin .add (.tmp 38) (.tmp 41), none, []⟩,
  ⟨some 43, .bin .add (.tmp 42) (.const (.str [32])), none, []⟩,
  ⟨some 44, .fadr 3 (.tmp 1), none, [100]⟩,
  ⟨some 45, .load 1 false false (.tmp 44), none, [100]⟩,
  ⟨some 46, .call 20900 0 [.tmp 45], none, []⟩,
  ⟨some 47, .bin .add (.tmp 43) (.tmp 46), none, []⟩,
  ⟨some 2, .mv (.tmp 47), none, []⟩])
 .ret) (.seq (.region false [⟨some 49, .bin .eql (.tmp 19) (.const (.int .i64 4)), none, []⟩,
  ⟨some 48, .mv (.tmp 49), none, []⟩])
 (.cond (.tmp 48) (.seq (.region false [⟨some 50, .mv (.tmp 5), none, []⟩,
  ⟨some 51, .bin .add (.const (.str ([106, 117, 109, 112, 32]))) (.tmp 50), none, []⟩,
  ⟨some 2, .mv (.tmp 51), none, []⟩])
 .ret) (.seq (.region false [⟨some 53, .bin .eql (.tmp 19) (.const (.int .i64 5)), none, []⟩,
  ⟨some 52, .mv (.tmp 53), none, []⟩])
 (.cond (.tmp 52) (.seq (.region false [⟨some 54, .mv (.tmp 4), none, []⟩,
  ⟨some 55, .bin .add (.const (.str ([122, 101, 114, 111, 32]))) (.tmp 54), none, []⟩,
  ⟨some 56, .bin .add (.tmp 55) (.const (.str [32])), none, []⟩,
  ⟨some 57, .mv (.tmp 5), none, []⟩,
  ⟨some 58, .bin .add (.tmp 56) (.tmp 57), none, []⟩,
  ⟨some 2, .mv (.tmp 58), none, []⟩])
 .ret) (.seq (.region false [⟨some 60, .bin .eql (.tmp 19) (.const (.int .i64 6)), none, []⟩,
  ⟨some 59, .mv (.tmp 60), none, []⟩])
 (.cond (.tmp 59) (.seq (.region false [⟨some 61, .mv (.tmp 5), none, []⟩,
  ⟨some 62, .bin .add (.const (.str ([115, 101, 110, 100, 32]))) (.tmp 61), none, []⟩,
  ⟨some 63, .bin .add (.tmp 62) (.const (.str [32])), none, []⟩,
  ⟨some 64, .mv (.tmp 4), none, []⟩,
  ⟨some 65, .bin .add (.tmp 63) (.tmp 64), none, []⟩,
  ⟨some 2, .mv (.tmp 65), none, []⟩])
 .ret) (.seq (.region false [⟨some 67, .bin .eql (.tmp 19) (.const (.int .i64 7)), none, []⟩,
  ⟨some 66, .mv (.tmp 67), none, []⟩])
 (.cond (.tmp 66) (.seq (.region false [⟨some 68, .mv (.tmp 3), none, []⟩,
  ⟨some 69, .bin .add (.tmp 68) (.const (.str ([32, 61, 32, 114, 101, 99, 118, 32]))), none, []⟩,
  ⟨some 70, .mv (.tmp 5), none, []⟩,
  ⟨some 71, .bin .add (.tmp 69) (.tmp 70), none, []⟩,
  ⟨some 2, .mv (.tmp 71), none, []⟩])
 .ret) (.seq (.region false [⟨some 73, .bin .eql (.tmp 19) (.const (.int .i64 8)), none, []⟩,
  ⟨some 72, .mv (.tmp 73), none, []⟩])
 (.cond (.tmp 72) (.seq (.region false [⟨some 2, .mv (.const (.str ([121, 105, 101, 108, 100]))), none, []⟩])
 .ret) (.seq (.region false [⟨some 75, .bin .eql (.tmp 19) (.const (.int .i64 9)), none, []⟩,
  ⟨some 74, .mv (.tmp 75), none, []⟩])
 (.cond (.tmp 74) (.seq (.region false [⟨some 76, .mv (.tmp 4), none, []⟩,
  ⟨some 77, .bin .add (.const (.str ([112, 114, 105, 110, 116, 32]))) (.tmp 76), none, []⟩,
  ⟨some 2, .mv (.tmp 77), none, []⟩])
 .ret) .skip))))))))))))))))))))
 (.seq (.region false [⟨some 2, .mv (.const (.str ([104, 97, 108, 116]))), none, []⟩])
 .ret))))) }
noncomputable def p21300 : ProcT := { kind := .fn, ins := [0], bins := [], res := [.cell 2 5 true], code := (.seq (.region false [⟨some 2, .alloc 100 [.int .i64 0, .int .i64 0, .int .i64 0, .int .i64 0, .int .i64 0], none, []⟩])
 (.seq (.region false [⟨some 3, .mv (.tmp 0), none, []⟩,
  ⟨some 4, .call 100 101 [.tmp 3], none, []⟩,
  ⟨some 5, .call 15500 0 [.tmp 4], none, []⟩,
  ⟨none, .store 5 (.tmp 2) (.tmp 5), none, []⟩])
 .ret)) }
noncomputable def p21400 : ProcT := { kind := .fn, ins := [0, 1], bins := [], res := [.tmp 4], code := (.seq (.region false [⟨some 4, .mv (.const (.bool false)), none, []⟩])
 (.seq (.seq (.region false [⟨some 10, .mv (.tmp 0), none, []⟩,
  ⟨some 11, .len (.tmp 10), none, []⟩,
  ⟨some 12, .bin .gtr (.tmp 11) (.const (.int .i64 1048576)), none, []⟩,
  ⟨some 13, .mv (.tmp 12), none, []⟩,
  ⟨some 14, .mv (.tmp 1), some (13, false), []⟩,
  ⟨some 15, .len (.tmp 14), some (13, false), []⟩,
  ⟨some 16, .bin .gtr (.tmp 15) (.const (.int .i64 1048576)), some (13, false), []⟩,
  ⟨some 17, .pick (.tmp 13) (.const (.bool true)) (.tmp 16), none, []⟩])
 (.cond (.tmp 17) (.seq (.region false [⟨some 4, .mv (.const (.bool true)), none, []⟩])
 .ret) .skip))
 (.seq (.region false [⟨some 18, .mv (.tmp 0), none, []⟩,
  ⟨some 19, .call 21300 0 [.tmp 18], none, []⟩,
  ⟨some 5, .alloc 100 [.int .i64 0, .int .i64 0, .int .i64 0, .int .i64 0, .int .i64 0], none, []⟩,
  ⟨none, .store 5 (.tmp 5) (.tmp 19), none, []⟩])
 (.seq (.region false [⟨some 20, .load 5 true false (.tmp 5), none, []⟩,
  ⟨some 21, .call 21100 0 [.tmp 20], none, []⟩,
  ⟨some 6, .mv (.tmp 21), none, []⟩])
 (.seq (.region false [⟨some 22, .load 5 true false (.tmp 5), none, []⟩,
  ⟨some 23, .call 20800 0 [.tmp 22], none, []⟩,
  ⟨some 7, .mv (.tmp 23), none, []⟩])
 (.seq (.seq (.region false [⟨some 24, .mv (.tmp 6), none, []⟩,
  ⟨some 25, .mv (.tmp 7), none, []⟩,
  ⟨some 26, .bin .neq (.tmp 24) (.tmp 25), none, []⟩,
  ⟨some 27, .mv (.tmp 26), none, []⟩,
  ⟨some 28, .mv (.tmp 6), some (27, false), []⟩,
  ⟨some 29, .bin .eql (.tmp 28) (.const (.str [])), some (27, false), []⟩,
  ⟨some 30, .pick (.tmp 27) (.const (.bool true)) (.tmp 29), none, []⟩])
 (.cond (.tmp 30) (.seq (.region false [⟨some 31, .mv (.tmp 6), none, []⟩,
  ⟨some 32, .mv (.tmp 7), none, []⟩,
  ⟨some 33, .bin .eql (.tmp 31) (.tmp 32), none, []⟩,
  ⟨some 4, .mv (.tmp 33), none, []⟩])
 .ret) .skip))
 (.seq (.region false [⟨some 34, .load 5 true false (.tmp 5), none, []⟩,
  ⟨some 8, .alloc 101 [.int .i64 0, .int .i64 0, .int .i64 0, .int .i64 0, .int .i64 0], none, []⟩,
  ⟨none, .store 5 (.tmp 8) (.tmp 34), none, []⟩])
 (.seq (.region false [⟨some 35, .fadr 1 (.tmp 5), none, []⟩,
  ⟨some 36, .load 1 false false (.tmp 35), none, []⟩,
  ⟨some 37, .bin .add (.tmp 36) (.const (.int .i64 1)), none, []⟩,
  ⟨some 38, .mv (.tmp 1), none, []⟩,
  ⟨some 39, .len (.tmp 38), none, []⟩,
  ⟨some 40, .bin .rem (.tmp 39) (.const (.int .i64 11)), none, []⟩,
  ⟨some 41, .bin .add (.tmp 37) (.tmp 40), none, []⟩,
  ⟨some 42, .bin .rem (.tmp 41) (.const (.int .i64 12)), none, []⟩,
  ⟨some 43, .fadr 1 (.tmp 8), none, []⟩,
  ⟨none, .store 1 (.tmp 43) (.tmp 42), none, []⟩])
 (.seq (.region false [⟨some 44, .load 5 true false (.tmp 5), none, []⟩,
  ⟨some 9, .alloc 102 [.int .i64 0, .int .i64 0, .int .i64 0, .int .i64 0, .int .i64 0], none, []⟩,
  ⟨none, .store 5 (.tmp 9) (.tmp 44), none, []⟩])
 (.seq (.region false [⟨some 45, .fadr 2 (.tmp 5), none, []⟩,
  ⟨some 46, .load 1 false false (.tmp 45), none, []⟩,
  ⟨some 47, .bin .add (.tmp 46) (.const (.int .i64 1)), none, []⟩,
  ⟨some 48, .mv (.tmp 1), none, []⟩,
  ⟨some 49, .len (.tmp 48), none, []⟩,
  ⟨some 50, .bin .rem (.tmp 49) (.const (.int .i64 11)), none, []⟩,
  ⟨some 51, .bin .add (.tmp 47) (.tmp 50), none, []⟩,
  ⟨some 52, .bin .rem (.tmp 51) (.const (.int .i64 12)), none, []⟩,
  ⟨some 53, .fadr 2 (.tmp 9), none, []⟩,
  ⟨none, .store 1 (.tmp 53) (.tmp 52), none, []⟩])
 (.seq (.region false [⟨some 54, .load 5 true false (.tmp 8), none, []⟩,
  ⟨some 55, .call 21100 0 [.tmp 54], none, []⟩,
  ⟨some 56, .mv (.tmp 6), none, []⟩,
  ⟨some 57, .bin .neq (.tmp 55) (.tmp 56), none, []⟩,
  ⟨some 58, .mv (.tmp 57), none, []⟩,
  ⟨some 59, .load 5 true false (.tmp 9), some (58, true), []⟩,
  ⟨some 60, .call 21100 0 [.tmp 59], some (58, true), []⟩,
  ⟨some 61, .mv (.tmp 6), some (58, true), []⟩,
  ⟨some 62, .bin .neq (.tmp 60) (.tmp 61), some (58, true), []⟩,
  ⟨some 63, .pick (.tmp 58) (.tmp 62) (.const (.bool false)), none, []⟩,
  ⟨some 4, .mv (.tmp 63), none, []⟩])
 .ret))))))))))) }
noncomputable def p22000 : ProcT := { kind := .prim, ins := [], bins := [], code := .skip, pf := Vs.itoaF }
noncomputable def tab : List (Nat × ProcT) := [(100, p100), (200, p200), (600, p600), (1000, p1000), (1600, p1600), (1700, p1700), (3700, p3700), (3800, p3800), (5000, p5000), (6400, p6400), (11800, p11800), (11900, p11900), (12000, p12000), (12200, p12200), (12300, p12300), (15300, p15300), (15400, p15400), (15500, p15500), (20500, p20500), (20600, p20600), (20700, p20700), (20800, p20800), (20900, p20900), (21000, p21000), (21100, p21100), (21300, p21300), (21400, p21400), (22000, p22000)]
noncomputable abbrev Tb : Nat → Option ProcT := (Vs.look · tab)
@[reducible] def s100 : Sig := [⟨.ret, [.np 2], [], [.h (.sl .u8), .h (.int .i64)]⟩]
@[reducible] def s200 : Sig := [⟨.ret, [.one], [.var 2], [.h (.int .i64), .h (.sl .u8), .h (.int .i64)]⟩]
@[reducible] def s600 : Sig := [⟨.ret, [.one], [.var 2], [.h (.int .i64), .h (.sl .u8), .h (.int .i64)]⟩]
@[reducible] def s1000 : Sig := [⟨.ret, [.one], [], [.h (.bool)]⟩]
@[reducible] def s1600 : Sig := [⟨.ret, [.one], [], [.h (.bool)]⟩]
@[reducible] def s1700 : Sig := [⟨.ret, [.one], [], [.h (.bool)]⟩]
@[reducible] def s3700 : Sig := [⟨.ret, [.one], [], [.h (.int .i64)]⟩]
@[reducible] def s3800 : Sig := [⟨.ret, [.one], [.var 2], [.h (.int .i64), .h (.sl .u8), .h (.int .i64)]⟩]
@[reducible] def s5000 : Sig := [⟨.ret, [.one], [], [.h (.bool)]⟩]
@[reducible] def s6400 : Sig := [⟨.ret, [.one], [], [.h (.bool)]⟩]
@[reducible] def s11800 : Sig := [⟨.ret, [.one], [], [.h (.bool)]⟩]
@[reducible] def s11900 : Sig := [⟨.ret, [.one], [], [.h (.bool)]⟩]
@[reducible] def s12000 : Sig := [⟨.ret, [.one], [], [.h (.bool)]⟩]
@[reducible] def s12200 : Sig := [⟨.ret, [.one], [], [.h (.bool)]⟩]
@[reducible] def s12300 : Sig := [⟨.ret, [.one], [], [.h (.bool)]⟩]
@[reducible] def s15300 : Sig := [⟨.ret, [.one], [.var 2], [.h (.int .i64), .h (.sl .u8), .h (.int .i64)]⟩]
@[reducible] def s15400 : Sig := [⟨.ret, [.one], [.var 2], [.h (.agg .quad), .h (.sl .u8), .h (.int .i64)]⟩]
@[reducible] def s15500 : Sig := [⟨.ret, [.one], [.var 2], [.h (.agg .quad), .h (.sl .u8), .h (.int .i64)]⟩]
@[reducible] def s20500 : Sig := [⟨.ret, [.one], [], [.h (.str)]⟩]
@[reducible] def s20600 : Sig := [⟨.ret, [.one], [], [.h (.str)]⟩]
@[reducible] def s20700 : Sig := [⟨.ret, [.one], [], [.h (.str)]⟩]
@[reducible] def s20800 : Sig := [⟨.ret, [.one], [], [.h (.str)]⟩]
@[reducible] def s20900 : Sig := [⟨.ret, [.one], [], [.h (.str)]⟩]
@[reducible] def s21000 : Sig := [⟨.ret, [.one], [], [.h (.str)]⟩]
@[reducible] def s21100 : Sig := [⟨.ret, [.one], [], [.h (.str)]⟩]
@[reducible] def s21300 : Sig := [⟨.ret, [.one], [], [.h (.agg .quad)]⟩]
@[reducible] def s21400 : Sig := [⟨.ret, [.one], [], [.h (.bool)]⟩]
@[reducible] def s22000 : Sig := [⟨.ret, [.one], [], [.h (.str)]⟩]
def sgs : List (Nat × Sig) := [(100, s100), (200, s200), (600, s600), (1000, s1000), (1600, s1600), (1700, s1700), (3700, s3700), (3800, s3800), (5000, s5000), (6400, s6400), (11800, s11800), (11900, s11900), (12000, s12000), (12200, s12200), (12300, s12300), (15300, s15300), (15400, s15400), (15500, s15500), (20500, s20500), (20600, s20600), (20700, s20700), (20800, s20800), (20900, s20900), (21000, s21000), (21100, s21100), (21300, s21300), (21400, s21400), (22000, s22000)]
def sg (g : Nat) : Sig := (Vs.look g sgs).getD []
def GT (i : Nat) : List TV := if i = 0 then [.str [124], .str [94], .str [38], .str ([61, 61]), .str [60], .str ([60, 60]), .str ([62, 62]), .str [43], .str [45], .str [42], .str [47], .str [37]] else []
noncomputable def laws_FnQuadTextOther (a0 : List Int) (a1 : List Int) : Option (Bool) := callTy Tb GT s21400 21400 [.sl .share .u8 a0, .sl .share .u8 a1] []
noncomputable def spec_DrawQuadText (a0 : List Int) : Option (Quad) := callTy Tb GT s21300 21300 [.sl .share .u8 a0] []
noncomputable def impl_QuadText (a0 : Quad) : Option (List UInt8) := callTy Tb GT s21100 21100 [.agg (rowT .quad a0)] []
noncomputable def spec_QuadText (a0 : Quad) : Option (List UInt8) := callTy Tb GT s20800 20800 [.agg (rowT .quad a0)] []
noncomputable def spec_l6Open (a0 : List Int) : Option (List Int × Int) := callTy Tb GT s100 100 [.sl .share .u8 a0] []
noncomputable def spec_l93Wrong (a0b : List Int) (a0p : Int) : Option (Quad × List Int × Int) := callTy Tb GT s15500 15500 [.bp 0 0] [.var [.sl .share .u8 a0b, .int .i64 a0p]]
noncomputable def impl_QuadValid (a0 : Quad) (a1 : Int) : Option (Bool) := callTy Tb GT s12300 12300 [.agg (rowT .quad a0), .int .i64 a1] []
noncomputable def impl_regText (a0 : Int) : Option (List UInt8) := callTy Tb GT s20900 20900 [.int .i64 a0] []
noncomputable def strconv_Itoa (a0 : Int) : Option (List UInt8) := callTy Tb GT s22000 22000 [.int .i64 a0] []
noncomputable def impl_OpText (a0 : Int) : Option (List UInt8) := callTy Tb GT s21000 21000 [.int .i64 a0] []
noncomputable def spec_QuadValid (a0 : Quad) (a1 : Int) : Option (Bool) := callTy Tb GT s12000 12000 [.agg (rowT .quad a0), .int .i64 a1] []
noncomputable def spec_l21R (a0 : Int) : Option (List UInt8) := callTy Tb GT s20600 20600 [.int .i64 a0] []
noncomputable def spec_l6Dec (a0 : Int) : Option (List UInt8) := callTy Tb GT s20500 20500 [.int .i64 a0] []
noncomputable def spec_OpText (a0 : Int) : Option (List UInt8) := callTy Tb GT s20700 20700 [.int .i64 a0] []
noncomputable def spec_l93Quad (a1 : Int) (a0b : List Int) (a0p : Int) : Option (Quad × List Int × Int) := callTy Tb GT s15400 15400 [.bp 0 0, .int .i64 a1] [.var [.sl .share .u8 a0b, .int .i64 a0p]]
noncomputable def spec_l6Rd_pick (a1 : Int) (a0b : List Int) (a0p : Int) : Option (Int × List Int × Int) := callTy Tb GT s200 200 [.bp 0 0, .int .i64 a1] [.var [.sl .share .u8 a0b, .int .i64 a0p]]
noncomputable def impl_isReg (a0 : Int) : Option (Bool) := callTy Tb GT s12200 12200 [.int .i64 a0] []
noncomputable def impl_WordValid (a0 : Int) : Option (Bool) := callTy Tb GT s5000 5000 [.int .i64 a0] []
noncomputable def impl_OpValid (a0 : Int) : Option (Bool) := callTy Tb GT s1000 1000 [.int .i64 a0] []
noncomputable def spec_l21Regs (a0 : Quad) (a1 : Bool) (a2 : Bool) (a3 : Bool) : Option (Bool) := callTy Tb GT s11900 11900 [.agg (rowT .quad a0), .bool a1, .bool a2, .bool a3] []
noncomputable def spec_WordValid (a0 : Int) : Option (Bool) := callTy Tb GT s6400 6400 [.int .i64 a0] []
noncomputable def spec_OpValid (a0 : Int) : Option (Bool) := callTy Tb GT s1700 1700 [.int .i64 a0] []
noncomputable def spec_l6In (a0 : Int) (a1 : Int) (a2 : Int) : Option (Bool) := callTy Tb GT s1600 1600 [.int .i64 a0, .int .i64 a1, .int .i64 a2] []
noncomputable def spec_l93Reg (a0b : List Int) (a0p : Int) : Option (Int × List Int × Int) := callTy Tb GT s15300 15300 [.bp 0 0] [.var [.sl .share .u8 a0b, .int .i64 a0p]]
noncomputable def spec_l91Word (a0b : List Int) (a0p : Int) : Option (Int × List Int × Int) := callTy Tb GT s3800 3800 [.bp 0 0] [.var [.sl .share .u8 a0b, .int .i64 a0p]]
noncomputable def spec_l91Op (a0b : List Int) (a0p : Int) : Option (Int × List Int × Int) := callTy Tb GT s600 600 [.bp 0 0] [.var [.sl .share .u8 a0b, .int .i64 a0p]]
noncomputable def spec_l21Reg (a0 : Int) (a1 : Bool) : Option (Bool) := callTy Tb GT s11800 11800 [.int .i64 a0, .bool a1] []
noncomputable def spec_Wrap (a0 : Int) : Option (Int) := callTy Tb GT s3700 3700 [.int .i64 a0] []
end Go.TFnQuadTextOther
