import Derived.Test.YtpkgdoapdijmeaaTv6

set_option linter.unusedVariables false
namespace Go.TFnExactWorldValid
open Go Go.RowKit Go.Vs Go.Tv

noncomputable def p1000 : ProcT := { kind := .fn, ins := [0], bins := [], res := [.tmp 2], code := (.seq (.region false [⟨some 2, .mv (.const (.bool false)), none, []⟩])
 (.seq (.region false [⟨some 3, .mv (.tmp 0), none, []⟩,
  ⟨some 4, .bin .geq (.tmp 3) (.const (.int .i64 1)), none, []⟩,
  ⟨some 5, .mv (.tmp 4), none, []⟩,
  ⟨some 6, .mv (.tmp 0), some (5, true), []⟩,
  ⟨some 7, .bin .leq (.tmp 6) (.const (.int .i64 12)), some (5, true), []⟩,
  ⟨some 8, .pick (.tmp 5) (.tmp 7) (.const (.bool false)), none, []⟩,
  ⟨some 2, .mv (.tmp 8), none, []⟩])
 .ret)) }
noncomputable def p1100 : ProcT := { kind := .fn, ins := [0, 1], bins := [], res := [.tmp 4], code := (.seq (.region false [⟨some 2, .box 100 (.tmp 0), none, []⟩,
  ⟨some 4, .mv (.const (.bool false)), none, []⟩])
 (.seq (.block 0 (.seq (.region false [⟨some 6, .fadr 0 (.tmp 2), none, []⟩,
  ⟨some 7, .load 1 false false (.tmp 6), none, []⟩,
  ⟨some 8, .bin .eql (.tmp 7) (.const (.int .i64 0)), none, []⟩,
  ⟨some 5, .mv (.tmp 8), none, []⟩])
 (.cond (.tmp 5) (.seq (.region false [⟨some 9, .fadr 1 (.tmp 2), none, []⟩,
  ⟨some 10, .load 1 false false (.tmp 9), none, []⟩,
  ⟨some 11, .bin .geq (.tmp 10) (.const (.int .i64 0)), none, []⟩,
  ⟨some 12, .mv (.tmp 11), none, []⟩,
  ⟨some 13, .fadr 1 (.tmp 2), some (12, true), []⟩,
  ⟨some 14, .load 1 false false (.tmp 13), some (12, true), []⟩,
  ⟨some 15, .bin .leq (.tmp 14) (.const (.int .i64 99999)), some (12, true), []⟩,
  ⟨some 16, .pick (.tmp 12) (.tmp 15) (.const (.bool false)), none, []⟩,
  ⟨some 17, .mv (.tmp 16), none, []⟩,
  ⟨some 18, .fadr 2 (.tmp 2), some (17, true), []⟩,
  ⟨some 19, .load 1 false false (.tmp 18), some (17, true), []⟩,
  ⟨some 20, .len (.tmp 19), some (17, true), []⟩,
  ⟨some 21, .bin .eql (.tmp 20) (.const (.int .i64 0)), some (17, true), []⟩,
  ⟨some 22, .pick (.tmp 17) (.tmp 21) (.const (.bool false)), none, []⟩,
  ⟨some 23, .mv (.tmp 22), none, []⟩,
  ⟨some 24, .mv (.tmp 1), some (23, true), []⟩,
  ⟨some 25, .bin .gtr (.tmp 24) (.const (.int .i64 0)), some (23, true), []⟩,
  ⟨some 26, .pick (.tmp 23) (.tmp 25) (.const (.bool false)), none, []⟩,
  ⟨some 4, .mv (.tmp 26), none, []⟩])
 .ret) (.seq (.region false [⟨some 28, .fadr 0 (.tmp 2), none, []⟩,
  ⟨some 29, .load 1 false false (.tmp 28), none, []⟩,
  ⟨some 30, .bin .eql (.tmp 29) (.const (.int .i64 13)), none, []⟩,
  ⟨some 27, .mv (.tmp 30), none, []⟩])
 (.cond (.tmp 27) (.seq (.region false [⟨some 31, .fadr 1 (.tmp 2), none, []⟩,
  ⟨some 32, .load 1 false false (.tmp 31), none, []⟩,
  ⟨some 33, .bin .geq (.tmp 32) (.const (.int .i64 0)), none, []⟩,
  ⟨some 34, .mv (.tmp 33), none, []⟩,
  ⟨some 35, .fadr 1 (.tmp 2), some (34, true), []⟩,
  ⟨some 36, .load 1 false false (.tmp 35), some (34, true), []⟩,
  ⟨some 37, .bin .lss (.tmp 36) (.const (.int .i64 4)), some (34, true), []⟩,
  ⟨some 38, .pick (.tmp 34) (.tmp 37) (.const (.bool false)), none, []⟩,
  ⟨some 39, .mv (.tmp 38), none, []⟩,
  ⟨some 40, .fadr 2 (.tmp 2), some (39, true), []⟩,
  ⟨some 41, .load 1 false false (.tmp 40), some (39, true), []⟩,
  ⟨some 42, .len (.tmp 41), some (39, true), []⟩,
  ⟨some 43, .bin .eql (.tmp 42) (.const (.int .i64 0)), some (39, true), []⟩,
  ⟨some 44, .pick (.tmp 39) (.tmp 43) (.const (.bool false)), none, []⟩,
  ⟨some 45, .mv (.tmp 44), none, []⟩,
  ⟨some 46, .mv (.tmp 1), some (45, true), []⟩,
  ⟨some 47, .bin .gtr (.tmp 46) (.const (.int .i64 0)), some (45, true), []⟩,
  ⟨some 48, .pick (.tmp 45) (.tmp 47) (.const (.bool false)), none, []⟩,
  ⟨some 4, .mv (.tmp 48), none, []⟩])
 .ret) .skip)))))
 (.seq (.region false [⟨some 49, .fadr 0 (.tmp 2), none, []⟩,
  ⟨some 50, .load 1 false false (.tmp 49), none, []⟩,
  ⟨some 51, .call 1000 0 [.tmp 50], none, []⟩,
  ⟨some 52, .mv (.tmp 51), none, []⟩,
  ⟨some 53, .fadr 1 (.tmp 2), some (52, true), []⟩,
  ⟨some 54, .load 1 false false (.tmp 53), some (52, true), []⟩,
  ⟨some 55, .bin .eql (.tmp 54) (.const (.int .i64 0)), some (52, true), []⟩,
  ⟨some 56, .pick (.tmp 52) (.tmp 55) (.const (.bool false)), none, []⟩,
  ⟨some 57, .mv (.tmp 56), none, []⟩,
  ⟨some 58, .fadr 2 (.tmp 2), some (57, true), []⟩,
  ⟨some 59, .load 1 false false (.tmp 58), some (57, true), []⟩,
  ⟨some 60, .len (.tmp 59), some (57, true), []⟩,
  ⟨some 61, .bin .eql (.tmp 60) (.const (.int .i64 2)), some (57, true), []⟩,
  ⟨some 62, .pick (.tmp 57) (.tmp 61) (.const (.bool false)), none, []⟩,
  ⟨some 63, .mv (.tmp 62), none, []⟩,
  ⟨some 64, .mv (.tmp 1), some (63, true), []⟩,
  ⟨some 65, .bin .gtr (.tmp 64) (.const (.int .i64 1)), some (63, true), []⟩,
  ⟨some 66, .pick (.tmp 63) (.tmp 65) (.const (.bool false)), none, []⟩,
  ⟨some 67, .mv (.tmp 66), none, []⟩,
  ⟨some 68, .fadr 2 (.tmp 2), some (67, true), []⟩,
  ⟨some 69, .load 1 false false (.tmp 68), some (67, true), []⟩,
  ⟨some 70, .iadr 3 (.tmp 69) (.const (.int .i64 0)), some (67, true), []⟩,
  ⟨some 71, .load 3 true false (.tmp 70), some (67, true), []⟩,
  ⟨some 72, .mv (.tmp 1), some (67, true), []⟩,
  ⟨some 73, .bin .sub (.tmp 72) (.const (.int .i64 1)), some (67, true), []⟩,
  ⟨some 74, .call 1100 0 [.tmp 71, .tmp 73], some (67, true), []⟩,
  ⟨some 75, .pick (.tmp 67) (.tmp 74) (.const (.bool false)), none, []⟩,
  ⟨some 76, .mv (.tmp 75), none, []⟩,
  ⟨some 77, .fadr 2 (.tmp 2), some (76, true), []⟩,
  ⟨some 78, .load 1 false false (.tmp 77), some (76, true), []⟩,
  ⟨some 79, .iadr 3 (.tmp 78) (.const (.int .i64 1)), some (76, true), []⟩,
  ⟨some 80, .load 3 true false (.tmp 79), some (76, true), []⟩,
  ⟨some 81, .mv (.tmp 1), some (76, true), []⟩,
  ⟨some 82, .bin .sub (.tmp 81) (.const (.int .i64 1)), some (76, true), []⟩,
  ⟨some 83, .call 1100 0 [.tmp 80, .tmp 82], some (76, true), []⟩,
  ⟨some 84, .pick (.tmp 76) (.tmp 83) (.const (.bool false)), none, []⟩,
  ⟨some 4, .mv (.tmp 84), none, []⟩])
 .ret))) }
noncomputable def p1200 : ProcT := { kind := .fn, ins := [0], bins := [], res := [.tmp 2], code := (.seq (.region false [⟨some 1, .box 100 (.tmp 0), none, []⟩,
  ⟨some 2, .mv (.const (.bool false)), none, []⟩])
 (.seq (.region false [⟨some 3, .load 3 true false (.tmp 1), none, []⟩,
  ⟨some 4, .call 1100 0 [.tmp 3, .const (.int .i64 5)], none, []⟩,
  ⟨some 2, .mv (.tmp 4), none, []⟩])
 .ret)) }
noncomputable def p1600 : ProcT := { kind := .fn, ins := [0, 1, 2], bins := [], res := [.tmp 6], code := (.seq (.region false [⟨some 6, .mv (.const (.bool false)), none, []⟩])
 (.seq (.region false [⟨some 7, .mv (.tmp 0), none, []⟩,
  ⟨some 8, .mv (.tmp 1), none, []⟩,
  ⟨some 9, .bin .geq (.tmp 7) (.tmp 8), none, []⟩,
  ⟨some 10, .mv (.tmp 9), none, []⟩,
  ⟨some 11, .mv (.tmp 0), some (10, true), []⟩,
  ⟨some 12, .mv (.tmp 2), some (10, true), []⟩,
  ⟨some 13, .bin .leq (.tmp 11) (.tmp 12), some (10, true), []⟩,
  ⟨some 14, .pick (.tmp 10) (.tmp 13) (.const (.bool false)), none, []⟩,
  ⟨some 6, .mv (.tmp 14), none, []⟩])
 .ret)) }
noncomputable def p1700 : ProcT := { kind := .fn, ins := [0], bins := [], res := [.tmp 2], code := (.seq (.region false [⟨some 2, .mv (.const (.bool false)), none, []⟩])
 (.seq (.region false [⟨some 3, .mv (.tmp 0), none, []⟩,
  ⟨some 4, .call 1600 0 [.tmp 3, .const (.int .i64 1), .const (.int .i64 12)], none, []⟩,
  ⟨some 2, .mv (.tmp 4), none, []⟩])
 .ret)) }
noncomputable def p1800 : ProcT := { kind := .fn, ins := [0, 1], bins := [], res := [.tmp 4], code := (.seq (.region false [⟨some 2, .box 100 (.tmp 0), none, []⟩,
  ⟨some 4, .mv (.const (.bool false)), none, []⟩])
 (.seq (.seq (.region false [⟨some 5, .mv (.tmp 1), none, []⟩,
  ⟨some 6, .bin .lss (.tmp 5) (.const (.int .i64 1)), none, []⟩])
 (.cond (.tmp 6) (.seq (.region false [⟨some 4, .mv (.const (.bool false)), none, []⟩])
 .ret) .skip))
 (.seq (.seq (.region false [⟨some 7, .fadr 0 (.tmp 2), none, []⟩,
  ⟨some 8, .load 1 false false (.tmp 7), none, []⟩,
  ⟨some 9, .bin .eql (.tmp 8) (.const (.int .i64 0)), none, []⟩])
 (.cond (.tmp 9) (.seq (.region false [⟨some 10, .fadr 1 (.tmp 2), none, []⟩,
  ⟨some 11, .load 1 false false (.tmp 10), none, []⟩,
  ⟨some 12, .call 1600 0 [.tmp 11, .const (.int .i64 0), .const (.int .i64 99999)], none, []⟩,
  ⟨some 13, .mv (.tmp 12), none, []⟩,
  ⟨some 14, .fadr 2 (.tmp 2), some (13, true), []⟩,
  ⟨some 15, .load 1 false false (.tmp 14), some (13, true), []⟩,
  ⟨some 16, .len (.tmp 15), some (13, true), []⟩,
  ⟨some 17, .bin .eql (.tmp 16) (.const (.int .i64 0)), some (13, true), []⟩,
  ⟨some 18, .pick (.tmp 13) (.tmp 17) (.const (.bool false)), none, []⟩,
  ⟨some 4, .mv (.tmp 18), none, []⟩])
 .ret) .skip))
 (.seq (.seq (.region false [⟨some 19, .fadr 0 (.tmp 2), none, []⟩,
  ⟨some 20, .load 1 false false (.tmp 19), none, []⟩,
  ⟨some 21, .bin .eql (.tmp 20) (.const (.int .i64 13)), none, []⟩])
 (.cond (.tmp 21) (.seq (.region false [⟨some 22, .fadr 1 (.tmp 2), none, []⟩,
  ⟨some 23, .load 1 false false (.tmp 22), none, []⟩,
  ⟨some 24, .call 1600 0 [.tmp 23, .const (.int .i64 0), .const (.int .i64 3)], none, []⟩,
  ⟨some 25, .mv (.tmp 24), none, []⟩,
  ⟨some 26, .fadr 2 (.tmp 2), some (25, true), []⟩,
  ⟨some 27, .load 1 false false (.tmp 26), some (25, true), []⟩,
  ⟨some 28, .len (.tmp 27), some (25, true), []⟩,
  ⟨some 29, .bin .eql (.tmp 28) (.const (.int .i64 0)), some (25, true), []⟩,
  ⟨some 30, .pick (.tmp 25) (.tmp 29) (.const (.bool false)), none, []⟩,
  ⟨some 4, .mv (.tmp 30), none, []⟩])
 .ret) .skip))
 (.seq (.region false [⟨some 31, .fadr 0 (.tmp 2), none, []⟩,
  ⟨some 32, .load 1 false false (.tmp 31), none, []⟩,
  ⟨some 33, .call 1700 0 [.tmp 32], none, []⟩,
  ⟨some 34, .mv (.tmp 33), none, []⟩,
  ⟨some 35, .fadr 1 (.tmp 2), some (34, true), []⟩,
  ⟨some 36, .load 1 false false (.tmp 35), some (34, true), []⟩,
  ⟨some 37, .bin .eql (.tmp 36) (.const (.int .i64 0)), some (34, true), []⟩,
  ⟨some 38, .pick (.tmp 34) (.tmp 37) (.const (.bool false)), none, []⟩,
  ⟨some 39, .mv (.tmp 38), none, []⟩,
  ⟨some 40, .fadr 2 (.tmp 2), some (39, true), []⟩,
  ⟨some 41, .load 1 false false (.tmp 40), some (39, true), []⟩,
  ⟨some 42, .len (.tmp 41), some (39, true), []⟩,
  ⟨some 43, .bin .eql (.tmp 42) (.const (.int .i64 2)), some (39, true), []⟩,
  ⟨some 44, .pick (.tmp 39) (.tmp 43) (.const (.bool false)), none, []⟩,
  ⟨some 45, .mv (.tmp 44), none, []⟩,
  ⟨some 46, .fadr 2 (.tmp 2), some (45, true), []⟩,
  ⟨some 47, .load 1 false false (.tmp 46), some (45, true), []⟩,
  ⟨some 48, .iadr 3 (.tmp 47) (.const (.int .i64 0)), some (45, true), []⟩,
  ⟨some 49, .load 3 true false (.tmp 48), some (45, true), []⟩,
  ⟨some 50, .mv (.tmp 1), some (45, true), []⟩,
  ⟨some 51, .bin .sub (.tmp 50) (.const (.int .i64 1)), some (45, true), []⟩,
  ⟨some 52, .call 1800 0 [.tmp 49, .tmp 51], some (45, true), []⟩,
  ⟨some 53, .pick (.tmp 45) (.tmp 52) (.const (.bool false)), none, []⟩,
  ⟨some 54, .mv (.tmp 53), none, []⟩,
  ⟨some 55, .fadr 2 (.tmp 2), some (54, true), []⟩,
  ⟨some 56, .load 1 false false (.tmp 55), some (54, true), []⟩,
  ⟨some 57, .iadr 3 (.tmp 56) (.const (.int .i64 1)), some (54, true), []⟩,
  ⟨some 58, .load 3 true false (.tmp 57), some (54, true), []⟩,
  ⟨some 59, .mv (.tmp 1), some (54, true), []⟩,
  ⟨some 60, .bin .sub (.tmp 59) (.const (.int .i64 1)), some (54, true), []⟩,
  ⟨some 61, .call 1800 0 [.tmp 58, .tmp 60], some (54, true), []⟩,
  ⟨some 62, .pick (.tmp 54) (.tmp 61) (.const (.bool false)), none, []⟩,
  ⟨some 4, .mv (.tmp 62), none, []⟩])
 .ret))))) }
noncomputable def p1900 : ProcT := { kind := .fn, ins := [0], bins := [], res := [.tmp 2], code := (.seq (.region false [⟨some 1, .box 100 (.tmp 0), none, []⟩,
  ⟨some 2, .mv (.const (.bool false)), none, []⟩])
 (.seq (.region false [⟨some 3, .load 3 true false (.tmp 1), none, []⟩,
  ⟨some 4, .call 1800 0 [.tmp 3, .const (.int .i64 5)], none, []⟩,
  ⟨some 2, .mv (.tmp 4), none, []⟩])
 .ret)) }
noncomputable def p4000 : ProcT := { kind := .fn, ins := [0], bins := [], res := [.tmp 2], code := (.seq (.region false [⟨some 2, .mv (.const (.int .i64 0)), none, []⟩])
 (.seq (.region false [⟨some 3, .mv (.const (.int .i64 0)), none, []⟩])
 (.seq (.seq (.region false [⟨some 4, .mv (.const (.int .i64 0)), none, []⟩])
 (.block 0 (.label 4001)))
 (.seq (.region false [⟨some 27, .mv (.tmp 3), none, []⟩,
  ⟨some 2, .mv (.tmp 27), none, []⟩])
 .ret)))) }
noncomputable def p4001 : ProcT := { kind := .loop, ins := [0, 3, 4], bins := [], outs := [2, 3], bouts := [], code := (.seq (.seq (.region false [⟨some 5, .mv (.tmp 4), none, []⟩,
  ⟨some 6, .mv (.tmp 0), none, []⟩,
  ⟨some 7, .len (.tmp 6), none, []⟩,
  ⟨some 8, .bin .lss (.tmp 5) (.tmp 7), none, []⟩])
 (.cond (.tmp 8) .skip (.exit 0)))
 (.seq (.block 1 (.region true [⟨some 11, .mv (.tmp 3), none, []⟩,
  ⟨some 12, .bin .add (.tmp 11) (.const (.int .i64 1)), none, []⟩,
  ⟨some 13, .mv (.tmp 0), none, []⟩,
  ⟨some 14, .mv (.tmp 4), none, []⟩,
  ⟨some 15, .iadr 8 (.tmp 13) (.tmp 14), none, []⟩,
  ⟨some 16, .fadr 6 (.tmp 15), none, []⟩,
  ⟨some 17, .load 1 false false (.tmp 16), none, []⟩,
  ⟨some 18, .call 4000 0 [.tmp 17], none, []⟩,
  ⟨some 19, .bin .add (.tmp 12) (.tmp 18), none, []⟩,
  ⟨some 20, .mv (.tmp 0), none, []⟩,
  ⟨some 21, .mv (.tmp 4), none, []⟩,
  ⟨some 22, .iadr 8 (.tmp 20) (.tmp 21), none, []⟩,
  ⟨some 23, .fadr 7 (.tmp 22), none, []⟩,
  ⟨some 24, .load 1 false false (.tmp 23), none, []⟩,
  ⟨some 25, .call 4000 0 [.tmp 24], none, []⟩,
  ⟨some 26, .bin .add (.tmp 19) (.tmp 25), none, []⟩,
  ⟨some 3, .mv (.tmp 26), none, []⟩]))
 (.region false [⟨some 9, .mv (.tmp 4), none, []⟩,
  ⟨some 10, .bin .add (.tmp 9) (.const (.int .i64 1)), none, []⟩,
  ⟨some 4, .mv (.tmp 10), none, []⟩]))) }
noncomputable def p5000 : ProcT := { kind := .fn, ins := [0], bins := [], res := [.tmp 2], code := (.seq (.region false [⟨some 2, .mv (.const (.bool false)), none, []⟩])
 (.seq (.region false [⟨some 3, .mv (.tmp 0), none, []⟩,
  ⟨some 4, .bin .geq (.tmp 3) (.const (.int .i64 (-2147483648))), none, []⟩,
  ⟨some 5, .mv (.tmp 4), none, []⟩,
  ⟨some 6, .mv (.tmp 0), some (5, true), []⟩,
  ⟨some 7, .bin .leq (.tmp 6) (.const (.int .i64 2147483647)), some (5, true), []⟩,
  ⟨some 8, .pick (.tmp 5) (.tmp 7) (.const (.bool false)), none, []⟩,
  ⟨some 2, .mv (.tmp 8), none, []⟩])
 .ret)) }
noncomputable def p5100 : ProcT := { kind := .fn, ins := [0], bins := [], res := [.tmp 2], code := (.seq (.region false [⟨some 2, .mv (.const (.bool false)), none, []⟩])
 (.seq (.seq (.region false [⟨some 5, .mv (.tmp 0), none, []⟩,
  ⟨some 6, .len (.tmp 5), none, []⟩,
  ⟨some 7, .mv (.const (.int .i64 0)), none, []⟩])
 (.block 0 (.label 5101)))
 (.seq (.region false [⟨some 2, .mv (.const (.bool true)), none, []⟩])
 .ret))) }
noncomputable def p5101 : ProcT := { kind := .loop, ins := [5, 6, 7], bins := [], outs := [2], bouts := [], code := (.seq (.region false [⟨some 8, .bin .lss (.tmp 7) (.tmp 6), none, []⟩])
 (.seq (.cond (.tmp 8) .skip (.exit 0))
 (.seq (.block 1 (.seq (.region false [⟨some 9, .iadr 1 (.tmp 5) (.tmp 7), none, []⟩,
  ⟨some 10, .load 1 false false (.tmp 9), none, []⟩,
  ⟨some 4, .mv (.tmp 10), none, []⟩])
 (.seq (.region false [⟨some 11, .mv (.tmp 4), none, []⟩,
  ⟨some 12, .call 5000 0 [.tmp 11], none, []⟩,
  ⟨some 13, .un .not (.tmp 12), none, []⟩])
 (.cond (.tmp 13) (.seq (.region false [⟨some 2, .mv (.const (.bool false)), none, []⟩])
 .ret) .skip))))
 (.region false [⟨some 14, .bin .add (.tmp 7) (.const (.int .i64 1)), none, []⟩,
  ⟨some 7, .mv (.tmp 14), none, []⟩])))) }
noncomputable def p5200 : ProcT := { kind := .fn, ins := [0, 1], bins := [], res := [.tmp 4], code := (.seq (.region false [⟨some 4, .mv (.const (.bool false)), none, []⟩])
 (.seq (.region false [⟨some 5, .alloc 100 [.bool false, .bool false, .bool false, .bool false, .bool false], none, []⟩])
 (.seq (.seq (.region false [⟨some 7, .mv (.tmp 0), none, []⟩,
  ⟨some 8, .nilck (.tmp 7), none, []⟩,
  ⟨some 9, .fadr 0 (.tmp 8), none, []⟩,
  ⟨some 10, .load 1 false false (.tmp 9), none, []⟩])
 (.block 0 (.seq (.region false [⟨some 12, .bin .eql (.tmp 10) (.const (.int .i64 1)), none, []⟩,
  ⟨some 11, .mv (.tmp 12), none, []⟩])
 (.cond (.tmp 11) (.region false [⟨some 13, .fadr 0 (.tmp 5), none, []⟩,
  ⟨none, .store 1 (.tmp 13) (.const (.bool true)), none, []⟩,
  ⟨some 14, .fadr 2 (.tmp 5), none, []⟩,
  ⟨none, .store 1 (.tmp 14) (.const (.bool true)), none, []⟩]) (.seq (.region false [⟨some 16, .bin .eql (.tmp 10) (.const (.int .i64 2)), none, []⟩,
  ⟨some 15, .mv (.tmp 16), none, []⟩])
 (.cond (.tmp 15) (.region false [⟨some 17, .fadr 2 (.tmp 5), none, []⟩,
  ⟨none, .store 1 (.tmp 17) (.const (.bool true)), none, []⟩,
  ⟨some 18, .fadr 3 (.tmp 5), none, []⟩,
  ⟨none, .store 1 (.tmp 18) (.const (.bool true)), none, []⟩,
  ⟨some 19, .fadr 4 (.tmp 5), none, []⟩,
  ⟨none, .store 1 (.tmp 19) (.const (.bool true)), none, []⟩]) (.seq (.region false [⟨some 21, .bin .eql (.tmp 10) (.const (.int .i64 3)), none, []⟩,
  ⟨some 20, .mv (.tmp 21), none, []⟩])
 (.cond (.tmp 20) (.region false [⟨some 22, .fadr 2 (.tmp 5), none, []⟩,
  ⟨none, .store 1 (.tmp 22) (.const (.bool true)), none, []⟩,
  ⟨some 23, .fadr 3 (.tmp 5), none, []⟩,
  ⟨none, .store 1 (.tmp 23) (.const (.bool true)), none, []⟩]) (.seq (.region false [⟨some 25, .bin .eql (.tmp 10) (.const (.int .i64 4)), none, []⟩,
  ⟨some 24, .mv (.tmp 25), none, []⟩])
 (.cond (.tmp 24) (.region false [⟨some 26, .fadr 1 (.tmp 5), none, []⟩,
  ⟨none, .store 1 (.tmp 26) (.const (.bool true)), none, []⟩,
  ⟨some 27, .fadr 2 (.tmp 5), none, []⟩,
  ⟨none, .store 1 (.tmp 27) (.const (.bool true)), none, []⟩]) (.seq (.region false [⟨some 29, .bin .eql (.tmp 10) (.const (.int .i64 5)), none, []⟩,
  ⟨some 28, .mv (.tmp 29), none, []⟩])
 (.cond (.tmp 28) (.region false [⟨some 30, .fadr 1 (.tmp 5), none, []⟩,
  ⟨none, .store 1 (.tmp 30) (.const (.bool true)), none, []⟩,
  ⟨some 31, .fadr 0 (.tmp 5), none, []⟩,
  ⟨none, .store 1 (.tmp 31) (.const (.bool true)), none, []⟩]) (.seq (.region false [⟨some 33, .bin .eql (.tmp 10) (.const (.int .i64 7)), none, []⟩,
  ⟨some 32, .mv (.tmp 33), none, []⟩])
 (.cond (.tmp 32) (.region false [⟨some 34, .fadr 2 (.tmp 5), none, []⟩,
  ⟨none, .store 1 (.tmp 34) (.const (.bool true)), none, []⟩]) (.seq (.region false [⟨some 36, .bin .eql (.tmp 10) (.const (.int .i64 6)), none, []⟩,
  ⟨some 35, .mv (.tmp 36), none, []⟩])
 (.cond (.tmp 35) .skip (.seq (.region false [⟨some 4, .mv (.const (.bool false)), none, []⟩])
 .ret)))))))))))))))))
 (.seq (.region false [⟨some 6, .mv (.func 11100), none, []⟩])
 (.seq (.seq (.region true [⟨some 37, .mv (.tmp 6), none, []⟩,
  ⟨some 38, .mv (.tmp 0), none, []⟩,
  ⟨some 39, .nilck (.tmp 38), none, []⟩,
  ⟨some 40, .fadr 1 (.tmp 39), none, []⟩,
  ⟨some 41, .load 1 false false (.tmp 40), none, []⟩,
  ⟨some 42, .fadr 0 (.tmp 5), none, [100]⟩,
  ⟨some 43, .load 1 false false (.tmp 42), none, [100]⟩,
  ⟨some 44, .callv (.tmp 37) [.tmp 41, .const (.int .i64 4), .tmp 43], none, []⟩,
  ⟨some 45, .un .not (.tmp 44), none, []⟩,
  ⟨some 46, .mv (.tmp 45), none, []⟩,
  ⟨some 47, .mv (.tmp 6), some (46, false), []⟩,
  ⟨some 48, .mv (.tmp 0), some (46, false), []⟩,
  ⟨some 49, .nilck (.tmp 48), some (46, false), []⟩,
  ⟨some 50, .fadr 2 (.tmp 49), some (46, false), []⟩,
  ⟨some 51, .load 1 false false (.tmp 50), some (46, false), []⟩,
  ⟨some 52, .mv (.tmp 1), some (46, false), []⟩,
  ⟨some 53, .fadr 1 (.tmp 5), some (46, false), [100]⟩,
  ⟨some 54, .load 1 false false (.tmp 53), some (46, false), [100]⟩,
  ⟨some 55, .callv (.tmp 47) [.tmp 51, .tmp 52, .tmp 54], some (46, false), []⟩,
  ⟨some 56, .un .not (.tmp 55), some (46, false), []⟩,
  ⟨some 57, .pick (.tmp 46) (.const (.bool true)) (.tmp 56), none, []⟩,
  ⟨some 58, .mv (.tmp 57), none, []⟩,
  ⟨some 59, .fadr 1 (.tmp 5), some (58, false), [100]⟩,
  ⟨some 60, .load 1 false false (.tmp 59), some (58, false), [100]⟩,
  ⟨some 61, .mv (.tmp 60), some (58, false), []⟩,
  ⟨some 62, .mv (.tmp 0), some (61, true), []⟩,
  ⟨some 63, .nilck (.tmp 62), some (61, true), []⟩,
  ⟨some 64, .fadr 2 (.tmp 63), some (61, true), []⟩,
  ⟨some 65, .load 1 false false (.tmp 64), some (61, true), []⟩,
  ⟨some 66, .mv (.tmp 1), some (61, true), []⟩,
  ⟨some 67, .bin .geq (.tmp 65) (.tmp 66), some (61, true), []⟩,
  ⟨some 68, .pick (.tmp 61) (.tmp 67) (.const (.bool false)), some (58, false), []⟩,
  ⟨some 69, .pick (.tmp 58) (.const (.bool true)) (.tmp 68), none, []⟩])
 (.cond (.tmp 69) (.seq (.region false [⟨some 4, .mv (.const (.bool false)), none, []⟩])
 .ret) .skip))
 (.seq (.seq (.region false [⟨some 70, .fadr 2 (.tmp 5), none, []⟩,
  ⟨some 71, .load 1 false false (.tmp 70), none, []⟩,
  ⟨some 72, .mv (.tmp 71), none, []⟩,
  ⟨some 73, .mv (.tmp 0), some (72, true), []⟩,
  ⟨some 74, .nilck (.tmp 73), some (72, true), []⟩,
  ⟨some 75, .fadr 3 (.tmp 74), some (72, true), []⟩,
  ⟨some 76, .load 3 true false (.tmp 75), some (72, true), []⟩,
  ⟨some 77, .call 1200 0 [.tmp 76], some (72, true), []⟩,
  ⟨some 78, .un .not (.tmp 77), some (72, true), []⟩,
  ⟨some 79, .pick (.tmp 72) (.tmp 78) (.const (.bool false)), none, []⟩,
  ⟨some 80, .mv (.tmp 79), none, []⟩,
  ⟨some 81, .fadr 2 (.tmp 5), some (80, false), []⟩,
  ⟨some 82, .load 1 false false (.tmp 81), some (80, false), []⟩,
  ⟨some 83, .un .not (.tmp 82), some (80, false), []⟩,
  ⟨some 84, .mv (.tmp 83), some (80, false), []⟩,
  ⟨some 85, .mv (.tmp 0), some (84, true), []⟩,
  ⟨some 86, .nilck (.tmp 85), some (84, true), []⟩,
  ⟨some 87, .fadr 3 (.tmp 86), some (84, true), []⟩,
  ⟨some 88, .fadr 0 (.tmp 87), some (84, true), []⟩,
  ⟨some 89, .load 1 false false (.tmp 88), some (84, true), []⟩,
  ⟨some 90, .bin .neq (.tmp 89) (.const (.int .i64 0)), some (84, true), []⟩,
  ⟨some 91, .mv (.tmp 90), some (84, true), []⟩,
  ⟨some 92, .mv (.tmp 0), some (91, false), []⟩,
  ⟨some 93, .nilck (.tmp 92), some (91, false), []⟩,
  ⟨some 94, .fadr 3 (.tmp 93), some (91, false), []⟩,
  ⟨some 95, .fadr 1 (.tmp 94), some (91, false), []⟩,
  ⟨some 96, .load 1 false false (.tmp 95), some (91, false), []⟩,
  ⟨some 97, .bin .neq (.tmp 96) (.const (.int .i64 0)), some (91, false), []⟩,
  ⟨some 98, .pick (.tmp 91) (.const (.bool true)) (.tmp 97), some (84, true), []⟩,
  ⟨some 99, .mv (.tmp 98), some (84, true), []⟩,
  ⟨some 100, .mv (.tmp 0), some (99, false), []⟩,
  ⟨some 101, .nilck (.tmp 100), some (99, false), []⟩,
  ⟨some 102, .fadr 3 (.tmp 101), some (99, false), []⟩,
  ⟨some 103, .fadr 2 (.tmp 102), some (99, false), []⟩,
  ⟨some 104, .load 1 false false (.tmp 103), some (99, false), []⟩,
  ⟨some 105, .len (.tmp 104), some (99, false), []⟩,
  ⟨some 106, .bin .gtr (.tmp 105) (.const (.int .i64 0)), some (99, false), []⟩,
  ⟨some 107, .pick (.tmp 99) (.const (.bool true)) (.tmp 106), some (84, true), []⟩,
  ⟨some 108, .pick (.tmp 84) (.tmp 107) (.const (.bool false)), some (80, false), []⟩,
  ⟨some 109, .pick (.tmp 80) (.const (.bool true)) (.tmp 108), none, []⟩])
 (.cond (.tmp 109) (.seq (.region false [⟨some 4, .mv (.const (.bool false)), none, []⟩])
 .ret) .skip))
 (.seq (.region false [⟨some 110, .fadr 3 (.tmp 5), none, []⟩,
  ⟨some 111, .load 1 false false (.tmp 110), none, []⟩,
  ⟨some 112, .mv (.tmp 111), none, []⟩,
  ⟨some 113, .mv (.tmp 0), some (112, false), []⟩,
  ⟨some 114, .nilck (.tmp 113), some (112, false), []⟩,
  ⟨some 115, .fadr 6 (.tmp 114), some (112, false), []⟩,
  ⟨some 116, .load 1 false false (.tmp 115), some (112, false), []⟩,
  ⟨some 117, .len (.tmp 116), some (112, false), []⟩,
  ⟨some 118, .bin .eql (.tmp 117) (.const (.int .i64 0)), some (112, false), []⟩,
  ⟨some 119, .pick (.tmp 112) (.const (.bool true)) (.tmp 118), none, []⟩,
  ⟨some 120, .mv (.tmp 119), none, []⟩,
  ⟨some 121, .fadr 4 (.tmp 5), some (120, true), []⟩,
  ⟨some 122, .load 1 false false (.tmp 121), some (120, true), []⟩,
  ⟨some 123, .mv (.tmp 122), some (120, true), []⟩,
  ⟨some 124, .mv (.tmp 0), some (123, false), []⟩,
  ⟨some 125, .nilck (.tmp 124), some (123, false), []⟩,
  ⟨some 126, .fadr 7 (.tmp 125), some (123, false), []⟩,
  ⟨some 127, .load 1 false false (.tmp 126), some (123, false), []⟩,
  ⟨some 128, .len (.tmp 127), some (123, false), []⟩,
  ⟨some 129, .bin .eql (.tmp 128) (.const (.int .i64 0)), some (123, false), []⟩,
  ⟨some 130, .pick (.tmp 123) (.const (.bool true)) (.tmp 129), some (120, true), []⟩,
  ⟨some 131, .pick (.tmp 120) (.tmp 130) (.const (.bool false)), none, []⟩,
  ⟨some 4, .mv (.tmp 131), none, []⟩])
 .ret))))))) }
noncomputable def p5300 : ProcT := { kind := .fn, ins := [0, 1, 2, 3], bins := [0], res := [.tmp 8], code := (.seq (.region false [⟨some 8, .mv (.const (.bool false)), none, []⟩])
 (.seq (.region false [⟨some 11, .mv (.tmp 3), none, []⟩,
  ⟨some 12, .nilck (.tmp 11), none, []⟩,
  ⟨some 13, .load 1 false false (.tmp 12), none, []⟩,
  ⟨some 14, .mv (.tmp 0), none, []⟩,
  ⟨some 15, .len (.tmp 14), none, []⟩,
  ⟨some 16, .bin .add (.tmp 13) (.tmp 15), none, []⟩,
  ⟨some 17, .nilck (.tmp 11), none, []⟩,
  ⟨none, .store 1 (.tmp 17) (.tmp 16), none, []⟩])
 (.seq (.seq (.region false [⟨some 18, .mv (.tmp 3), none, []⟩,
  ⟨some 19, .nilck (.tmp 18), none, []⟩,
  ⟨some 20, .load 1 false false (.tmp 19), none, []⟩,
  ⟨some 21, .bin .gtr (.tmp 20) (.const (.int .i64 16)), none, []⟩])
 (.cond (.tmp 21) (.seq (.region false [⟨some 8, .mv (.const (.bool false)), none, []⟩])
 .ret) .skip))
 (.seq (.seq (.region false [⟨some 22, .mv (.tmp 0), none, []⟩,
  ⟨some 23, .len (.tmp 22), none, []⟩,
  ⟨some 24, .mv (.const (.int .i64 0)), none, []⟩])
 (.block 0 (.label 5301)))
 (.seq (.region false [⟨some 8, .mv (.const (.bool true)), none, []⟩])
 .ret))))) }
noncomputable def p5301 : ProcT := { kind := .loop, ins := [0, 1, 2, 3, 23, 24], bins := [0], outs := [3, 8], bouts := [0], code := (.seq (.region false [⟨some 25, .bin .lss (.tmp 24) (.tmp 23), none, []⟩])
 (.seq (.cond (.tmp 25) .skip (.exit 0))
 (.seq (.block 1 (.seq (.region false [⟨some 26, .mv (.tmp 24), none, []⟩,
  ⟨some 9, .mv (.tmp 26), none, []⟩])
 (.seq (.region false [⟨some 27, .mv (.tmp 0), none, []⟩,
  ⟨some 28, .mv (.tmp 9), none, []⟩,
  ⟨some 29, .iadr 8 (.tmp 27) (.tmp 28), none, []⟩,
  ⟨some 10, .mv (.tmp 29), none, []⟩])
 (.seq (.seq (.region false [⟨some 30, .mv (.tmp 10), none, []⟩,
  ⟨some 31, .mv (.tmp 1), none, []⟩,
  ⟨some 32, .call 5200 0 [.tmp 30, .tmp 31], none, []⟩,
  ⟨some 33, .un .not (.tmp 32), none, []⟩,
  ⟨some 34, .mv (.tmp 33), none, []⟩,
  ⟨some 35, .mv (.tmp 2), some (34, false), []⟩,
  ⟨some 36, .bin .gtr (.tmp 35) (.const (.int .i64 3)), some (34, false), []⟩,
  ⟨some 37, .pick (.tmp 34) (.const (.bool true)) (.tmp 36), none, []⟩])
 (.cond (.tmp 37) (.seq (.region false [⟨some 8, .mv (.const (.bool false)), none, []⟩])
 .ret) .skip))
 (.seq (.seq (.region false [⟨some 38, .mv (.tmp 10), none, []⟩,
  ⟨some 39, .nilck (.tmp 38), none, []⟩,
  ⟨some 40, .fadr 0 (.tmp 39), none, []⟩,
  ⟨some 41, .load 1 false false (.tmp 40), none, []⟩,
  ⟨some 42, .bin .neq (.tmp 41) (.const (.int .i64 2)), none, []⟩,
  ⟨some 43, .mv (.tmp 42), none, []⟩,
  ⟨some 44, .mv (.tmp 10), some (43, true), []⟩,
  ⟨some 45, .nilck (.tmp 44), some (43, true), []⟩,
  ⟨some 46, .fadr 0 (.tmp 45), some (43, true), []⟩,
  ⟨some 47, .load 1 false false (.tmp 46), some (43, true), []⟩,
  ⟨some 48, .bin .neq (.tmp 47) (.const (.int .i64 3)), some (43, true), []⟩,
  ⟨some 49, .pick (.tmp 43) (.tmp 48) (.const (.bool false)), none, []⟩])
 (.cond (.tmp 49) (.exit 1) .skip))
 (.seq (.region false [⟨some 50, .mv (.tmp 2), none, []⟩,
  ⟨some 51, .bin .geq (.tmp 50) (.const (.int .i64 3)), none, []⟩,
  ⟨some 52, .mv (.tmp 51), none, []⟩,
  ⟨some 53, .mv (.tmp 10), some (52, false), []⟩,
  ⟨some 54, .nilck (.tmp 53), some (52, false), []⟩,
  ⟨some 55, .fadr 6 (.tmp 54), some (52, false), []⟩,
  ⟨some 56, .load 1 false false (.tmp 55), some (52, false), []⟩,
  ⟨some 57, .mv (.tmp 1), some (52, false), []⟩,
  ⟨some 58, .mv (.tmp 2), some (52, false), []⟩,
  ⟨some 59, .bin .add (.tmp 58) (.const (.int .i64 1)), some (52, false), []⟩,
  ⟨some 60, .mv (.tmp 3), some (52, false), []⟩,
  ⟨some 61, .call 5300 0 [.tmp 56, .tmp 57, .tmp 59, .tmp 60], some (52, false), []⟩,
  ⟨some 62, .un .not (.tmp 61), some (52, false), []⟩,
  ⟨some 63, .pick (.tmp 52) (.const (.bool true)) (.tmp 62), none, []⟩,
  ⟨some 64, .mv (.tmp 63), none, []⟩,
  ⟨some 65, .mv (.tmp 10), some (64, false), []⟩,
  ⟨some 66, .nilck (.tmp 65), some (64, false), []⟩,
  ⟨some 67, .fadr 7 (.tmp 66), some (64, false), []⟩,
  ⟨some 68, .load 1 false false (.tmp 67), some (64, false), []⟩,
  ⟨some 69, .mv (.tmp 1), some (64, false), []⟩,
  ⟨some 70, .mv (.tmp 2), some (64, false), []⟩,
  ⟨some 71, .bin .add (.tmp 70) (.const (.int .i64 1)), some (64, false), []⟩,
  ⟨some 72, .mv (.tmp 3), some (64, false), []⟩,
  ⟨some 73, .call 5300 0 [.tmp 68, .tmp 69, .tmp 71, .tmp 72], some (64, false), []⟩,
  ⟨some 74, .un .not (.tmp 73), some (64, false), []⟩,
  ⟨some 75, .pick (.tmp 64) (.const (.bool true)) (.tmp 74), none, []⟩])
 (.cond (.tmp 75) (.seq (.region false [⟨some 8, .mv (.const (.bool false)), none, []⟩])
 .ret) .skip)))))))
 (.region false [⟨some 76, .bin .add (.tmp 24) (.const (.int .i64 1)), none, []⟩,
  ⟨some 24, .mv (.tmp 76), none, []⟩])))) }
noncomputable def p5400 : ProcT := { kind := .fn, ins := [0, 1], bins := [], res := [.tmp 4], code := (.seq (.region false [⟨some 4, .mv (.const (.bool false)), none, []⟩])
 (.seq (.region false [⟨some 5, .alloc 100 [.int .i64 0], none, []⟩,
  ⟨none, .store 1 (.tmp 5) (.const (.int .i64 0)), none, []⟩])
 (.seq (.region false [⟨some 6, .mv (.tmp 0), none, []⟩,
  ⟨some 7, .mv (.tmp 1), none, []⟩,
  ⟨some 8, .call 5300 0 [.tmp 6, .tmp 7, .const (.int .i64 0), .tmp 5], none, []⟩,
  ⟨some 4, .mv (.tmp 8), none, []⟩])
 .ret))) }
noncomputable def p5500 : ProcT := { kind := .fn, ins := [0, 1], bins := [], res := [.tmp 4], code := (.seq (.region false [⟨some 2, .box 100 (.tmp 0), none, []⟩,
  ⟨some 4, .mv (.const (.bool false)), none, []⟩])
 (.seq (.seq (.region false [⟨some 6, .fadr 0 (.tmp 2), none, []⟩,
  ⟨some 7, .load 1 false false (.tmp 6), none, []⟩,
  ⟨some 8, .len (.tmp 7), none, []⟩,
  ⟨some 9, .bin .neq (.tmp 8) (.const (.int .i64 4)), none, []⟩,
  ⟨some 10, .mv (.tmp 9), none, []⟩,
  ⟨some 11, .fadr 0 (.tmp 2), some (10, false), []⟩,
  ⟨some 12, .load 1 false false (.tmp 11), some (10, false), []⟩,
  ⟨some 13, .call 5100 0 [.tmp 12], some (10, false), []⟩,
  ⟨some 14, .un .not (.tmp 13), some (10, false), []⟩,
  ⟨some 15, .pick (.tmp 10) (.const (.bool true)) (.tmp 14), none, []⟩])
 (.cond (.tmp 15) (.seq (.region false [⟨some 4, .mv (.const (.bool false)), none, []⟩])
 .ret) .skip))
 (.seq (.seq (.region false [⟨some 16, .fadr 1 (.tmp 2), none, []⟩,
  ⟨some 17, .load 1 false false (.tmp 16), none, []⟩,
  ⟨some 18, .len (.tmp 17), none, []⟩,
  ⟨some 19, .mv (.const (.int .i64 0)), none, []⟩])
 (.block 0 (.label 5501)))
 (.seq (.region false [⟨some 4, .mv (.const (.bool true)), none, []⟩])
 .ret)))) }
noncomputable def p5501 : ProcT := { kind := .loop, ins := [1, 2, 18, 19], bins := [100], outs := [4], bouts := [], code := (.seq (.region false [⟨some 20, .bin .lss (.tmp 19) (.tmp 18), none, []⟩])
 (.seq (.cond (.tmp 20) .skip (.exit 0))
 (.seq (.block 1 (.seq (.region false [⟨some 21, .mv (.tmp 19), none, []⟩,
  ⟨some 5, .mv (.tmp 21), none, []⟩])
 (.seq (.region false [⟨some 22, .fadr 1 (.tmp 2), none, []⟩,
  ⟨some 23, .load 1 false false (.tmp 22), none, []⟩,
  ⟨some 24, .mv (.tmp 5), none, []⟩,
  ⟨some 25, .mv (.tmp 5), none, []⟩,
  ⟨some 26, .bin .add (.tmp 25) (.const (.int .i64 1)), none, []⟩,
  ⟨some 27, .slc 8 (.tmp 23) (some (.tmp 24)) (some (.tmp 26)) none, none, []⟩,
  ⟨some 28, .mv (.tmp 1), none, []⟩,
  ⟨some 29, .call 5400 0 [.tmp 27, .tmp 28], none, []⟩,
  ⟨some 30, .un .not (.tmp 29), none, []⟩])
 (.cond (.tmp 30) (.seq (.region false [⟨some 4, .mv (.const (.bool false)), none, []⟩])
 .ret) .skip))))
 (.region false [⟨some 31, .bin .add (.tmp 19) (.const (.int .i64 1)), none, []⟩,
  ⟨some 19, .mv (.tmp 31), none, []⟩])))) }
noncomputable def p5700 : ProcT := { kind := .fn, ins := [0, 1], bins := [], res := [.tmp 4], code := (.seq (.region false [⟨some 2, .box 100 (.tmp 0), none, []⟩,
  ⟨some 4, .mv (.const (.bool false)), none, []⟩])
 (.seq (.seq (.region false [⟨some 5, .mv (.tmp 1), none, []⟩])
 (.cond (.tmp 5) (.seq (.region false [⟨some 6, .fadr 1 (.tmp 2), none, []⟩,
  ⟨some 7, .load 1 false false (.tmp 6), none, []⟩,
  ⟨some 8, .call 1600 0 [.tmp 7, .const (.int .i64 0), .const (.int .i64 3)], none, []⟩,
  ⟨some 4, .mv (.tmp 8), none, []⟩])
 .ret) .skip))
 (.seq (.region false [⟨some 9, .fadr 1 (.tmp 2), none, []⟩,
  ⟨some 10, .load 1 false false (.tmp 9), none, []⟩,
  ⟨some 11, .bin .eql (.tmp 10) (.const (.int .i64 0)), none, []⟩,
  ⟨some 4, .mv (.tmp 11), none, []⟩])
 .ret))) }
noncomputable def p5800 : ProcT := { kind := .fn, ins := [0, 1], bins := [], res := [.tmp 4], code := (.seq (.region false [⟨some 2, .box 100 (.tmp 0), none, []⟩,
  ⟨some 4, .mv (.const (.bool false)), none, []⟩])
 (.seq (.seq (.region false [⟨some 5, .mv (.tmp 1), none, []⟩])
 (.cond (.tmp 5) (.seq (.region false [⟨some 6, .fadr 2 (.tmp 2), none, []⟩,
  ⟨some 7, .load 1 false false (.tmp 6), none, []⟩,
  ⟨some 8, .call 1600 0 [.tmp 7, .const (.int .i64 0), .const (.int .i64 2)], none, []⟩,
  ⟨some 4, .mv (.tmp 8), none, []⟩])
 .ret) .skip))
 (.seq (.region false [⟨some 9, .fadr 2 (.tmp 2), none, []⟩,
  ⟨some 10, .load 1 false false (.tmp 9), none, []⟩,
  ⟨some 11, .bin .eql (.tmp 10) (.const (.int .i64 0)), none, []⟩,
  ⟨some 4, .mv (.tmp 11), none, []⟩])
 .ret))) }
noncomputable def p5900 : ProcT := { kind := .fn, ins := [0], bins := [], res := [.tmp 2], code := (.seq (.region false [⟨some 1, .box 100 (.tmp 0), none, []⟩,
  ⟨some 2, .mv (.const (.bool false)), none, []⟩])
 (.seq (.region false [⟨some 3, .fadr 0 (.tmp 1), none, []⟩,
  ⟨some 4, .load 1 false false (.tmp 3), none, []⟩,
  ⟨some 5, .bin .eql (.tmp 4) (.const (.int .i64 0)), none, []⟩,
  ⟨some 6, .mv (.tmp 5), none, []⟩,
  ⟨some 7, .fadr 1 (.tmp 1), some (6, true), []⟩,
  ⟨some 8, .load 1 false false (.tmp 7), some (6, true), []⟩,
  ⟨some 9, .bin .eql (.tmp 8) (.const (.int .i64 0)), some (6, true), []⟩,
  ⟨some 10, .pick (.tmp 6) (.tmp 9) (.const (.bool false)), none, []⟩,
  ⟨some 11, .mv (.tmp 10), none, []⟩,
  ⟨some 12, .fadr 2 (.tmp 1), some (11, true), []⟩,
  ⟨some 13, .load 1 false false (.tmp 12), some (11, true), []⟩,
  ⟨some 14, .len (.tmp 13), some (11, true), []⟩,
  ⟨some 15, .bin .eql (.tmp 14) (.const (.int .i64 0)), some (11, true), []⟩,
  ⟨some 16, .pick (.tmp 11) (.tmp 15) (.const (.bool false)), none, []⟩,
  ⟨some 2, .mv (.tmp 16), none, []⟩])
 .ret)) }
noncomputable def p6000 : ProcT := { kind := .fn, ins := [0], bins := [], res := [.tmp 2], code := (.seq (.region false [⟨some 1, .box 100 (.tmp 0), none, []⟩,
  ⟨some 2, .mv (.const (.bool false)), none, []⟩])
 (.seq (.seq (.region false [⟨some 3, .fadr 6 (.tmp 1), none, []⟩,
  ⟨some 4, .load 1 false false (.tmp 3), none, []⟩,
  ⟨some 5, .len (.tmp 4), none, []⟩,
  ⟨some 6, .bin .gtr (.tmp 5) (.const (.int .i64 0)), none, []⟩,
  ⟨some 7, .mv (.tmp 6), none, []⟩,
  ⟨some 8, .fadr 7 (.tmp 1), some (7, false), []⟩,
  ⟨some 9, .load 1 false false (.tmp 8), some (7, false), []⟩,
  ⟨some 10, .len (.tmp 9), some (7, false), []⟩,
  ⟨some 11, .bin .gtr (.tmp 10) (.const (.int .i64 0)), some (7, false), []⟩,
  ⟨some 12, .pick (.tmp 7) (.const (.bool true)) (.tmp 11), none, []⟩])
 (.cond (.tmp 12) (.seq (.region false [⟨some 2, .mv (.const (.bool false)), none, []⟩])
 .ret) .skip))
 (.seq (.seq (.region false [⟨some 13, .fadr 0 (.tmp 1), none, []⟩,
  ⟨some 14, .load 1 false false (.tmp 13), none, []⟩])
 (.block 0 (.seq (.region false [⟨some 16, .bin .eql (.tmp 14) (.const (.int .i64 1)), none, []⟩,
  ⟨some 15, .mv (.tmp 16), none, []⟩])
 (.cond (.tmp 15) (.seq (.region false [⟨some 17, .load 8 true false (.tmp 1), none, []⟩,
  ⟨some 18, .call 5700 0 [.tmp 17, .const (.bool true)], none, []⟩,
  ⟨some 19, .mv (.tmp 18), none, []⟩,
  ⟨some 20, .load 8 true false (.tmp 1), some (19, true), []⟩,
  ⟨some 21, .call 5800 0 [.tmp 20, .const (.bool false)], some (19, true), []⟩,
  ⟨some 22, .pick (.tmp 19) (.tmp 21) (.const (.bool false)), none, []⟩,
  ⟨some 23, .mv (.tmp 22), none, []⟩,
  ⟨some 24, .fadr 3 (.tmp 1), some (23, true), []⟩,
  ⟨some 25, .load 3 true false (.tmp 24), some (23, true), []⟩,
  ⟨some 26, .call 1900 0 [.tmp 25], some (23, true), []⟩,
  ⟨some 27, .pick (.tmp 23) (.tmp 26) (.const (.bool false)), none, []⟩,
  ⟨some 2, .mv (.tmp 27), none, []⟩])
 .ret) (.seq (.region false [⟨some 29, .bin .eql (.tmp 14) (.const (.int .i64 4)), none, []⟩,
  ⟨some 28, .mv (.tmp 29), none, []⟩])
 (.cond (.tmp 28) (.seq (.region false [⟨some 30, .load 8 true false (.tmp 1), none, []⟩,
  ⟨some 31, .call 5700 0 [.tmp 30, .const (.bool false)], none, []⟩,
  ⟨some 32, .mv (.tmp 31), none, []⟩,
  ⟨some 33, .load 8 true false (.tmp 1), some (32, true), []⟩,
  ⟨some 34, .call 5800 0 [.tmp 33, .const (.bool true)], some (32, true), []⟩,
  ⟨some 35, .pick (.tmp 32) (.tmp 34) (.const (.bool false)), none, []⟩,
  ⟨some 36, .mv (.tmp 35), none, []⟩,
  ⟨some 37, .fadr 3 (.tmp 1), some (36, true), []⟩,
  ⟨some 38, .load 3 true false (.tmp 37), some (36, true), []⟩,
  ⟨some 39, .call 1900 0 [.tmp 38], some (36, true), []⟩,
  ⟨some 40, .pick (.tmp 36) (.tmp 39) (.const (.bool false)), none, []⟩,
  ⟨some 2, .mv (.tmp 40), none, []⟩])
 .ret) (.seq (.region false [⟨some 42, .bin .eql (.tmp 14) (.const (.int .i64 5)), none, []⟩,
  ⟨some 41, .mv (.tmp 42), none, []⟩])
 (.cond (.tmp 41) (.seq (.region false [⟨some 43, .load 8 true false (.tmp 1), none, []⟩,
  ⟨some 44, .call 5700 0 [.tmp 43, .const (.bool true)], none, []⟩,
  ⟨some 45, .mv (.tmp 44), none, []⟩,
  ⟨some 46, .load 8 true false (.tmp 1), some (45, true), []⟩,
  ⟨some 47, .call 5800 0 [.tmp 46, .const (.bool true)], some (45, true), []⟩,
  ⟨some 48, .pick (.tmp 45) (.tmp 47) (.const (.bool false)), none, []⟩,
  ⟨some 49, .mv (.tmp 48), none, []⟩,
  ⟨some 50, .fadr 3 (.tmp 1), some (49, true), []⟩,
  ⟨some 51, .load 3 true false (.tmp 50), some (49, true), []⟩,
  ⟨some 52, .call 5900 0 [.tmp 51], some (49, true), []⟩,
  ⟨some 53, .pick (.tmp 49) (.tmp 52) (.const (.bool false)), none, []⟩,
  ⟨some 2, .mv (.tmp 53), none, []⟩])
 .ret) (.seq (.region false [⟨some 55, .bin .eql (.tmp 14) (.const (.int .i64 6)), none, []⟩,
  ⟨some 54, .mv (.tmp 55), none, []⟩])
 (.cond (.tmp 54) (.seq (.region false [⟨some 56, .load 8 true false (.tmp 1), none, []⟩,
  ⟨some 57, .call 5700 0 [.tmp 56, .const (.bool false)], none, []⟩,
  ⟨some 58, .mv (.tmp 57), none, []⟩,
  ⟨some 59, .load 8 true false (.tmp 1), some (58, true), []⟩,
  ⟨some 60, .call 5800 0 [.tmp 59, .const (.bool false)], some (58, true), []⟩,
  ⟨some 61, .pick (.tmp 58) (.tmp 60) (.const (.bool false)), none, []⟩,
  ⟨some 62, .mv (.tmp 61), none, []⟩,
  ⟨some 63, .fadr 3 (.tmp 1), some (62, true), []⟩,
  ⟨some 64, .load 3 true false (.tmp 63), some (62, true), []⟩,
  ⟨some 65, .call 5900 0 [.tmp 64], some (62, true), []⟩,
  ⟨some 66, .pick (.tmp 62) (.tmp 65) (.const (.bool false)), none, []⟩,
  ⟨some 2, .mv (.tmp 66), none, []⟩])
 .ret) (.seq (.region false [⟨some 68, .bin .eql (.tmp 14) (.const (.int .i64 7)), none, []⟩,
  ⟨some 67, .mv (.tmp 68), none, []⟩])
 (.cond (.tmp 67) (.seq (.region false [⟨some 69, .load 8 true false (.tmp 1), none, []⟩,
  ⟨some 70, .call 5700 0 [.tmp 69, .const (.bool false)], none, []⟩,
  ⟨some 71, .mv (.tmp 70), none, []⟩,
  ⟨some 72, .load 8 true false (.tmp 1), some (71, true), []⟩,
  ⟨some 73, .call 5800 0 [.tmp 72, .const (.bool false)], some (71, true), []⟩,
  ⟨some 74, .pick (.tmp 71) (.tmp 73) (.const (.bool false)), none, []⟩,
  ⟨some 75, .mv (.tmp 74), none, []⟩,
  ⟨some 76, .fadr 3 (.tmp 1), some (75, true), []⟩,
  ⟨some 77, .load 3 true false (.tmp 76), some (75, true), []⟩,
  ⟨some 78, .call 1900 0 [.tmp 77], some (75, true), []⟩,
  ⟨some 79, .pick (.tmp 75) (.tmp 78) (.const (.bool false)), none, []⟩,
  ⟨some 2, .mv (.tmp 79), none, []⟩])
 .ret) .skip))))))))))))
 (.seq (.region false [⟨some 2, .mv (.const (.bool false)), none, []⟩])
 .ret)))) }
noncomputable def p6100 : ProcT := { kind := .fn, ins := [0, 1], bins := [], res := [.tmp 4], code := (.seq (.region false [⟨some 2, .box 100 (.tmp 0), none, []⟩,
  ⟨some 4, .mv (.const (.bool false)), none, []⟩])
 (.seq (.seq (.region false [⟨some 5, .fadr 0 (.tmp 2), none, []⟩,
  ⟨some 6, .load 1 false false (.tmp 5), none, []⟩,
  ⟨some 7, .bin .neq (.tmp 6) (.const (.int .i64 2)), none, []⟩,
  ⟨some 8, .mv (.tmp 7), none, []⟩,
  ⟨some 9, .fadr 0 (.tmp 2), some (8, true), []⟩,
  ⟨some 10, .load 1 false false (.tmp 9), some (8, true), []⟩,
  ⟨some 11, .bin .neq (.tmp 10) (.const (.int .i64 3)), some (8, true), []⟩,
  ⟨some 12, .pick (.tmp 8) (.tmp 11) (.const (.bool false)), none, []⟩])
 (.cond (.tmp 12) (.seq (.region false [⟨some 13, .load 8 true false (.tmp 2), none, []⟩,
  ⟨some 14, .call 6000 0 [.tmp 13], none, []⟩,
  ⟨some 4, .mv (.tmp 14), none, []⟩])
 .ret) .skip))
 (.seq (.seq (.region false [⟨some 15, .mv (.tmp 1), none, []⟩,
  ⟨some 16, .bin .lss (.tmp 15) (.const (.int .i64 1)), none, []⟩,
  ⟨some 17, .mv (.tmp 16), none, []⟩,
  ⟨some 18, .fadr 0 (.tmp 2), some (17, false), []⟩,
  ⟨some 19, .load 1 false false (.tmp 18), some (17, false), []⟩,
  ⟨some 20, .bin .eql (.tmp 19) (.const (.int .i64 3)), some (17, false), []⟩,
  ⟨some 21, .mv (.tmp 20), some (17, false), []⟩,
  ⟨some 22, .fadr 7 (.tmp 2), some (21, true), []⟩,
  ⟨some 23, .load 1 false false (.tmp 22), some (21, true), []⟩,
  ⟨some 24, .len (.tmp 23), some (21, true), []⟩,
  ⟨some 25, .bin .gtr (.tmp 24) (.const (.int .i64 0)), some (21, true), []⟩,
  ⟨some 26, .pick (.tmp 21) (.tmp 25) (.const (.bool false)), some (17, false), []⟩,
  ⟨some 27, .pick (.tmp 17) (.const (.bool true)) (.tmp 26), none, []⟩])
 (.cond (.tmp 27) (.seq (.region false [⟨some 4, .mv (.const (.bool false)), none, []⟩])
 .ret) .skip))
 (.seq (.region false [⟨some 28, .load 8 true false (.tmp 2), none, []⟩,
  ⟨some 29, .call 5700 0 [.tmp 28, .const (.bool false)], none, []⟩,
  ⟨some 30, .mv (.tmp 29), none, []⟩,
  ⟨some 31, .load 8 true false (.tmp 2), some (30, true), []⟩,
  ⟨some 32, .call 5800 0 [.tmp 31, .const (.bool false)], some (30, true), []⟩,
  ⟨some 33, .pick (.tmp 30) (.tmp 32) (.const (.bool false)), none, []⟩,
  ⟨some 34, .mv (.tmp 33), none, []⟩,
  ⟨some 35, .fadr 3 (.tmp 2), some (34, true), []⟩,
  ⟨some 36, .load 3 true false (.tmp 35), some (34, true), []⟩,
  ⟨some 37, .call 1900 0 [.tmp 36], some (34, true), []⟩,
  ⟨some 38, .pick (.tmp 34) (.tmp 37) (.const (.bool false)), none, []⟩,
  ⟨some 39, .mv (.tmp 38), none, []⟩,
  ⟨some 40, .fadr 6 (.tmp 2), some (39, true), []⟩,
  ⟨some 41, .load 1 false false (.tmp 40), some (39, true), []⟩,
  ⟨some 42, .mv (.tmp 1), some (39, true), []⟩,
  ⟨some 43, .bin .sub (.tmp 42) (.const (.int .i64 1)), some (39, true), []⟩,
  ⟨some 44, .call 6200 0 [.tmp 41, .tmp 43], some (39, true), []⟩,
  ⟨some 45, .pick (.tmp 39) (.tmp 44) (.const (.bool false)), none, []⟩,
  ⟨some 46, .mv (.tmp 45), none, []⟩,
  ⟨some 47, .fadr 7 (.tmp 2), some (46, true), []⟩,
  ⟨some 48, .load 1 false false (.tmp 47), some (46, true), []⟩,
  ⟨some 49, .mv (.tmp 1), some (46, true), []⟩,
  ⟨some 50, .bin .sub (.tmp 49) (.const (.int .i64 1)), some (46, true), []⟩,
  ⟨some 51, .call 6200 0 [.tmp 48, .tmp 50], some (46, true), []⟩,
  ⟨some 52, .pick (.tmp 46) (.tmp 51) (.const (.bool false)), none, []⟩,
  ⟨some 4, .mv (.tmp 52), none, []⟩])
 .ret)))) }
noncomputable def p6200 : ProcT := { kind := .fn, ins := [0, 1], bins := [], res := [.tmp 4], code := (.seq (.region false [⟨some 4, .mv (.const (.bool false)), none, []⟩])
 (.seq (.seq (.region false [⟨some 5, .mv (.const (.int .i64 0)), none, []⟩])
 (.block 0 (.label 6201)))
 (.seq (.region false [⟨some 4, .mv (.const (.bool true)), none, []⟩])
 .ret))) }
noncomputable def p6201 : ProcT := { kind := .loop, ins := [0, 1, 5], bins := [], outs := [4], bouts := [], code := (.seq (.seq (.region false [⟨some 6, .mv (.tmp 5), none, []⟩,
  ⟨some 7, .mv (.tmp 0), none, []⟩,
  ⟨some 8, .len (.tmp 7), none, []⟩,
  ⟨some 9, .bin .lss (.tmp 6) (.tmp 8), none, []⟩])
 (.cond (.tmp 9) .skip (.exit 0)))
 (.seq (.block 1 (.seq (.region false [⟨some 12, .mv (.tmp 0), none, []⟩,
  ⟨some 13, .mv (.tmp 5), none, []⟩,
  ⟨some 14, .iadr 8 (.tmp 12) (.tmp 13), none, []⟩,
  ⟨some 15, .load 8 true false (.tmp 14), none, []⟩,
  ⟨some 16, .mv (.tmp 1), none, []⟩,
  ⟨some 17, .call 6100 0 [.tmp 15, .tmp 16], none, []⟩,
  ⟨some 18, .un .not (.tmp 17), none, []⟩])
 (.cond (.tmp 18) (.seq (.region false [⟨some 4, .mv (.const (.bool false)), none, []⟩])
 .ret) .skip)))
 (.region false [⟨some 10, .mv (.tmp 5), none, []⟩,
  ⟨some 11, .bin .add (.tmp 10) (.const (.int .i64 1)), none, []⟩,
  ⟨some 5, .mv (.tmp 11), none, []⟩]))) }
noncomputable def p6300 : ProcT := { kind := .fn, ins := [0], bins := [], res := [.tmp 2], code := (.seq (.region false [⟨some 2, .mv (.const (.bool false)), none, []⟩])
 (.seq (.region false [⟨some 3, .mv (.tmp 0), none, []⟩,
  ⟨some 4, .call 6200 0 [.tmp 3, .const (.int .i64 3)], none, []⟩,
  ⟨some 5, .mv (.tmp 4), none, []⟩,
  ⟨some 6, .mv (.tmp 0), some (5, true), []⟩,
  ⟨some 7, .call 4000 0 [.tmp 6], some (5, true), []⟩,
  ⟨some 8, .bin .leq (.tmp 7) (.const (.int .i64 16)), some (5, true), []⟩,
  ⟨some 9, .pick (.tmp 5) (.tmp 8) (.const (.bool false)), none, []⟩,
  ⟨some 2, .mv (.tmp 9), none, []⟩])
 .ret)) }
noncomputable def p6400 : ProcT := { kind := .fn, ins := [0], bins := [], res := [.tmp 2], code := (.seq (.region false [⟨some 2, .mv (.const (.bool false)), none, []⟩])
 (.seq (.region false [⟨some 3, .mv (.tmp 0), none, []⟩,
  ⟨some 4, .call 1600 0 [.tmp 3, .const (.int .i64 (-2147483648)), .const (.int .i64 2147483647)], none, []⟩,
  ⟨some 2, .mv (.tmp 4), none, []⟩])
 .ret)) }
noncomputable def p6500 : ProcT := { kind := .fn, ins := [0, 1], bins := [], res := [.tmp 4], code := (.seq (.region false [⟨some 4, .mv (.const (.bool false)), none, []⟩])
 (.seq (.seq (.region false [⟨some 6, .mv (.tmp 0), none, []⟩,
  ⟨some 7, .len (.tmp 6), none, []⟩,
  ⟨some 8, .mv (.tmp 1), none, []⟩,
  ⟨some 9, .bin .neq (.tmp 7) (.tmp 8), none, []⟩])
 (.cond (.tmp 9) (.seq (.region false [⟨some 4, .mv (.const (.bool false)), none, []⟩])
 .ret) .skip))
 (.seq (.seq (.region false [⟨some 5, .mv (.const (.int .i64 0)), none, []⟩])
 (.block 0 (.label 6501)))
 (.seq (.region false [⟨some 4, .mv (.const (.bool true)), none, []⟩])
 .ret)))) }
noncomputable def p6501 : ProcT := { kind := .loop, ins := [0, 5], bins := [], outs := [4], bouts := [], code := (.seq (.seq (.region false [⟨some 10, .mv (.tmp 5), none, []⟩,
  ⟨some 11, .mv (.tmp 0), none, []⟩,
  ⟨some 12, .len (.tmp 11), none, []⟩,
  ⟨some 13, .bin .lss (.tmp 10) (.tmp 12), none, []⟩])
 (.cond (.tmp 13) .skip (.exit 0)))
 (.seq (.block 1 (.seq (.region false [⟨some 16, .mv (.tmp 0), none, []⟩,
  ⟨some 17, .mv (.tmp 5), none, []⟩,
  ⟨some 18, .iadr 1 (.tmp 16) (.tmp 17), none, []⟩,
  ⟨some 19, .load 1 false false (.tmp 18), none, []⟩,
  ⟨some 20, .call 6400 0 [.tmp 19], none, []⟩,
  ⟨some 21, .un .not (.tmp 20), none, []⟩])
 (.cond (.tmp 21) (.seq (.region false [⟨some 4, .mv (.const (.bool false)), none, []⟩])
 .ret) .skip)))
 (.region false [⟨some 14, .mv (.tmp 5), none, []⟩,
  ⟨some 15, .bin .add (.tmp 14) (.const (.int .i64 1)), none, []⟩,
  ⟨some 5, .mv (.tmp 15), none, []⟩]))) }
noncomputable def p6600 : ProcT := { kind := .fn, ins := [0], bins := [], res := [.tmp 2], code := (.seq (.region false [⟨some 1, .box 100 (.tmp 0), none, []⟩,
  ⟨some 2, .mv (.const (.bool false)), none, []⟩])
 (.seq (.seq (.region false [⟨some 3, .mv (.const (.int .i64 0)), none, []⟩])
 (.block 0 (.label 6601)))
 (.seq (.region false [⟨some 19, .fadr 0 (.tmp 1), none, []⟩,
  ⟨some 20, .load 1 false false (.tmp 19), none, []⟩,
  ⟨some 21, .call 6500 0 [.tmp 20, .const (.int .i64 4)], none, []⟩,
  ⟨some 2, .mv (.tmp 21), none, []⟩])
 .ret))) }
noncomputable def p6601 : ProcT := { kind := .loop, ins := [1, 3], bins := [100], outs := [1, 2], bouts := [100], code := (.seq (.seq (.region false [⟨some 4, .mv (.tmp 3), none, []⟩,
  ⟨some 5, .fadr 1 (.tmp 1), none, []⟩,
  ⟨some 6, .load 1 false false (.tmp 5), none, []⟩,
  ⟨some 7, .len (.tmp 6), none, []⟩,
  ⟨some 8, .bin .lss (.tmp 4) (.tmp 7), none, []⟩])
 (.cond (.tmp 8) .skip (.exit 0)))
 (.seq (.block 1 (.seq (.region false [⟨some 11, .fadr 1 (.tmp 1), none, []⟩,
  ⟨some 12, .load 1 false false (.tmp 11), none, []⟩,
  ⟨some 13, .mv (.tmp 3), none, []⟩,
  ⟨some 14, .mv (.tmp 3), none, []⟩,
  ⟨some 15, .bin .add (.tmp 14) (.const (.int .i64 1)), none, []⟩,
  ⟨some 16, .slc 8 (.tmp 12) (some (.tmp 13)) (some (.tmp 15)) none, none, []⟩,
  ⟨some 17, .call 6300 0 [.tmp 16], none, []⟩,
  ⟨some 18, .un .not (.tmp 17), none, []⟩])
 (.cond (.tmp 18) (.seq (.region false [⟨some 2, .mv (.const (.bool false)), none, []⟩])
 .ret) .skip)))
 (.region false [⟨some 9, .mv (.tmp 3), none, []⟩,
  ⟨some 10, .bin .add (.tmp 9) (.const (.int .i64 1)), none, []⟩,
  ⟨some 3, .mv (.tmp 10), none, []⟩]))) }
noncomputable def p6800 : ProcT := { kind := .fn, ins := [0, 1], bins := [], res := [.tmp 4], code := (.seq (.region false [⟨some 4, .mv (.const (.int .i64 0)), none, []⟩])
 (.seq (.region false [⟨some 6, .mv (.tmp 1), none, []⟩,
  ⟨some 7, .mv (.tmp 0), none, []⟩,
  ⟨some 8, .len (.tmp 7), none, []⟩,
  ⟨some 9, .bin .sub (.tmp 6) (.tmp 8), none, []⟩,
  ⟨some 1, .mv (.tmp 9), none, []⟩])
 (.seq (.seq (.region false [⟨some 10, .mv (.tmp 1), none, []⟩,
  ⟨some 11, .bin .lss (.tmp 10) (.const (.int .i64 0)), none, []⟩])
 (.cond (.tmp 11) (.seq (.region false [⟨some 4, .mv (.const (.int .i64 (-1))), none, []⟩])
 .ret) .skip))
 (.seq (.seq (.region false [⟨some 5, .mv (.const (.int .i64 0)), none, []⟩])
 (.block 0 (.label 6801)))
 (.seq (.region false [⟨some 26, .mv (.tmp 1), none, []⟩,
  ⟨some 4, .mv (.tmp 26), none, []⟩])
 .ret))))) }
noncomputable def p6801 : ProcT := { kind := .loop, ins := [0, 1, 5], bins := [], outs := [1, 4], bouts := [], code := (.seq (.seq (.region false [⟨some 12, .mv (.tmp 5), none, []⟩,
  ⟨some 13, .mv (.tmp 0), none, []⟩,
  ⟨some 14, .len (.tmp 13), none, []⟩,
  ⟨some 15, .bin .lss (.tmp 12) (.tmp 14), none, []⟩])
 (.cond (.tmp 15) .skip (.exit 0)))
 (.seq (.block 1 (.seq (.region false [⟨some 18, .mv (.tmp 0), none, []⟩,
  ⟨some 19, .mv (.tmp 5), none, []⟩,
  ⟨some 20, .iadr 3 (.tmp 18) (.tmp 19), none, []⟩,
  ⟨some 21, .load 3 true false (.tmp 20), none, []⟩,
  ⟨some 22, .mv (.tmp 1), none, []⟩,
  ⟨some 23, .call 6900 0 [.tmp 21, .tmp 22], none, []⟩,
  ⟨some 1, .mv (.tmp 23), none, []⟩])
 (.seq (.region false [⟨some 24, .mv (.tmp 1), none, []⟩,
  ⟨some 25, .bin .lss (.tmp 24) (.const (.int .i64 0)), none, []⟩])
 (.cond (.tmp 25) (.seq (.region false [⟨some 4, .mv (.const (.int .i64 (-1))), none, []⟩])
 .ret) .skip))))
 (.region false [⟨some 16, .mv (.tmp 5), none, []⟩,
  ⟨some 17, .bin .add (.tmp 16) (.const (.int .i64 1)), none, []⟩,
  ⟨some 5, .mv (.tmp 17), none, []⟩]))) }
noncomputable def p6900 : ProcT := { kind := .fn, ins := [0, 1], bins := [], res := [.tmp 4], code := (.seq (.region false [⟨some 2, .box 100 (.tmp 0), none, []⟩,
  ⟨some 4, .mv (.const (.int .i64 0)), none, []⟩])
 (.seq (.region false [⟨some 5, .fadr 2 (.tmp 2), none, []⟩,
  ⟨some 6, .load 1 false false (.tmp 5), none, []⟩,
  ⟨some 7, .mv (.tmp 1), none, []⟩,
  ⟨some 8, .call 6800 0 [.tmp 6, .tmp 7], none, []⟩,
  ⟨some 1, .mv (.tmp 8), none, []⟩])
 (.seq (.seq (.region false [⟨some 9, .mv (.tmp 1), none, []⟩,
  ⟨some 10, .bin .lss (.tmp 9) (.const (.int .i64 0)), none, []⟩])
 (.cond (.tmp 10) (.seq (.region false [⟨some 4, .mv (.const (.int .i64 (-1))), none, []⟩])
 .ret) .skip))
 (.seq (.region false [⟨some 11, .mv (.tmp 1), none, []⟩,
  ⟨some 4, .mv (.tmp 11), none, []⟩])
 .ret)))) }
noncomputable def p7000 : ProcT := { kind := .fn, ins := [0, 1], bins := [], res := [.tmp 4], code := (.seq (.region false [⟨some 2, .box 100 (.tmp 0), none, []⟩,
  ⟨some 4, .mv (.const (.int .i64 0)), none, []⟩])
 (.seq (.region false [⟨some 5, .fadr 3 (.tmp 2), none, []⟩,
  ⟨some 6, .load 3 true false (.tmp 5), none, []⟩,
  ⟨some 7, .mv (.tmp 1), none, []⟩,
  ⟨some 8, .call 6900 0 [.tmp 6, .tmp 7], none, []⟩,
  ⟨some 1, .mv (.tmp 8), none, []⟩])
 (.seq (.seq (.region false [⟨some 9, .mv (.tmp 1), none, []⟩,
  ⟨some 10, .bin .lss (.tmp 9) (.const (.int .i64 0)), none, []⟩])
 (.cond (.tmp 10) (.seq (.region false [⟨some 4, .mv (.const (.int .i64 (-1))), none, []⟩])
 .ret) .skip))
 (.seq (.region false [⟨some 11, .fadr 6 (.tmp 2), none, []⟩,
  ⟨some 12, .load 1 false false (.tmp 11), none, []⟩,
  ⟨some 13, .mv (.tmp 1), none, []⟩,
  ⟨some 14, .call 7100 0 [.tmp 12, .tmp 13], none, []⟩,
  ⟨some 1, .mv (.tmp 14), none, []⟩])
 (.seq (.seq (.region false [⟨some 15, .mv (.tmp 1), none, []⟩,
  ⟨some 16, .bin .lss (.tmp 15) (.const (.int .i64 0)), none, []⟩])
 (.cond (.tmp 16) (.seq (.region false [⟨some 4, .mv (.const (.int .i64 (-1))), none, []⟩])
 .ret) .skip))
 (.seq (.region false [⟨some 17, .fadr 7 (.tmp 2), none, []⟩,
  ⟨some 18, .load 1 false false (.tmp 17), none, []⟩,
  ⟨some 19, .mv (.tmp 1), none, []⟩,
  ⟨some 20, .call 7100 0 [.tmp 18, .tmp 19], none, []⟩,
  ⟨some 1, .mv (.tmp 20), none, []⟩])
 (.seq (.seq (.region false [⟨some 21, .mv (.tmp 1), none, []⟩,
  ⟨some 22, .bin .lss (.tmp 21) (.const (.int .i64 0)), none, []⟩])
 (.cond (.tmp 22) (.seq (.region false [⟨some 4, .mv (.const (.int .i64 (-1))), none, []⟩])
 .ret) .skip))
 (.seq (.region false [⟨some 23, .mv (.tmp 1), none, []⟩,
  ⟨some 4, .mv (.tmp 23), none, []⟩])
 .ret)))))))) }
noncomputable def p7100 : ProcT := { kind := .fn, ins := [0, 1], bins := [], res := [.tmp 4], code := (.seq (.region false [⟨some 4, .mv (.const (.int .i64 0)), none, []⟩])
 (.seq (.region false [⟨some 6, .mv (.tmp 1), none, []⟩,
  ⟨some 7, .mv (.tmp 0), none, []⟩,
  ⟨some 8, .len (.tmp 7), none, []⟩,
  ⟨some 9, .bin .sub (.tmp 6) (.tmp 8), none, []⟩,
  ⟨some 1, .mv (.tmp 9), none, []⟩])
 (.seq (.seq (.region false [⟨some 10, .mv (.tmp 1), none, []⟩,
  ⟨some 11, .bin .lss (.tmp 10) (.const (.int .i64 0)), none, []⟩])
 (.cond (.tmp 11) (.seq (.region false [⟨some 4, .mv (.const (.int .i64 (-1))), none, []⟩])
 .ret) .skip))
 (.seq (.seq (.region false [⟨some 5, .mv (.const (.int .i64 0)), none, []⟩])
 (.block 0 (.label 7101)))
 (.seq (.region false [⟨some 26, .mv (.tmp 1), none, []⟩,
  ⟨some 4, .mv (.tmp 26), none, []⟩])
 .ret))))) }
noncomputable def p7101 : ProcT := { kind := .loop, ins := [0, 1, 5], bins := [], outs := [1, 4], bouts := [], code := (.seq (.seq (.region false [⟨some 12, .mv (.tmp 5), none, []⟩,
  ⟨some 13, .mv (.tmp 0), none, []⟩,
  ⟨some 14, .len (.tmp 13), none, []⟩,
  ⟨some 15, .bin .lss (.tmp 12) (.tmp 14), none, []⟩])
 (.cond (.tmp 15) .skip (.exit 0)))
 (.seq (.block 1 (.seq (.region false [⟨some 18, .mv (.tmp 0), none, []⟩,
  ⟨some 19, .mv (.tmp 5), none, []⟩,
  ⟨some 20, .iadr 8 (.tmp 18) (.tmp 19), none, []⟩,
  ⟨some 21, .load 8 true false (.tmp 20), none, []⟩,
  ⟨some 22, .mv (.tmp 1), none, []⟩,
  ⟨some 23, .call 7000 0 [.tmp 21, .tmp 22], none, []⟩,
  ⟨some 1, .mv (.tmp 23), none, []⟩])
 (.seq (.region false [⟨some 24, .mv (.tmp 1), none, []⟩,
  ⟨some 25, .bin .lss (.tmp 24) (.const (.int .i64 0)), none, []⟩])
 (.cond (.tmp 25) (.seq (.region false [⟨some 4, .mv (.const (.int .i64 (-1))), none, []⟩])
 .ret) .skip))))
 (.region false [⟨some 16, .mv (.tmp 5), none, []⟩,
  ⟨some 17, .bin .add (.tmp 16) (.const (.int .i64 1)), none, []⟩,
  ⟨some 5, .mv (.tmp 17), none, []⟩]))) }
noncomputable def p7200 : ProcT := { kind := .fn, ins := [0, 1], bins := [], res := [.tmp 4], code := (.seq (.region false [⟨some 4, .mv (.const (.int .i64 0)), none, []⟩])
 (.seq (.region false [⟨some 5, .mv (.tmp 1), none, []⟩,
  ⟨some 6, .mv (.tmp 0), none, []⟩,
  ⟨some 7, .len (.tmp 6), none, []⟩,
  ⟨some 8, .bin .sub (.tmp 5) (.tmp 7), none, []⟩,
  ⟨some 1, .mv (.tmp 8), none, []⟩])
 (.seq (.seq (.region false [⟨some 9, .mv (.tmp 1), none, []⟩,
  ⟨some 10, .bin .lss (.tmp 9) (.const (.int .i64 0)), none, []⟩])
 (.cond (.tmp 10) (.seq (.region false [⟨some 4, .mv (.const (.int .i64 (-1))), none, []⟩])
 .ret) .skip))
 (.seq (.region false [⟨some 11, .mv (.tmp 1), none, []⟩,
  ⟨some 4, .mv (.tmp 11), none, []⟩])
 .ret)))) }
noncomputable def p7300 : ProcT := { kind := .fn, ins := [0, 1], bins := [], res := [.tmp 4], code := (.seq (.region false [⟨some 2, .box 100 (.tmp 0), none, []⟩,
  ⟨some 4, .mv (.const (.int .i64 0)), none, []⟩])
 (.seq (.region false [⟨some 5, .fadr 0 (.tmp 2), none, []⟩,
  ⟨some 6, .load 1 false false (.tmp 5), none, []⟩,
  ⟨some 7, .mv (.tmp 1), none, []⟩,
  ⟨some 8, .call 7200 0 [.tmp 6, .tmp 7], none, []⟩,
  ⟨some 1, .mv (.tmp 8), none, []⟩])
 (.seq (.seq (.region false [⟨some 9, .mv (.tmp 1), none, []⟩,
  ⟨some 10, .bin .lss (.tmp 9) (.const (.int .i64 0)), none, []⟩])
 (.cond (.tmp 10) (.seq (.region false [⟨some 4, .mv (.const (.int .i64 (-1))), none, []⟩])
 .ret) .skip))
 (.seq (.region false [⟨some 11, .fadr 1 (.tmp 2), none, []⟩,
  ⟨some 12, .load 1 false false (.tmp 11), none, []⟩,
  ⟨some 13, .mv (.tmp 1), none, []⟩,
  ⟨some 14, .call 7100 0 [.tmp 12, .tmp 13], none, []⟩,
  ⟨some 1, .mv (.tmp 14), none, []⟩])
 (.seq (.seq (.region false [⟨some 15, .mv (.tmp 1), none, []⟩,
  ⟨some 16, .bin .lss (.tmp 15) (.const (.int .i64 0)), none, []⟩])
 (.cond (.tmp 16) (.seq (.region false [⟨some 4, .mv (.const (.int .i64 (-1))), none, []⟩])
 .ret) .skip))
 (.seq (.region false [⟨some 17, .mv (.tmp 1), none, []⟩,
  ⟨some 4, .mv (.tmp 17), none, []⟩])
 .ret)))))) }
noncomputable def p7400 : ProcT := { kind := .fn, ins := [0], bins := [], res := [.tmp 2], code := (.seq (.region false [⟨some 2, .mv (.const (.sl (.own false) .exp [])), none, []⟩])
 (.seq (.region false [⟨some 5, .mv (.tmp 0), none, []⟩,
  ⟨some 6, .len (.tmp 5), none, []⟩,
  ⟨some 7, .mksl 100 .exp (.tmp 6) (.tmp 6), none, []⟩,
  ⟨some 3, .mv (.take 7), none, []⟩])
 (.seq (.seq (.region false [⟨some 4, .mv (.const (.int .i64 0)), none, []⟩])
 (.block 0 (.label 7401)))
 (.seq (.region false [⟨some 22, .mv (.take 3), none, []⟩,
  ⟨some 2, .mv (.take 22), none, []⟩])
 .ret)))) }
noncomputable def p7401 : ProcT := { kind := .loop, ins := [0, 3, 4], bins := [100], outs := [2, 3], bouts := [100], code := (.seq (.seq (.region false [⟨some 8, .mv (.tmp 4), none, []⟩,
  ⟨some 9, .mv (.tmp 0), none, []⟩,
  ⟨some 10, .len (.tmp 9), none, []⟩,
  ⟨some 11, .bin .lss (.tmp 8) (.tmp 10), none, []⟩])
 (.cond (.tmp 11) .skip (.exit 0)))
 (.seq (.block 1 (.region false [⟨some 14, .mv (.tmp 3), none, []⟩,
  ⟨some 15, .mv (.tmp 4), none, []⟩,
  ⟨some 16, .mv (.tmp 0), none, []⟩,
  ⟨some 17, .mv (.tmp 4), none, []⟩,
  ⟨some 18, .iadr 3 (.tmp 16) (.tmp 17), none, []⟩,
  ⟨some 19, .load 3 true false (.tmp 18), none, []⟩,
  ⟨some 20, .call 7500 0 [.tmp 19], none, []⟩,
  ⟨some 21, .iadr 3 (.tmp 14) (.tmp 15), none, []⟩,
  ⟨none, .store 3 (.tmp 21) (.tmp 20), none, []⟩]))
 (.region false [⟨some 12, .mv (.tmp 4), none, []⟩,
  ⟨some 13, .bin .add (.tmp 12) (.const (.int .i64 1)), none, []⟩,
  ⟨some 4, .mv (.tmp 13), none, []⟩]))) }
noncomputable def p7500 : ProcT := { kind := .fn, ins := [0], bins := [], res := [.cell 2 3 true], code := (.seq (.region false [⟨some 1, .box 100 (.tmp 0), none, []⟩,
  ⟨some 2, .alloc 101 [.int .i64 0, .int .i64 0, .sl (.own false) .exp []], none, []⟩])
 (.seq (.region false [⟨some 3, .alloc 102 [.int .i64 0, .int .i64 0, .sl (.own false) .exp []], none, []⟩])
 (.seq (.region false [⟨some 4, .fadr 0 (.tmp 1), none, []⟩,
  ⟨some 5, .load 1 false false (.tmp 4), none, []⟩,
  ⟨some 6, .fadr 0 (.tmp 3), none, []⟩,
  ⟨none, .store 1 (.tmp 6) (.tmp 5), none, []⟩])
 (.seq (.region false [⟨some 7, .fadr 1 (.tmp 1), none, []⟩,
  ⟨some 8, .load 1 false false (.tmp 7), none, []⟩,
  ⟨some 9, .fadr 1 (.tmp 3), none, []⟩,
  ⟨none, .store 1 (.tmp 9) (.tmp 8), none, []⟩])
 (.seq (.region false [⟨some 10, .fadr 2 (.tmp 1), none, []⟩,
  ⟨some 11, .load 1 false false (.tmp 10), none, []⟩,
  ⟨some 12, .call 7400 0 [.tmp 11], none, []⟩,
  ⟨some 13, .fadr 2 (.tmp 3), none, []⟩,
  ⟨none, .store 1 (.tmp 13) (.take 12), none, []⟩])
 (.seq (.region false [⟨some 14, .load 3 true false (.tmp 3), none, []⟩,
  ⟨none, .store 3 (.tmp 2) (.tmp 14), none, []⟩])
 .ret)))))) }
noncomputable def p7600 : ProcT := { kind := .fn, ins := [0], bins := [], res := [.cell 2 8 true], code := (.seq (.region false [⟨some 1, .box 100 (.tmp 0), none, []⟩,
  ⟨some 2, .alloc 101 [.int .i64 0, .int .i64 0, .int .i64 0, .int .i64 0, .int .i64 0, .sl (.own false) .exp [], .sl (.own false) .stm [], .sl (.own false) .stm []], none, []⟩])
 (.seq (.region false [⟨some 3, .alloc 102 [.int .i64 0, .int .i64 0, .int .i64 0, .int .i64 0, .int .i64 0, .sl (.own false) .exp [], .sl (.own false) .stm [], .sl (.own false) .stm []], none, []⟩])
 (.seq (.region false [⟨some 4, .fadr 0 (.tmp 1), none, []⟩,
  ⟨some 5, .load 1 false false (.tmp 4), none, []⟩,
  ⟨some 6, .fadr 0 (.tmp 3), none, []⟩,
  ⟨none, .store 1 (.tmp 6) (.tmp 5), none, []⟩])
 (.seq (.region false [⟨some 7, .fadr 1 (.tmp 1), none, []⟩,
  ⟨some 8, .load 1 false false (.tmp 7), none, []⟩,
  ⟨some 9, .fadr 1 (.tmp 3), none, []⟩,
  ⟨none, .store 1 (.tmp 9) (.tmp 8), none, []⟩])
 (.seq (.region false [⟨some 10, .fadr 2 (.tmp 1), none, []⟩,
  ⟨some 11, .load 1 false false (.tmp 10), none, []⟩,
  ⟨some 12, .fadr 2 (.tmp 3), none, []⟩,
  ⟨none, .store 1 (.tmp 12) (.tmp 11), none, []⟩])
 (.seq (.region false [⟨some 13, .fadr 3 (.tmp 1), none, []⟩,
  ⟨some 14, .load 3 true false (.tmp 13), none, []⟩,
  ⟨some 15, .call 7500 0 [.tmp 14], none, []⟩,
  ⟨some 16, .fadr 3 (.tmp 3), none, []⟩,
  ⟨none, .store 3 (.tmp 16) (.tmp 15), none, []⟩])
 (.seq (.region false [⟨some 17, .fadr 6 (.tmp 1), none, []⟩,
  ⟨some 18, .load 1 false false (.tmp 17), none, []⟩,
  ⟨some 19, .call 7700 0 [.tmp 18], none, []⟩,
  ⟨some 20, .fadr 6 (.tmp 3), none, []⟩,
  ⟨none, .store 1 (.tmp 20) (.take 19), none, []⟩])
 (.seq (.region false [⟨some 21, .fadr 7 (.tmp 1), none, []⟩,
  ⟨some 22, .load 1 false false (.tmp 21), none, []⟩,
  ⟨some 23, .call 7700 0 [.tmp 22], none, []⟩,
  ⟨some 24, .fadr 7 (.tmp 3), none, []⟩,
  ⟨none, .store 1 (.tmp 24) (.take 23), none, []⟩])
 (.seq (.region false [⟨some 25, .load 8 true false (.tmp 3), none, []⟩,
  ⟨none, .store 8 (.tmp 2) (.tmp 25), none, []⟩])
 .ret))))))))) }
noncomputable def p7700 : ProcT := { kind := .fn, ins := [0], bins := [], res := [.tmp 2], code := (.seq (.region false [⟨some 2, .mv (.const (.sl (.own false) .stm [])), none, []⟩])
 (.seq (.region false [⟨some 5, .mv (.tmp 0), none, []⟩,
  ⟨some 6, .len (.tmp 5), none, []⟩,
  ⟨some 7, .mksl 100 .stm (.tmp 6) (.tmp 6), none, []⟩,
  ⟨some 3, .mv (.take 7), none, []⟩])
 (.seq (.seq (.region false [⟨some 4, .mv (.const (.int .i64 0)), none, []⟩])
 (.block 0 (.label 7701)))
 (.seq (.region false [⟨some 22, .mv (.take 3), none, []⟩,
  ⟨some 2, .mv (.take 22), none, []⟩])
 .ret)))) }
noncomputable def p7701 : ProcT := { kind := .loop, ins := [0, 3, 4], bins := [100], outs := [2, 3], bouts := [100], code := (.seq (.seq (.region false [⟨some 8, .mv (.tmp 4), none, []⟩,
  ⟨some 9, .mv (.tmp 0), none, []⟩,
  ⟨some 10, .len (.tmp 9), none, []⟩,
  ⟨some 11, .bin .lss (.tmp 8) (.tmp 10), none, []⟩])
 (.cond (.tmp 11) .skip (.exit 0)))
 (.seq (.block 1 (.region false [⟨some 14, .mv (.tmp 3), none, []⟩,
  ⟨some 15, .mv (.tmp 4), none, []⟩,
  ⟨some 16, .mv (.tmp 0), none, []⟩,
  ⟨some 17, .mv (.tmp 4), none, []⟩,
  ⟨some 18, .iadr 8 (.tmp 16) (.tmp 17), none, []⟩,
  ⟨some 19, .load 8 true false (.tmp 18), none, []⟩,
  ⟨some 20, .call 7600 0 [.tmp 19], none, []⟩,
  ⟨some 21, .iadr 8 (.tmp 14) (.tmp 15), none, []⟩,
  ⟨none, .store 8 (.tmp 21) (.tmp 20), none, []⟩]))
 (.region false [⟨some 12, .mv (.tmp 4), none, []⟩,
  ⟨some 13, .bin .add (.tmp 12) (.const (.int .i64 1)), none, []⟩,
  ⟨some 4, .mv (.tmp 13), none, []⟩]))) }
noncomputable def p7800 : ProcT := { kind := .fn, ins := [0], bins := [], res := [.tmp 2], code := (.seq (.region false [⟨some 2, .mv (.const (.sl (.own false) .int [])), none, []⟩])
 (.seq (.region false [⟨some 5, .mv (.tmp 0), none, []⟩,
  ⟨some 6, .len (.tmp 5), none, []⟩,
  ⟨some 7, .mksl 100 .int (.tmp 6) (.tmp 6), none, []⟩,
  ⟨some 3, .mv (.take 7), none, []⟩])
 (.seq (.seq (.region false [⟨some 4, .mv (.const (.int .i64 0)), none, []⟩])
 (.block 0 (.label 7801)))
 (.seq (.region false [⟨some 21, .mv (.take 3), none, []⟩,
  ⟨some 2, .mv (.take 21), none, []⟩])
 .ret)))) }
noncomputable def p7801 : ProcT := { kind := .loop, ins := [0, 3, 4], bins := [100], outs := [2, 3], bouts := [100], code := (.seq (.seq (.region false [⟨some 8, .mv (.tmp 4), none, []⟩,
  ⟨some 9, .mv (.tmp 0), none, []⟩,
  ⟨some 10, .len (.tmp 9), none, []⟩,
  ⟨some 11, .bin .lss (.tmp 8) (.tmp 10), none, []⟩])
 (.cond (.tmp 11) .skip (.exit 0)))
 (.seq (.block 1 (.region false [⟨some 14, .mv (.tmp 3), none, []⟩,
  ⟨some 15, .mv (.tmp 4), none, []⟩,
  ⟨some 16, .mv (.tmp 0), none, []⟩,
  ⟨some 17, .mv (.tmp 4), none, []⟩,
  ⟨some 18, .iadr 1 (.tmp 16) (.tmp 17), none, []⟩,
  ⟨some 19, .load 1 false false (.tmp 18), none, []⟩,
  ⟨some 20, .iadr 1 (.tmp 14) (.tmp 15), none, []⟩,
  ⟨none, .store 1 (.tmp 20) (.tmp 19), none, []⟩]))
 (.region false [⟨some 12, .mv (.tmp 4), none, []⟩,
  ⟨some 13, .bin .add (.tmp 12) (.const (.int .i64 1)), none, []⟩,
  ⟨some 4, .mv (.tmp 13), none, []⟩]))) }
noncomputable def p7900 : ProcT := { kind := .fn, ins := [0], bins := [], res := [.cell 2 2 true], code := (.seq (.region false [⟨some 1, .box 100 (.tmp 0), none, []⟩,
  ⟨some 2, .alloc 101 [.sl (.own false) .int [], .sl (.own false) .stm []], none, []⟩])
 (.seq (.region false [⟨some 3, .alloc 102 [.sl (.own false) .int [], .sl (.own false) .stm []], none, []⟩])
 (.seq (.region false [⟨some 4, .fadr 0 (.tmp 1), none, []⟩,
  ⟨some 5, .load 1 false false (.tmp 4), none, []⟩,
  ⟨some 6, .call 7800 0 [.tmp 5], none, []⟩,
  ⟨some 7, .fadr 0 (.tmp 3), none, []⟩,
  ⟨none, .store 1 (.tmp 7) (.take 6), none, []⟩])
 (.seq (.region false [⟨some 8, .fadr 1 (.tmp 1), none, []⟩,
  ⟨some 9, .load 1 false false (.tmp 8), none, []⟩,
  ⟨some 10, .call 7700 0 [.tmp 9], none, []⟩,
  ⟨some 11, .fadr 1 (.tmp 3), none, []⟩,
  ⟨none, .store 1 (.tmp 11) (.take 10), none, []⟩])
 (.seq (.region false [⟨some 12, .load 2 true false (.tmp 3), none, []⟩,
  ⟨none, .store 2 (.tmp 2) (.tmp 12), none, []⟩])
 .ret))))) }
noncomputable def p8000 : ProcT := { kind := .fn, ins := [0, 1], bins := [], res := [.tmp 4], code := (.seq (.region false [⟨some 4, .mv (.const (.bool false)), none, []⟩])
 (.seq (.seq (.region false [⟨some 6, .mv (.tmp 0), none, []⟩,
  ⟨some 7, .len (.tmp 6), none, []⟩,
  ⟨some 8, .mv (.tmp 1), none, []⟩,
  ⟨some 9, .len (.tmp 8), none, []⟩,
  ⟨some 10, .bin .neq (.tmp 7) (.tmp 9), none, []⟩])
 (.cond (.tmp 10) (.seq (.region false [⟨some 4, .mv (.const (.bool false)), none, []⟩])
 .ret) .skip))
 (.seq (.seq (.region false [⟨some 5, .mv (.const (.int .i64 0)), none, []⟩])
 (.block 0 (.label 8001)))
 (.seq (.region false [⟨some 4, .mv (.const (.bool true)), none, []⟩])
 .ret)))) }
noncomputable def p8001 : ProcT := { kind := .loop, ins := [0, 1, 5], bins := [], outs := [4], bouts := [], code := (.seq (.seq (.region false [⟨some 11, .mv (.tmp 5), none, []⟩,
  ⟨some 12, .mv (.tmp 0), none, []⟩,
  ⟨some 13, .len (.tmp 12), none, []⟩,
  ⟨some 14, .bin .lss (.tmp 11) (.tmp 13), none, []⟩])
 (.cond (.tmp 14) .skip (.exit 0)))
 (.seq (.block 1 (.seq (.region true [⟨some 17, .mv (.tmp 0), none, []⟩,
  ⟨some 18, .mv (.tmp 5), none, []⟩,
  ⟨some 19, .iadr 3 (.tmp 17) (.tmp 18), none, []⟩,
  ⟨some 20, .load 3 true false (.tmp 19), none, []⟩,
  ⟨some 21, .mv (.tmp 1), none, []⟩,
  ⟨some 22, .mv (.tmp 5), none, []⟩,
  ⟨some 23, .iadr 3 (.tmp 21) (.tmp 22), none, []⟩,
  ⟨some 24, .load 3 true false (.tmp 23), none, []⟩,
  ⟨some 25, .call 8100 0 [.tmp 20, .tmp 24], none, []⟩,
  ⟨some 26, .un .not (.tmp 25), none, []⟩])
 (.cond (.tmp 26) (.seq (.region false [⟨some 4, .mv (.const (.bool false)), none, []⟩])
 .ret) .skip)))
 (.region false [⟨some 15, .mv (.tmp 5), none, []⟩,
  ⟨some 16, .bin .add (.tmp 15) (.const (.int .i64 1)), none, []⟩,
  ⟨some 5, .mv (.tmp 16), none, []⟩]))) }
noncomputable def p8100 : ProcT := { kind := .fn, ins := [0, 1], bins := [], res := [.tmp 4], code := (.seq (.region false [⟨some 2, .box 100 (.tmp 0), none, []⟩,
  ⟨some 3, .box 101 (.tmp 1), none, []⟩,
  ⟨some 4, .mv (.const (.bool false)), none, []⟩])
 (.seq (.seq (.region false [⟨some 5, .fadr 0 (.tmp 2), none, []⟩,
  ⟨some 6, .load 1 false false (.tmp 5), none, []⟩,
  ⟨some 7, .fadr 0 (.tmp 3), none, []⟩,
  ⟨some 8, .load 1 false false (.tmp 7), none, []⟩,
  ⟨some 9, .bin .neq (.tmp 6) (.tmp 8), none, []⟩])
 (.cond (.tmp 9) (.seq (.region false [⟨some 4, .mv (.const (.bool false)), none, []⟩])
 .ret) .skip))
 (.seq (.seq (.region false [⟨some 10, .fadr 1 (.tmp 2), none, []⟩,
  ⟨some 11, .load 1 false false (.tmp 10), none, []⟩,
  ⟨some 12, .fadr 1 (.tmp 3), none, []⟩,
  ⟨some 13, .load 1 false false (.tmp 12), none, []⟩,
  ⟨some 14, .bin .neq (.tmp 11) (.tmp 13), none, []⟩])
 (.cond (.tmp 14) (.seq (.region false [⟨some 4, .mv (.const (.bool false)), none, []⟩])
 .ret) .skip))
 (.seq (.seq (.region false [⟨some 15, .fadr 2 (.tmp 2), none, []⟩,
  ⟨some 16, .load 1 false false (.tmp 15), none, []⟩,
  ⟨some 17, .fadr 2 (.tmp 3), none, []⟩,
  ⟨some 18, .load 1 false false (.tmp 17), none, []⟩,
  ⟨some 19, .call 8000 0 [.tmp 16, .tmp 18], none, []⟩,
  ⟨some 20, .un .not (.tmp 19), none, []⟩])
 (.cond (.tmp 20) (.seq (.region false [⟨some 4, .mv (.const (.bool false)), none, []⟩])
 .ret) .skip))
 (.seq (.region false [⟨some 4, .mv (.const (.bool true)), none, []⟩])
 .ret))))) }
noncomputable def p8200 : ProcT := { kind := .fn, ins := [0, 1], bins := [], res := [.tmp 4], code := (.seq (.region false [⟨some 2, .box 100 (.tmp 0), none, []⟩,
  ⟨some 3, .box 101 (.tmp 1), none, []⟩,
  ⟨some 4, .mv (.const (.bool false)), none, []⟩])
 (.seq (.seq (.region false [⟨some 5, .fadr 0 (.tmp 2), none, []⟩,
  ⟨some 6, .load 1 false false (.tmp 5), none, []⟩,
  ⟨some 7, .fadr 0 (.tmp 3), none, []⟩,
  ⟨some 8, .load 1 false false (.tmp 7), none, []⟩,
  ⟨some 9, .bin .neq (.tmp 6) (.tmp 8), none, []⟩])
 (.cond (.tmp 9) (.seq (.region false [⟨some 4, .mv (.const (.bool false)), none, []⟩])
 .ret) .skip))
 (.seq (.seq (.region false [⟨some 10, .fadr 1 (.tmp 2), none, []⟩,
  ⟨some 11, .load 1 false false (.tmp 10), none, []⟩,
  ⟨some 12, .fadr 1 (.tmp 3), none, []⟩,
  ⟨some 13, .load 1 false false (.tmp 12), none, []⟩,
  ⟨some 14, .bin .neq (.tmp 11) (.tmp 13), none, []⟩])
 (.cond (.tmp 14) (.seq (.region false [⟨some 4, .mv (.const (.bool false)), none, []⟩])
 .ret) .skip))
 (.seq (.seq (.region false [⟨some 15, .fadr 2 (.tmp 2), none, []⟩,
  ⟨some 16, .load 1 false false (.tmp 15), none, []⟩,
  ⟨some 17, .fadr 2 (.tmp 3), none, []⟩,
  ⟨some 18, .load 1 false false (.tmp 17), none, []⟩,
  ⟨some 19, .bin .neq (.tmp 16) (.tmp 18), none, []⟩])
 (.cond (.tmp 19) (.seq (.region false [⟨some 4, .mv (.const (.bool false)), none, []⟩])
 .ret) .skip))
 (.seq (.seq (.region false [⟨some 20, .fadr 3 (.tmp 2), none, []⟩,
  ⟨some 21, .load 3 true false (.tmp 20), none, []⟩,
  ⟨some 22, .fadr 3 (.tmp 3), none, []⟩,
  ⟨some 23, .load 3 true false (.tmp 22), none, []⟩,
  ⟨some 24, .call 8100 0 [.tmp 21, .tmp 23], none, []⟩,
  ⟨some 25, .un .not (.tmp 24), none, []⟩])
 (.cond (.tmp 25) (.seq (.region false [⟨some 4, .mv (.const (.bool false)), none, []⟩])
 .ret) .skip))
 (.seq (.seq (.region false [⟨some 26, .fadr 6 (.tmp 2), none, []⟩,
  ⟨some 27, .load 1 false false (.tmp 26), none, []⟩,
  ⟨some 28, .fadr 6 (.tmp 3), none, []⟩,
  ⟨some 29, .load 1 false false (.tmp 28), none, []⟩,
  ⟨some 30, .call 8300 0 [.tmp 27, .tmp 29], none, []⟩,
  ⟨some 31, .un .not (.tmp 30), none, []⟩])
 (.cond (.tmp 31) (.seq (.region false [⟨some 4, .mv (.const (.bool false)), none, []⟩])
 .ret) .skip))
 (.seq (.seq (.region false [⟨some 32, .fadr 7 (.tmp 2), none, []⟩,
  ⟨some 33, .load 1 false false (.tmp 32), none, []⟩,
  ⟨some 34, .fadr 7 (.tmp 3), none, []⟩,
  ⟨some 35, .load 1 false false (.tmp 34), none, []⟩,
  ⟨some 36, .call 8300 0 [.tmp 33, .tmp 35], none, []⟩,
  ⟨some 37, .un .not (.tmp 36), none, []⟩])
 (.cond (.tmp 37) (.seq (.region false [⟨some 4, .mv (.const (.bool false)), none, []⟩])
 .ret) .skip))
 (.seq (.region false [⟨some 4, .mv (.const (.bool true)), none, []⟩])
 .ret)))))))) }
noncomputable def p8300 : ProcT := { kind := .fn, ins := [0, 1], bins := [], res := [.tmp 4], code := (.seq (.region false [⟨some 4, .mv (.const (.bool false)), none, []⟩])
 (.seq (.seq (.region false [⟨some 6, .mv (.tmp 0), none, []⟩,
  ⟨some 7, .len (.tmp 6), none, []⟩,
  ⟨some 8, .mv (.tmp 1), none, []⟩,
  ⟨some 9, .len (.tmp 8), none, []⟩,
  ⟨some 10, .bin .neq (.tmp 7) (.tmp 9), none, []⟩])
 (.cond (.tmp 10) (.seq (.region false [⟨some 4, .mv (.const (.bool false)), none, []⟩])
 .ret) .skip))
 (.seq (.seq (.region false [⟨some 5, .mv (.const (.int .i64 0)), none, []⟩])
 (.block 0 (.label 8301)))
 (.seq (.region false [⟨some 4, .mv (.const (.bool true)), none, []⟩])
 .ret)))) }
noncomputable def p8301 : ProcT := { kind := .loop, ins := [0, 1, 5], bins := [], outs := [4], bouts := [], code := (.seq (.seq (.region false [⟨some 11, .mv (.tmp 5), none, []⟩,
  ⟨some 12, .mv (.tmp 0), none, []⟩,
  ⟨some 13, .len (.tmp 12), none, []⟩,
  ⟨some 14, .bin .lss (.tmp 11) (.tmp 13), none, []⟩])
 (.cond (.tmp 14) .skip (.exit 0)))
 (.seq (.block 1 (.seq (.region true [⟨some 17, .mv (.tmp 0), none, []⟩,
  ⟨some 18, .mv (.tmp 5), none, []⟩,
  ⟨some 19, .iadr 8 (.tmp 17) (.tmp 18), none, []⟩,
  ⟨some 20, .load 8 true false (.tmp 19), none, []⟩,
  ⟨some 21, .mv (.tmp 1), none, []⟩,
  ⟨some 22, .mv (.tmp 5), none, []⟩,
  ⟨some 23, .iadr 8 (.tmp 21) (.tmp 22), none, []⟩,
  ⟨some 24, .load 8 true false (.tmp 23), none, []⟩,
  ⟨some 25, .call 8200 0 [.tmp 20, .tmp 24], none, []⟩,
  ⟨some 26, .un .not (.tmp 25), none, []⟩])
 (.cond (.tmp 26) (.seq (.region false [⟨some 4, .mv (.const (.bool false)), none, []⟩])
 .ret) .skip)))
 (.region false [⟨some 15, .mv (.tmp 5), none, []⟩,
  ⟨some 16, .bin .add (.tmp 15) (.const (.int .i64 1)), none, []⟩,
  ⟨some 5, .mv (.tmp 16), none, []⟩]))) }
noncomputable def p8400 : ProcT := { kind := .fn, ins := [0, 1], bins := [], res := [.tmp 4], code := (.seq (.region false [⟨some 4, .mv (.const (.bool false)), none, []⟩])
 (.seq (.seq (.region false [⟨some 6, .mv (.tmp 0), none, []⟩,
  ⟨some 7, .len (.tmp 6), none, []⟩,
  ⟨some 8, .mv (.tmp 1), none, []⟩,
  ⟨some 9, .len (.tmp 8), none, []⟩,
  ⟨some 10, .bin .neq (.tmp 7) (.tmp 9), none, []⟩])
 (.cond (.tmp 10) (.seq (.region false [⟨some 4, .mv (.const (.bool false)), none, []⟩])
 .ret) .skip))
 (.seq (.seq (.region false [⟨some 5, .mv (.const (.int .i64 0)), none, []⟩])
 (.block 0 (.label 8401)))
 (.seq (.region false [⟨some 4, .mv (.const (.bool true)), none, []⟩])
 .ret)))) }
noncomputable def p8401 : ProcT := { kind := .loop, ins := [0, 1, 5], bins := [], outs := [4], bouts := [], code := (.seq (.seq (.region false [⟨some 11, .mv (.tmp 5), none, []⟩,
  ⟨some 12, .mv (.tmp 0), none, []⟩,
  ⟨some 13, .len (.tmp 12), none, []⟩,
  ⟨some 14, .bin .lss (.tmp 11) (.tmp 13), none, []⟩])
 (.cond (.tmp 14) .skip (.exit 0)))
 (.seq (.block 1 (.seq (.region true [⟨some 17, .mv (.tmp 0), none, []⟩,
  ⟨some 18, .mv (.tmp 5), none, []⟩,
  ⟨some 19, .iadr 1 (.tmp 17) (.tmp 18), none, []⟩,
  ⟨some 20, .load 1 false false (.tmp 19), none, []⟩,
  ⟨some 21, .mv (.tmp 1), none, []⟩,
  ⟨some 22, .mv (.tmp 5), none, []⟩,
  ⟨some 23, .iadr 1 (.tmp 21) (.tmp 22), none, []⟩,
  ⟨some 24, .load 1 false false (.tmp 23), none, []⟩,
  ⟨some 25, .bin .neq (.tmp 20) (.tmp 24), none, []⟩])
 (.cond (.tmp 25) (.seq (.region false [⟨some 4, .mv (.const (.bool false)), none, []⟩])
 .ret) .skip)))
 (.region false [⟨some 15, .mv (.tmp 5), none, []⟩,
  ⟨some 16, .bin .add (.tmp 15) (.const (.int .i64 1)), none, []⟩,
  ⟨some 5, .mv (.tmp 16), none, []⟩]))) }
noncomputable def p8500 : ProcT := { kind := .fn, ins := [0, 1], bins := [], res := [.tmp 4], code := (.seq (.region false [⟨some 2, .box 100 (.tmp 0), none, []⟩,
  ⟨some 3, .box 101 (.tmp 1), none, []⟩,
  ⟨some 4, .mv (.const (.bool false)), none, []⟩])
 (.seq (.seq (.region false [⟨some 5, .fadr 0 (.tmp 2), none, []⟩,
  ⟨some 6, .load 1 false false (.tmp 5), none, []⟩,
  ⟨some 7, .fadr 0 (.tmp 3), none, []⟩,
  ⟨some 8, .load 1 false false (.tmp 7), none, []⟩,
  ⟨some 9, .call 8400 0 [.tmp 6, .tmp 8], none, []⟩,
  ⟨some 10, .un .not (.tmp 9), none, []⟩])
 (.cond (.tmp 10) (.seq (.region false [⟨some 4, .mv (.const (.bool false)), none, []⟩])
 .ret) .skip))
 (.seq (.seq (.region false [⟨some 11, .fadr 1 (.tmp 2), none, []⟩,
  ⟨some 12, .load 1 false false (.tmp 11), none, []⟩,
  ⟨some 13, .fadr 1 (.tmp 3), none, []⟩,
  ⟨some 14, .load 1 false false (.tmp 13), none, []⟩,
  ⟨some 15, .call 8300 0 [.tmp 12, .tmp 14], none, []⟩,
  ⟨some 16, .un .not (.tmp 15), none, []⟩])
 (.cond (.tmp 16) (.seq (.region false [⟨some 4, .mv (.const (.bool false)), none, []⟩])
 .ret) .skip))
 (.seq (.region false [⟨some 4, .mv (.const (.bool true)), none, []⟩])
 .ret)))) }
noncomputable def p11100 : ProcT := { kind := .fn, ins := [0, 1, 2], bins := [], res := [.tmp 6], code := (.seq (.region false [⟨some 6, .mv (.const (.bool false)), none, []⟩])
 (.seq (.region false [⟨some 7, .mv (.tmp 0), none, []⟩,
  ⟨some 8, .bin .eql (.tmp 7) (.const (.int .i64 0)), none, []⟩,
  ⟨some 9, .mv (.tmp 8), none, []⟩,
  ⟨some 10, .mv (.tmp 2), some (9, false), []⟩,
  ⟨some 11, .mv (.tmp 10), some (9, false), []⟩,
  ⟨some 12, .mv (.tmp 0), some (11, true), []⟩,
  ⟨some 13, .bin .gtr (.tmp 12) (.const (.int .i64 0)), some (11, true), []⟩,
  ⟨some 14, .pick (.tmp 11) (.tmp 13) (.const (.bool false)), some (9, false), []⟩,
  ⟨some 15, .mv (.tmp 14), some (9, false), []⟩,
  ⟨some 16, .mv (.tmp 0), some (15, true), []⟩,
  ⟨some 17, .mv (.tmp 1), some (15, true), []⟩,
  ⟨some 18, .bin .lss (.tmp 16) (.tmp 17), some (15, true), []⟩,
  ⟨some 19, .pick (.tmp 15) (.tmp 18) (.const (.bool false)), some (9, false), []⟩,
  ⟨some 20, .pick (.tmp 9) (.const (.bool true)) (.tmp 19), none, []⟩,
  ⟨some 6, .mv (.tmp 20), none, []⟩])
 .ret)) }
noncomputable def p17600 : ProcT := { kind := .fn, ins := [0], bins := [], res := [.tmp 2], code := (.seq (.region false [⟨some 1, .box 100 (.tmp 0), none, []⟩,
  ⟨some 2, .mv (.const (.bool false)), none, []⟩])
 (.seq (.region false [⟨some 3, .fadr 0 (.tmp 1), none, []⟩,
  ⟨some 4, .load 1 false false (.tmp 3), none, []⟩,
  ⟨some 5, .bin .geq (.tmp 4) (.const (.int .i64 1)), none, []⟩,
  ⟨some 6, .mv (.tmp 5), none, []⟩,
  ⟨some 7, .fadr 0 (.tmp 1), some (6, true), []⟩,
  ⟨some 8, .load 1 false false (.tmp 7), some (6, true), []⟩,
  ⟨some 9, .bin .leq (.tmp 8) (.const (.int .i64 4)), some (6, true), []⟩,
  ⟨some 10, .pick (.tmp 6) (.tmp 9) (.const (.bool false)), none, []⟩,
  ⟨some 11, .mv (.tmp 10), none, []⟩,
  ⟨some 12, .fadr 1 (.tmp 1), some (11, true), []⟩,
  ⟨some 13, .load 1 false false (.tmp 12), some (11, true), []⟩,
  ⟨some 14, .len (.tmp 13), some (11, true), []⟩,
  ⟨some 15, .fadr 0 (.tmp 1), some (11, true), []⟩,
  ⟨some 16, .load 1 false false (.tmp 15), some (11, true), []⟩,
  ⟨some 17, .bin .leq (.tmp 14) (.tmp 16), some (11, true), []⟩,
  ⟨some 18, .pick (.tmp 11) (.tmp 17) (.const (.bool false)), none, []⟩,
  ⟨some 19, .mv (.tmp 18), none, []⟩,
  ⟨some 20, .fadr 1 (.tmp 1), some (19, true), []⟩,
  ⟨some 21, .load 1 false false (.tmp 20), some (19, true), []⟩,
  ⟨some 22, .call 5100 0 [.tmp 21], some (19, true), []⟩,
  ⟨some 23, .pick (.tmp 19) (.tmp 22) (.const (.bool false)), none, []⟩,
  ⟨some 2, .mv (.tmp 23), none, []⟩])
 .ret)) }
noncomputable def p17800 : ProcT := { kind := .fn, ins := [0], bins := [], res := [.tmp 2], code := (.seq (.region false [⟨some 1, .box 100 (.tmp 0), none, []⟩,
  ⟨some 2, .mv (.const (.bool false)), none, []⟩])
 (.seq (.region false [⟨some 3, .fadr 0 (.tmp 1), none, []⟩,
  ⟨some 4, .load 1 false false (.tmp 3), none, []⟩,
  ⟨some 5, .call 1600 0 [.tmp 4, .const (.int .i64 1), .const (.int .i64 4)], none, []⟩,
  ⟨some 6, .mv (.tmp 5), none, []⟩,
  ⟨some 7, .fadr 1 (.tmp 1), some (6, true), []⟩,
  ⟨some 8, .load 1 false false (.tmp 7), some (6, true), []⟩,
  ⟨some 9, .len (.tmp 8), some (6, true), []⟩,
  ⟨some 10, .fadr 0 (.tmp 1), some (6, true), []⟩,
  ⟨some 11, .load 1 false false (.tmp 10), some (6, true), []⟩,
  ⟨some 12, .bin .leq (.tmp 9) (.tmp 11), some (6, true), []⟩,
  ⟨some 13, .pick (.tmp 6) (.tmp 12) (.const (.bool false)), none, []⟩,
  ⟨some 14, .mv (.tmp 13), none, []⟩,
  ⟨some 15, .fadr 1 (.tmp 1), some (14, true), []⟩,
  ⟨some 16, .load 1 false false (.tmp 15), some (14, true), []⟩,
  ⟨some 17, .fadr 1 (.tmp 1), some (14, true), []⟩,
  ⟨some 18, .load 1 false false (.tmp 17), some (14, true), []⟩,
  ⟨some 19, .len (.tmp 18), some (14, true), []⟩,
  ⟨some 20, .call 6500 0 [.tmp 16, .tmp 19], some (14, true), []⟩,
  ⟨some 21, .pick (.tmp 14) (.tmp 20) (.const (.bool false)), none, []⟩,
  ⟨some 2, .mv (.tmp 21), none, []⟩])
 .ret)) }
noncomputable def p19000 : ProcT := { kind := .fn, ins := [0, 1], bins := [], res := [.tmp 4], code := (.seq (.region false [⟨some 2, .box 100 (.tmp 0), none, []⟩,
  ⟨some 3, .box 101 (.tmp 1), none, []⟩,
  ⟨some 4, .mv (.const (.bool false)), none, []⟩])
 (.seq (.seq (.region false [⟨some 5, .fadr 0 (.tmp 2), none, []⟩,
  ⟨some 6, .load 1 false false (.tmp 5), none, []⟩,
  ⟨some 7, .fadr 0 (.tmp 3), none, []⟩,
  ⟨some 8, .load 1 false false (.tmp 7), none, []⟩,
  ⟨some 9, .bin .neq (.tmp 6) (.tmp 8), none, []⟩])
 (.cond (.tmp 9) (.seq (.region false [⟨some 4, .mv (.const (.bool false)), none, []⟩])
 .ret) .skip))
 (.seq (.seq (.region false [⟨some 10, .fadr 1 (.tmp 2), none, []⟩,
  ⟨some 11, .load 1 false false (.tmp 10), none, []⟩,
  ⟨some 12, .fadr 1 (.tmp 3), none, []⟩,
  ⟨some 13, .load 1 false false (.tmp 12), none, []⟩,
  ⟨some 14, .call 8400 0 [.tmp 11, .tmp 13], none, []⟩,
  ⟨some 15, .un .not (.tmp 14), none, []⟩])
 (.cond (.tmp 15) (.seq (.region false [⟨some 4, .mv (.const (.bool false)), none, []⟩])
 .ret) .skip))
 (.seq (.region false [⟨some 4, .mv (.const (.bool true)), none, []⟩])
 .ret)))) }
noncomputable def p23100 : ProcT := { kind := .fn, ins := [0, 1], bins := [], res := [.tmp 4], code := (.seq (.region false [⟨some 4, .mv (.const (.bool false)), none, []⟩])
 (.seq (.seq (.region false [⟨some 5, .mv (.const (.int .i64 0)), none, []⟩])
 (.block 0 (.label 23101)))
 (.seq (.region false [⟨some 4, .mv (.const (.bool true)), none, []⟩])
 .ret))) }
noncomputable def p23101 : ProcT := { kind := .loop, ins := [0, 1, 5], bins := [], outs := [4], bouts := [], code := (.seq (.seq (.region false [⟨some 7, .mv (.tmp 5), none, []⟩,
  ⟨some 8, .mv (.tmp 0), none, []⟩,
  ⟨some 9, .len (.tmp 8), none, []⟩,
  ⟨some 10, .bin .lss (.tmp 7) (.tmp 9), none, []⟩])
 (.cond (.tmp 10) .skip (.exit 0)))
 (.seq (.block 1 (.seq (.region false [⟨some 13, .mv (.tmp 0), none, []⟩,
  ⟨some 14, .mv (.tmp 5), none, []⟩,
  ⟨some 15, .iadr 8 (.tmp 13) (.tmp 14), none, []⟩,
  ⟨some 16, .load 8 true false (.tmp 15), none, []⟩,
  ⟨some 6, .alloc 100 [.int .i64 0, .int .i64 0, .int .i64 0, .int .i64 0, .int .i64 0, .sl (.own false) .exp [], .sl (.own false) .stm [], .sl (.own false) .stm []], none, []⟩,
  ⟨none, .store 8 (.tmp 6) (.tmp 16), none, []⟩])
 (.seq (.seq (.region false [⟨some 17, .fadr 0 (.tmp 6), none, []⟩,
  ⟨some 18, .load 1 false false (.tmp 17), none, []⟩,
  ⟨some 19, .bin .eql (.tmp 18) (.const (.int .i64 4)), none, []⟩,
  ⟨some 20, .mv (.tmp 19), none, []⟩,
  ⟨some 21, .fadr 0 (.tmp 6), some (20, false), []⟩,
  ⟨some 22, .load 1 false false (.tmp 21), some (20, false), []⟩,
  ⟨some 23, .bin .eql (.tmp 22) (.const (.int .i64 5)), some (20, false), []⟩,
  ⟨some 24, .pick (.tmp 20) (.const (.bool true)) (.tmp 23), none, []⟩,
  ⟨some 25, .mv (.tmp 24), none, []⟩,
  ⟨some 26, .fadr 2 (.tmp 6), some (25, true), []⟩,
  ⟨some 27, .load 1 false false (.tmp 26), some (25, true), []⟩,
  ⟨some 28, .mv (.tmp 1), some (25, true), []⟩,
  ⟨some 29, .bin .geq (.tmp 27) (.tmp 28), some (25, true), []⟩,
  ⟨some 30, .pick (.tmp 25) (.tmp 29) (.const (.bool false)), none, []⟩])
 (.cond (.tmp 30) (.seq (.region false [⟨some 4, .mv (.const (.bool false)), none, []⟩])
 .ret) .skip))
 (.seq (.region false [⟨some 31, .fadr 6 (.tmp 6), none, []⟩,
  ⟨some 32, .load 1 false false (.tmp 31), none, []⟩,
  ⟨some 33, .mv (.tmp 1), none, []⟩,
  ⟨some 34, .call 23100 0 [.tmp 32, .tmp 33], none, []⟩,
  ⟨some 35, .un .not (.tmp 34), none, []⟩,
  ⟨some 36, .mv (.tmp 35), none, []⟩,
  ⟨some 37, .fadr 7 (.tmp 6), some (36, false), []⟩,
  ⟨some 38, .load 1 false false (.tmp 37), some (36, false), []⟩,
  ⟨some 39, .mv (.tmp 1), some (36, false), []⟩,
  ⟨some 40, .call 23100 0 [.tmp 38, .tmp 39], some (36, false), []⟩,
  ⟨some 41, .un .not (.tmp 40), some (36, false), []⟩,
  ⟨some 42, .pick (.tmp 36) (.const (.bool true)) (.tmp 41), none, []⟩])
 (.cond (.tmp 42) (.seq (.region false [⟨some 4, .mv (.const (.bool false)), none, []⟩])
 .ret) .skip)))))
 (.region false [⟨some 11, .mv (.tmp 5), none, []⟩,
  ⟨some 12, .bin .add (.tmp 11) (.const (.int .i64 1)), none, []⟩,
  ⟨some 5, .mv (.tmp 12), none, []⟩]))) }
noncomputable def p23800 : ProcT := { kind := .fn, ins := [0, 1, 2, 3], bins := [], res := [.tmp 8], code := (.seq (.region false [⟨some 8, .mv (.const (.bool false)), none, []⟩])
 (.seq (.region false [⟨some 9, .mv (.tmp 0), none, []⟩,
  ⟨some 10, .bin .geq (.tmp 9) (.const (.int .i64 1)), none, []⟩,
  ⟨some 11, .mv (.tmp 10), none, []⟩,
  ⟨some 12, .mv (.tmp 0), some (11, true), []⟩,
  ⟨some 13, .bin .leq (.tmp 12) (.const (.int .i64 3)), some (11, true), []⟩,
  ⟨some 14, .pick (.tmp 11) (.tmp 13) (.const (.bool false)), none, []⟩,
  ⟨some 15, .mv (.tmp 14), none, []⟩,
  ⟨some 16, .mv (.tmp 1), some (15, true), []⟩,
  ⟨some 17, .bin .geq (.tmp 16) (.const (.int .i64 0)), some (15, true), []⟩,
  ⟨some 18, .pick (.tmp 15) (.tmp 17) (.const (.bool false)), none, []⟩,
  ⟨some 19, .mv (.tmp 18), none, []⟩,
  ⟨some 20, .mv (.tmp 1), some (19, true), []⟩,
  ⟨some 21, .mv (.tmp 0), some (19, true), []⟩,
  ⟨some 22, .bin .lss (.tmp 20) (.tmp 21), some (19, true), []⟩,
  ⟨some 23, .pick (.tmp 19) (.tmp 22) (.const (.bool false)), none, []⟩,
  ⟨some 24, .mv (.tmp 23), none, []⟩,
  ⟨some 25, .mv (.tmp 2), some (24, true), []⟩,
  ⟨some 26, .bin .geq (.tmp 25) (.const (.int .i64 0)), some (24, true), []⟩,
  ⟨some 27, .pick (.tmp 24) (.tmp 26) (.const (.bool false)), none, []⟩,
  ⟨some 28, .mv (.tmp 27), none, []⟩,
  ⟨some 29, .mv (.tmp 2), some (28, true), []⟩,
  ⟨some 30, .mv (.tmp 0), some (28, true), []⟩,
  ⟨some 31, .bin .leq (.tmp 29) (.tmp 30), some (28, true), []⟩,
  ⟨some 32, .pick (.tmp 28) (.tmp 31) (.const (.bool false)), none, []⟩,
  ⟨some 33, .mv (.tmp 32), none, []⟩,
  ⟨some 34, .mv (.tmp 3), some (33, true), []⟩,
  ⟨some 35, .call 5100 0 [.tmp 34], some (33, true), []⟩,
  ⟨some 36, .pick (.tmp 33) (.tmp 35) (.const (.bool false)), none, []⟩,
  ⟨some 8, .mv (.tmp 36), none, []⟩])
 .ret)) }
noncomputable def p23900 : ProcT := { kind := .fn, ins := [0], bins := [], res := [.tmp 2], code := (.seq (.region false [⟨some 2, .mv (.const (.bool false)), none, []⟩])
 (.seq (.seq (.region false [⟨some 5, .mv (.tmp 0), none, []⟩,
  ⟨some 6, .len (.tmp 5), none, []⟩,
  ⟨some 7, .mv (.const (.int .i64 0)), none, []⟩])
 (.block 0 (.label 23901)))
 (.seq (.region false [⟨some 15, .mv (.tmp 0), none, []⟩,
  ⟨some 16, .len (.tmp 15), none, []⟩,
  ⟨some 17, .bin .leq (.tmp 16) (.const (.int .i64 3)), none, []⟩,
  ⟨some 2, .mv (.tmp 17), none, []⟩])
 .ret))) }
noncomputable def p23901 : ProcT := { kind := .loop, ins := [0, 5, 6, 7], bins := [], outs := [0, 2], bouts := [], code := (.seq (.region false [⟨some 8, .bin .lss (.tmp 7) (.tmp 6), none, []⟩])
 (.seq (.cond (.tmp 8) .skip (.exit 0))
 (.seq (.block 1 (.seq (.region false [⟨some 9, .iadr 2 (.tmp 5) (.tmp 7), none, []⟩,
  ⟨some 10, .load 2 true false (.tmp 9), none, []⟩,
  ⟨some 4, .alloc 100 [.int .i64 0, .sl (.own false) .int []], none, []⟩,
  ⟨none, .store 2 (.tmp 4) (.tmp 10), none, []⟩])
 (.seq (.region false [⟨some 11, .load 2 true false (.tmp 4), none, []⟩,
  ⟨some 12, .call 17600 0 [.tmp 11], none, []⟩,
  ⟨some 13, .un .not (.tmp 12), none, []⟩])
 (.cond (.tmp 13) (.seq (.region false [⟨some 2, .mv (.const (.bool false)), none, []⟩])
 .ret) .skip))))
 (.region false [⟨some 14, .bin .add (.tmp 7) (.const (.int .i64 1)), none, []⟩,
  ⟨some 7, .mv (.tmp 14), none, []⟩])))) }
noncomputable def p24000 : ProcT := { kind := .fn, ins := [0], bins := [], res := [.tmp 2], code := (.seq (.region false [⟨some 1, .box 100 (.tmp 0), none, []⟩,
  ⟨some 2, .mv (.const (.bool false)), none, []⟩])
 (.seq (.seq (.region false [⟨some 5, .fadr 0 (.tmp 1), none, []⟩,
  ⟨some 6, .load 1 false false (.tmp 5), none, []⟩,
  ⟨some 7, .len (.tmp 6), none, []⟩,
  ⟨some 8, .fadr 2 (.tmp 1), none, []⟩,
  ⟨some 9, .load 1 false false (.tmp 8), none, []⟩,
  ⟨some 10, .fadr 3 (.tmp 1), none, []⟩,
  ⟨some 11, .load 1 false false (.tmp 10), none, []⟩,
  ⟨some 12, .fadr 4 (.tmp 1), none, []⟩,
  ⟨some 13, .load 1 false false (.tmp 12), none, []⟩,
  ⟨some 14, .call 23800 0 [.tmp 7, .tmp 9, .tmp 11, .tmp 13], none, []⟩,
  ⟨some 15, .un .not (.tmp 14), none, []⟩,
  ⟨some 16, .mv (.tmp 15), none, []⟩,
  ⟨some 17, .fadr 1 (.tmp 1), some (16, false), []⟩,
  ⟨some 18, .load 1 false false (.tmp 17), some (16, false), []⟩,
  ⟨some 19, .call 23900 0 [.tmp 18], some (16, false), []⟩,
  ⟨some 20, .un .not (.tmp 19), some (16, false), []⟩,
  ⟨some 21, .pick (.tmp 16) (.const (.bool true)) (.tmp 20), none, []⟩])
 (.cond (.tmp 21) (.seq (.region false [⟨some 2, .mv (.const (.bool false)), none, []⟩])
 .ret) .skip))
 (.seq (.seq (.region false [⟨some 22, .fadr 0 (.tmp 1), none, []⟩,
  ⟨some 23, .load 1 false false (.tmp 22), none, []⟩,
  ⟨some 24, .len (.tmp 23), none, []⟩,
  ⟨some 25, .mv (.const (.int .i64 0)), none, []⟩])
 (.block 0 (.label 24001)))
 (.seq (.region false [⟨some 2, .mv (.const (.bool true)), none, []⟩])
 .ret)))) }
noncomputable def p24001 : ProcT := { kind := .loop, ins := [1, 23, 24, 25], bins := [100], outs := [2], bouts := [], code := (.seq (.region false [⟨some 26, .bin .lss (.tmp 25) (.tmp 24), none, []⟩])
 (.seq (.cond (.tmp 26) .skip (.exit 0))
 (.seq (.block 1 (.seq (.region false [⟨some 27, .iadr 2 (.tmp 23) (.tmp 25), none, []⟩,
  ⟨some 28, .load 2 true false (.tmp 27), none, []⟩,
  ⟨some 4, .alloc 101 [.sl (.own false) .int [], .sl (.own false) .stm []], none, []⟩,
  ⟨none, .store 2 (.tmp 4) (.tmp 28), none, []⟩])
 (.seq (.region false [⟨some 29, .load 2 true false (.tmp 4), none, []⟩,
  ⟨some 30, .fadr 1 (.tmp 1), none, []⟩,
  ⟨some 31, .load 1 false false (.tmp 30), none, []⟩,
  ⟨some 32, .len (.tmp 31), none, []⟩,
  ⟨some 33, .call 5500 0 [.tmp 29, .tmp 32], none, []⟩,
  ⟨some 34, .un .not (.tmp 33), none, []⟩])
 (.cond (.tmp 34) (.seq (.region false [⟨some 2, .mv (.const (.bool false)), none, []⟩])
 .ret) .skip))))
 (.region false [⟨some 35, .bin .add (.tmp 25) (.const (.int .i64 1)), none, []⟩,
  ⟨some 25, .mv (.tmp 35), none, []⟩])))) }
noncomputable def p24200 : ProcT := { kind := .fn, ins := [0, 1], bins := [], res := [.tmp 4], code := (.seq (.region false [⟨some 4, .mv (.const (.int .i64 0)), none, []⟩])
 (.seq (.region false [⟨some 6, .mv (.tmp 1), none, []⟩,
  ⟨some 7, .mv (.tmp 0), none, []⟩,
  ⟨some 8, .len (.tmp 7), none, []⟩,
  ⟨some 9, .bin .sub (.tmp 6) (.tmp 8), none, []⟩,
  ⟨some 1, .mv (.tmp 9), none, []⟩])
 (.seq (.seq (.region false [⟨some 10, .mv (.tmp 1), none, []⟩,
  ⟨some 11, .bin .lss (.tmp 10) (.const (.int .i64 0)), none, []⟩])
 (.cond (.tmp 11) (.seq (.region false [⟨some 4, .mv (.const (.int .i64 (-1))), none, []⟩])
 .ret) .skip))
 (.seq (.seq (.region false [⟨some 5, .mv (.const (.int .i64 0)), none, []⟩])
 (.block 0 (.label 24201)))
 (.seq (.region false [⟨some 26, .mv (.tmp 1), none, []⟩,
  ⟨some 4, .mv (.tmp 26), none, []⟩])
 .ret))))) }
noncomputable def p24201 : ProcT := { kind := .loop, ins := [0, 1, 5], bins := [], outs := [1, 4], bouts := [], code := (.seq (.seq (.region false [⟨some 12, .mv (.tmp 5), none, []⟩,
  ⟨some 13, .mv (.tmp 0), none, []⟩,
  ⟨some 14, .len (.tmp 13), none, []⟩,
  ⟨some 15, .bin .lss (.tmp 12) (.tmp 14), none, []⟩])
 (.cond (.tmp 15) .skip (.exit 0)))
 (.seq (.block 1 (.seq (.region false [⟨some 18, .mv (.tmp 0), none, []⟩,
  ⟨some 19, .mv (.tmp 5), none, []⟩,
  ⟨some 20, .iadr 2 (.tmp 18) (.tmp 19), none, []⟩,
  ⟨some 21, .load 2 true false (.tmp 20), none, []⟩,
  ⟨some 22, .mv (.tmp 1), none, []⟩,
  ⟨some 23, .call 7300 0 [.tmp 21, .tmp 22], none, []⟩,
  ⟨some 1, .mv (.tmp 23), none, []⟩])
 (.seq (.region false [⟨some 24, .mv (.tmp 1), none, []⟩,
  ⟨some 25, .bin .lss (.tmp 24) (.const (.int .i64 0)), none, []⟩])
 (.cond (.tmp 25) (.seq (.region false [⟨some 4, .mv (.const (.int .i64 (-1))), none, []⟩])
 .ret) .skip))))
 (.region false [⟨some 16, .mv (.tmp 5), none, []⟩,
  ⟨some 17, .bin .add (.tmp 16) (.const (.int .i64 1)), none, []⟩,
  ⟨some 5, .mv (.tmp 17), none, []⟩]))) }
noncomputable def p24300 : ProcT := { kind := .fn, ins := [0, 1], bins := [], res := [.tmp 4], code := (.seq (.region false [⟨some 2, .box 100 (.tmp 0), none, []⟩,
  ⟨some 4, .mv (.const (.int .i64 0)), none, []⟩])
 (.seq (.region false [⟨some 5, .fadr 1 (.tmp 2), none, []⟩,
  ⟨some 6, .load 1 false false (.tmp 5), none, []⟩,
  ⟨some 7, .mv (.tmp 1), none, []⟩,
  ⟨some 8, .call 7200 0 [.tmp 6, .tmp 7], none, []⟩,
  ⟨some 1, .mv (.tmp 8), none, []⟩])
 (.seq (.seq (.region false [⟨some 9, .mv (.tmp 1), none, []⟩,
  ⟨some 10, .bin .lss (.tmp 9) (.const (.int .i64 0)), none, []⟩])
 (.cond (.tmp 10) (.seq (.region false [⟨some 4, .mv (.const (.int .i64 (-1))), none, []⟩])
 .ret) .skip))
 (.seq (.region false [⟨some 11, .mv (.tmp 1), none, []⟩,
  ⟨some 4, .mv (.tmp 11), none, []⟩])
 .ret)))) }
noncomputable def p24400 : ProcT := { kind := .fn, ins := [0, 1], bins := [], res := [.tmp 4], code := (.seq (.region false [⟨some 4, .mv (.const (.int .i64 0)), none, []⟩])
 (.seq (.region false [⟨some 6, .mv (.tmp 1), none, []⟩,
  ⟨some 7, .mv (.tmp 0), none, []⟩,
  ⟨some 8, .len (.tmp 7), none, []⟩,
  ⟨some 9, .bin .sub (.tmp 6) (.tmp 8), none, []⟩,
  ⟨some 1, .mv (.tmp 9), none, []⟩])
 (.seq (.seq (.region false [⟨some 10, .mv (.tmp 1), none, []⟩,
  ⟨some 11, .bin .lss (.tmp 10) (.const (.int .i64 0)), none, []⟩])
 (.cond (.tmp 11) (.seq (.region false [⟨some 4, .mv (.const (.int .i64 (-1))), none, []⟩])
 .ret) .skip))
 (.seq (.seq (.region false [⟨some 5, .mv (.const (.int .i64 0)), none, []⟩])
 (.block 0 (.label 24401)))
 (.seq (.region false [⟨some 26, .mv (.tmp 1), none, []⟩,
  ⟨some 4, .mv (.tmp 26), none, []⟩])
 .ret))))) }
noncomputable def p24401 : ProcT := { kind := .loop, ins := [0, 1, 5], bins := [], outs := [1, 4], bouts := [], code := (.seq (.seq (.region false [⟨some 12, .mv (.tmp 5), none, []⟩,
  ⟨some 13, .mv (.tmp 0), none, []⟩,
  ⟨some 14, .len (.tmp 13), none, []⟩,
  ⟨some 15, .bin .lss (.tmp 12) (.tmp 14), none, []⟩])
 (.cond (.tmp 15) .skip (.exit 0)))
 (.seq (.block 1 (.seq (.region false [⟨some 18, .mv (.tmp 0), none, []⟩,
  ⟨some 19, .mv (.tmp 5), none, []⟩,
  ⟨some 20, .iadr 2 (.tmp 18) (.tmp 19), none, []⟩,
  ⟨some 21, .load 2 true false (.tmp 20), none, []⟩,
  ⟨some 22, .mv (.tmp 1), none, []⟩,
  ⟨some 23, .call 24300 0 [.tmp 21, .tmp 22], none, []⟩,
  ⟨some 1, .mv (.tmp 23), none, []⟩])
 (.seq (.region false [⟨some 24, .mv (.tmp 1), none, []⟩,
  ⟨some 25, .bin .lss (.tmp 24) (.const (.int .i64 0)), none, []⟩])
 (.cond (.tmp 25) (.seq (.region false [⟨some 4, .mv (.const (.int .i64 (-1))), none, []⟩])
 .ret) .skip))))
 (.region false [⟨some 16, .mv (.tmp 5), none, []⟩,
  ⟨some 17, .bin .add (.tmp 16) (.const (.int .i64 1)), none, []⟩,
  ⟨some 5, .mv (.tmp 17), none, []⟩]))) }
noncomputable def p24500 : ProcT := { kind := .fn, ins := [0, 1], bins := [], res := [.tmp 4], code := (.seq (.region false [⟨some 2, .box 100 (.tmp 0), none, []⟩,
  ⟨some 4, .mv (.const (.int .i64 0)), none, []⟩])
 (.seq (.region false [⟨some 5, .fadr 0 (.tmp 2), none, []⟩,
  ⟨some 6, .load 1 false false (.tmp 5), none, []⟩,
  ⟨some 7, .mv (.tmp 1), none, []⟩,
  ⟨some 8, .call 24200 0 [.tmp 6, .tmp 7], none, []⟩,
  ⟨some 1, .mv (.tmp 8), none, []⟩])
 (.seq (.seq (.region false [⟨some 9, .mv (.tmp 1), none, []⟩,
  ⟨some 10, .bin .lss (.tmp 9) (.const (.int .i64 0)), none, []⟩])
 (.cond (.tmp 10) (.seq (.region false [⟨some 4, .mv (.const (.int .i64 (-1))), none, []⟩])
 .ret) .skip))
 (.seq (.region false [⟨some 11, .fadr 1 (.tmp 2), none, []⟩,
  ⟨some 12, .load 1 false false (.tmp 11), none, []⟩,
  ⟨some 13, .mv (.tmp 1), none, []⟩,
  ⟨some 14, .call 24400 0 [.tmp 12, .tmp 13], none, []⟩,
  ⟨some 1, .mv (.tmp 14), none, []⟩])
 (.seq (.seq (.region false [⟨some 15, .mv (.tmp 1), none, []⟩,
  ⟨some 16, .bin .lss (.tmp 15) (.const (.int .i64 0)), none, []⟩])
 (.cond (.tmp 16) (.seq (.region false [⟨some 4, .mv (.const (.int .i64 (-1))), none, []⟩])
 .ret) .skip))
 (.seq (.region false [⟨some 17, .fadr 4 (.tmp 2), none, []⟩,
  ⟨some 18, .load 1 false false (.tmp 17), none, []⟩,
  ⟨some 19, .mv (.tmp 1), none, []⟩,
  ⟨some 20, .call 7200 0 [.tmp 18, .tmp 19], none, []⟩,
  ⟨some 1, .mv (.tmp 20), none, []⟩])
 (.seq (.seq (.region false [⟨some 21, .mv (.tmp 1), none, []⟩,
  ⟨some 22, .bin .lss (.tmp 21) (.const (.int .i64 0)), none, []⟩])
 (.cond (.tmp 22) (.seq (.region false [⟨some 4, .mv (.const (.int .i64 (-1))), none, []⟩])
 .ret) .skip))
 (.seq (.region false [⟨some 23, .mv (.tmp 1), none, []⟩,
  ⟨some 4, .mv (.tmp 23), none, []⟩])
 .ret)))))))) }
noncomputable def p24600 : ProcT := { kind := .fn, ins := [0], bins := [], res := [.tmp 2], code := (.seq (.region false [⟨some 2, .mv (.const (.bool false)), none, []⟩])
 (.seq (.seq (.region false [⟨some 3, .mv (.const (.int .i64 0)), none, []⟩])
 (.block 0 (.label 24601)))
 (.seq (.region false [⟨some 16, .mv (.tmp 0), none, []⟩,
  ⟨some 17, .len (.tmp 16), none, []⟩,
  ⟨some 18, .bin .leq (.tmp 17) (.const (.int .i64 3)), none, []⟩,
  ⟨some 2, .mv (.tmp 18), none, []⟩])
 .ret))) }
noncomputable def p24601 : ProcT := { kind := .loop, ins := [0, 3], bins := [], outs := [0, 2], bouts := [], code := (.seq (.seq (.region false [⟨some 4, .mv (.tmp 3), none, []⟩,
  ⟨some 5, .mv (.tmp 0), none, []⟩,
  ⟨some 6, .len (.tmp 5), none, []⟩,
  ⟨some 7, .bin .lss (.tmp 4) (.tmp 6), none, []⟩])
 (.cond (.tmp 7) .skip (.exit 0)))
 (.seq (.block 1 (.seq (.region false [⟨some 10, .mv (.tmp 0), none, []⟩,
  ⟨some 11, .mv (.tmp 3), none, []⟩,
  ⟨some 12, .iadr 2 (.tmp 10) (.tmp 11), none, []⟩,
  ⟨some 13, .load 2 true false (.tmp 12), none, []⟩,
  ⟨some 14, .call 17800 0 [.tmp 13], none, []⟩,
  ⟨some 15, .un .not (.tmp 14), none, []⟩])
 (.cond (.tmp 15) (.seq (.region false [⟨some 2, .mv (.const (.bool false)), none, []⟩])
 .ret) .skip)))
 (.region false [⟨some 8, .mv (.tmp 3), none, []⟩,
  ⟨some 9, .bin .add (.tmp 8) (.const (.int .i64 1)), none, []⟩,
  ⟨some 3, .mv (.tmp 9), none, []⟩]))) }
noncomputable def p24700 : ProcT := { kind := .fn, ins := [0], bins := [], res := [.tmp 2], code := (.seq (.region false [⟨some 1, .box 100 (.tmp 0), none, []⟩,
  ⟨some 2, .mv (.const (.bool false)), none, []⟩])
 (.seq (.region false [⟨some 5, .fadr 0 (.tmp 1), none, []⟩,
  ⟨some 6, .load 1 false false (.tmp 5), none, []⟩,
  ⟨some 7, .len (.tmp 6), none, []⟩,
  ⟨some 3, .mv (.tmp 7), none, []⟩])
 (.seq (.seq (.region false [⟨some 8, .mv (.tmp 3), none, []⟩,
  ⟨some 9, .call 1600 0 [.tmp 8, .const (.int .i64 1), .const (.int .i64 3)], none, []⟩,
  ⟨some 10, .un .not (.tmp 9), none, []⟩,
  ⟨some 11, .mv (.tmp 10), none, []⟩,
  ⟨some 12, .fadr 1 (.tmp 1), some (11, false), []⟩,
  ⟨some 13, .load 1 false false (.tmp 12), some (11, false), []⟩,
  ⟨some 14, .call 24600 0 [.tmp 13], some (11, false), []⟩,
  ⟨some 15, .un .not (.tmp 14), some (11, false), []⟩,
  ⟨some 16, .pick (.tmp 11) (.const (.bool true)) (.tmp 15), none, []⟩,
  ⟨some 17, .mv (.tmp 16), none, []⟩,
  ⟨some 18, .fadr 2 (.tmp 1), some (17, false), []⟩,
  ⟨some 19, .load 1 false false (.tmp 18), some (17, false), []⟩,
  ⟨some 20, .mv (.tmp 3), some (17, false), []⟩,
  ⟨some 21, .bin .sub (.tmp 20) (.const (.int .i64 1)), some (17, false), []⟩,
  ⟨some 22, .call 1600 0 [.tmp 19, .const (.int .i64 0), .tmp 21], some (17, false), []⟩,
  ⟨some 23, .un .not (.tmp 22), some (17, false), []⟩,
  ⟨some 24, .pick (.tmp 17) (.const (.bool true)) (.tmp 23), none, []⟩,
  ⟨some 25, .mv (.tmp 24), none, []⟩,
  ⟨some 26, .fadr 3 (.tmp 1), some (25, false), []⟩,
  ⟨some 27, .load 1 false false (.tmp 26), some (25, false), []⟩,
  ⟨some 28, .mv (.tmp 3), some (25, false), []⟩,
  ⟨some 29, .call 1600 0 [.tmp 27, .const (.int .i64 0), .tmp 28], some (25, false), []⟩,
  ⟨some 30, .un .not (.tmp 29), some (25, false), []⟩,
  ⟨some 31, .pick (.tmp 25) (.const (.bool true)) (.tmp 30), none, []⟩])
 (.cond (.tmp 31) (.seq (.region false [⟨some 2, .mv (.const (.bool false)), none, []⟩])
 .ret) .skip))
 (.seq (.seq (.region false [⟨some 4, .mv (.const (.int .i64 0)), none, []⟩])
 (.block 0 (.label 24701)))
 (.seq (.region false [⟨some 57, .fadr 4 (.tmp 1), none, []⟩,
  ⟨some 58, .load 1 false false (.tmp 57), none, []⟩,
  ⟨some 59, .fadr 4 (.tmp 1), none, []⟩,
  ⟨some 60, .load 1 false false (.tmp 59), none, []⟩,
  ⟨some 61, .len (.tmp 60), none, []⟩,
  ⟨some 62, .call 6500 0 [.tmp 58, .tmp 61], none, []⟩,
  ⟨some 2, .mv (.tmp 62), none, []⟩])
 .ret))))) }
noncomputable def p24701 : ProcT := { kind := .loop, ins := [1, 3, 4], bins := [100], outs := [1, 2], bouts := [100], code := (.seq (.seq (.region false [⟨some 32, .mv (.tmp 4), none, []⟩,
  ⟨some 33, .mv (.tmp 3), none, []⟩,
  ⟨some 34, .bin .lss (.tmp 32) (.tmp 33), none, []⟩])
 (.cond (.tmp 34) .skip (.exit 0)))
 (.seq (.block 1 (.seq (.region true [⟨some 37, .fadr 0 (.tmp 1), none, [100]⟩,
  ⟨some 38, .load 1 false false (.tmp 37), none, [100]⟩,
  ⟨some 39, .mv (.tmp 4), none, []⟩,
  ⟨some 40, .iadr 2 (.tmp 38) (.tmp 39), none, []⟩,
  ⟨some 41, .load 2 true false (.tmp 40), none, []⟩,
  ⟨some 42, .call 6600 0 [.tmp 41], none, []⟩,
  ⟨some 43, .un .not (.tmp 42), none, []⟩,
  ⟨some 44, .mv (.tmp 43), none, []⟩,
  ⟨some 45, .fadr 0 (.tmp 1), some (44, false), [100]⟩,
  ⟨some 46, .load 1 false false (.tmp 45), some (44, false), [100]⟩,
  ⟨some 47, .mv (.tmp 4), some (44, false), []⟩,
  ⟨some 48, .iadr 2 (.tmp 46) (.tmp 47), some (44, false), []⟩,
  ⟨some 49, .fadr 1 (.tmp 48), some (44, false), []⟩,
  ⟨some 50, .load 1 false false (.tmp 49), some (44, false), []⟩,
  ⟨some 51, .fadr 1 (.tmp 1), some (44, false), [100]⟩,
  ⟨some 52, .load 1 false false (.tmp 51), some (44, false), [100]⟩,
  ⟨some 53, .len (.tmp 52), some (44, false), []⟩,
  ⟨some 54, .call 23100 0 [.tmp 50, .tmp 53], some (44, false), []⟩,
  ⟨some 55, .un .not (.tmp 54), some (44, false), []⟩,
  ⟨some 56, .pick (.tmp 44) (.const (.bool true)) (.tmp 55), none, []⟩])
 (.cond (.tmp 56) (.seq (.region false [⟨some 2, .mv (.const (.bool false)), none, []⟩])
 .ret) .skip)))
 (.region false [⟨some 35, .mv (.tmp 4), none, []⟩,
  ⟨some 36, .bin .add (.tmp 35) (.const (.int .i64 1)), none, []⟩,
  ⟨some 4, .mv (.tmp 36), none, []⟩]))) }
noncomputable def p24800 : ProcT := { kind := .fn, ins := [0], bins := [], res := [.tmp 2], code := (.seq (.region false [⟨some 2, .mv (.const (.sl (.own false) .tk [])), none, []⟩])
 (.seq (.region false [⟨some 5, .mv (.tmp 0), none, []⟩,
  ⟨some 6, .len (.tmp 5), none, []⟩,
  ⟨some 7, .mksl 100 .tk (.tmp 6) (.tmp 6), none, []⟩,
  ⟨some 3, .mv (.take 7), none, []⟩])
 (.seq (.seq (.region false [⟨some 4, .mv (.const (.int .i64 0)), none, []⟩])
 (.block 0 (.label 24801)))
 (.seq (.region false [⟨some 22, .mv (.take 3), none, []⟩,
  ⟨some 2, .mv (.take 22), none, []⟩])
 .ret)))) }
noncomputable def p24801 : ProcT := { kind := .loop, ins := [0, 3, 4], bins := [100], outs := [2, 3], bouts := [100], code := (.seq (.seq (.region false [⟨some 8, .mv (.tmp 4), none, []⟩,
  ⟨some 9, .mv (.tmp 0), none, []⟩,
  ⟨some 10, .len (.tmp 9), none, []⟩,
  ⟨some 11, .bin .lss (.tmp 8) (.tmp 10), none, []⟩])
 (.cond (.tmp 11) .skip (.exit 0)))
 (.seq (.block 1 (.region false [⟨some 14, .mv (.tmp 3), none, []⟩,
  ⟨some 15, .mv (.tmp 4), none, []⟩,
  ⟨some 16, .mv (.tmp 0), none, []⟩,
  ⟨some 17, .mv (.tmp 4), none, []⟩,
  ⟨some 18, .iadr 2 (.tmp 16) (.tmp 17), none, []⟩,
  ⟨some 19, .load 2 true false (.tmp 18), none, []⟩,
  ⟨some 20, .call 7900 0 [.tmp 19], none, []⟩,
  ⟨some 21, .iadr 2 (.tmp 14) (.tmp 15), none, []⟩,
  ⟨none, .store 2 (.tmp 21) (.tmp 20), none, []⟩]))
 (.region false [⟨some 12, .mv (.tmp 4), none, []⟩,
  ⟨some 13, .bin .add (.tmp 12) (.const (.int .i64 1)), none, []⟩,
  ⟨some 4, .mv (.tmp 13), none, []⟩]))) }
noncomputable def p24900 : ProcT := { kind := .fn, ins := [0], bins := [], res := [.cell 2 2 true], code := (.seq (.region false [⟨some 1, .box 100 (.tmp 0), none, []⟩,
  ⟨some 2, .alloc 101 [.int .i64 0, .sl (.own false) .int []], none, []⟩])
 (.seq (.region false [⟨some 3, .alloc 102 [.int .i64 0, .sl (.own false) .int []], none, []⟩])
 (.seq (.region false [⟨some 4, .fadr 0 (.tmp 1), none, []⟩,
  ⟨some 5, .load 1 false false (.tmp 4), none, []⟩,
  ⟨some 6, .fadr 0 (.tmp 3), none, []⟩,
  ⟨none, .store 1 (.tmp 6) (.tmp 5), none, []⟩])
 (.seq (.region false [⟨some 7, .fadr 1 (.tmp 1), none, []⟩,
  ⟨some 8, .load 1 false false (.tmp 7), none, []⟩,
  ⟨some 9, .call 7800 0 [.tmp 8], none, []⟩,
  ⟨some 10, .fadr 1 (.tmp 3), none, []⟩,
  ⟨none, .store 1 (.tmp 10) (.take 9), none, []⟩])
 (.seq (.region false [⟨some 11, .load 2 true false (.tmp 3), none, []⟩,
  ⟨none, .store 2 (.tmp 2) (.tmp 11), none, []⟩])
 .ret))))) }
noncomputable def p25000 : ProcT := { kind := .fn, ins := [0], bins := [], res := [.tmp 2], code := (.seq (.region false [⟨some 2, .mv (.const (.sl (.own false) .bx [])), none, []⟩])
 (.seq (.region false [⟨some 5, .mv (.tmp 0), none, []⟩,
  ⟨some 6, .len (.tmp 5), none, []⟩,
  ⟨some 7, .mksl 100 .bx (.tmp 6) (.tmp 6), none, []⟩,
  ⟨some 3, .mv (.take 7), none, []⟩])
 (.seq (.seq (.region false [⟨some 4, .mv (.const (.int .i64 0)), none, []⟩])
 (.block 0 (.label 25001)))
 (.seq (.region false [⟨some 22, .mv (.take 3), none, []⟩,
  ⟨some 2, .mv (.take 22), none, []⟩])
 .ret)))) }
noncomputable def p25001 : ProcT := { kind := .loop, ins := [0, 3, 4], bins := [100], outs := [2, 3], bouts := [100], code := (.seq (.seq (.region false [⟨some 8, .mv (.tmp 4), none, []⟩,
  ⟨some 9, .mv (.tmp 0), none, []⟩,
  ⟨some 10, .len (.tmp 9), none, []⟩,
  ⟨some 11, .bin .lss (.tmp 8) (.tmp 10), none, []⟩])
 (.cond (.tmp 11) .skip (.exit 0)))
 (.seq (.block 1 (.region false [⟨some 14, .mv (.tmp 3), none, []⟩,
  ⟨some 15, .mv (.tmp 4), none, []⟩,
  ⟨some 16, .mv (.tmp 0), none, []⟩,
  ⟨some 17, .mv (.tmp 4), none, []⟩,
  ⟨some 18, .iadr 2 (.tmp 16) (.tmp 17), none, []⟩,
  ⟨some 19, .load 2 true false (.tmp 18), none, []⟩,
  ⟨some 20, .call 24900 0 [.tmp 19], none, []⟩,
  ⟨some 21, .iadr 2 (.tmp 14) (.tmp 15), none, []⟩,
  ⟨none, .store 2 (.tmp 21) (.tmp 20), none, []⟩]))
 (.region false [⟨some 12, .mv (.tmp 4), none, []⟩,
  ⟨some 13, .bin .add (.tmp 12) (.const (.int .i64 1)), none, []⟩,
  ⟨some 4, .mv (.tmp 13), none, []⟩]))) }
noncomputable def p25100 : ProcT := { kind := .fn, ins := [0], bins := [], res := [.cell 2 5 true], code := (.seq (.region false [⟨some 1, .box 100 (.tmp 0), none, []⟩,
  ⟨some 2, .alloc 101 [.sl (.own false) .tk [], .sl (.own false) .bx [], .int .i64 0, .int .i64 0, .sl (.own false) .int []], none, []⟩])
 (.seq (.region false [⟨some 3, .alloc 102 [.sl (.own false) .tk [], .sl (.own false) .bx [], .int .i64 0, .int .i64 0, .sl (.own false) .int []], none, []⟩])
 (.seq (.region false [⟨some 4, .fadr 0 (.tmp 1), none, []⟩,
  ⟨some 5, .load 1 false false (.tmp 4), none, []⟩,
  ⟨some 6, .call 24800 0 [.tmp 5], none, []⟩,
  ⟨some 7, .fadr 0 (.tmp 3), none, []⟩,
  ⟨none, .store 1 (.tmp 7) (.take 6), none, []⟩])
 (.seq (.region false [⟨some 8, .fadr 1 (.tmp 1), none, []⟩,
  ⟨some 9, .load 1 false false (.tmp 8), none, []⟩,
  ⟨some 10, .call 25000 0 [.tmp 9], none, []⟩,
  ⟨some 11, .fadr 1 (.tmp 3), none, []⟩,
  ⟨none, .store 1 (.tmp 11) (.take 10), none, []⟩])
 (.seq (.region false [⟨some 12, .fadr 2 (.tmp 1), none, []⟩,
  ⟨some 13, .load 1 false false (.tmp 12), none, []⟩,
  ⟨some 14, .fadr 2 (.tmp 3), none, []⟩,
  ⟨none, .store 1 (.tmp 14) (.tmp 13), none, []⟩])
 (.seq (.region false [⟨some 15, .fadr 3 (.tmp 1), none, []⟩,
  ⟨some 16, .load 1 false false (.tmp 15), none, []⟩,
  ⟨some 17, .fadr 3 (.tmp 3), none, []⟩,
  ⟨none, .store 1 (.tmp 17) (.tmp 16), none, []⟩])
 (.seq (.region false [⟨some 18, .fadr 4 (.tmp 1), none, []⟩,
  ⟨some 19, .load 1 false false (.tmp 18), none, []⟩,
  ⟨some 20, .call 7800 0 [.tmp 19], none, []⟩,
  ⟨some 21, .fadr 4 (.tmp 3), none, []⟩,
  ⟨none, .store 1 (.tmp 21) (.take 20), none, []⟩])
 (.seq (.region false [⟨some 22, .load 5 true false (.tmp 3), none, []⟩,
  ⟨none, .store 5 (.tmp 2) (.tmp 22), none, []⟩])
 .ret)))))))) }
noncomputable def p25200 : ProcT := { kind := .fn, ins := [0, 1], bins := [], res := [.tmp 4], code := (.seq (.region false [⟨some 4, .mv (.const (.bool false)), none, []⟩])
 (.seq (.seq (.region false [⟨some 6, .mv (.tmp 0), none, []⟩,
  ⟨some 7, .len (.tmp 6), none, []⟩,
  ⟨some 8, .mv (.tmp 1), none, []⟩,
  ⟨some 9, .len (.tmp 8), none, []⟩,
  ⟨some 10, .bin .neq (.tmp 7) (.tmp 9), none, []⟩])
 (.cond (.tmp 10) (.seq (.region false [⟨some 4, .mv (.const (.bool false)), none, []⟩])
 .ret) .skip))
 (.seq (.seq (.region false [⟨some 5, .mv (.const (.int .i64 0)), none, []⟩])
 (.block 0 (.label 25201)))
 (.seq (.region false [⟨some 4, .mv (.const (.bool true)), none, []⟩])
 .ret)))) }
noncomputable def p25201 : ProcT := { kind := .loop, ins := [0, 1, 5], bins := [], outs := [4], bouts := [], code := (.seq (.seq (.region false [⟨some 11, .mv (.tmp 5), none, []⟩,
  ⟨some 12, .mv (.tmp 0), none, []⟩,
  ⟨some 13, .len (.tmp 12), none, []⟩,
  ⟨some 14, .bin .lss (.tmp 11) (.tmp 13), none, []⟩])
 (.cond (.tmp 14) .skip (.exit 0)))
 (.seq (.block 1 (.seq (.region true [⟨some 17, .mv (.tmp 0), none, []⟩,
  ⟨some 18, .mv (.tmp 5), none, []⟩,
  ⟨some 19, .iadr 2 (.tmp 17) (.tmp 18), none, []⟩,
  ⟨some 20, .load 2 true false (.tmp 19), none, []⟩,
  ⟨some 21, .mv (.tmp 1), none, []⟩,
  ⟨some 22, .mv (.tmp 5), none, []⟩,
  ⟨some 23, .iadr 2 (.tmp 21) (.tmp 22), none, []⟩,
  ⟨some 24, .load 2 true false (.tmp 23), none, []⟩,
  ⟨some 25, .call 8500 0 [.tmp 20, .tmp 24], none, []⟩,
  ⟨some 26, .un .not (.tmp 25), none, []⟩])
 (.cond (.tmp 26) (.seq (.region false [⟨some 4, .mv (.const (.bool false)), none, []⟩])
 .ret) .skip)))
 (.region false [⟨some 15, .mv (.tmp 5), none, []⟩,
  ⟨some 16, .bin .add (.tmp 15) (.const (.int .i64 1)), none, []⟩,
  ⟨some 5, .mv (.tmp 16), none, []⟩]))) }
noncomputable def p25300 : ProcT := { kind := .fn, ins := [0, 1], bins := [], res := [.tmp 4], code := (.seq (.region false [⟨some 4, .mv (.const (.bool false)), none, []⟩])
 (.seq (.seq (.region false [⟨some 6, .mv (.tmp 0), none, []⟩,
  ⟨some 7, .len (.tmp 6), none, []⟩,
  ⟨some 8, .mv (.tmp 1), none, []⟩,
  ⟨some 9, .len (.tmp 8), none, []⟩,
  ⟨some 10, .bin .neq (.tmp 7) (.tmp 9), none, []⟩])
 (.cond (.tmp 10) (.seq (.region false [⟨some 4, .mv (.const (.bool false)), none, []⟩])
 .ret) .skip))
 (.seq (.seq (.region false [⟨some 5, .mv (.const (.int .i64 0)), none, []⟩])
 (.block 0 (.label 25301)))
 (.seq (.region false [⟨some 4, .mv (.const (.bool true)), none, []⟩])
 .ret)))) }
noncomputable def p25301 : ProcT := { kind := .loop, ins := [0, 1, 5], bins := [], outs := [4], bouts := [], code := (.seq (.seq (.region false [⟨some 11, .mv (.tmp 5), none, []⟩,
  ⟨some 12, .mv (.tmp 0), none, []⟩,
  ⟨some 13, .len (.tmp 12), none, []⟩,
  ⟨some 14, .bin .lss (.tmp 11) (.tmp 13), none, []⟩])
 (.cond (.tmp 14) .skip (.exit 0)))
 (.seq (.block 1 (.seq (.region true [⟨some 17, .mv (.tmp 0), none, []⟩,
  ⟨some 18, .mv (.tmp 5), none, []⟩,
  ⟨some 19, .iadr 2 (.tmp 17) (.tmp 18), none, []⟩,
  ⟨some 20, .load 2 true false (.tmp 19), none, []⟩,
  ⟨some 21, .mv (.tmp 1), none, []⟩,
  ⟨some 22, .mv (.tmp 5), none, []⟩,
  ⟨some 23, .iadr 2 (.tmp 21) (.tmp 22), none, []⟩,
  ⟨some 24, .load 2 true false (.tmp 23), none, []⟩,
  ⟨some 25, .call 19000 0 [.tmp 20, .tmp 24], none, []⟩,
  ⟨some 26, .un .not (.tmp 25), none, []⟩])
 (.cond (.tmp 26) (.seq (.region false [⟨some 4, .mv (.const (.bool false)), none, []⟩])
 .ret) .skip)))
 (.region false [⟨some 15, .mv (.tmp 5), none, []⟩,
  ⟨some 16, .bin .add (.tmp 15) (.const (.int .i64 1)), none, []⟩,
  ⟨some 5, .mv (.tmp 16), none, []⟩]))) }
noncomputable def p25400 : ProcT := { kind := .fn, ins := [0, 1], bins := [], res := [.tmp 4], code := (.seq (.region false [⟨some 2, .box 100 (.tmp 0), none, []⟩,
  ⟨some 3, .box 101 (.tmp 1), none, []⟩,
  ⟨some 4, .mv (.const (.bool false)), none, []⟩])
 (.seq (.seq (.region false [⟨some 5, .fadr 0 (.tmp 2), none, []⟩,
  ⟨some 6, .load 1 false false (.tmp 5), none, []⟩,
  ⟨some 7, .fadr 0 (.tmp 3), none, []⟩,
  ⟨some 8, .load 1 false false (.tmp 7), none, []⟩,
  ⟨some 9, .call 25200 0 [.tmp 6, .tmp 8], none, []⟩,
  ⟨some 10, .un .not (.tmp 9), none, []⟩])
 (.cond (.tmp 10) (.seq (.region false [⟨some 4, .mv (.const (.bool false)), none, []⟩])
 .ret) .skip))
 (.seq (.seq (.region false [⟨some 11, .fadr 1 (.tmp 2), none, []⟩,
  ⟨some 12, .load 1 false false (.tmp 11), none, []⟩,
  ⟨some 13, .fadr 1 (.tmp 3), none, []⟩,
  ⟨some 14, .load 1 false false (.tmp 13), none, []⟩,
  ⟨some 15, .call 25300 0 [.tmp 12, .tmp 14], none, []⟩,
  ⟨some 16, .un .not (.tmp 15), none, []⟩])
 (.cond (.tmp 16) (.seq (.region false [⟨some 4, .mv (.const (.bool false)), none, []⟩])
 .ret) .skip))
 (.seq (.seq (.region false [⟨some 17, .fadr 2 (.tmp 2), none, []⟩,
  ⟨some 18, .load 1 false false (.tmp 17), none, []⟩,
  ⟨some 19, .fadr 2 (.tmp 3), none, []⟩,
  ⟨some 20, .load 1 false false (.tmp 19), none, []⟩,
  ⟨some 21, .bin .neq (.tmp 18) (.tmp 20), none, []⟩])
 (.cond (.tmp 21) (.seq (.region false [⟨some 4, .mv (.const (.bool false)), none, []⟩])
 .ret) .skip))
 (.seq (.seq (.region false [⟨some 22, .fadr 3 (.tmp 2), none, []⟩,
  ⟨some 23, .load 1 false false (.tmp 22), none, []⟩,
  ⟨some 24, .fadr 3 (.tmp 3), none, []⟩,
  ⟨some 25, .load 1 false false (.tmp 24), none, []⟩,
  ⟨some 26, .bin .neq (.tmp 23) (.tmp 25), none, []⟩])
 (.cond (.tmp 26) (.seq (.region false [⟨some 4, .mv (.const (.bool false)), none, []⟩])
 .ret) .skip))
 (.seq (.seq (.region false [⟨some 27, .fadr 4 (.tmp 2), none, []⟩,
  ⟨some 28, .load 1 false false (.tmp 27), none, []⟩,
  ⟨some 29, .fadr 4 (.tmp 3), none, []⟩,
  ⟨some 30, .load 1 false false (.tmp 29), none, []⟩,
  ⟨some 31, .call 8400 0 [.tmp 28, .tmp 30], none, []⟩,
  ⟨some 32, .un .not (.tmp 31), none, []⟩])
 (.cond (.tmp 32) (.seq (.region false [⟨some 4, .mv (.const (.bool false)), none, []⟩])
 .ret) .skip))
 (.seq (.region false [⟨some 4, .mv (.const (.bool true)), none, []⟩])
 .ret))))))) }
noncomputable def p25500 : ProcT := { kind := .fn, ins := [0], bins := [], res := [.tmp 2], code := (.seq (.region false [⟨some 1, .box 100 (.tmp 0), none, []⟩,
  ⟨some 2, .mv (.const (.bool false)), none, []⟩])
 (.seq (.region false [⟨some 3, .mv (.const (.int .i64 1048576)), none, []⟩])
 (.seq (.region false [⟨some 7, .load 5 true false (.tmp 1), none, []⟩,
  ⟨some 8, .mv (.tmp 3), none, []⟩,
  ⟨some 9, .call 24500 0 [.tmp 7, .tmp 8], none, []⟩,
  ⟨some 3, .mv (.tmp 9), none, []⟩])
 (.seq (.seq (.region false [⟨some 10, .mv (.tmp 3), none, []⟩,
  ⟨some 11, .bin .lss (.tmp 10) (.const (.int .i64 0)), none, []⟩])
 (.cond (.tmp 11) (.seq (.region false [⟨some 2, .mv (.const (.bool true)), none, []⟩])
 .ret) .skip))
 (.seq (.region false [⟨some 12, .load 5 true false (.tmp 1), none, []⟩,
  ⟨some 13, .call 25100 0 [.tmp 12], none, []⟩,
  ⟨some 14, .call 24700 0 [.tmp 13], none, []⟩,
  ⟨some 4, .mv (.tmp 14), none, []⟩])
 (.seq (.region false [⟨some 15, .load 5 true false (.tmp 1), none, []⟩,
  ⟨some 16, .call 25100 0 [.tmp 15], none, []⟩,
  ⟨some 5, .alloc 101 [.sl (.own false) .tk [], .sl (.own false) .bx [], .int .i64 0, .int .i64 0, .sl (.own false) .int []], none, []⟩,
  ⟨none, .store 5 (.tmp 5) (.tmp 16), none, []⟩])
 (.seq (.region false [⟨some 17, .load 5 true false (.tmp 5), none, []⟩,
  ⟨some 18, .call 24000 0 [.tmp 17], none, []⟩,
  ⟨some 6, .mv (.tmp 18), none, []⟩])
 (.seq (.seq (.region false [⟨some 19, .mv (.tmp 6), none, []⟩,
  ⟨some 20, .mv (.tmp 4), none, []⟩,
  ⟨some 21, .eqb true (.tmp 19) (.tmp 20), none, []⟩])
 (.cond (.tmp 21) (.seq (.region false [⟨some 2, .mv (.const (.bool false)), none, []⟩])
 .ret) .skip))
 (.seq (.seq (.region true [⟨some 22, .load 5 true false (.tmp 5), none, [101]⟩,
  ⟨some 23, .load 5 true false (.tmp 1), none, [100]⟩,
  ⟨some 24, .call 25100 0 [.tmp 23], none, []⟩,
  ⟨some 25, .call 25400 0 [.tmp 22, .tmp 24], none, []⟩,
  ⟨some 26, .un .not (.tmp 25), none, []⟩])
 (.cond (.tmp 26) (.seq (.region false [⟨some 2, .mv (.const (.bool false)), none, []⟩])
 .ret) .skip))
 (.seq (.region false [⟨some 2, .mv (.const (.bool true)), none, []⟩])
 .ret)))))))))) }
noncomputable def tab : List (Nat × ProcT) := [(1000, p1000), (1100, p1100), (1200, p1200), (1600, p1600), (1700, p1700), (1800, p1800), (1900, p1900), (4000, p4000), (4001, p4001), (5000, p5000), (5100, p5100), (5101, p5101), (5200, p5200), (5300, p5300), (5301, p5301), (5400, p5400), (5500, p5500), (5501, p5501), (5700, p5700), (5800, p5800), (5900, p5900), (6000, p6000), (6100, p6100), (6200, p6200), (6201, p6201), (6300, p6300), (6400, p6400), (6500, p6500), (6501, p6501), (6600, p6600), (6601, p6601), (6800, p6800), (6801, p6801), (6900, p6900), (7000, p7000), (7100, p7100), (7101, p7101), (7200, p7200), (7300, p7300), (7400, p7400), (7401, p7401), (7500, p7500), (7600, p7600), (7700, p7700), (7701, p7701), (7800, p7800), (7801, p7801), (7900, p7900), (8000, p8000), (8001, p8001), (8100, p8100), (8200, p8200), (8300, p8300), (8301, p8301), (8400, p8400), (8401, p8401), (8500, p8500), (11100, p11100), (17600, p17600), (17800, p17800), (19000, p19000), (23100, p23100), (23101, p23101), (23800, p23800), (23900, p23900), (23901, p23901), (24000, p24000), (24001, p24001), (24200, p24200), (24201, p24201), (24300, p24300), (24400, p24400), (24401, p24401), (24500, p24500), (24600, p24600), (24601, p24601), (24700, p24700), (24701, p24701), (24800, p24800), (24801, p24801), (24900, p24900), (25000, p25000), (25001, p25001), (25100, p25100), (25200, p25200), (25201, p25201), (25300, p25300), (25301, p25301), (25400, p25400), (25500, p25500)]
noncomputable abbrev Tb : Nat → Option ProcT := (Vs.look · tab)
@[reducible] def s1000 : Sig := [⟨.ret, [.one], [], [.h (.bool)]⟩]
@[reducible] def s1100 : Sig := [⟨.ret, [.one], [], [.h (.bool)]⟩]
@[reducible] def s1200 : Sig := [⟨.ret, [.one], [], [.h (.bool)]⟩]
@[reducible] def s1600 : Sig := [⟨.ret, [.one], [], [.h (.bool)]⟩]
@[reducible] def s1700 : Sig := [⟨.ret, [.one], [], [.h (.bool)]⟩]
@[reducible] def s1800 : Sig := [⟨.ret, [.one], [], [.h (.bool)]⟩]
@[reducible] def s1900 : Sig := [⟨.ret, [.one], [], [.h (.bool)]⟩]
@[reducible] def s4000 : Sig := [⟨.ret, [.one], [], [.h (.int .i64)]⟩]
@[reducible] def s4001 : Sig := [⟨.exit 0, [.one, .one], [], [.undef, .h (.int .i64)]⟩]
@[reducible] def s5000 : Sig := [⟨.ret, [.one], [], [.h (.bool)]⟩]
@[reducible] def s5100 : Sig := [⟨.ret, [.one], [], [.h (.bool)]⟩]
@[reducible] def s5101 : Sig := [⟨.exit 0, [.one], [], [.undef]⟩, ⟨.ret, [.one], [], [.h (.bool)]⟩]
@[reducible] def s5200 : Sig := [⟨.ret, [.one], [], [.h (.bool)]⟩]
@[reducible] def s5300 : Sig := [⟨.ret, [.one], [.var 1], [.h (.bool), .h (.int .i64)]⟩]
@[reducible] def s5301 : Sig := [⟨.exit 0, [.one, .one], [.var 1], [.bp 0 0, .undef, .h (.int .i64)]⟩, ⟨.ret, [.one, .one], [.var 1], [.bp 0 0, .h (.bool), .h (.int .i64)]⟩]
@[reducible] def s5400 : Sig := [⟨.ret, [.one], [], [.h (.bool)]⟩]
@[reducible] def s5500 : Sig := [⟨.ret, [.one], [], [.h (.bool)]⟩]
@[reducible] def s5501 : Sig := [⟨.exit 0, [.one], [], [.undef]⟩, ⟨.ret, [.one], [], [.h (.bool)]⟩]
@[reducible] def s5700 : Sig := [⟨.ret, [.one], [], [.h (.bool)]⟩]
@[reducible] def s5800 : Sig := [⟨.ret, [.one], [], [.h (.bool)]⟩]
@[reducible] def s5900 : Sig := [⟨.ret, [.one], [], [.h (.bool)]⟩]
@[reducible] def s6000 : Sig := [⟨.ret, [.one], [], [.h (.bool)]⟩]
@[reducible] def s6100 : Sig := [⟨.ret, [.one], [], [.h (.bool)]⟩]
@[reducible] def s6200 : Sig := [⟨.ret, [.one], [], [.h (.bool)]⟩]
@[reducible] def s6201 : Sig := [⟨.exit 0, [.one], [], [.undef]⟩, ⟨.ret, [.one], [], [.h (.bool)]⟩]
@[reducible] def s6300 : Sig := [⟨.ret, [.one], [], [.h (.bool)]⟩]
@[reducible] def s6400 : Sig := [⟨.ret, [.one], [], [.h (.bool)]⟩]
@[reducible] def s6500 : Sig := [⟨.ret, [.one], [], [.h (.bool)]⟩]
@[reducible] def s6501 : Sig := [⟨.exit 0, [.one], [], [.undef]⟩, ⟨.ret, [.one], [], [.h (.bool)]⟩]
@[reducible] def s6600 : Sig := [⟨.ret, [.one], [], [.h (.bool)]⟩]
@[reducible] def s6601 : Sig := [⟨.exit 0, [.one, .one], [.var 2], [.bp 100 0, .undef, .h (.sl .int), .h (.sl .stm)]⟩, ⟨.ret, [.one, .one], [.var 2], [.bp 100 0, .h (.bool), .h (.sl .int), .h (.sl .stm)]⟩]
@[reducible] def s6800 : Sig := [⟨.ret, [.one], [], [.h (.int .i64)]⟩]
@[reducible] def s6801 : Sig := [⟨.exit 0, [.one, .one], [], [.h (.int .i64), .undef]⟩, ⟨.ret, [.one, .one], [], [.h (.int .i64), .h (.int .i64)]⟩]
@[reducible] def s6900 : Sig := [⟨.ret, [.one], [], [.h (.int .i64)]⟩]
@[reducible] def s7000 : Sig := [⟨.ret, [.one], [], [.h (.int .i64)]⟩]
@[reducible] def s7100 : Sig := [⟨.ret, [.one], [], [.h (.int .i64)]⟩]
@[reducible] def s7101 : Sig := [⟨.exit 0, [.one, .one], [], [.h (.int .i64), .undef]⟩, ⟨.ret, [.one, .one], [], [.h (.int .i64), .h (.int .i64)]⟩]
@[reducible] def s7200 : Sig := [⟨.ret, [.one], [], [.h (.int .i64)]⟩]
@[reducible] def s7300 : Sig := [⟨.ret, [.one], [], [.h (.int .i64)]⟩]
@[reducible] def s7400 : Sig := [⟨.ret, [.one], [], [.h (.sl .exp)]⟩]
@[reducible] def s7401 : Sig := [⟨.exit 0, [.one, .one], [.rows], [.undef, .bs 100, .h (.sl .exp)]⟩]
@[reducible] def s7500 : Sig := [⟨.ret, [.one], [], [.h (.agg .exp)]⟩]
@[reducible] def s7600 : Sig := [⟨.ret, [.one], [], [.h (.agg .stm)]⟩]
@[reducible] def s7700 : Sig := [⟨.ret, [.one], [], [.h (.sl .stm)]⟩]
@[reducible] def s7701 : Sig := [⟨.exit 0, [.one, .one], [.rows], [.undef, .bs 100, .h (.sl .stm)]⟩]
@[reducible] def s7800 : Sig := [⟨.ret, [.one], [], [.h (.sl .int)]⟩]
@[reducible] def s7801 : Sig := [⟨.exit 0, [.one, .one], [.rows], [.undef, .bs 100, .h (.sl .int)]⟩]
@[reducible] def s7900 : Sig := [⟨.ret, [.one], [], [.h (.agg .tk)]⟩]
@[reducible] def s8000 : Sig := [⟨.ret, [.one], [], [.h (.bool)]⟩]
@[reducible] def s8001 : Sig := [⟨.exit 0, [.one], [], [.undef]⟩, ⟨.ret, [.one], [], [.h (.bool)]⟩]
@[reducible] def s8100 : Sig := [⟨.ret, [.one], [], [.h (.bool)]⟩]
@[reducible] def s8200 : Sig := [⟨.ret, [.one], [], [.h (.bool)]⟩]
@[reducible] def s8300 : Sig := [⟨.ret, [.one], [], [.h (.bool)]⟩]
@[reducible] def s8301 : Sig := [⟨.exit 0, [.one], [], [.undef]⟩, ⟨.ret, [.one], [], [.h (.bool)]⟩]
@[reducible] def s8400 : Sig := [⟨.ret, [.one], [], [.h (.bool)]⟩]
@[reducible] def s8401 : Sig := [⟨.exit 0, [.one], [], [.undef]⟩, ⟨.ret, [.one], [], [.h (.bool)]⟩]
@[reducible] def s8500 : Sig := [⟨.ret, [.one], [], [.h (.bool)]⟩]
@[reducible] def s11100 : Sig := [⟨.ret, [.one], [], [.h (.bool)]⟩]
@[reducible] def s17600 : Sig := [⟨.ret, [.one], [], [.h (.bool)]⟩]
@[reducible] def s17800 : Sig := [⟨.ret, [.one], [], [.h (.bool)]⟩]
@[reducible] def s19000 : Sig := [⟨.ret, [.one], [], [.h (.bool)]⟩]
@[reducible] def s23100 : Sig := [⟨.ret, [.one], [], [.h (.bool)]⟩]
@[reducible] def s23101 : Sig := [⟨.exit 0, [.one], [], [.undef]⟩, ⟨.ret, [.one], [], [.h (.bool)]⟩]
@[reducible] def s23800 : Sig := [⟨.ret, [.one], [], [.h (.bool)]⟩]
@[reducible] def s23900 : Sig := [⟨.ret, [.one], [], [.h (.bool)]⟩]
@[reducible] def s23901 : Sig := [⟨.exit 0, [.one, .one], [], [.h (.sl .bx), .undef]⟩, ⟨.ret, [.one, .one], [], [.h (.sl .bx), .h (.bool)]⟩]
@[reducible] def s24000 : Sig := [⟨.ret, [.one], [], [.h (.bool)]⟩]
@[reducible] def s24001 : Sig := [⟨.exit 0, [.one], [], [.undef]⟩, ⟨.ret, [.one], [], [.h (.bool)]⟩]
@[reducible] def s24200 : Sig := [⟨.ret, [.one], [], [.h (.int .i64)]⟩]
@[reducible] def s24201 : Sig := [⟨.exit 0, [.one, .one], [], [.h (.int .i64), .undef]⟩, ⟨.ret, [.one, .one], [], [.h (.int .i64), .h (.int .i64)]⟩]
@[reducible] def s24300 : Sig := [⟨.ret, [.one], [], [.h (.int .i64)]⟩]
@[reducible] def s24400 : Sig := [⟨.ret, [.one], [], [.h (.int .i64)]⟩]
@[reducible] def s24401 : Sig := [⟨.exit 0, [.one, .one], [], [.h (.int .i64), .undef]⟩, ⟨.ret, [.one, .one], [], [.h (.int .i64), .h (.int .i64)]⟩]
@[reducible] def s24500 : Sig := [⟨.ret, [.one], [], [.h (.int .i64)]⟩]
@[reducible] def s24600 : Sig := [⟨.ret, [.one], [], [.h (.bool)]⟩]
@[reducible] def s24601 : Sig := [⟨.exit 0, [.one, .one], [], [.h (.sl .bx), .undef]⟩, ⟨.ret, [.one, .one], [], [.h (.sl .bx), .h (.bool)]⟩]
@[reducible] def s24700 : Sig := [⟨.ret, [.one], [], [.h (.bool)]⟩]
@[reducible] def s24701 : Sig := [⟨.exit 0, [.one, .one], [.var 5], [.bp 100 0, .undef, .h (.sl .tk), .h (.sl .bx), .h (.int .i64), .h (.int .i64), .h (.sl .int)]⟩, ⟨.ret, [.one, .one], [.var 5], [.bp 100 0, .h (.bool), .h (.sl .tk), .h (.sl .bx), .h (.int .i64), .h (.int .i64), .h (.sl .int)]⟩]
@[reducible] def s24800 : Sig := [⟨.ret, [.one], [], [.h (.sl .tk)]⟩]
@[reducible] def s24801 : Sig := [⟨.exit 0, [.one, .one], [.rows], [.undef, .bs 100, .h (.sl .tk)]⟩]
@[reducible] def s24900 : Sig := [⟨.ret, [.one], [], [.h (.agg .bx)]⟩]
@[reducible] def s25000 : Sig := [⟨.ret, [.one], [], [.h (.sl .bx)]⟩]
@[reducible] def s25001 : Sig := [⟨.exit 0, [.one, .one], [.rows], [.undef, .bs 100, .h (.sl .bx)]⟩]
@[reducible] def s25100 : Sig := [⟨.ret, [.one], [], [.h (.agg .wld)]⟩]
@[reducible] def s25200 : Sig := [⟨.ret, [.one], [], [.h (.bool)]⟩]
@[reducible] def s25201 : Sig := [⟨.exit 0, [.one], [], [.undef]⟩, ⟨.ret, [.one], [], [.h (.bool)]⟩]
@[reducible] def s25300 : Sig := [⟨.ret, [.one], [], [.h (.bool)]⟩]
@[reducible] def s25301 : Sig := [⟨.exit 0, [.one], [], [.undef]⟩, ⟨.ret, [.one], [], [.h (.bool)]⟩]
@[reducible] def s25400 : Sig := [⟨.ret, [.one], [], [.h (.bool)]⟩]
@[reducible] def s25500 : Sig := [⟨.ret, [.one], [], [.h (.bool)]⟩]
def sgs : List (Nat × Sig) := [(1000, s1000), (1100, s1100), (1200, s1200), (1600, s1600), (1700, s1700), (1800, s1800), (1900, s1900), (4000, s4000), (4001, s4001), (5000, s5000), (5100, s5100), (5101, s5101), (5200, s5200), (5300, s5300), (5301, s5301), (5400, s5400), (5500, s5500), (5501, s5501), (5700, s5700), (5800, s5800), (5900, s5900), (6000, s6000), (6100, s6100), (6200, s6200), (6201, s6201), (6300, s6300), (6400, s6400), (6500, s6500), (6501, s6501), (6600, s6600), (6601, s6601), (6800, s6800), (6801, s6801), (6900, s6900), (7000, s7000), (7100, s7100), (7101, s7101), (7200, s7200), (7300, s7300), (7400, s7400), (7401, s7401), (7500, s7500), (7600, s7600), (7700, s7700), (7701, s7701), (7800, s7800), (7801, s7801), (7900, s7900), (8000, s8000), (8001, s8001), (8100, s8100), (8200, s8200), (8300, s8300), (8301, s8301), (8400, s8400), (8401, s8401), (8500, s8500), (11100, s11100), (17600, s17600), (17800, s17800), (19000, s19000), (23100, s23100), (23101, s23101), (23800, s23800), (23900, s23900), (23901, s23901), (24000, s24000), (24001, s24001), (24200, s24200), (24201, s24201), (24300, s24300), (24400, s24400), (24401, s24401), (24500, s24500), (24600, s24600), (24601, s24601), (24700, s24700), (24701, s24701), (24800, s24800), (24801, s24801), (24900, s24900), (25000, s25000), (25001, s25001), (25100, s25100), (25200, s25200), (25201, s25201), (25300, s25300), (25301, s25301), (25400, s25400), (25500, s25500)]
def sg (g : Nat) : Sig := (Vs.look g sgs).getD []
def GT (i : Nat) : List TV := []
noncomputable def laws_FnExactWorldValid (a0 : Wld) : Option (Bool) := callTy Tb GT s25500 25500 [.agg (rowT .wld a0)] []
noncomputable def laws_szWorld (a0 : Wld) (a1 : Int) : Option (Int) := callTy Tb GT s24500 24500 [.agg (rowT .wld a0), .int .i64 a1] []
noncomputable def laws_toWorld (a0 : Wld) : Option (Wld) := callTy Tb GT s25100 25100 [.agg (rowT .wld a0)] []
noncomputable def spec_WorldValid (a0 : Wld) : Option (Bool) := callTy Tb GT s24700 24700 [.agg (rowT .wld a0)] []
noncomputable def impl_WorldValid (a0 : Wld) : Option (Bool) := callTy Tb GT s24000 24000 [.agg (rowT .wld a0)] []
noncomputable def laws_eqWorld (a0 : Wld) (a1 : Wld) : Option (Bool) := callTy Tb GT s25400 25400 [.agg (rowT .wld a0), .agg (rowT .wld a1)] []
noncomputable def laws_szTaskS (a0 : List Tk) (a1 : Int) : Option (Int) := callTy Tb GT s24200 24200 [.sl .share .tk a0, .int .i64 a1] []
noncomputable def laws_szBoxS (a0 : List Bx) (a1 : Int) : Option (Int) := callTy Tb GT s24400 24400 [.sl .share .bx a0, .int .i64 a1] []
noncomputable def laws_szIntS (a0 : List Int) (a1 : Int) : Option (Int) := callTy Tb GT s7200 7200 [.sl .share .int a0, .int .i64 a1] []
noncomputable def laws_toTaskS (a0 : List Tk) : Option (List Tk) := callTy Tb GT s24800 24800 [.sl .share .tk a0] []
noncomputable def laws_toBoxS (a0 : List Bx) : Option (List Bx) := callTy Tb GT s25000 25000 [.sl .share .bx a0] []
noncomputable def laws_toIntS (a0 : List Int) : Option (List Int) := callTy Tb GT s7800 7800 [.sl .share .int a0] []
noncomputable def spec_l6In (a0 : Int) (a1 : Int) (a2 : Int) : Option (Bool) := callTy Tb GT s1600 1600 [.int .i64 a0, .int .i64 a1, .int .i64 a2] []
noncomputable def spec_l15Boxes (a0 : List Bx) : Option (Bool) := callTy Tb GT s24600 24600 [.sl .share .bx a0] []
noncomputable def spec_TaskValid (a0 : Tk) : Option (Bool) := callTy Tb GT s6600 6600 [.agg (rowT .tk a0)] []
noncomputable def spec_l12Boxes (a0 : List Stm) (a1 : Int) : Option (Bool) := callTy Tb GT s23100 23100 [.sl .share .stm a0, .int .i64 a1] []
noncomputable def spec_WorldValid_l1 (t3 : Int) (t4 : Int) (b100_0 : List Tk) (b100_1 : List Bx) (b100_2 : Int) (b100_3 : Int) (b100_4 : List Int) : Option ((List Tk × List Bx × Int × Int × List Int) ⊕ (Bool × List Tk × List Bx × Int × Int × List Int)) := callTy Tb GT s24701 24701 [.bp 100 0, .int .i64 t3, .int .i64 t4] [.var [.sl .share .tk b100_0, .sl .share .bx b100_1, .int .i64 b100_2, .int .i64 b100_3, .sl .share .int b100_4]]
noncomputable def spec_l4Words (a0 : List Int) (a1 : Int) : Option (Bool) := callTy Tb GT s6500 6500 [.sl .share .int a0, .int .i64 a1] []
noncomputable def impl_turnsValid (a0 : Int) (a1 : Int) (a2 : Int) (a3 : List Int) : Option (Bool) := callTy Tb GT s23800 23800 [.int .i64 a0, .int .i64 a1, .int .i64 a2, .sl .share .int a3] []
noncomputable def impl_boxesValid (a0 : List Bx) : Option (Bool) := callTy Tb GT s23900 23900 [.sl .share .bx a0] []
noncomputable def impl_taskValid (a0 : Tk) (a1 : Int) : Option (Bool) := callTy Tb GT s5500 5500 [.agg (rowT .tk a0), .int .i64 a1] []
noncomputable def impl_WorldValid_l1 (t23 : List Tk) (t24 : Int) (t25 : Int) (b100_0 : List Tk) (b100_1 : List Bx) (b100_2 : Int) (b100_3 : Int) (b100_4 : List Int) : Option (Unit ⊕ Bool) := callTy Tb GT s24001 24001 [.bp 100 0, .sl .share .tk t23, .int .i64 t24, .int .i64 t25] [.var [.sl .share .tk b100_0, .sl .share .bx b100_1, .int .i64 b100_2, .int .i64 b100_3, .sl .share .int b100_4]]
noncomputable def laws_eqTaskS (a0 : List Tk) (a1 : List Tk) : Option (Bool) := callTy Tb GT s25200 25200 [.sl .share .tk a0, .sl .share .tk a1] []
noncomputable def laws_eqBoxS (a0 : List Bx) (a1 : List Bx) : Option (Bool) := callTy Tb GT s25300 25300 [.sl .share .bx a0, .sl .share .bx a1] []
noncomputable def laws_eqIntS (a0 : List Int) (a1 : List Int) : Option (Bool) := callTy Tb GT s8400 8400 [.sl .share .int a0, .sl .share .int a1] []
noncomputable def laws_szTask (a0 : Tk) (a1 : Int) : Option (Int) := callTy Tb GT s7300 7300 [.agg (rowT .tk a0), .int .i64 a1] []
noncomputable def laws_szTaskS_l1 (t0 : List Tk) (t1 : Int) (t5 : Int) : Option (Int ⊕ (Int × Int)) := callTy Tb GT s24201 24201 [.sl .share .tk t0, .int .i64 t1, .int .i64 t5] []
noncomputable def laws_szBox (a0 : Bx) (a1 : Int) : Option (Int) := callTy Tb GT s24300 24300 [.agg (rowT .bx a0), .int .i64 a1] []
noncomputable def laws_szBoxS_l1 (t0 : List Bx) (t1 : Int) (t5 : Int) : Option (Int ⊕ (Int × Int)) := callTy Tb GT s24401 24401 [.sl .share .bx t0, .int .i64 t1, .int .i64 t5] []
noncomputable def laws_toTask (a0 : Tk) : Option (Tk) := callTy Tb GT s7900 7900 [.agg (rowT .tk a0)] []
noncomputable def laws_toTaskS_l1 (t0 : List Tk) (t4 : Int) (b100 : List Tk) : Option (List Tk) := callTy Tb GT s24801 24801 [.sl .share .tk t0, .bs 100, .int .i64 t4] [.rows .tk b100]
noncomputable def laws_toBox (a0 : Bx) : Option (Bx) := callTy Tb GT s24900 24900 [.agg (rowT .bx a0)] []
noncomputable def laws_toBoxS_l1 (t0 : List Bx) (t4 : Int) (b100 : List Bx) : Option (List Bx) := callTy Tb GT s25001 25001 [.sl .share .bx t0, .bs 100, .int .i64 t4] [.rows .bx b100]
noncomputable def laws_toIntS_l1 (t0 : List Int) (t4 : Int) (b100 : List Int) : Option (List Int) := callTy Tb GT s7801 7801 [.sl .share .int t0, .bs 100, .int .i64 t4] [.rows .int b100]
noncomputable def spec_BoxValid (a0 : Bx) : Option (Bool) := callTy Tb GT s17800 17800 [.agg (rowT .bx a0)] []
noncomputable def spec_l15Boxes_l1 (t0 : List Bx) (t3 : Int) : Option (List Bx ⊕ (List Bx × Bool)) := callTy Tb GT s24601 24601 [.sl .share .bx t0, .int .i64 t3] []
noncomputable def spec_StmtsValid (a0 : List Stm) : Option (Bool) := callTy Tb GT s6300 6300 [.sl .share .stm a0] []
noncomputable def spec_TaskValid_l1 (t3 : Int) (b100_0 : List Int) (b100_1 : List Stm) : Option ((List Int × List Stm) ⊕ (Bool × List Int × List Stm)) := callTy Tb GT s6601 6601 [.bp 100 0, .int .i64 t3] [.var [.sl .share .int b100_0, .sl .share .stm b100_1]]
noncomputable def spec_l12Boxes_l1 (t0 : List Stm) (t1 : Int) (t5 : Int) : Option (Unit ⊕ Bool) := callTy Tb GT s23101 23101 [.sl .share .stm t0, .int .i64 t1, .int .i64 t5] []
noncomputable def spec_WordValid (a0 : Int) : Option (Bool) := callTy Tb GT s6400 6400 [.int .i64 a0] []
noncomputable def spec_l4Words_l1 (t0 : List Int) (t5 : Int) : Option (Unit ⊕ Bool) := callTy Tb GT s6501 6501 [.sl .share .int t0, .int .i64 t5] []
noncomputable def impl_areWords (a0 : List Int) : Option (Bool) := callTy Tb GT s5100 5100 [.sl .share .int a0] []
noncomputable def impl_BoxValid (a0 : Bx) : Option (Bool) := callTy Tb GT s17600 17600 [.agg (rowT .bx a0)] []
noncomputable def impl_boxesValid_l1 (t0 : List Bx) (t5 : List Bx) (t6 : Int) (t7 : Int) : Option (List Bx ⊕ (List Bx × Bool)) := callTy Tb GT s23901 23901 [.sl .share .bx t0, .sl .share .bx t5, .int .i64 t6, .int .i64 t7] []
noncomputable def impl_stmtsValid (a0 : List Stm) (a1 : Int) : Option (Bool) := callTy Tb GT s5400 5400 [.sl .share .stm a0, .int .i64 a1] []
noncomputable def impl_taskValid_l1 (t1 : Int) (t18 : Int) (t19 : Int) (b100_0 : List Int) (b100_1 : List Stm) : Option (Unit ⊕ Bool) := callTy Tb GT s5501 5501 [.int .i64 t1, .bp 100 0, .int .i64 t18, .int .i64 t19] [.var [.sl .share .int b100_0, .sl .share .stm b100_1]]
noncomputable def laws_eqTask (a0 : Tk) (a1 : Tk) : Option (Bool) := callTy Tb GT s8500 8500 [.agg (rowT .tk a0), .agg (rowT .tk a1)] []
noncomputable def laws_eqTaskS_l1 (t0 : List Tk) (t1 : List Tk) (t5 : Int) : Option (Unit ⊕ Bool) := callTy Tb GT s25201 25201 [.sl .share .tk t0, .sl .share .tk t1, .int .i64 t5] []
noncomputable def laws_eqBox (a0 : Bx) (a1 : Bx) : Option (Bool) := callTy Tb GT s19000 19000 [.agg (rowT .bx a0), .agg (rowT .bx a1)] []
noncomputable def laws_eqBoxS_l1 (t0 : List Bx) (t1 : List Bx) (t5 : Int) : Option (Unit ⊕ Bool) := callTy Tb GT s25301 25301 [.sl .share .bx t0, .sl .share .bx t1, .int .i64 t5] []
noncomputable def laws_eqIntS_l1 (t0 : List Int) (t1 : List Int) (t5 : Int) : Option (Unit ⊕ Bool) := callTy Tb GT s8401 8401 [.sl .share .int t0, .sl .share .int t1, .int .i64 t5] []
noncomputable def laws_szStmtS (a0 : List Stm) (a1 : Int) : Option (Int) := callTy Tb GT s7100 7100 [.sl .share .stm a0, .int .i64 a1] []
noncomputable def laws_toStmtS (a0 : List Stm) : Option (List Stm) := callTy Tb GT s7700 7700 [.sl .share .stm a0] []
noncomputable def spec_l11Blocks (a0 : List Stm) (a1 : Int) : Option (Bool) := callTy Tb GT s6200 6200 [.sl .share .stm a0, .int .i64 a1] []
noncomputable def spec_l11Count (a0 : List Stm) : Option (Int) := callTy Tb GT s4000 4000 [.sl .share .stm a0] []
noncomputable def impl_WordValid (a0 : Int) : Option (Bool) := callTy Tb GT s5000 5000 [.int .i64 a0] []
noncomputable def impl_areWords_l1 (t5 : List Int) (t6 : Int) (t7 : Int) : Option (Unit ⊕ Bool) := callTy Tb GT s5101 5101 [.sl .share .int t5, .int .i64 t6, .int .i64 t7] []
noncomputable def impl_blockValid (a0 : List Stm) (a1 : Int) (a2 : Int) (a3 : Int) : Option (Bool × Int) := callTy Tb GT s5300 5300 [.sl .share .stm a0, .int .i64 a1, .int .i64 a2, .bp 0 0] [.var [.int .i64 a3]]
noncomputable def laws_eqStmtS (a0 : List Stm) (a1 : List Stm) : Option (Bool) := callTy Tb GT s8300 8300 [.sl .share .stm a0, .sl .share .stm a1] []
noncomputable def laws_szStmt (a0 : Stm) (a1 : Int) : Option (Int) := callTy Tb GT s7000 7000 [.agg (rowT .stm a0), .int .i64 a1] []
noncomputable def laws_szStmtS_l1 (t0 : List Stm) (t1 : Int) (t5 : Int) : Option (Int ⊕ (Int × Int)) := callTy Tb GT s7101 7101 [.sl .share .stm t0, .int .i64 t1, .int .i64 t5] []
noncomputable def laws_toStmt (a0 : Stm) : Option (Stm) := callTy Tb GT s7600 7600 [.agg (rowT .stm a0)] []
noncomputable def laws_toStmtS_l1 (t0 : List Stm) (t4 : Int) (b100 : List Stm) : Option (List Stm) := callTy Tb GT s7701 7701 [.sl .share .stm t0, .bs 100, .int .i64 t4] [.rows .stm b100]
noncomputable def spec_l11Ok (a0 : Stm) (a1 : Int) : Option (Bool) := callTy Tb GT s6100 6100 [.agg (rowT .stm a0), .int .i64 a1] []
noncomputable def spec_l11Blocks_l1 (t0 : List Stm) (t1 : Int) (t5 : Int) : Option (Unit ⊕ Bool) := callTy Tb GT s6201 6201 [.sl .share .stm t0, .int .i64 t1, .int .i64 t5] []
noncomputable def spec_l11Count_l1 (t0 : List Stm) (t3 : Int) (t4 : Int) : Option (Int) := callTy Tb GT s4001 4001 [.sl .share .stm t0, .int .i64 t3, .int .i64 t4] []
noncomputable def impl_stmtValid (a0 : Stm) (a1 : Int) : Option (Bool) := callTy Tb GT s5200 5200 [.rp (rowT .stm a0) 0, .int .i64 a1] []
noncomputable def impl_blockValid_l1 (t0 : List Stm) (t1 : Int) (t2 : Int) (t23 : Int) (t24 : Int) (b0_0 : Int) : Option (Int ⊕ (Bool × Int)) := callTy Tb GT s5301 5301 [.sl .share .stm t0, .int .i64 t1, .int .i64 t2, .bp 0 0, .int .i64 t23, .int .i64 t24] [.var [.int .i64 b0_0]]
noncomputable def laws_eqStmt (a0 : Stm) (a1 : Stm) : Option (Bool) := callTy Tb GT s8200 8200 [.agg (rowT .stm a0), .agg (rowT .stm a1)] []
noncomputable def laws_eqStmtS_l1 (t0 : List Stm) (t1 : List Stm) (t5 : Int) : Option (Unit ⊕ Bool) := callTy Tb GT s8301 8301 [.sl .share .stm t0, .sl .share .stm t1, .int .i64 t5] []
noncomputable def laws_szExpr (a0 : Exp) (a1 : Int) : Option (Int) := callTy Tb GT s6900 6900 [.agg (rowT .exp a0), .int .i64 a1] []
noncomputable def laws_toExpr (a0 : Exp) : Option (Exp) := callTy Tb GT s7500 7500 [.agg (rowT .exp a0)] []
noncomputable def spec_l11Simple (a0 : Stm) : Option (Bool) := callTy Tb GT s6000 6000 [.agg (rowT .stm a0)] []
noncomputable def spec_l11Var (a0 : Stm) (a1 : Bool) : Option (Bool) := callTy Tb GT s5700 5700 [.agg (rowT .stm a0), .bool a1] []
noncomputable def spec_l11Box (a0 : Stm) (a1 : Bool) : Option (Bool) := callTy Tb GT s5800 5800 [.agg (rowT .stm a0), .bool a1] []
noncomputable def spec_ExprValid (a0 : Exp) : Option (Bool) := callTy Tb GT s1900 1900 [.agg (rowT .exp a0)] []
noncomputable def impl_stmtValid_1 (a0 : Int) (a1 : Int) (a2 : Bool) : Option (Bool) := callTy Tb GT s11100 11100 [.int .i64 a0, .int .i64 a1, .bool a2] []
noncomputable def impl_ExprValid (a0 : Exp) : Option (Bool) := callTy Tb GT s1200 1200 [.agg (rowT .exp a0)] []
noncomputable def laws_eqExpr (a0 : Exp) (a1 : Exp) : Option (Bool) := callTy Tb GT s8100 8100 [.agg (rowT .exp a0), .agg (rowT .exp a1)] []
noncomputable def laws_szExprS (a0 : List Exp) (a1 : Int) : Option (Int) := callTy Tb GT s6800 6800 [.sl .share .exp a0, .int .i64 a1] []
noncomputable def laws_toExprS (a0 : List Exp) : Option (List Exp) := callTy Tb GT s7400 7400 [.sl .share .exp a0] []
noncomputable def spec_l11Plain (a0 : Exp) : Option (Bool) := callTy Tb GT s5900 5900 [.agg (rowT .exp a0)] []
noncomputable def spec_l4Ok (a0 : Exp) (a1 : Int) : Option (Bool) := callTy Tb GT s1800 1800 [.agg (rowT .exp a0), .int .i64 a1] []
noncomputable def impl_exprValid (a0 : Exp) (a1 : Int) : Option (Bool) := callTy Tb GT s1100 1100 [.agg (rowT .exp a0), .int .i64 a1] []
noncomputable def laws_eqExprS (a0 : List Exp) (a1 : List Exp) : Option (Bool) := callTy Tb GT s8000 8000 [.sl .share .exp a0, .sl .share .exp a1] []
noncomputable def laws_szExprS_l1 (t0 : List Exp) (t1 : Int) (t5 : Int) : Option (Int ⊕ (Int × Int)) := callTy Tb GT s6801 6801 [.sl .share .exp t0, .int .i64 t1, .int .i64 t5] []
noncomputable def laws_toExprS_l1 (t0 : List Exp) (t4 : Int) (b100 : List Exp) : Option (List Exp) := callTy Tb GT s7401 7401 [.sl .share .exp t0, .bs 100, .int .i64 t4] [.rows .exp b100]
noncomputable def spec_OpValid (a0 : Int) : Option (Bool) := callTy Tb GT s1700 1700 [.int .i64 a0] []
noncomputable def impl_OpValid (a0 : Int) : Option (Bool) := callTy Tb GT s1000 1000 [.int .i64 a0] []
noncomputable def laws_eqExprS_l1 (t0 : List Exp) (t1 : List Exp) (t5 : Int) : Option (Unit ⊕ Bool) := callTy Tb GT s8001 8001 [.sl .share .exp t0, .sl .share .exp t1, .int .i64 t5] []
end Go.TFnExactWorldValid
