import Derived.Test.YtbofepgnakbohaaTv6

set_option linter.unusedVariables false
namespace Go.TFnExactCodeValid
open Go Go.RowKit Go.Vs Go.Tv

noncomputable def p1000 : ProcT := { kind := .fn, ins := [0], bins := [], res := [.tmp 2], code := (.seq (.region false [⟨some 2, .mv (.const (.bool false)), none, []⟩])
 (.seq (.region false [⟨some 3, .mv (.tmp 0), none, []⟩,
  ⟨some 4, .bin .geq (.tmp 3) (.const (.int .i64 1)), none, []⟩,
  ⟨some 5, .mv (.tmp 4), none, []⟩,
  ⟨some 6, .mv (.tmp 0), some (5, true), []⟩,
  ⟨some 7, .bin .leq (.tmp 6) (.const (.int .i64 12)), some (5, true), []⟩,
  ⟨some 8, .pick (.tmp 5) (.tmp 7) (.const (.bool false)), none, []⟩,
  ⟨some 2, .mv (.tmp 8), none, []⟩])
 .ret)) }
noncomputable def p1600 : ProcT := { kind := .fn, ins := [0, 1, 2], bins := [], res := [.tmp 6], code := (.seq (.region false [⟨some 6, .mv (.const (.bool false)), none, []⟩])
 (.seq (.region false [⟨some 7, .mv (.tmp 0), none, []⟩,
  ⟨some 8, .mv (.tmp 1), none, []⟩,
  ⟨some 9, .bin .geq (.tmp 7) (.tmp 8), none, []⟩,
  ⟨some 10, .mv (.tmp 9), none, []⟩,
  ⟨some 11, .mv (.tmp 0), some (10, true), []⟩,
  ⟨some 12, .mv (.tmp 2), some (10, true), []⟩,
  ⟨some 13, .bin .leq (.tmp 11) (.tmp 12), some (10, true), []⟩,
  ⟨some 14, .pick (.tmp 10) (.tmp 13) (.const (.bool false)), none, []⟩,
  ⟨some 6, .mv (.tmp 14), none, []⟩])
 .ret)) }
noncomputable def p1700 : ProcT := { kind := .fn, ins := [0], bins := [], res := [.tmp 2], code := (.seq (.region false [⟨some 2, .mv (.const (.bool false)), none, []⟩])
 (.seq (.region false [⟨some 3, .mv (.tmp 0), none, []⟩,
  ⟨some 4, .call 1600 0 [.tmp 3, .const (.int .i64 1), .const (.int .i64 12)], none, []⟩,
  ⟨some 2, .mv (.tmp 4), none, []⟩])
 .ret)) }
noncomputable def p5000 : ProcT := { kind := .fn, ins := [0], bins := [], res := [.tmp 2], code := (.seq (.region false [⟨some 2, .mv (.const (.bool false)), none, []⟩])
 (.seq (.region false [⟨some 3, .mv (.tmp 0), none, []⟩,
  ⟨some 4, .bin .geq (.tmp 3) (.const (.int .i64 (-2147483648))), none, []⟩,
  ⟨some 5, .mv (.tmp 4), none, []⟩,
  ⟨some 6, .mv (.tmp 0), some (5, true), []⟩,
  ⟨some 7, .bin .leq (.tmp 6) (.const (.int .i64 2147483647)), some (5, true), []⟩,
  ⟨some 8, .pick (.tmp 5) (.tmp 7) (.const (.bool false)), none, []⟩,
  ⟨some 2, .mv (.tmp 8), none, []⟩])
 .ret)) }
noncomputable def p6400 : ProcT := { kind := .fn, ins := [0], bins := [], res := [.tmp 2], code := (.seq (.region false [⟨some 2, .mv (.const (.bool false)), none, []⟩])
 (.seq (.region false [⟨some 3, .mv (.tmp 0), none, []⟩,
  ⟨some 4, .call 1600 0 [.tmp 3, .const (.int .i64 (-2147483648)), .const (.int .i64 2147483647)], none, []⟩,
  ⟨some 2, .mv (.tmp 4), none, []⟩])
 .ret)) }
noncomputable def p11800 : ProcT := { kind := .fn, ins := [0, 1], bins := [], res := [.tmp 4], code := (.seq (.region false [⟨some 4, .mv (.const (.bool false)), none, []⟩])
 (.seq (.seq (.region false [⟨some 5, .mv (.tmp 1), none, []⟩])
 (.cond (.tmp 5) (.seq (.region false [⟨some 6, .mv (.tmp 0), none, []⟩,
  ⟨some 7, .call 1600 0 [.tmp 6, .const (.int .i64 0), .const (.int .i64 11)], none, []⟩,
  ⟨some 4, .mv (.tmp 7), none, []⟩])
 .ret) .skip))
 (.seq (.region false [⟨some 8, .mv (.tmp 0), none, []⟩,
  ⟨some 9, .bin .eql (.tmp 8) (.const (.int .i64 0)), none, []⟩,
  ⟨some 4, .mv (.tmp 9), none, []⟩])
 .ret))) }
noncomputable def p11900 : ProcT := { kind := .fn, ins := [0, 1, 2, 3], bins := [], res := [.tmp 8], code := (.seq (.region false [⟨some 4, .box 100 (.tmp 0), none, []⟩,
  ⟨some 8, .mv (.const (.bool false)), none, []⟩])
 (.seq (.region false [⟨some 9, .fadr 1 (.tmp 4), none, []⟩,
  ⟨some 10, .load 1 false false (.tmp 9), none, []⟩,
  ⟨some 11, .mv (.tmp 1), none, []⟩,
  ⟨some 12, .call 11800 0 [.tmp 10, .tmp 11], none, []⟩,
  ⟨some 13, .mv (.tmp 12), none, []⟩,
  ⟨some 14, .fadr 2 (.tmp 4), some (13, true), []⟩,
  ⟨some 15, .load 1 false false (.tmp 14), some (13, true), []⟩,
  ⟨some 16, .mv (.tmp 2), some (13, true), []⟩,
  ⟨some 17, .call 11800 0 [.tmp 15, .tmp 16], some (13, true), []⟩,
  ⟨some 18, .pick (.tmp 13) (.tmp 17) (.const (.bool false)), none, []⟩,
  ⟨some 19, .mv (.tmp 18), none, []⟩,
  ⟨some 20, .fadr 3 (.tmp 4), some (19, true), []⟩,
  ⟨some 21, .load 1 false false (.tmp 20), some (19, true), []⟩,
  ⟨some 22, .mv (.tmp 3), some (19, true), []⟩,
  ⟨some 23, .call 11800 0 [.tmp 21, .tmp 22], some (19, true), []⟩,
  ⟨some 24, .pick (.tmp 19) (.tmp 23) (.const (.bool false)), none, []⟩,
  ⟨some 8, .mv (.tmp 24), none, []⟩])
 .ret)) }
noncomputable def p12000 : ProcT := { kind := .fn, ins := [0, 1], bins := [], res := [.tmp 4], code := (.seq (.region false [⟨some 2, .box 100 (.tmp 0), none, []⟩,
  ⟨some 4, .mv (.const (.bool false)), none, []⟩])
 (.seq (.seq (.region false [⟨some 5, .fadr 0 (.tmp 2), none, []⟩,
  ⟨some 6, .load 1 false false (.tmp 5), none, []⟩])
 (.block 0 (.seq (.region false [⟨some 8, .bin .eql (.tmp 6) (.const (.int .i64 1)), none, []⟩,
  ⟨some 7, .mv (.tmp 8), none, []⟩])
 (.cond (.tmp 7) (.seq (.region false [⟨some 9, .load 5 true false (.tmp 2), none, []⟩,
  ⟨some 10, .call 11900 0 [.tmp 9, .const (.bool true), .const (.bool false), .const (.bool false)], none, []⟩,
  ⟨some 11, .mv (.tmp 10), none, []⟩,
  ⟨some 12, .fadr 4 (.tmp 2), some (11, true), []⟩,
  ⟨some 13, .load 1 false false (.tmp 12), some (11, true), []⟩,
  ⟨some 14, .call 6400 0 [.tmp 13], some (11, true), []⟩,
  ⟨some 15, .pick (.tmp 11) (.tmp 14) (.const (.bool false)), none, []⟩,
  ⟨some 4, .mv (.tmp 15), none, []⟩])
 .ret) (.seq (.region false [⟨some 17, .bin .eql (.tmp 6) (.const (.int .i64 2)), none, []⟩,
  ⟨some 16, .mv (.tmp 17), none, []⟩])
 (.cond (.tmp 16) (.seq (.region false [⟨some 18, .load 5 true false (.tmp 2), none, []⟩,
  ⟨some 19, .call 11900 0 [.tmp 18, .const (.bool true), .const (.bool true), .const (.bool false)], none, []⟩,
  ⟨some 20, .mv (.tmp 19), none, []⟩,
  ⟨some 21, .fadr 4 (.tmp 2), some (20, true), []⟩,
  ⟨some 22, .load 1 false false (.tmp 21), some (20, true), []⟩,
  ⟨some 23, .bin .eql (.tmp 22) (.const (.int .i64 0)), some (20, true), []⟩,
  ⟨some 24, .pick (.tmp 20) (.tmp 23) (.const (.bool false)), none, []⟩,
  ⟨some 4, .mv (.tmp 24), none, []⟩])
 .ret) (.seq (.region false [⟨some 26, .bin .eql (.tmp 6) (.const (.int .i64 3)), none, []⟩,
  ⟨some 25, .mv (.tmp 26), none, []⟩])
 (.cond (.tmp 25) (.seq (.region false [⟨some 27, .load 5 true false (.tmp 2), none, []⟩,
  ⟨some 28, .call 11900 0 [.tmp 27, .const (.bool true), .const (.bool true), .const (.bool true)], none, []⟩,
  ⟨some 29, .mv (.tmp 28), none, []⟩,
  ⟨some 30, .fadr 4 (.tmp 2), some (29, true), []⟩,
  ⟨some 31, .load 1 false false (.tmp 30), some (29, true), []⟩,
  ⟨some 32, .call 1700 0 [.tmp 31], some (29, true), []⟩,
  ⟨some 33, .pick (.tmp 29) (.tmp 32) (.const (.bool false)), none, []⟩,
  ⟨some 4, .mv (.tmp 33), none, []⟩])
 .ret) (.seq (.region false [⟨some 35, .bin .eql (.tmp 6) (.const (.int .i64 4)), none, []⟩,
  ⟨some 34, .mv (.tmp 35), none, []⟩])
 (.cond (.tmp 34) (.seq (.region false [⟨some 36, .load 5 true false (.tmp 2), none, []⟩,
  ⟨some 37, .call 11900 0 [.tmp 36, .const (.bool false), .const (.bool false), .const (.bool false)], none, []⟩,
  ⟨some 38, .mv (.tmp 37), none, []⟩,
  ⟨some 39, .fadr 4 (.tmp 2), some (38, true), []⟩,
  ⟨some 40, .load 1 false false (.tmp 39), some (38, true), []⟩,
  ⟨some 41, .bin .geq (.tmp 40) (.const (.int .i64 0)), some (38, true), []⟩,
  ⟨some 42, .pick (.tmp 38) (.tmp 41) (.const (.bool false)), none, []⟩,
  ⟨some 43, .mv (.tmp 42), none, []⟩,
  ⟨some 44, .fadr 4 (.tmp 2), some (43, true), []⟩,
  ⟨some 45, .load 1 false false (.tmp 44), some (43, true), []⟩,
  ⟨some 46, .mv (.tmp 1), some (43, true), []⟩,
  ⟨some 47, .bin .lss (.tmp 45) (.tmp 46), some (43, true), []⟩,
  ⟨some 48, .pick (.tmp 43) (.tmp 47) (.const (.bool false)), none, []⟩,
  ⟨some 4, .mv (.tmp 48), none, []⟩])
 .ret) (.seq (.region false [⟨some 50, .bin .eql (.tmp 6) (.const (.int .i64 5)), none, []⟩,
  ⟨some 49, .mv (.tmp 50), none, []⟩])
 (.cond (.tmp 49) (.seq (.region false [⟨some 51, .load 5 true false (.tmp 2), none, []⟩,
  ⟨some 52, .call 11900 0 [.tmp 51, .const (.bool false), .const (.bool true), .const (.bool false)], none, []⟩,
  ⟨some 53, .mv (.tmp 52), none, []⟩,
  ⟨some 54, .fadr 4 (.tmp 2), some (53, true), []⟩,
  ⟨some 55, .load 1 false false (.tmp 54), some (53, true), []⟩,
  ⟨some 56, .bin .geq (.tmp 55) (.const (.int .i64 0)), some (53, true), []⟩,
  ⟨some 57, .pick (.tmp 53) (.tmp 56) (.const (.bool false)), none, []⟩,
  ⟨some 58, .mv (.tmp 57), none, []⟩,
  ⟨some 59, .fadr 4 (.tmp 2), some (58, true), []⟩,
  ⟨some 60, .load 1 false false (.tmp 59), some (58, true), []⟩,
  ⟨some 61, .mv (.tmp 1), some (58, true), []⟩,
  ⟨some 62, .bin .lss (.tmp 60) (.tmp 61), some (58, true), []⟩,
  ⟨some 63, .pick (.tmp 58) (.tmp 62) (.const (.bool false)), none, []⟩,
  ⟨some 4, .mv (.tmp 63), none, []⟩])
 .ret) (.seq (.region false [⟨some 65, .bin .eql (.tmp 6) (.const (.int .i64 6)), none, []⟩,
  ⟨some 64, .mv (.tmp 65), none, []⟩])
 (.cond (.tmp 64) (.seq (.region false [⟨some 66, .load 5 true false (.tmp 2), none, []⟩,
  ⟨some 67, .call 11900 0 [.tmp 66, .const (.bool false), .const (.bool true), .const (.bool false)], none, []⟩,
  ⟨some 68, .mv (.tmp 67), none, []⟩,
  ⟨some 69, .fadr 4 (.tmp 2), some (68, true), []⟩,
  ⟨some 70, .load 1 false false (.tmp 69), some (68, true), []⟩,
  ⟨some 71, .call 1600 0 [.tmp 70, .const (.int .i64 0), .const (.int .i64 2)], some (68, true), []⟩,
  ⟨some 72, .pick (.tmp 68) (.tmp 71) (.const (.bool false)), none, []⟩,
  ⟨some 4, .mv (.tmp 72), none, []⟩])
 .ret) (.seq (.region false [⟨some 74, .bin .eql (.tmp 6) (.const (.int .i64 7)), none, []⟩,
  ⟨some 73, .mv (.tmp 74), none, []⟩])
 (.cond (.tmp 73) (.seq (.region false [⟨some 75, .load 5 true false (.tmp 2), none, []⟩,
  ⟨some 76, .call 11900 0 [.tmp 75, .const (.bool true), .const (.bool false), .const (.bool false)], none, []⟩,
  ⟨some 77, .mv (.tmp 76), none, []⟩,
  ⟨some 78, .fadr 4 (.tmp 2), some (77, true), []⟩,
  ⟨some 79, .load 1 false false (.tmp 78), some (77, true), []⟩,
  ⟨some 80, .call 1600 0 [.tmp 79, .const (.int .i64 0), .const (.int .i64 2)], some (77, true), []⟩,
  ⟨some 81, .pick (.tmp 77) (.tmp 80) (.const (.bool false)), none, []⟩,
  ⟨some 4, .mv (.tmp 81), none, []⟩])
 .ret) (.seq (.region false [⟨some 83, .bin .eql (.tmp 6) (.const (.int .i64 9)), none, []⟩,
  ⟨some 82, .mv (.tmp 83), none, []⟩])
 (.cond (.tmp 82) (.seq (.region false [⟨some 84, .load 5 true false (.tmp 2), none, []⟩,
  ⟨some 85, .call 11900 0 [.tmp 84, .const (.bool false), .const (.bool true), .const (.bool false)], none, []⟩,
  ⟨some 86, .mv (.tmp 85), none, []⟩,
  ⟨some 87, .fadr 4 (.tmp 2), some (86, true), []⟩,
  ⟨some 88, .load 1 false false (.tmp 87), some (86, true), []⟩,
  ⟨some 89, .bin .eql (.tmp 88) (.const (.int .i64 0)), some (86, true), []⟩,
  ⟨some 90, .pick (.tmp 86) (.tmp 89) (.const (.bool false)), none, []⟩,
  ⟨some 4, .mv (.tmp 90), none, []⟩])
 .ret) (.seq (.seq (.region false [⟨some 92, .bin .eql (.tmp 6) (.const (.int .i64 8)), none, []⟩,
  ⟨some 91, .mv (.tmp 92), none, []⟩])
 (.cond (.tmp 91) .skip (.region false [⟨some 93, .bin .eql (.tmp 6) (.const (.int .i64 10)), none, []⟩,
  ⟨some 91, .mv (.tmp 93), none, []⟩])))
 (.cond (.tmp 91) (.seq (.region false [⟨some 94, .load 5 true false (.tmp 2), none, []⟩,
  ⟨some 95, .call 11900 0 [.tmp 94, .const (.bool false), .const (.bool false), .const (.bool false)], none, []⟩,
  ⟨some 96, .mv (.tmp 95), none, []⟩,
  ⟨some 97, .fadr 4 (.tmp 2), some (96, true), []⟩,
  ⟨some 98, .load 1 false false (.tmp 97), some (96, true), []⟩,
  ⟨some 99, .bin .eql (.tmp 98) (.const (.int .i64 0)), some (96, true), []⟩,
  ⟨some 100, .pick (.tmp 96) (.tmp 99) (.const (.bool false)), none, []⟩,
  ⟨some 4, .mv (.tmp 100), none, []⟩])
 .ret) .skip))))))))))))))))))))
 (.seq (.region false [⟨some 4, .mv (.const (.bool false)), none, []⟩])
 .ret))) }
noncomputable def p12100 : ProcT := { kind := .fn, ins := [0], bins := [], res := [.cell 2 5 true], code := (.seq (.region false [⟨some 1, .box 100 (.tmp 0), none, []⟩,
  ⟨some 2, .alloc 101 [.int .i64 0, .int .i64 0, .int .i64 0, .int .i64 0, .int .i64 0], none, []⟩])
 (.seq (.region false [⟨some 3, .alloc 102 [.int .i64 0, .int .i64 0, .int .i64 0, .int .i64 0, .int .i64 0], none, []⟩])
 (.seq (.region false [⟨some 4, .fadr 0 (.tmp 1), none, []⟩,
  ⟨some 5, .load 1 false false (.tmp 4), none, []⟩,
  ⟨some 6, .fadr 0 (.tmp 3), none, []⟩,
  ⟨none, .store 1 (.tmp 6) (.tmp 5), none, []⟩])
 (.seq (.region false [⟨some 7, .fadr 1 (.tmp 1), none, []⟩,
  ⟨some 8, .load 1 false false (.tmp 7), none, []⟩,
  ⟨some 9, .fadr 1 (.tmp 3), none, []⟩,
  ⟨none, .store 1 (.tmp 9) (.tmp 8), none, []⟩])
 (.seq (.region false [⟨some 10, .fadr 2 (.tmp 1), none, []⟩,
  ⟨some 11, .load 1 false false (.tmp 10), none, []⟩,
  ⟨some 12, .fadr 2 (.tmp 3), none, []⟩,
  ⟨none, .store 1 (.tmp 12) (.tmp 11), none, []⟩])
 (.seq (.region false [⟨some 13, .fadr 3 (.tmp 1), none, []⟩,
  ⟨some 14, .load 1 false false (.tmp 13), none, []⟩,
  ⟨some 15, .fadr 3 (.tmp 3), none, []⟩,
  ⟨none, .store 1 (.tmp 15) (.tmp 14), none, []⟩])
 (.seq (.region false [⟨some 16, .fadr 4 (.tmp 1), none, []⟩,
  ⟨some 17, .load 1 false false (.tmp 16), none, []⟩,
  ⟨some 18, .fadr 4 (.tmp 3), none, []⟩,
  ⟨none, .store 1 (.tmp 18) (.tmp 17), none, []⟩])
 (.seq (.region false [⟨some 19, .load 5 true false (.tmp 3), none, []⟩,
  ⟨none, .store 5 (.tmp 2) (.tmp 19), none, []⟩])
 .ret)))))))) }
noncomputable def p12200 : ProcT := { kind := .fn, ins := [0], bins := [], res := [.tmp 2], code := (.seq (.region false [⟨some 2, .mv (.const (.bool false)), none, []⟩])
 (.seq (.region false [⟨some 3, .mv (.tmp 0), none, []⟩,
  ⟨some 4, .bin .geq (.tmp 3) (.const (.int .i64 0)), none, []⟩,
  ⟨some 5, .mv (.tmp 4), none, []⟩,
  ⟨some 6, .mv (.tmp 0), some (5, true), []⟩,
  ⟨some 7, .bin .lss (.tmp 6) (.const (.int .i64 12)), some (5, true), []⟩,
  ⟨some 8, .pick (.tmp 5) (.tmp 7) (.const (.bool false)), none, []⟩,
  ⟨some 2, .mv (.tmp 8), none, []⟩])
 .ret)) }
noncomputable def p12300 : ProcT := { kind := .fn, ins := [0, 1], bins := [], res := [.tmp 4], code := (.seq (.region false [⟨some 2, .box 100 (.tmp 0), none, []⟩,
  ⟨some 4, .mv (.const (.bool false)), none, []⟩])
 (.seq (.region true [⟨some 9, .fadr 1 (.tmp 2), none, [100]⟩,
  ⟨some 10, .load 1 false false (.tmp 9), none, [100]⟩,
  ⟨some 11, .call 12200 0 [.tmp 10], none, []⟩,
  ⟨some 12, .fadr 2 (.tmp 2), none, [100]⟩,
  ⟨some 13, .load 1 false false (.tmp 12), none, [100]⟩,
  ⟨some 14, .call 12200 0 [.tmp 13], none, []⟩,
  ⟨some 15, .fadr 3 (.tmp 2), none, [100]⟩,
  ⟨some 16, .load 1 false false (.tmp 15), none, [100]⟩,
  ⟨some 17, .call 12200 0 [.tmp 16], none, []⟩,
  ⟨some 18, .fadr 4 (.tmp 2), none, [100]⟩,
  ⟨some 19, .load 1 false false (.tmp 18), none, [100]⟩,
  ⟨some 5, .mv (.tmp 11), none, []⟩,
  ⟨some 6, .mv (.tmp 14), none, []⟩,
  ⟨some 7, .mv (.tmp 17), none, []⟩,
  ⟨some 8, .mv (.tmp 19), none, []⟩])
 (.seq (.seq (.region false [⟨some 20, .fadr 0 (.tmp 2), none, []⟩,
  ⟨some 21, .load 1 false false (.tmp 20), none, []⟩])
 (.block 0 (.seq (.region false [⟨some 23, .bin .eql (.tmp 21) (.const (.int .i64 1)), none, []⟩,
  ⟨some 22, .mv (.tmp 23), none, []⟩])
 (.cond (.tmp 22) (.seq (.region false [⟨some 24, .load 5 true false (.tmp 2), none, []⟩,
  ⟨some 25, .fadr 1 (.tmp 2), none, []⟩,
  ⟨some 26, .load 1 false false (.tmp 25), none, []⟩,
  ⟨some 27, .mv (.tmp 8), none, []⟩,
  ⟨some 28, .build [.int .i64 0, .int .i64 0, .int .i64 0, .int .i64 0, .int .i64 0] [(0, 1, .const (.int .i64 1)), (1, 1, .tmp 26), (4, 1, .tmp 27)], none, []⟩,
  ⟨some 29, .eqs false 5 (.tmp 24) (.tmp 28), none, []⟩,
  ⟨some 30, .mv (.tmp 29), none, []⟩,
  ⟨some 31, .mv (.tmp 5), some (30, true), []⟩,
  ⟨some 32, .pick (.tmp 30) (.tmp 31) (.const (.bool false)), none, []⟩,
  ⟨some 33, .mv (.tmp 32), none, []⟩,
  ⟨some 34, .mv (.tmp 8), some (33, true), []⟩,
  ⟨some 35, .call 5000 0 [.tmp 34], some (33, true), []⟩,
  ⟨some 36, .pick (.tmp 33) (.tmp 35) (.const (.bool false)), none, []⟩,
  ⟨some 4, .mv (.tmp 36), none, []⟩])
 .ret) (.seq (.region false [⟨some 38, .bin .eql (.tmp 21) (.const (.int .i64 2)), none, []⟩,
  ⟨some 37, .mv (.tmp 38), none, []⟩])
 (.cond (.tmp 37) (.seq (.region false [⟨some 39, .load 5 true false (.tmp 2), none, []⟩,
  ⟨some 40, .fadr 1 (.tmp 2), none, []⟩,
  ⟨some 41, .load 1 false false (.tmp 40), none, []⟩,
  ⟨some 42, .fadr 2 (.tmp 2), none, []⟩,
  ⟨some 43, .load 1 false false (.tmp 42), none, []⟩,
  ⟨some 44, .build [.int .i64 0, .int .i64 0, .int .i64 0, .int .i64 0, .int .i64 0] [(0, 1, .const (.int .i64 2)), (1, 1, .tmp 41), (2, 1, .tmp 43)], none, []⟩,
  ⟨some 45, .eqs false 5 (.tmp 39) (.tmp 44), none, []⟩,
  ⟨some 46, .mv (.tmp 45), none, []⟩,
  ⟨some 47, .mv (.tmp 5), some (46, true), []⟩,
  ⟨some 48, .pick (.tmp 46) (.tmp 47) (.const (.bool false)), none, []⟩,
  ⟨some 49, .mv (.tmp 48), none, []⟩,
  ⟨some 50, .mv (.tmp 6), some (49, true), []⟩,
  ⟨some 51, .pick (.tmp 49) (.tmp 50) (.const (.bool false)), none, []⟩,
  ⟨some 4, .mv (.tmp 51), none, []⟩])
 .ret) (.seq (.region false [⟨some 53, .bin .eql (.tmp 21) (.const (.int .i64 3)), none, []⟩,
  ⟨some 52, .mv (.tmp 53), none, []⟩])
 (.cond (.tmp 52) (.seq (.region false [⟨some 54, .mv (.tmp 5), none, []⟩,
  ⟨some 55, .mv (.tmp 54), none, []⟩,
  ⟨some 56, .mv (.tmp 6), some (55, true), []⟩,
  ⟨some 57, .pick (.tmp 55) (.tmp 56) (.const (.bool false)), none, []⟩,
  ⟨some 58, .mv (.tmp 57), none, []⟩,
  ⟨some 59, .mv (.tmp 7), some (58, true), []⟩,
  ⟨some 60, .pick (.tmp 58) (.tmp 59) (.const (.bool false)), none, []⟩,
  ⟨some 61, .mv (.tmp 60), none, []⟩,
  ⟨some 62, .mv (.tmp 8), some (61, true), []⟩,
  ⟨some 63, .call 1000 0 [.tmp 62], some (61, true), []⟩,
  ⟨some 64, .pick (.tmp 61) (.tmp 63) (.const (.bool false)), none, []⟩,
  ⟨some 4, .mv (.tmp 64), none, []⟩])
 .ret) (.seq (.region false [⟨some 66, .bin .eql (.tmp 21) (.const (.int .i64 4)), none, []⟩,
  ⟨some 65, .mv (.tmp 66), none, []⟩])
 (.cond (.tmp 65) (.seq (.region false [⟨some 67, .load 5 true false (.tmp 2), none, []⟩,
  ⟨some 68, .mv (.tmp 8), none, []⟩,
  ⟨some 69, .build [.int .i64 0, .int .i64 0, .int .i64 0, .int .i64 0, .int .i64 0] [(0, 1, .const (.int .i64 4)), (4, 1, .tmp 68)], none, []⟩,
  ⟨some 70, .eqs false 5 (.tmp 67) (.tmp 69), none, []⟩,
  ⟨some 71, .mv (.tmp 70), none, []⟩,
  ⟨some 72, .mv (.tmp 8), some (71, true), []⟩,
  ⟨some 73, .bin .geq (.tmp 72) (.const (.int .i64 0)), some (71, true), []⟩,
  ⟨some 74, .pick (.tmp 71) (.tmp 73) (.const (.bool false)), none, []⟩,
  ⟨some 75, .mv (.tmp 74), none, []⟩,
  ⟨some 76, .mv (.tmp 8), some (75, true), []⟩,
  ⟨some 77, .mv (.tmp 1), some (75, true), []⟩,
  ⟨some 78, .bin .lss (.tmp 76) (.tmp 77), some (75, true), []⟩,
  ⟨some 79, .pick (.tmp 75) (.tmp 78) (.const (.bool false)), none, []⟩,
  ⟨some 4, .mv (.tmp 79), none, []⟩])
 .ret) (.seq (.region false [⟨some 81, .bin .eql (.tmp 21) (.const (.int .i64 5)), none, []⟩,
  ⟨some 80, .mv (.tmp 81), none, []⟩])
 (.cond (.tmp 80) (.seq (.region false [⟨some 82, .load 5 true false (.tmp 2), none, []⟩,
  ⟨some 83, .fadr 2 (.tmp 2), none, []⟩,
  ⟨some 84, .load 1 false false (.tmp 83), none, []⟩,
  ⟨some 85, .mv (.tmp 8), none, []⟩,
  ⟨some 86, .build [.int .i64 0, .int .i64 0, .int .i64 0, .int .i64 0, .int .i64 0] [(0, 1, .const (.int .i64 5)), (2, 1, .tmp 84), (4, 1, .tmp 85)], none, []⟩,
  ⟨some 87, .eqs false 5 (.tmp 82) (.tmp 86), none, []⟩,
  ⟨some 88, .mv (.tmp 87), none, []⟩,
  ⟨some 89, .mv (.tmp 6), some (88, true), []⟩,
  ⟨some 90, .pick (.tmp 88) (.tmp 89) (.const (.bool false)), none, []⟩,
  ⟨some 91, .mv (.tmp 90), none, []⟩,
  ⟨some 92, .mv (.tmp 8), some (91, true), []⟩,
  ⟨some 93, .bin .geq (.tmp 92) (.const (.int .i64 0)), some (91, true), []⟩,
  ⟨some 94, .pick (.tmp 91) (.tmp 93) (.const (.bool false)), none, []⟩,
  ⟨some 95, .mv (.tmp 94), none, []⟩,
  ⟨some 96, .mv (.tmp 8), some (95, true), []⟩,
  ⟨some 97, .mv (.tmp 1), some (95, true), []⟩,
  ⟨some 98, .bin .lss (.tmp 96) (.tmp 97), some (95, true), []⟩,
  ⟨some 99, .pick (.tmp 95) (.tmp 98) (.const (.bool false)), none, []⟩,
  ⟨some 4, .mv (.tmp 99), none, []⟩])
 .ret) (.seq (.region false [⟨some 101, .bin .eql (.tmp 21) (.const (.int .i64 6)), none, []⟩,
  ⟨some 100, .mv (.tmp 101), none, []⟩])
 (.cond (.tmp 100) (.seq (.region false [⟨some 102, .load 5 true false (.tmp 2), none, []⟩,
  ⟨some 103, .fadr 2 (.tmp 2), none, []⟩,
  ⟨some 104, .load 1 false false (.tmp 103), none, []⟩,
  ⟨some 105, .mv (.tmp 8), none, []⟩,
  ⟨some 106, .build [.int .i64 0, .int .i64 0, .int .i64 0, .int .i64 0, .int .i64 0] [(0, 1, .const (.int .i64 6)), (2, 1, .tmp 104), (4, 1, .tmp 105)], none, []⟩,
  ⟨some 107, .eqs false 5 (.tmp 102) (.tmp 106), none, []⟩,
  ⟨some 108, .mv (.tmp 107), none, []⟩,
  ⟨some 109, .mv (.tmp 6), some (108, true), []⟩,
  ⟨some 110, .pick (.tmp 108) (.tmp 109) (.const (.bool false)), none, []⟩,
  ⟨some 111, .mv (.tmp 110), none, []⟩,
  ⟨some 112, .mv (.tmp 8), some (111, true), []⟩,
  ⟨some 113, .bin .geq (.tmp 112) (.const (.int .i64 0)), some (111, true), []⟩,
  ⟨some 114, .pick (.tmp 111) (.tmp 113) (.const (.bool false)), none, []⟩,
  ⟨some 115, .mv (.tmp 114), none, []⟩,
  ⟨some 116, .mv (.tmp 8), some (115, true), []⟩,
  ⟨some 117, .bin .lss (.tmp 116) (.const (.int .i64 3)), some (115, true), []⟩,
  ⟨some 118, .pick (.tmp 115) (.tmp 117) (.const (.bool false)), none, []⟩,
  ⟨some 4, .mv (.tmp 118), none, []⟩])
 .ret) (.seq (.region false [⟨some 120, .bin .eql (.tmp 21) (.const (.int .i64 7)), none, []⟩,
  ⟨some 119, .mv (.tmp 120), none, []⟩])
 (.cond (.tmp 119) (.seq (.region false [⟨some 121, .load 5 true false (.tmp 2), none, []⟩,
  ⟨some 122, .fadr 1 (.tmp 2), none, []⟩,
  ⟨some 123, .load 1 false false (.tmp 122), none, []⟩,
  ⟨some 124, .mv (.tmp 8), none, []⟩,
  ⟨some 125, .build [.int .i64 0, .int .i64 0, .int .i64 0, .int .i64 0, .int .i64 0] [(0, 1, .const (.int .i64 7)), (1, 1, .tmp 123), (4, 1, .tmp 124)], none, []⟩,
  ⟨some 126, .eqs false 5 (.tmp 121) (.tmp 125), none, []⟩,
  ⟨some 127, .mv (.tmp 126), none, []⟩,
  ⟨some 128, .mv (.tmp 5), some (127, true), []⟩,
  ⟨some 129, .pick (.tmp 127) (.tmp 128) (.const (.bool false)), none, []⟩,
  ⟨some 130, .mv (.tmp 129), none, []⟩,
  ⟨some 131, .mv (.tmp 8), some (130, true), []⟩,
  ⟨some 132, .bin .geq (.tmp 131) (.const (.int .i64 0)), some (130, true), []⟩,
  ⟨some 133, .pick (.tmp 130) (.tmp 132) (.const (.bool false)), none, []⟩,
  ⟨some 134, .mv (.tmp 133), none, []⟩,
  ⟨some 135, .mv (.tmp 8), some (134, true), []⟩,
  ⟨some 136, .bin .lss (.tmp 135) (.const (.int .i64 3)), some (134, true), []⟩,
  ⟨some 137, .pick (.tmp 134) (.tmp 136) (.const (.bool false)), none, []⟩,
  ⟨some 4, .mv (.tmp 137), none, []⟩])
 .ret) (.seq (.region false [⟨some 139, .bin .eql (.tmp 21) (.const (.int .i64 9)), none, []⟩,
  ⟨some 138, .mv (.tmp 139), none, []⟩])
 (.cond (.tmp 138) (.seq (.region false [⟨some 140, .load 5 true false (.tmp 2), none, []⟩,
  ⟨some 141, .fadr 2 (.tmp 2), none, []⟩,
  ⟨some 142, .load 1 false false (.tmp 141), none, []⟩,
  ⟨some 143, .build [.int .i64 0, .int .i64 0, .int .i64 0, .int .i64 0, .int .i64 0] [(0, 1, .const (.int .i64 9)), (2, 1, .tmp 142)], none, []⟩,
  ⟨some 144, .eqs false 5 (.tmp 140) (.tmp 143), none, []⟩,
  ⟨some 145, .mv (.tmp 144), none, []⟩,
  ⟨some 146, .mv (.tmp 6), some (145, true), []⟩,
  ⟨some 147, .pick (.tmp 145) (.tmp 146) (.const (.bool false)), none, []⟩,
  ⟨some 4, .mv (.tmp 147), none, []⟩])
 .ret) (.seq (.seq (.region false [⟨some 149, .bin .eql (.tmp 21) (.const (.int .i64 8)), none, []⟩,
  ⟨some 148, .mv (.tmp 149), none, []⟩])
 (.cond (.tmp 148) .skip (.region false [⟨some 150, .bin .eql (.tmp 21) (.const (.int .i64 10)), none, []⟩,
  ⟨some 148, .mv (.tmp 150), none, []⟩])))
 (.cond (.tmp 148) (.seq (.region false [⟨some 151, .load 5 true false (.tmp 2), none, []⟩,
  ⟨some 152, .fadr 0 (.tmp 2), none, []⟩,
  ⟨some 153, .load 1 false false (.tmp 152), none, []⟩,
  ⟨some 154, .build [.int .i64 0, .int .i64 0, .int .i64 0, .int .i64 0, .int .i64 0] [(0, 1, .tmp 153)], none, []⟩,
  ⟨some 155, .eqs false 5 (.tmp 151) (.tmp 154), none, []⟩,
  ⟨some 4, .mv (.tmp 155), none, []⟩])
 .ret) .skip))))))))))))))))))))
 (.seq (.region false [⟨some 4, .mv (.const (.bool false)), none, []⟩])
 .ret)))) }
noncomputable def p14600 : ProcT := { kind := .fn, ins := [0, 1], bins := [], res := [.tmp 4], code := (.seq (.region false [⟨some 4, .mv (.const (.int .i64 0)), none, []⟩])
 (.seq (.region false [⟨some 5, .mv (.tmp 1), none, []⟩,
  ⟨some 6, .mv (.tmp 0), none, []⟩,
  ⟨some 7, .len (.tmp 6), none, []⟩,
  ⟨some 8, .bin .sub (.tmp 5) (.tmp 7), none, []⟩,
  ⟨some 1, .mv (.tmp 8), none, []⟩])
 (.seq (.seq (.region false [⟨some 9, .mv (.tmp 1), none, []⟩,
  ⟨some 10, .bin .lss (.tmp 9) (.const (.int .i64 0)), none, []⟩])
 (.cond (.tmp 10) (.seq (.region false [⟨some 4, .mv (.const (.int .i64 (-1))), none, []⟩])
 .ret) .skip))
 (.seq (.region false [⟨some 11, .mv (.tmp 1), none, []⟩,
  ⟨some 4, .mv (.tmp 11), none, []⟩])
 .ret)))) }
noncomputable def p14700 : ProcT := { kind := .fn, ins := [0], bins := [], res := [.tmp 2], code := (.seq (.region false [⟨some 2, .mv (.const (.bool false)), none, []⟩])
 (.seq (.region false [⟨some 5, .mv (.tmp 0), none, []⟩,
  ⟨some 6, .len (.tmp 5), none, []⟩,
  ⟨some 3, .mv (.tmp 6), none, []⟩])
 (.seq (.seq (.region false [⟨some 7, .mv (.tmp 3), none, []⟩,
  ⟨some 8, .call 1600 0 [.tmp 7, .const (.int .i64 1), .const (.int .i64 600)], none, []⟩,
  ⟨some 9, .un .not (.tmp 8), none, []⟩])
 (.cond (.tmp 9) (.seq (.region false [⟨some 2, .mv (.const (.bool false)), none, []⟩])
 .ret) .skip))
 (.seq (.seq (.region false [⟨some 4, .mv (.const (.int .i64 0)), none, []⟩])
 (.block 0 (.label 14701)))
 (.seq (.region false [⟨some 22, .mv (.tmp 0), none, []⟩,
  ⟨some 23, .mv (.tmp 3), none, []⟩,
  ⟨some 24, .bin .sub (.tmp 23) (.const (.int .i64 1)), none, []⟩,
  ⟨some 25, .iadr 5 (.tmp 22) (.tmp 24), none, []⟩,
  ⟨some 26, .fadr 0 (.tmp 25), none, []⟩,
  ⟨some 27, .load 1 false false (.tmp 26), none, []⟩,
  ⟨some 28, .bin .eql (.tmp 27) (.const (.int .i64 10)), none, []⟩,
  ⟨some 29, .mv (.tmp 28), none, []⟩,
  ⟨some 30, .mv (.tmp 0), some (29, false), []⟩,
  ⟨some 31, .mv (.tmp 3), some (29, false), []⟩,
  ⟨some 32, .bin .sub (.tmp 31) (.const (.int .i64 1)), some (29, false), []⟩,
  ⟨some 33, .iadr 5 (.tmp 30) (.tmp 32), some (29, false), []⟩,
  ⟨some 34, .fadr 0 (.tmp 33), some (29, false), []⟩,
  ⟨some 35, .load 1 false false (.tmp 34), some (29, false), []⟩,
  ⟨some 36, .bin .eql (.tmp 35) (.const (.int .i64 4)), some (29, false), []⟩,
  ⟨some 37, .pick (.tmp 29) (.const (.bool true)) (.tmp 36), none, []⟩,
  ⟨some 2, .mv (.tmp 37), none, []⟩])
 .ret))))) }
noncomputable def p14701 : ProcT := { kind := .loop, ins := [0, 3, 4], bins := [], outs := [0, 2, 3], bouts := [], code := (.seq (.seq (.region false [⟨some 10, .mv (.tmp 4), none, []⟩,
  ⟨some 11, .mv (.tmp 3), none, []⟩,
  ⟨some 12, .bin .lss (.tmp 10) (.tmp 11), none, []⟩])
 (.cond (.tmp 12) .skip (.exit 0)))
 (.seq (.block 1 (.seq (.region false [⟨some 15, .mv (.tmp 0), none, []⟩,
  ⟨some 16, .mv (.tmp 4), none, []⟩,
  ⟨some 17, .iadr 5 (.tmp 15) (.tmp 16), none, []⟩,
  ⟨some 18, .load 5 true false (.tmp 17), none, []⟩,
  ⟨some 19, .mv (.tmp 3), none, []⟩,
  ⟨some 20, .call 12000 0 [.tmp 18, .tmp 19], none, []⟩,
  ⟨some 21, .un .not (.tmp 20), none, []⟩])
 (.cond (.tmp 21) (.seq (.region false [⟨some 2, .mv (.const (.bool false)), none, []⟩])
 .ret) .skip)))
 (.region false [⟨some 13, .mv (.tmp 4), none, []⟩,
  ⟨some 14, .bin .add (.tmp 13) (.const (.int .i64 1)), none, []⟩,
  ⟨some 4, .mv (.tmp 14), none, []⟩]))) }
noncomputable def p14800 : ProcT := { kind := .fn, ins := [0], bins := [], res := [.tmp 2], code := (.seq (.region false [⟨some 2, .mv (.const (.sl (.own false) .quad [])), none, []⟩])
 (.seq (.region false [⟨some 5, .mv (.tmp 0), none, []⟩,
  ⟨some 6, .len (.tmp 5), none, []⟩,
  ⟨some 7, .mksl 100 .quad (.tmp 6) (.tmp 6), none, []⟩,
  ⟨some 3, .mv (.take 7), none, []⟩])
 (.seq (.seq (.region false [⟨some 4, .mv (.const (.int .i64 0)), none, []⟩])
 (.block 0 (.label 14801)))
 (.seq (.region false [⟨some 22, .mv (.take 3), none, []⟩,
  ⟨some 2, .mv (.take 22), none, []⟩])
 .ret)))) }
noncomputable def p14801 : ProcT := { kind := .loop, ins := [0, 3, 4], bins := [100], outs := [2, 3], bouts := [100], code := (.seq (.seq (.region false [⟨some 8, .mv (.tmp 4), none, []⟩,
  ⟨some 9, .mv (.tmp 0), none, []⟩,
  ⟨some 10, .len (.tmp 9), none, []⟩,
  ⟨some 11, .bin .lss (.tmp 8) (.tmp 10), none, []⟩])
 (.cond (.tmp 11) .skip (.exit 0)))
 (.seq (.block 1 (.region false [⟨some 14, .mv (.tmp 3), none, []⟩,
  ⟨some 15, .mv (.tmp 4), none, []⟩,
  ⟨some 16, .mv (.tmp 0), none, []⟩,
  ⟨some 17, .mv (.tmp 4), none, []⟩,
  ⟨some 18, .iadr 5 (.tmp 16) (.tmp 17), none, []⟩,
  ⟨some 19, .load 5 true false (.tmp 18), none, []⟩,
  ⟨some 20, .call 12100 0 [.tmp 19], none, []⟩,
  ⟨some 21, .iadr 5 (.tmp 14) (.tmp 15), none, []⟩,
  ⟨none, .store 5 (.tmp 21) (.tmp 20), none, []⟩]))
 (.region false [⟨some 12, .mv (.tmp 4), none, []⟩,
  ⟨some 13, .bin .add (.tmp 12) (.const (.int .i64 1)), none, []⟩,
  ⟨some 4, .mv (.tmp 13), none, []⟩]))) }
noncomputable def p14900 : ProcT := { kind := .fn, ins := [0], bins := [], res := [.tmp 2], code := (.seq (.region false [⟨some 2, .mv (.const (.bool false)), none, []⟩])
 (.seq (.seq (.region false [⟨some 6, .mv (.tmp 0), none, []⟩,
  ⟨some 7, .len (.tmp 6), none, []⟩,
  ⟨some 8, .bin .lss (.tmp 7) (.const (.int .i64 1)), none, []⟩,
  ⟨some 9, .mv (.tmp 8), none, []⟩,
  ⟨some 10, .mv (.tmp 0), some (9, false), []⟩,
  ⟨some 11, .len (.tmp 10), some (9, false), []⟩,
  ⟨some 12, .bin .gtr (.tmp 11) (.const (.int .i64 600)), some (9, false), []⟩,
  ⟨some 13, .pick (.tmp 9) (.const (.bool true)) (.tmp 12), none, []⟩])
 (.cond (.tmp 13) (.seq (.region false [⟨some 2, .mv (.const (.bool false)), none, []⟩])
 .ret) .skip))
 (.seq (.seq (.region false [⟨some 14, .mv (.tmp 0), none, []⟩,
  ⟨some 15, .len (.tmp 14), none, []⟩,
  ⟨some 16, .mv (.const (.int .i64 0)), none, []⟩])
 (.block 0 (.label 14901)))
 (.seq (.region false [⟨some 26, .mv (.tmp 0), none, []⟩,
  ⟨some 27, .mv (.tmp 0), none, []⟩,
  ⟨some 28, .len (.tmp 27), none, []⟩,
  ⟨some 29, .bin .sub (.tmp 28) (.const (.int .i64 1)), none, []⟩,
  ⟨some 30, .iadr 5 (.tmp 26) (.tmp 29), none, []⟩,
  ⟨some 31, .fadr 0 (.tmp 30), none, []⟩,
  ⟨some 32, .load 1 false false (.tmp 31), none, []⟩,
  ⟨some 5, .mv (.tmp 32), none, []⟩])
 (.seq (.region false [⟨some 33, .mv (.tmp 5), none, []⟩,
  ⟨some 34, .bin .eql (.tmp 33) (.const (.int .i64 10)), none, []⟩,
  ⟨some 35, .mv (.tmp 34), none, []⟩,
  ⟨some 36, .mv (.tmp 5), some (35, false), []⟩,
  ⟨some 37, .bin .eql (.tmp 36) (.const (.int .i64 4)), some (35, false), []⟩,
  ⟨some 38, .pick (.tmp 35) (.const (.bool true)) (.tmp 37), none, []⟩,
  ⟨some 2, .mv (.tmp 38), none, []⟩])
 .ret))))) }
noncomputable def p14901 : ProcT := { kind := .loop, ins := [0, 14, 15, 16], bins := [], outs := [0, 2], bouts := [], code := (.seq (.region false [⟨some 17, .bin .lss (.tmp 16) (.tmp 15), none, []⟩])
 (.seq (.cond (.tmp 17) .skip (.exit 0))
 (.seq (.block 1 (.seq (.region false [⟨some 18, .iadr 5 (.tmp 14) (.tmp 16), none, []⟩,
  ⟨some 19, .load 5 true false (.tmp 18), none, []⟩,
  ⟨some 4, .alloc 100 [.int .i64 0, .int .i64 0, .int .i64 0, .int .i64 0, .int .i64 0], none, []⟩,
  ⟨none, .store 5 (.tmp 4) (.tmp 19), none, []⟩])
 (.seq (.region false [⟨some 20, .load 5 true false (.tmp 4), none, []⟩,
  ⟨some 21, .mv (.tmp 0), none, []⟩,
  ⟨some 22, .len (.tmp 21), none, []⟩,
  ⟨some 23, .call 12300 0 [.tmp 20, .tmp 22], none, []⟩,
  ⟨some 24, .un .not (.tmp 23), none, []⟩])
 (.cond (.tmp 24) (.seq (.region false [⟨some 2, .mv (.const (.bool false)), none, []⟩])
 .ret) .skip))))
 (.region false [⟨some 25, .bin .add (.tmp 16) (.const (.int .i64 1)), none, []⟩,
  ⟨some 16, .mv (.tmp 25), none, []⟩])))) }
noncomputable def p15000 : ProcT := { kind := .fn, ins := [0, 1], bins := [], res := [.tmp 4], code := (.seq (.region false [⟨some 2, .box 100 (.tmp 0), none, []⟩,
  ⟨some 3, .box 101 (.tmp 1), none, []⟩,
  ⟨some 4, .mv (.const (.bool false)), none, []⟩])
 (.seq (.seq (.region false [⟨some 5, .fadr 0 (.tmp 2), none, []⟩,
  ⟨some 6, .load 1 false false (.tmp 5), none, []⟩,
  ⟨some 7, .fadr 0 (.tmp 3), none, []⟩,
  ⟨some 8, .load 1 false false (.tmp 7), none, []⟩,
  ⟨some 9, .bin .neq (.tmp 6) (.tmp 8), none, []⟩])
 (.cond (.tmp 9) (.seq (.region false [⟨some 4, .mv (.const (.bool false)), none, []⟩])
 .ret) .skip))
 (.seq (.seq (.region false [⟨some 10, .fadr 1 (.tmp 2), none, []⟩,
  ⟨some 11, .load 1 false false (.tmp 10), none, []⟩,
  ⟨some 12, .fadr 1 (.tmp 3), none, []⟩,
  ⟨some 13, .load 1 false false (.tmp 12), none, []⟩,
  ⟨some 14, .bin .neq (.tmp 11) (.tmp 13), none, []⟩])
 (.cond (.tmp 14) (.seq (.region false [⟨some 4, .mv (.const (.bool false)), none, []⟩])
 .ret) .skip))
 (.seq (.seq (.region false [⟨some 15, .fadr 2 (.tmp 2), none, []⟩,
  ⟨some 16, .load 1 false false (.tmp 15), none, []⟩,
  ⟨some 17, .fadr 2 (.tmp 3), none, []⟩,
  ⟨some 18, .load 1 false false (.tmp 17), none, []⟩,
  ⟨some 19, .bin .neq (.tmp 16) (.tmp 18), none, []⟩])
 (.cond (.tmp 19) (.seq (.region false [⟨some 4, .mv (.const (.bool false)), none, []⟩])
 .ret) .skip))
 (.seq (.seq (.region false [⟨some 20, .fadr 3 (.tmp 2), none, []⟩,
  ⟨some 21, .load 1 false false (.tmp 20), none, []⟩,
  ⟨some 22, .fadr 3 (.tmp 3), none, []⟩,
  ⟨some 23, .load 1 false false (.tmp 22), none, []⟩,
  ⟨some 24, .bin .neq (.tmp 21) (.tmp 23), none, []⟩])
 (.cond (.tmp 24) (.seq (.region false [⟨some 4, .mv (.const (.bool false)), none, []⟩])
 .ret) .skip))
 (.seq (.seq (.region false [⟨some 25, .fadr 4 (.tmp 2), none, []⟩,
  ⟨some 26, .load 1 false false (.tmp 25), none, []⟩,
  ⟨some 27, .fadr 4 (.tmp 3), none, []⟩,
  ⟨some 28, .load 1 false false (.tmp 27), none, []⟩,
  ⟨some 29, .bin .neq (.tmp 26) (.tmp 28), none, []⟩])
 (.cond (.tmp 29) (.seq (.region false [⟨some 4, .mv (.const (.bool false)), none, []⟩])
 .ret) .skip))
 (.seq (.region false [⟨some 4, .mv (.const (.bool true)), none, []⟩])
 .ret))))))) }
noncomputable def p15100 : ProcT := { kind := .fn, ins := [0, 1], bins := [], res := [.tmp 4], code := (.seq (.region false [⟨some 4, .mv (.const (.bool false)), none, []⟩])
 (.seq (.seq (.region false [⟨some 6, .mv (.tmp 0), none, []⟩,
  ⟨some 7, .len (.tmp 6), none, []⟩,
  ⟨some 8, .mv (.tmp 1), none, []⟩,
  ⟨some 9, .len (.tmp 8), none, []⟩,
  ⟨some 10, .bin .neq (.tmp 7) (.tmp 9), none, []⟩])
 (.cond (.tmp 10) (.seq (.region false [⟨some 4, .mv (.const (.bool false)), none, []⟩])
 .ret) .skip))
 (.seq (.seq (.region false [⟨some 5, .mv (.const (.int .i64 0)), none, []⟩])
 (.block 0 (.label 15101)))
 (.seq (.region false [⟨some 4, .mv (.const (.bool true)), none, []⟩])
 .ret)))) }
noncomputable def p15101 : ProcT := { kind := .loop, ins := [0, 1, 5], bins := [], outs := [4], bouts := [], code := (.seq (.seq (.region false [⟨some 11, .mv (.tmp 5), none, []⟩,
  ⟨some 12, .mv (.tmp 0), none, []⟩,
  ⟨some 13, .len (.tmp 12), none, []⟩,
  ⟨some 14, .bin .lss (.tmp 11) (.tmp 13), none, []⟩])
 (.cond (.tmp 14) .skip (.exit 0)))
 (.seq (.block 1 (.seq (.region true [⟨some 17, .mv (.tmp 0), none, []⟩,
  ⟨some 18, .mv (.tmp 5), none, []⟩,
  ⟨some 19, .iadr 5 (.tmp 17) (.tmp 18), none, []⟩,
  ⟨some 20, .load 5 true false (.tmp 19), none, []⟩,
  ⟨some 21, .mv (.tmp 1), none, []⟩,
  ⟨some 22, .mv (.tmp 5), none, []⟩,
  ⟨some 23, .iadr 5 (.tmp 21) (.tmp 22), none, []⟩,
  ⟨some 24, .load 5 true false (.tmp 23), none, []⟩,
  ⟨some 25, .call 15000 0 [.tmp 20, .tmp 24], none, []⟩,
  ⟨some 26, .un .not (.tmp 25), none, []⟩])
 (.cond (.tmp 26) (.seq (.region false [⟨some 4, .mv (.const (.bool false)), none, []⟩])
 .ret) .skip)))
 (.region false [⟨some 15, .mv (.tmp 5), none, []⟩,
  ⟨some 16, .bin .add (.tmp 15) (.const (.int .i64 1)), none, []⟩,
  ⟨some 5, .mv (.tmp 16), none, []⟩]))) }
noncomputable def p15200 : ProcT := { kind := .fn, ins := [0], bins := [], res := [.tmp 2], code := (.seq (.region false [⟨some 2, .mv (.const (.bool false)), none, []⟩])
 (.seq (.region false [⟨some 3, .mv (.const (.int .i64 1048576)), none, []⟩])
 (.seq (.region false [⟨some 7, .mv (.tmp 0), none, []⟩,
  ⟨some 8, .mv (.tmp 3), none, []⟩,
  ⟨some 9, .call 14600 0 [.tmp 7, .tmp 8], none, []⟩,
  ⟨some 3, .mv (.tmp 9), none, []⟩])
 (.seq (.seq (.region false [⟨some 10, .mv (.tmp 3), none, []⟩,
  ⟨some 11, .bin .lss (.tmp 10) (.const (.int .i64 0)), none, []⟩])
 (.cond (.tmp 11) (.seq (.region false [⟨some 2, .mv (.const (.bool true)), none, []⟩])
 .ret) .skip))
 (.seq (.region false [⟨some 12, .mv (.tmp 0), none, []⟩,
  ⟨some 13, .call 14800 0 [.tmp 12], none, []⟩,
  ⟨some 14, .call 14700 0 [.tmp 13], none, []⟩,
  ⟨some 4, .mv (.tmp 14), none, []⟩])
 (.seq (.region false [⟨some 15, .mv (.tmp 0), none, []⟩,
  ⟨some 16, .call 14800 0 [.tmp 15], none, []⟩,
  ⟨some 5, .mv (.take 16), none, []⟩])
 (.seq (.region false [⟨some 17, .mv (.tmp 5), none, []⟩,
  ⟨some 18, .call 14900 0 [.tmp 17], none, []⟩,
  ⟨some 6, .mv (.tmp 18), none, []⟩])
 (.seq (.seq (.region false [⟨some 19, .mv (.tmp 6), none, []⟩,
  ⟨some 20, .mv (.tmp 4), none, []⟩,
  ⟨some 21, .eqb true (.tmp 19) (.tmp 20), none, []⟩])
 (.cond (.tmp 21) (.seq (.region false [⟨some 2, .mv (.const (.bool false)), none, []⟩])
 .ret) .skip))
 (.seq (.seq (.region false [⟨some 22, .mv (.tmp 5), none, []⟩,
  ⟨some 23, .mv (.tmp 0), none, []⟩,
  ⟨some 24, .call 14800 0 [.tmp 23], none, []⟩,
  ⟨some 25, .call 15100 0 [.tmp 22, .tmp 24], none, []⟩,
  ⟨some 26, .un .not (.tmp 25), none, []⟩])
 (.cond (.tmp 26) (.seq (.region false [⟨some 2, .mv (.const (.bool false)), none, []⟩])
 .ret) .skip))
 (.seq (.region false [⟨some 2, .mv (.const (.bool true)), none, []⟩])
 .ret)))))))))) }
noncomputable def tab : List (Nat × ProcT) := [(1000, p1000), (1600, p1600), (1700, p1700), (5000, p5000), (6400, p6400), (11800, p11800), (11900, p11900), (12000, p12000), (12100, p12100), (12200, p12200), (12300, p12300), (14600, p14600), (14700, p14700), (14701, p14701), (14800, p14800), (14801, p14801), (14900, p14900), (14901, p14901), (15000, p15000), (15100, p15100), (15101, p15101), (15200, p15200)]
noncomputable abbrev Tb : Nat → Option ProcT := (Vs.look · tab)
@[reducible] def s1000 : Sig := [⟨.ret, [.one], [], [.h (.bool)]⟩]
@[reducible] def s1600 : Sig := [⟨.ret, [.one], [], [.h (.bool)]⟩]
@[reducible] def s1700 : Sig := [⟨.ret, [.one], [], [.h (.bool)]⟩]
@[reducible] def s5000 : Sig := [⟨.ret, [.one], [], [.h (.bool)]⟩]
@[reducible] def s6400 : Sig := [⟨.ret, [.one], [], [.h (.bool)]⟩]
@[reducible] def s11800 : Sig := [⟨.ret, [.one], [], [.h (.bool)]⟩]
@[reducible] def s11900 : Sig := [⟨.ret, [.one], [], [.h (.bool)]⟩]
@[reducible] def s12000 : Sig := [⟨.ret, [.one], [], [.h (.bool)]⟩]
@[reducible] def s12100 : Sig := [⟨.ret, [.one], [], [.h (.agg .quad)]⟩]
@[reducible] def s12200 : Sig := [⟨.ret, [.one], [], [.h (.bool)]⟩]
@[reducible] def s12300 : Sig := [⟨.ret, [.one], [], [.h (.bool)]⟩]
@[reducible] def s14600 : Sig := [⟨.ret, [.one], [], [.h (.int .i64)]⟩]
@[reducible] def s14700 : Sig := [⟨.ret, [.one], [], [.h (.bool)]⟩]
@[reducible] def s14701 : Sig := [⟨.exit 0, [.one, .one, .one], [], [.h (.sl .quad), .undef, .h (.int .i64)]⟩, ⟨.ret, [.one, .one, .one], [], [.h (.sl .quad), .h (.bool), .h (.int .i64)]⟩]
@[reducible] def s14800 : Sig := [⟨.ret, [.one], [], [.h (.sl .quad)]⟩]
@[reducible] def s14801 : Sig := [⟨.exit 0, [.one, .one], [.rows], [.undef, .bs 100, .h (.sl .quad)]⟩]
@[reducible] def s14900 : Sig := [⟨.ret, [.one], [], [.h (.bool)]⟩]
@[reducible] def s14901 : Sig := [⟨.exit 0, [.one, .one], [], [.h (.sl .quad), .undef]⟩, ⟨.ret, [.one, .one], [], [.h (.sl .quad), .h (.bool)]⟩]
@[reducible] def s15000 : Sig := [⟨.ret, [.one], [], [.h (.bool)]⟩]
@[reducible] def s15100 : Sig := [⟨.ret, [.one], [], [.h (.bool)]⟩]
@[reducible] def s15101 : Sig := [⟨.exit 0, [.one], [], [.undef]⟩, ⟨.ret, [.one], [], [.h (.bool)]⟩]
@[reducible] def s15200 : Sig := [⟨.ret, [.one], [], [.h (.bool)]⟩]
def sgs : List (Nat × Sig) := [(1000, s1000), (1600, s1600), (1700, s1700), (5000, s5000), (6400, s6400), (11800, s11800), (11900, s11900), (12000, s12000), (12100, s12100), (12200, s12200), (12300, s12300), (14600, s14600), (14700, s14700), (14701, s14701), (14800, s14800), (14801, s14801), (14900, s14900), (14901, s14901), (15000, s15000), (15100, s15100), (15101, s15101), (15200, s15200)]
def sg (g : Nat) : Sig := (Vs.look g sgs).getD []
def GT (i : Nat) : List TV := []
noncomputable def laws_FnExactCodeValid (a0 : List Quad) : Option (Bool) := callTy Tb GT s15200 15200 [.sl .share .quad a0] []
noncomputable def laws_szQuadS (a0 : List Quad) (a1 : Int) : Option (Int) := callTy Tb GT s14600 14600 [.sl .share .quad a0, .int .i64 a1] []
noncomputable def laws_toQuadS (a0 : List Quad) : Option (List Quad) := callTy Tb GT s14800 14800 [.sl .share .quad a0] []
noncomputable def spec_CodeValid (a0 : List Quad) : Option (Bool) := callTy Tb GT s14700 14700 [.sl .share .quad a0] []
noncomputable def impl_CodeValid (a0 : List Quad) : Option (Bool) := callTy Tb GT s14900 14900 [.sl .share .quad a0] []
noncomputable def laws_eqQuadS (a0 : List Quad) (a1 : List Quad) : Option (Bool) := callTy Tb GT s15100 15100 [.sl .share .quad a0, .sl .share .quad a1] []
noncomputable def laws_toQuad (a0 : Quad) : Option (Quad) := callTy Tb GT s12100 12100 [.agg (rowT .quad a0)] []
noncomputable def laws_toQuadS_l1 (t0 : List Quad) (t4 : Int) (b100 : List Quad) : Option (List Quad) := callTy Tb GT s14801 14801 [.sl .share .quad t0, .bs 100, .int .i64 t4] [.rows .quad b100]
noncomputable def spec_l6In (a0 : Int) (a1 : Int) (a2 : Int) : Option (Bool) := callTy Tb GT s1600 1600 [.int .i64 a0, .int .i64 a1, .int .i64 a2] []
noncomputable def spec_QuadValid (a0 : Quad) (a1 : Int) : Option (Bool) := callTy Tb GT s12000 12000 [.agg (rowT .quad a0), .int .i64 a1] []
noncomputable def spec_CodeValid_l1 (t0 : List Quad) (t3 : Int) (t4 : Int) : Option ((List Quad × Int) ⊕ (List Quad × Bool × Int)) := callTy Tb GT s14701 14701 [.sl .share .quad t0, .int .i64 t3, .int .i64 t4] []
noncomputable def impl_QuadValid (a0 : Quad) (a1 : Int) : Option (Bool) := callTy Tb GT s12300 12300 [.agg (rowT .quad a0), .int .i64 a1] []
noncomputable def impl_CodeValid_l1 (t0 : List Quad) (t14 : List Quad) (t15 : Int) (t16 : Int) : Option (List Quad ⊕ (List Quad × Bool)) := callTy Tb GT s14901 14901 [.sl .share .quad t0, .sl .share .quad t14, .int .i64 t15, .int .i64 t16] []
noncomputable def laws_eqQuad (a0 : Quad) (a1 : Quad) : Option (Bool) := callTy Tb GT s15000 15000 [.agg (rowT .quad a0), .agg (rowT .quad a1)] []
noncomputable def laws_eqQuadS_l1 (t0 : List Quad) (t1 : List Quad) (t5 : Int) : Option (Unit ⊕ Bool) := callTy Tb GT s15101 15101 [.sl .share .quad t0, .sl .share .quad t1, .int .i64 t5] []
noncomputable def spec_l21Regs (a0 : Quad) (a1 : Bool) (a2 : Bool) (a3 : Bool) : Option (Bool) := callTy Tb GT s11900 11900 [.agg (rowT .quad a0), .bool a1, .bool a2, .bool a3] []
noncomputable def spec_WordValid (a0 : Int) : Option (Bool) := callTy Tb GT s6400 6400 [.int .i64 a0] []
noncomputable def spec_OpValid (a0 : Int) : Option (Bool) := callTy Tb GT s1700 1700 [.int .i64 a0] []
noncomputable def impl_isReg (a0 : Int) : Option (Bool) := callTy Tb GT s12200 12200 [.int .i64 a0] []
noncomputable def impl_WordValid (a0 : Int) : Option (Bool) := callTy Tb GT s5000 5000 [.int .i64 a0] []
noncomputable def impl_OpValid (a0 : Int) : Option (Bool) := callTy Tb GT s1000 1000 [.int .i64 a0] []
noncomputable def spec_l21Reg (a0 : Int) (a1 : Bool) : Option (Bool) := callTy Tb GT s11800 11800 [.int .i64 a0, .bool a1] []
end Go.TFnExactCodeValid
