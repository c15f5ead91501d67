import Derived.Test.YtohpofejamdhfaaLkA
import Derived.Test.YtohpofejamdhfaaPm2
import Derived.Test.YtohpofejamdhfaaPm4

set_option linter.unusedVariables false
namespace Go.TFnExactRingTake
open Go Go.RowKit Go.Vs Go.Tv

noncomputable def p1600 : ProcT := { kind := .fn, ins := [0, 1, 2], bins := [], res := [.tmp 6], code := (.seq (.region false [⟨some 6, .mv (.const (.bool false)), none, []⟩])
 (.seq (.region false [⟨some 7, .mv (.tmp 0), none, []⟩,
  ⟨some 8, .mv (.tmp 1), none, []⟩,
  ⟨some 9, .bin .geq (.tmp 7) (.tmp 8), none, []⟩,
  ⟨some 10, .mv (.tmp 9), none, []⟩,
  ⟨some 11, .mv (.tmp 0), some (10, true), []⟩,
  ⟨some 12, .mv (.tmp 2), some (10, true), []⟩,
  ⟨some 13, .bin .leq (.tmp 11) (.tmp 12), some (10, true), []⟩,
  ⟨some 14, .pick (.tmp 10) (.tmp 13) (.const (.bool false)), none, []⟩,
  ⟨some 6, .mv (.tmp 14), none, []⟩])
 .ret)) }
noncomputable def p5000 : ProcT := { kind := .fn, ins := [0], bins := [], res := [.tmp 2], code := (.seq (.region false [⟨some 2, .mv (.const (.bool false)), none, []⟩])
 (.seq (.region false [⟨some 3, .mv (.tmp 0), none, []⟩,
  ⟨some 4, .bin .geq (.tmp 3) (.const (.int .i64 (-2147483648))), none, []⟩,
  ⟨some 5, .mv (.tmp 4), none, []⟩,
  ⟨some 6, .mv (.tmp 0), some (5, true), []⟩,
  ⟨some 7, .bin .leq (.tmp 6) (.const (.int .i64 2147483647)), some (5, true), []⟩,
  ⟨some 8, .pick (.tmp 5) (.tmp 7) (.const (.bool false)), none, []⟩,
  ⟨some 2, .mv (.tmp 8), none, []⟩])
 .ret)) }
noncomputable def p5100 : ProcT := { kind := .fn, ins := [0], bins := [], res := [.tmp 2], code := (.seq (.region false [⟨some 2, .mv (.const (.bool false)), none, []⟩])
 (.seq (.seq (.region false [⟨some 5, .mv (.tmp 0), none, []⟩,
  ⟨some 6, .len (.tmp 5), none, []⟩,
  ⟨some 7, .mv (.const (.int .i64 0)), none, []⟩])
 (.block 0 (.label 5101)))
 (.seq (.region false [⟨some 2, .mv (.const (.bool true)), none, []⟩])
 .ret))) }
noncomputable def p5101 : ProcT := { kind := .loop, ins := [5, 6, 7], bins := [], outs := [2], bouts := [], code := (.seq (.region false [⟨some 8, .bin .lss (.tmp 7) (.tmp 6), none, []⟩])
 (.seq (.cond (.tmp 8) .skip (.exit 0))
 (.seq (.block 1 (.seq (.region false [⟨some 9, .iadr 1 (.tmp 5) (.tmp 7), none, []⟩,
  ⟨some 10, .load 1 false false (.tmp 9), none, []⟩,
  ⟨some 4, .mv (.tmp 10), none, []⟩])
 (.seq (.region false [⟨some 11, .mv (.tmp 4), none, []⟩,
  ⟨some 12, .call 5000 0 [.tmp 11], none, []⟩,
  ⟨some 13, .un .not (.tmp 12), none, []⟩])
 (.cond (.tmp 13) (.seq (.region false [⟨some 2, .mv (.const (.bool false)), none, []⟩])
 .ret) .skip))))
 (.region false [⟨some 14, .bin .add (.tmp 7) (.const (.int .i64 1)), none, []⟩,
  ⟨some 7, .mv (.tmp 14), none, []⟩])))) }
noncomputable def p6400 : ProcT := { kind := .fn, ins := [0], bins := [], res := [.tmp 2], code := (.seq (.region false [⟨some 2, .mv (.const (.bool false)), none, []⟩])
 (.seq (.region false [⟨some 3, .mv (.tmp 0), none, []⟩,
  ⟨some 4, .call 1600 0 [.tmp 3, .const (.int .i64 (-2147483648)), .const (.int .i64 2147483647)], none, []⟩,
  ⟨some 2, .mv (.tmp 4), none, []⟩])
 .ret)) }
noncomputable def p6500 : ProcT := { kind := .fn, ins := [0, 1], bins := [], res := [.tmp 4], code := (.seq (.region false [⟨some 4, .mv (.const (.bool false)), none, []⟩])
 (.seq (.seq (.region false [⟨some 6, .mv (.tmp 0), none, []⟩,
  ⟨some 7, .len (.tmp 6), none, []⟩,
  ⟨some 8, .mv (.tmp 1), none, []⟩,
  ⟨some 9, .bin .neq (.tmp 7) (.tmp 8), none, []⟩])
 (.cond (.tmp 9) (.seq (.region false [⟨some 4, .mv (.const (.bool false)), none, []⟩])
 .ret) .skip))
 (.seq (.seq (.region false [⟨some 5, .mv (.const (.int .i64 0)), none, []⟩])
 (.block 0 (.label 6501)))
 (.seq (.region false [⟨some 4, .mv (.const (.bool true)), none, []⟩])
 .ret)))) }
noncomputable def p6501 : ProcT := { kind := .loop, ins := [0, 5], bins := [], outs := [4], bouts := [], code := (.seq (.seq (.region false [⟨some 10, .mv (.tmp 5), none, []⟩,
  ⟨some 11, .mv (.tmp 0), none, []⟩,
  ⟨some 12, .len (.tmp 11), none, []⟩,
  ⟨some 13, .bin .lss (.tmp 10) (.tmp 12), none, []⟩])
 (.cond (.tmp 13) .skip (.exit 0)))
 (.seq (.block 1 (.seq (.region false [⟨some 16, .mv (.tmp 0), none, []⟩,
  ⟨some 17, .mv (.tmp 5), none, []⟩,
  ⟨some 18, .iadr 1 (.tmp 16) (.tmp 17), none, []⟩,
  ⟨some 19, .load 1 false false (.tmp 18), none, []⟩,
  ⟨some 20, .call 6400 0 [.tmp 19], none, []⟩,
  ⟨some 21, .un .not (.tmp 20), none, []⟩])
 (.cond (.tmp 21) (.seq (.region false [⟨some 4, .mv (.const (.bool false)), none, []⟩])
 .ret) .skip)))
 (.region false [⟨some 14, .mv (.tmp 5), none, []⟩,
  ⟨some 15, .bin .add (.tmp 14) (.const (.int .i64 1)), none, []⟩,
  ⟨some 5, .mv (.tmp 15), none, []⟩]))) }
noncomputable def p7200 : ProcT := { kind := .fn, ins := [0, 1], bins := [], res := [.tmp 4], code := (.seq (.region false [⟨some 4, .mv (.const (.int .i64 0)), none, []⟩])
 (.seq (.region false [⟨some 5, .mv (.tmp 1), none, []⟩,
  ⟨some 6, .mv (.tmp 0), none, []⟩,
  ⟨some 7, .len (.tmp 6), none, []⟩,
  ⟨some 8, .bin .sub (.tmp 5) (.tmp 7), none, []⟩,
  ⟨some 1, .mv (.tmp 8), none, []⟩])
 (.seq (.seq (.region false [⟨some 9, .mv (.tmp 1), none, []⟩,
  ⟨some 10, .bin .lss (.tmp 9) (.const (.int .i64 0)), none, []⟩])
 (.cond (.tmp 10) (.seq (.region false [⟨some 4, .mv (.const (.int .i64 (-1))), none, []⟩])
 .ret) .skip))
 (.seq (.region false [⟨some 11, .mv (.tmp 1), none, []⟩,
  ⟨some 4, .mv (.tmp 11), none, []⟩])
 .ret)))) }
noncomputable def p7800 : ProcT := { kind := .fn, ins := [0], bins := [], res := [.tmp 2], code := (.seq (.region false [⟨some 2, .mv (.const (.sl (.own false) .int [])), none, []⟩])
 (.seq (.region false [⟨some 5, .mv (.tmp 0), none, []⟩,
  ⟨some 6, .len (.tmp 5), none, []⟩,
  ⟨some 7, .mksl 100 .int (.tmp 6) (.tmp 6), none, []⟩,
  ⟨some 3, .mv (.take 7), none, []⟩])
 (.seq (.seq (.region false [⟨some 4, .mv (.const (.int .i64 0)), none, []⟩])
 (.block 0 (.label 7801)))
 (.seq (.region false [⟨some 21, .mv (.take 3), none, []⟩,
  ⟨some 2, .mv (.take 21), none, []⟩])
 .ret)))) }
noncomputable def p7801 : ProcT := { kind := .loop, ins := [0, 3, 4], bins := [100], outs := [2, 3], bouts := [100], code := (.seq (.seq (.region false [⟨some 8, .mv (.tmp 4), none, []⟩,
  ⟨some 9, .mv (.tmp 0), none, []⟩,
  ⟨some 10, .len (.tmp 9), none, []⟩,
  ⟨some 11, .bin .lss (.tmp 8) (.tmp 10), none, []⟩])
 (.cond (.tmp 11) .skip (.exit 0)))
 (.seq (.block 1 (.region false [⟨some 14, .mv (.tmp 3), none, []⟩,
  ⟨some 15, .mv (.tmp 4), none, []⟩,
  ⟨some 16, .mv (.tmp 0), none, []⟩,
  ⟨some 17, .mv (.tmp 4), none, []⟩,
  ⟨some 18, .iadr 1 (.tmp 16) (.tmp 17), none, []⟩,
  ⟨some 19, .load 1 false false (.tmp 18), none, []⟩,
  ⟨some 20, .iadr 1 (.tmp 14) (.tmp 15), none, []⟩,
  ⟨none, .store 1 (.tmp 20) (.tmp 19), none, []⟩]))
 (.region false [⟨some 12, .mv (.tmp 4), none, []⟩,
  ⟨some 13, .bin .add (.tmp 12) (.const (.int .i64 1)), none, []⟩,
  ⟨some 4, .mv (.tmp 13), none, []⟩]))) }
noncomputable def p8400 : ProcT := { kind := .fn, ins := [0, 1], bins := [], res := [.tmp 4], code := (.seq (.region false [⟨some 4, .mv (.const (.bool false)), none, []⟩])
 (.seq (.seq (.region false [⟨some 6, .mv (.tmp 0), none, []⟩,
  ⟨some 7, .len (.tmp 6), none, []⟩,
  ⟨some 8, .mv (.tmp 1), none, []⟩,
  ⟨some 9, .len (.tmp 8), none, []⟩,
  ⟨some 10, .bin .neq (.tmp 7) (.tmp 9), none, []⟩])
 (.cond (.tmp 10) (.seq (.region false [⟨some 4, .mv (.const (.bool false)), none, []⟩])
 .ret) .skip))
 (.seq (.seq (.region false [⟨some 5, .mv (.const (.int .i64 0)), none, []⟩])
 (.block 0 (.label 8401)))
 (.seq (.region false [⟨some 4, .mv (.const (.bool true)), none, []⟩])
 .ret)))) }
noncomputable def p8401 : ProcT := { kind := .loop, ins := [0, 1, 5], bins := [], outs := [4], bouts := [], code := (.seq (.seq (.region false [⟨some 11, .mv (.tmp 5), none, []⟩,
  ⟨some 12, .mv (.tmp 0), none, []⟩,
  ⟨some 13, .len (.tmp 12), none, []⟩,
  ⟨some 14, .bin .lss (.tmp 11) (.tmp 13), none, []⟩])
 (.cond (.tmp 14) .skip (.exit 0)))
 (.seq (.block 1 (.seq (.region true [⟨some 17, .mv (.tmp 0), none, []⟩,
  ⟨some 18, .mv (.tmp 5), none, []⟩,
  ⟨some 19, .iadr 1 (.tmp 17) (.tmp 18), none, []⟩,
  ⟨some 20, .load 1 false false (.tmp 19), none, []⟩,
  ⟨some 21, .mv (.tmp 1), none, []⟩,
  ⟨some 22, .mv (.tmp 5), none, []⟩,
  ⟨some 23, .iadr 1 (.tmp 21) (.tmp 22), none, []⟩,
  ⟨some 24, .load 1 false false (.tmp 23), none, []⟩,
  ⟨some 25, .bin .neq (.tmp 20) (.tmp 24), none, []⟩])
 (.cond (.tmp 25) (.seq (.region false [⟨some 4, .mv (.const (.bool false)), none, []⟩])
 .ret) .skip)))
 (.region false [⟨some 15, .mv (.tmp 5), none, []⟩,
  ⟨some 16, .bin .add (.tmp 15) (.const (.int .i64 1)), none, []⟩,
  ⟨some 5, .mv (.tmp 16), none, []⟩]))) }
noncomputable def p10600 : ProcT := { kind := .fn, ins := [0, 1], bins := [], res := [.tmp 4], code := (.seq (.region false [⟨some 4, .mv (.const (.int .i64 0)), none, []⟩])
 (.seq (.seq (.region false [⟨some 5, .mv (.const (.int .i64 0)), none, []⟩])
 (.block 0 (.label 10601)))
 (.seq (.region false [⟨some 20, .mv (.tmp 1), none, []⟩,
  ⟨some 4, .mv (.tmp 20), none, []⟩])
 .ret))) }
noncomputable def p10601 : ProcT := { kind := .loop, ins := [0, 1, 5], bins := [], outs := [1, 4], bouts := [], code := (.seq (.seq (.region false [⟨some 6, .mv (.tmp 5), none, []⟩,
  ⟨some 7, .mv (.tmp 0), none, []⟩,
  ⟨some 8, .len (.tmp 7), none, []⟩,
  ⟨some 9, .bin .lss (.tmp 6) (.tmp 8), none, []⟩])
 (.cond (.tmp 9) .skip (.exit 0)))
 (.seq (.block 1 (.seq (.seq (.region false [⟨some 12, .mv (.tmp 0), none, []⟩,
  ⟨some 13, .mv (.tmp 5), none, []⟩,
  ⟨some 14, .iadr 1 (.tmp 12) (.tmp 13), none, []⟩,
  ⟨some 15, .load 1 false false (.tmp 14), none, []⟩,
  ⟨some 16, .mv (.tmp 1), none, []⟩,
  ⟨some 17, .bin .neq (.tmp 15) (.tmp 16), none, []⟩])
 (.cond (.tmp 17) (.seq (.region false [⟨some 4, .mv (.const (.int .i64 (-1))), none, []⟩])
 .ret) .skip))
 (.region false [⟨some 18, .mv (.tmp 1), none, []⟩,
  ⟨some 19, .bin .add (.tmp 18) (.const (.int .i64 1)), none, []⟩,
  ⟨some 1, .mv (.tmp 19), none, []⟩])))
 (.region false [⟨some 10, .mv (.tmp 5), none, []⟩,
  ⟨some 11, .bin .add (.tmp 10) (.const (.int .i64 1)), none, []⟩,
  ⟨some 5, .mv (.tmp 11), none, []⟩]))) }
noncomputable def p16200 : ProcT := { kind := .fn, ins := [0, 1], bins := [], res := [.tmp 4], code := (.seq (.region false [⟨some 2, .box 100 (.tmp 0), none, []⟩,
  ⟨some 4, .mv (.const (.int .i64 0)), none, []⟩])
 (.seq (.region false [⟨some 5, .fadr 3 (.tmp 2), none, []⟩,
  ⟨some 6, .load 1 false false (.tmp 5), none, []⟩,
  ⟨some 7, .mv (.tmp 1), none, []⟩,
  ⟨some 8, .call 7200 0 [.tmp 6, .tmp 7], none, []⟩,
  ⟨some 1, .mv (.tmp 8), none, []⟩])
 (.seq (.seq (.region false [⟨some 9, .mv (.tmp 1), none, []⟩,
  ⟨some 10, .bin .lss (.tmp 9) (.const (.int .i64 0)), none, []⟩])
 (.cond (.tmp 10) (.seq (.region false [⟨some 4, .mv (.const (.int .i64 (-1))), none, []⟩])
 .ret) .skip))
 (.seq (.region false [⟨some 11, .mv (.tmp 1), none, []⟩,
  ⟨some 4, .mv (.tmp 11), none, []⟩])
 .ret)))) }
noncomputable def p16300 : ProcT := { kind := .fn, ins := [0], bins := [], res := [.tmp 2], code := (.seq (.region false [⟨some 1, .box 100 (.tmp 0), none, []⟩,
  ⟨some 2, .mv (.const (.bool false)), none, []⟩])
 (.seq (.region false [⟨some 3, .fadr 0 (.tmp 1), none, []⟩,
  ⟨some 4, .load 1 false false (.tmp 3), none, []⟩,
  ⟨some 5, .call 1600 0 [.tmp 4, .const (.int .i64 1), .const (.int .i64 4)], none, []⟩,
  ⟨some 6, .mv (.tmp 5), none, []⟩,
  ⟨some 7, .fadr 1 (.tmp 1), some (6, true), []⟩,
  ⟨some 8, .load 1 false false (.tmp 7), some (6, true), []⟩,
  ⟨some 9, .fadr 0 (.tmp 1), some (6, true), []⟩,
  ⟨some 10, .load 1 false false (.tmp 9), some (6, true), []⟩,
  ⟨some 11, .bin .sub (.tmp 10) (.const (.int .i64 1)), some (6, true), []⟩,
  ⟨some 12, .call 1600 0 [.tmp 8, .const (.int .i64 0), .tmp 11], some (6, true), []⟩,
  ⟨some 13, .pick (.tmp 6) (.tmp 12) (.const (.bool false)), none, []⟩,
  ⟨some 14, .mv (.tmp 13), none, []⟩,
  ⟨some 15, .fadr 2 (.tmp 1), some (14, true), []⟩,
  ⟨some 16, .load 1 false false (.tmp 15), some (14, true), []⟩,
  ⟨some 17, .fadr 0 (.tmp 1), some (14, true), []⟩,
  ⟨some 18, .load 1 false false (.tmp 17), some (14, true), []⟩,
  ⟨some 19, .call 1600 0 [.tmp 16, .const (.int .i64 0), .tmp 18], some (14, true), []⟩,
  ⟨some 20, .pick (.tmp 14) (.tmp 19) (.const (.bool false)), none, []⟩,
  ⟨some 21, .mv (.tmp 20), none, []⟩,
  ⟨some 22, .fadr 3 (.tmp 1), some (21, true), []⟩,
  ⟨some 23, .load 1 false false (.tmp 22), some (21, true), []⟩,
  ⟨some 24, .call 6500 0 [.tmp 23, .const (.int .i64 4)], some (21, true), []⟩,
  ⟨some 25, .pick (.tmp 21) (.tmp 24) (.const (.bool false)), none, []⟩,
  ⟨some 2, .mv (.tmp 25), none, []⟩])
 .ret)) }
noncomputable def p16400 : ProcT := { kind := .fn, ins := [0], bins := [], res := [.cell 2 4 true, .tmp 3, .tmp 4], code := (.seq (.region false [⟨some 1, .box 100 (.tmp 0), none, []⟩,
  ⟨some 2, .alloc 101 [.int .i64 0, .int .i64 0, .int .i64 0, .sl (.own false) .int []], none, []⟩,
  ⟨some 3, .mv (.const (.int .i64 0)), none, []⟩,
  ⟨some 4, .mv (.const (.bool false)), none, []⟩])
 (.seq (.seq (.region false [⟨some 6, .load 4 true false (.tmp 1), none, []⟩,
  ⟨some 7, .call 16300 0 [.tmp 6], none, []⟩,
  ⟨some 8, .un .not (.tmp 7), none, []⟩,
  ⟨some 9, .mv (.tmp 8), none, []⟩,
  ⟨some 10, .fadr 2 (.tmp 1), some (9, false), []⟩,
  ⟨some 11, .load 1 false false (.tmp 10), some (9, false), []⟩,
  ⟨some 12, .bin .eql (.tmp 11) (.const (.int .i64 0)), some (9, false), []⟩,
  ⟨some 13, .pick (.tmp 9) (.const (.bool true)) (.tmp 12), none, []⟩])
 (.cond (.tmp 13) (.seq (.region false [⟨some 14, .build [.int .i64 0, .int .i64 0, .int .i64 0, .sl (.own false) .int []] [], none, []⟩,
  ⟨none, .store 4 (.tmp 2) (.tmp 14), none, []⟩,
  ⟨some 3, .mv (.const (.int .i64 0)), none, []⟩,
  ⟨some 4, .mv (.const (.bool false)), none, []⟩])
 .ret) .skip))
 (.seq (.region true [⟨some 15, .fadr 0 (.tmp 1), none, [100]⟩,
  ⟨some 16, .load 1 false false (.tmp 15), none, [100]⟩,
  ⟨some 17, .fadr 1 (.tmp 1), none, [100]⟩,
  ⟨some 18, .load 1 false false (.tmp 17), none, [100]⟩,
  ⟨some 19, .bin .add (.tmp 18) (.const (.int .i64 1)), none, []⟩,
  ⟨some 20, .fadr 0 (.tmp 1), none, [100]⟩,
  ⟨some 21, .load 1 false false (.tmp 20), none, [100]⟩,
  ⟨some 22, .bin .rem (.tmp 19) (.tmp 21), none, []⟩,
  ⟨some 23, .fadr 2 (.tmp 1), none, [100]⟩,
  ⟨some 24, .load 1 false false (.tmp 23), none, [100]⟩,
  ⟨some 25, .bin .sub (.tmp 24) (.const (.int .i64 1)), none, []⟩,
  ⟨some 26, .buildS (.own true) .int [], none, []⟩,
  ⟨some 27, .fadr 3 (.tmp 1), none, [100]⟩,
  ⟨some 28, .load 1 false false (.tmp 27), none, [100]⟩,
  ⟨some 29, .app 1 (.take 26) (.tmp 28), none, []⟩,
  ⟨some 30, .build [.int .i64 0, .int .i64 0, .int .i64 0, .sl (.own false) .int []] [(0, 1, .tmp 16), (1, 1, .tmp 22), (2, 1, .tmp 25), (3, 1, .tmp 29)], none, []⟩,
  ⟨some 5, .alloc 102 [.int .i64 0, .int .i64 0, .int .i64 0, .sl (.own false) .int []], none, [102]⟩,
  ⟨none, .store 4 (.tmp 5) (.tmp 30), none, [102]⟩])
 (.seq (.region true [⟨some 31, .load 4 true false (.tmp 5), none, [102]⟩,
  ⟨some 32, .fadr 3 (.tmp 1), none, [100]⟩,
  ⟨some 33, .load 1 false false (.tmp 32), none, [100]⟩,
  ⟨some 34, .fadr 1 (.tmp 1), none, [100]⟩,
  ⟨some 35, .load 1 false false (.tmp 34), none, [100]⟩,
  ⟨some 36, .iadr 1 (.tmp 33) (.tmp 35), none, []⟩,
  ⟨some 37, .load 1 false false (.tmp 36), none, []⟩,
  ⟨none, .store 4 (.tmp 2) (.tmp 31), none, [101]⟩,
  ⟨some 3, .mv (.tmp 37), none, []⟩,
  ⟨some 4, .mv (.const (.bool true)), none, []⟩])
 .ret)))) }
noncomputable def p16500 : ProcT := { kind := .fn, ins := [0], bins := [], res := [.cell 2 4 true], code := (.seq (.region false [⟨some 1, .box 100 (.tmp 0), none, []⟩,
  ⟨some 2, .alloc 101 [.int .i64 0, .int .i64 0, .int .i64 0, .sl (.own false) .int []], none, []⟩])
 (.seq (.region false [⟨some 3, .alloc 102 [.int .i64 0, .int .i64 0, .int .i64 0, .sl (.own false) .int []], none, []⟩])
 (.seq (.region false [⟨some 4, .fadr 0 (.tmp 1), none, []⟩,
  ⟨some 5, .load 1 false false (.tmp 4), none, []⟩,
  ⟨some 6, .fadr 0 (.tmp 3), none, []⟩,
  ⟨none, .store 1 (.tmp 6) (.tmp 5), none, []⟩])
 (.seq (.region false [⟨some 7, .fadr 1 (.tmp 1), none, []⟩,
  ⟨some 8, .load 1 false false (.tmp 7), none, []⟩,
  ⟨some 9, .fadr 1 (.tmp 3), none, []⟩,
  ⟨none, .store 1 (.tmp 9) (.tmp 8), none, []⟩])
 (.seq (.region false [⟨some 10, .fadr 2 (.tmp 1), none, []⟩,
  ⟨some 11, .load 1 false false (.tmp 10), none, []⟩,
  ⟨some 12, .fadr 2 (.tmp 3), none, []⟩,
  ⟨none, .store 1 (.tmp 12) (.tmp 11), none, []⟩])
 (.seq (.region false [⟨some 13, .fadr 3 (.tmp 1), none, []⟩,
  ⟨some 14, .load 1 false false (.tmp 13), none, []⟩,
  ⟨some 15, .call 7800 0 [.tmp 14], none, []⟩,
  ⟨some 16, .fadr 3 (.tmp 3), none, []⟩,
  ⟨none, .store 1 (.tmp 16) (.take 15), none, []⟩])
 (.seq (.region false [⟨some 17, .load 4 true false (.tmp 3), none, []⟩,
  ⟨none, .store 4 (.tmp 2) (.tmp 17), none, []⟩])
 .ret))))))) }
noncomputable def p16600 : ProcT := { kind := .fn, ins := [0], bins := [], res := [.tmp 2], code := (.seq (.region false [⟨some 1, .box 100 (.tmp 0), none, []⟩,
  ⟨some 2, .mv (.const (.bool false)), none, []⟩])
 (.seq (.region false [⟨some 3, .fadr 0 (.tmp 1), none, []⟩,
  ⟨some 4, .load 1 false false (.tmp 3), none, []⟩,
  ⟨some 5, .bin .geq (.tmp 4) (.const (.int .i64 1)), none, []⟩,
  ⟨some 6, .mv (.tmp 5), none, []⟩,
  ⟨some 7, .fadr 0 (.tmp 1), some (6, true), []⟩,
  ⟨some 8, .load 1 false false (.tmp 7), some (6, true), []⟩,
  ⟨some 9, .bin .leq (.tmp 8) (.const (.int .i64 4)), some (6, true), []⟩,
  ⟨some 10, .pick (.tmp 6) (.tmp 9) (.const (.bool false)), none, []⟩,
  ⟨some 11, .mv (.tmp 10), none, []⟩,
  ⟨some 12, .fadr 1 (.tmp 1), some (11, true), []⟩,
  ⟨some 13, .load 1 false false (.tmp 12), some (11, true), []⟩,
  ⟨some 14, .bin .geq (.tmp 13) (.const (.int .i64 0)), some (11, true), []⟩,
  ⟨some 15, .pick (.tmp 11) (.tmp 14) (.const (.bool false)), none, []⟩,
  ⟨some 16, .mv (.tmp 15), none, []⟩,
  ⟨some 17, .fadr 1 (.tmp 1), some (16, true), []⟩,
  ⟨some 18, .load 1 false false (.tmp 17), some (16, true), []⟩,
  ⟨some 19, .fadr 0 (.tmp 1), some (16, true), []⟩,
  ⟨some 20, .load 1 false false (.tmp 19), some (16, true), []⟩,
  ⟨some 21, .bin .lss (.tmp 18) (.tmp 20), some (16, true), []⟩,
  ⟨some 22, .pick (.tmp 16) (.tmp 21) (.const (.bool false)), none, []⟩,
  ⟨some 23, .mv (.tmp 22), none, []⟩,
  ⟨some 24, .fadr 2 (.tmp 1), some (23, true), []⟩,
  ⟨some 25, .load 1 false false (.tmp 24), some (23, true), []⟩,
  ⟨some 26, .bin .geq (.tmp 25) (.const (.int .i64 0)), some (23, true), []⟩,
  ⟨some 27, .pick (.tmp 23) (.tmp 26) (.const (.bool false)), none, []⟩,
  ⟨some 28, .mv (.tmp 27), none, []⟩,
  ⟨some 29, .fadr 2 (.tmp 1), some (28, true), []⟩,
  ⟨some 30, .load 1 false false (.tmp 29), some (28, true), []⟩,
  ⟨some 31, .fadr 0 (.tmp 1), some (28, true), []⟩,
  ⟨some 32, .load 1 false false (.tmp 31), some (28, true), []⟩,
  ⟨some 33, .bin .leq (.tmp 30) (.tmp 32), some (28, true), []⟩,
  ⟨some 34, .pick (.tmp 28) (.tmp 33) (.const (.bool false)), none, []⟩,
  ⟨some 35, .mv (.tmp 34), none, []⟩,
  ⟨some 36, .fadr 3 (.tmp 1), some (35, true), []⟩,
  ⟨some 37, .load 1 false false (.tmp 36), some (35, true), []⟩,
  ⟨some 38, .len (.tmp 37), some (35, true), []⟩,
  ⟨some 39, .bin .eql (.tmp 38) (.const (.int .i64 4)), some (35, true), []⟩,
  ⟨some 40, .pick (.tmp 35) (.tmp 39) (.const (.bool false)), none, []⟩,
  ⟨some 41, .mv (.tmp 40), none, []⟩,
  ⟨some 42, .fadr 3 (.tmp 1), some (41, true), []⟩,
  ⟨some 43, .load 1 false false (.tmp 42), some (41, true), []⟩,
  ⟨some 44, .call 5100 0 [.tmp 43], some (41, true), []⟩,
  ⟨some 45, .pick (.tmp 41) (.tmp 44) (.const (.bool false)), none, []⟩,
  ⟨some 2, .mv (.tmp 45), none, []⟩])
 .ret)) }
noncomputable def p16800 : ProcT := { kind := .fn, ins := [0], bins := [], res := [.cell 2 4 true, .tmp 3, .tmp 4], code := (.seq (.region false [⟨some 1, .box 100 (.tmp 0), none, []⟩,
  ⟨some 2, .alloc 101 [.int .i64 0, .int .i64 0, .int .i64 0, .sl (.own false) .int []], none, []⟩,
  ⟨some 3, .mv (.const (.int .i64 0)), none, []⟩,
  ⟨some 4, .mv (.const (.bool false)), none, []⟩])
 (.seq (.seq (.region false [⟨some 6, .load 4 true false (.tmp 1), none, []⟩,
  ⟨some 7, .call 16600 0 [.tmp 6], none, []⟩,
  ⟨some 8, .un .not (.tmp 7), none, []⟩,
  ⟨some 9, .mv (.tmp 8), none, []⟩,
  ⟨some 10, .fadr 2 (.tmp 1), some (9, false), []⟩,
  ⟨some 11, .load 1 false false (.tmp 10), some (9, false), []⟩,
  ⟨some 12, .bin .eql (.tmp 11) (.const (.int .i64 0)), some (9, false), []⟩,
  ⟨some 13, .pick (.tmp 9) (.const (.bool true)) (.tmp 12), none, []⟩])
 (.cond (.tmp 13) (.seq (.region false [⟨some 14, .build [.int .i64 0, .int .i64 0, .int .i64 0, .sl (.own false) .int []] [], none, []⟩,
  ⟨none, .store 4 (.tmp 2) (.tmp 14), none, []⟩,
  ⟨some 3, .mv (.const (.int .i64 0)), none, []⟩,
  ⟨some 4, .mv (.const (.bool false)), none, []⟩])
 .ret) .skip))
 (.seq (.region false [⟨some 15, .fadr 3 (.tmp 1), none, []⟩,
  ⟨some 16, .load 1 false false (.tmp 15), none, []⟩,
  ⟨some 17, .call 16700 0 [.tmp 16], none, []⟩,
  ⟨some 18, .fadr 3 (.tmp 1), none, []⟩,
  ⟨none, .store 1 (.tmp 18) (.take 17), none, []⟩])
 (.seq (.region false [⟨some 19, .fadr 3 (.tmp 1), none, []⟩,
  ⟨some 20, .load 1 false false (.tmp 19), none, []⟩,
  ⟨some 21, .fadr 1 (.tmp 1), none, []⟩,
  ⟨some 22, .load 1 false false (.tmp 21), none, []⟩,
  ⟨some 23, .iadr 1 (.tmp 20) (.tmp 22), none, []⟩,
  ⟨some 24, .load 1 false false (.tmp 23), none, []⟩,
  ⟨some 5, .mv (.tmp 24), none, []⟩])
 (.seq (.region false [⟨some 25, .fadr 1 (.tmp 1), none, []⟩,
  ⟨some 26, .load 1 false false (.tmp 25), none, []⟩,
  ⟨some 27, .bin .add (.tmp 26) (.const (.int .i64 1)), none, []⟩,
  ⟨some 28, .fadr 0 (.tmp 1), none, []⟩,
  ⟨some 29, .load 1 false false (.tmp 28), none, []⟩,
  ⟨some 30, .bin .rem (.tmp 27) (.tmp 29), none, []⟩,
  ⟨some 31, .fadr 1 (.tmp 1), none, []⟩,
  ⟨none, .store 1 (.tmp 31) (.tmp 30), none, []⟩])
 (.seq (.region false [⟨some 32, .fadr 2 (.tmp 1), none, []⟩,
  ⟨some 33, .load 1 false false (.tmp 32), none, []⟩,
  ⟨some 34, .bin .sub (.tmp 33) (.const (.int .i64 1)), none, []⟩,
  ⟨some 35, .fadr 2 (.tmp 1), none, []⟩,
  ⟨none, .store 1 (.tmp 35) (.tmp 34), none, []⟩])
 (.seq (.region false [⟨some 36, .load 4 true false (.tmp 1), none, []⟩,
  ⟨some 37, .mv (.tmp 5), none, []⟩,
  ⟨none, .store 4 (.tmp 2) (.tmp 36), none, []⟩,
  ⟨some 3, .mv (.tmp 37), none, []⟩,
  ⟨some 4, .mv (.const (.bool true)), none, []⟩])
 .ret))))))) }
noncomputable def p16900 : ProcT := { kind := .fn, ins := [0, 1], bins := [], res := [.tmp 4], code := (.seq (.region false [⟨some 2, .box 100 (.tmp 0), none, []⟩,
  ⟨some 3, .box 101 (.tmp 1), none, []⟩,
  ⟨some 4, .mv (.const (.bool false)), none, []⟩])
 (.seq (.seq (.region false [⟨some 5, .fadr 0 (.tmp 2), none, []⟩,
  ⟨some 6, .load 1 false false (.tmp 5), none, []⟩,
  ⟨some 7, .fadr 0 (.tmp 3), none, []⟩,
  ⟨some 8, .load 1 false false (.tmp 7), none, []⟩,
  ⟨some 9, .bin .neq (.tmp 6) (.tmp 8), none, []⟩])
 (.cond (.tmp 9) (.seq (.region false [⟨some 4, .mv (.const (.bool false)), none, []⟩])
 .ret) .skip))
 (.seq (.seq (.region false [⟨some 10, .fadr 1 (.tmp 2), none, []⟩,
  ⟨some 11, .load 1 false false (.tmp 10), none, []⟩,
  ⟨some 12, .fadr 1 (.tmp 3), none, []⟩,
  ⟨some 13, .load 1 false false (.tmp 12), none, []⟩,
  ⟨some 14, .bin .neq (.tmp 11) (.tmp 13), none, []⟩])
 (.cond (.tmp 14) (.seq (.region false [⟨some 4, .mv (.const (.bool false)), none, []⟩])
 .ret) .skip))
 (.seq (.seq (.region false [⟨some 15, .fadr 2 (.tmp 2), none, []⟩,
  ⟨some 16, .load 1 false false (.tmp 15), none, []⟩,
  ⟨some 17, .fadr 2 (.tmp 3), none, []⟩,
  ⟨some 18, .load 1 false false (.tmp 17), none, []⟩,
  ⟨some 19, .bin .neq (.tmp 16) (.tmp 18), none, []⟩])
 (.cond (.tmp 19) (.seq (.region false [⟨some 4, .mv (.const (.bool false)), none, []⟩])
 .ret) .skip))
 (.seq (.seq (.region false [⟨some 20, .fadr 3 (.tmp 2), none, []⟩,
  ⟨some 21, .load 1 false false (.tmp 20), none, []⟩,
  ⟨some 22, .fadr 3 (.tmp 3), none, []⟩,
  ⟨some 23, .load 1 false false (.tmp 22), none, []⟩,
  ⟨some 24, .call 8400 0 [.tmp 21, .tmp 23], none, []⟩,
  ⟨some 25, .un .not (.tmp 24), none, []⟩])
 (.cond (.tmp 25) (.seq (.region false [⟨some 4, .mv (.const (.bool false)), none, []⟩])
 .ret) .skip))
 (.seq (.region false [⟨some 4, .mv (.const (.bool true)), none, []⟩])
 .ret)))))) }
noncomputable def p17100 : ProcT := { kind := .fn, ins := [0, 1], bins := [], res := [.tmp 4], code := (.seq (.region false [⟨some 2, .box 100 (.tmp 0), none, []⟩,
  ⟨some 4, .mv (.const (.int .i64 0)), none, []⟩])
 (.seq (.region false [⟨some 5, .fadr 3 (.tmp 2), none, []⟩,
  ⟨some 6, .load 1 false false (.tmp 5), none, []⟩,
  ⟨some 7, .mv (.tmp 1), none, []⟩,
  ⟨some 8, .call 10600 0 [.tmp 6, .tmp 7], none, []⟩,
  ⟨some 1, .mv (.tmp 8), none, []⟩])
 (.seq (.seq (.region false [⟨some 9, .mv (.tmp 1), none, []⟩,
  ⟨some 10, .bin .lss (.tmp 9) (.const (.int .i64 0)), none, []⟩])
 (.cond (.tmp 10) (.seq (.region false [⟨some 4, .mv (.const (.int .i64 (-1))), none, []⟩])
 .ret) .skip))
 (.seq (.region false [⟨some 11, .mv (.tmp 1), none, []⟩,
  ⟨some 4, .mv (.tmp 11), none, []⟩])
 .ret)))) }
noncomputable def p17200 : ProcT := { kind := .fn, ins := [0], bins := [], res := [.tmp 2], loc := true, code := (.seq (.region false [⟨some 1, .box 100 (.tmp 0), none, []⟩,
  ⟨some 2, .mv (.const (.bool false)), none, []⟩])
 (.seq (.region false [⟨some 3, .mv (.const (.int .i64 1048576)), none, []⟩])
 (.seq (.region false [⟨some 17, .load 4 true false (.tmp 1), none, []⟩,
  ⟨some 18, .mv (.tmp 3), none, []⟩,
  ⟨some 19, .call 16200 0 [.tmp 17, .tmp 18], none, []⟩,
  ⟨some 3, .mv (.tmp 19), none, []⟩])
 (.seq (.seq (.region false [⟨some 20, .mv (.tmp 3), none, []⟩,
  ⟨some 21, .bin .lss (.tmp 20) (.const (.int .i64 0)), none, []⟩])
 (.cond (.tmp 21) (.seq (.region false [⟨some 2, .mv (.const (.bool true)), none, []⟩])
 .ret) .skip))
 (.seq (.region false [⟨some 23, .load 4 true false (.tmp 1), none, []⟩,
  ⟨some 24, .call 16500 0 [.tmp 23], none, []⟩,
  ⟨some 25, .call 16400 0 [.tmp 24], none, []⟩,
  ⟨some 22, .mv (.tmp 25), none, []⟩,
  ⟨some 26, .ext 0 (.tmp 22), none, []⟩,
  ⟨some 27, .ext 1 (.tmp 22), none, []⟩,
  ⟨some 28, .ext 2 (.tmp 22), none, []⟩,
  ⟨some 4, .alloc 101 [.int .i64 0, .int .i64 0, .int .i64 0, .sl (.own false) .int []], none, []⟩,
  ⟨none, .store 4 (.tmp 4) (.tmp 26), none, []⟩,
  ⟨some 5, .mv (.tmp 27), none, []⟩,
  ⟨some 6, .mv (.tmp 28), none, []⟩])
 (.seq (.region false [⟨some 29, .load 4 true false (.tmp 1), none, []⟩,
  ⟨some 30, .tr (.call .pass 39100 [.tmp 29]), none, []⟩,
  ⟨some 7, .alloc 102 [.int .i64 0, .int .i64 0, .int .i64 0, .sl (.own false) .int []], none, []⟩,
  ⟨none, .store 4 (.tmp 7) (.tmp 30), none, []⟩])
 (.seq (.region false [⟨some 32, .load 4 true false (.tmp 7), none, []⟩,
  ⟨some 33, .tr (.call .pview 39200 [.tmp 32]), none, []⟩,
  ⟨some 31, .mv (.tmp 33), none, []⟩,
  ⟨some 34, .ext 0 (.tmp 31), none, []⟩,
  ⟨some 35, .ext 1 (.tmp 31), none, []⟩,
  ⟨some 36, .ext 2 (.tmp 31), none, []⟩,
  ⟨some 8, .alloc 103 [.int .i64 0, .int .i64 0, .int .i64 0, .sl (.own false) .int []], none, []⟩,
  ⟨none, .store 4 (.tmp 8) (.tmp 34), none, []⟩,
  ⟨some 9, .mv (.tmp 35), none, []⟩,
  ⟨some 10, .mv (.tmp 36), none, []⟩])
 (.seq (.seq (.region false [⟨some 37, .load 4 true false (.tmp 8), none, []⟩,
  ⟨some 38, .load 4 true false (.tmp 4), none, []⟩,
  ⟨some 39, .tr (.call .view 16900 [.tmp 37, .tmp 38]), none, []⟩,
  ⟨some 40, .un .not (.tmp 39), none, []⟩,
  ⟨some 41, .mv (.tmp 40), none, []⟩,
  ⟨some 42, .mv (.tmp 9), some (41, false), []⟩,
  ⟨some 43, .mv (.tmp 5), some (41, false), []⟩,
  ⟨some 44, .bin .neq (.tmp 42) (.tmp 43), some (41, false), []⟩,
  ⟨some 45, .pick (.tmp 41) (.const (.bool true)) (.tmp 44), none, []⟩,
  ⟨some 46, .mv (.tmp 45), none, []⟩,
  ⟨some 47, .mv (.tmp 10), some (46, false), []⟩,
  ⟨some 48, .mv (.tmp 6), some (46, false), []⟩,
  ⟨some 49, .eqb true (.tmp 47) (.tmp 48), some (46, false), []⟩,
  ⟨some 50, .pick (.tmp 46) (.const (.bool true)) (.tmp 49), none, []⟩])
 (.cond (.tmp 50) (.seq (.region false [⟨some 2, .mv (.const (.bool false)), none, []⟩])
 .ret) .skip))
 (.seq (.seq (.region true [⟨some 51, .load 4 true false (.tmp 7), none, [102]⟩,
  ⟨some 52, .load 4 true false (.tmp 1), none, [100]⟩,
  ⟨some 53, .call 16500 0 [.tmp 52], none, []⟩,
  ⟨some 54, .tr (.call .view 16900 [.tmp 51, .tmp 53]), none, [99]⟩,
  ⟨some 55, .un .not (.tmp 54), none, []⟩])
 (.cond (.tmp 55) (.seq (.region false [⟨some 2, .mv (.const (.bool false)), none, []⟩])
 .ret) .skip))
 (.seq (.region false [⟨some 11, .mv (.const (.int .i64 1)), none, []⟩])
 (.seq (.region false [⟨some 56, .load 4 true false (.tmp 7), none, []⟩,
  ⟨some 57, .mv (.tmp 11), none, []⟩,
  ⟨some 58, .tr (.call .pass 39300 [.tmp 56, .tmp 57]), none, []⟩,
  ⟨some 11, .mv (.tmp 58), none, []⟩])
 (.seq (.seq (.region false [⟨some 59, .mv (.tmp 11), none, []⟩,
  ⟨some 60, .bin .lss (.tmp 59) (.const (.int .i64 0)), none, []⟩,
  ⟨some 61, .mv (.tmp 60), none, []⟩,
  ⟨some 62, .load 4 true false (.tmp 8), some (61, false), []⟩,
  ⟨some 63, .load 4 true false (.tmp 4), some (61, false), []⟩,
  ⟨some 64, .tr (.call .view 16900 [.tmp 62, .tmp 63]), some (61, false), []⟩,
  ⟨some 65, .un .not (.tmp 64), some (61, false), []⟩,
  ⟨some 66, .pick (.tmp 61) (.const (.bool true)) (.tmp 65), none, []⟩,
  ⟨some 67, .mv (.tmp 66), none, []⟩,
  ⟨some 68, .mv (.tmp 9), some (67, false), []⟩,
  ⟨some 69, .mv (.tmp 5), some (67, false), []⟩,
  ⟨some 70, .bin .neq (.tmp 68) (.tmp 69), some (67, false), []⟩,
  ⟨some 71, .pick (.tmp 67) (.const (.bool true)) (.tmp 70), none, []⟩,
  ⟨some 72, .mv (.tmp 71), none, []⟩,
  ⟨some 73, .mv (.tmp 10), some (72, false), []⟩,
  ⟨some 74, .mv (.tmp 6), some (72, false), []⟩,
  ⟨some 75, .eqb true (.tmp 73) (.tmp 74), some (72, false), []⟩,
  ⟨some 76, .pick (.tmp 72) (.const (.bool true)) (.tmp 75), none, []⟩])
 (.cond (.tmp 76) (.seq (.region false [⟨some 2, .mv (.const (.bool false)), none, []⟩])
 .ret) .skip))
 (.seq (.region false [⟨some 12, .mv (.const (.int .i64 1)), none, []⟩])
 (.seq (.region false [⟨some 77, .load 4 true false (.tmp 8), none, []⟩,
  ⟨some 78, .mv (.tmp 12), none, []⟩,
  ⟨some 79, .tr (.call .pass 39300 [.tmp 77, .tmp 78]), none, []⟩,
  ⟨some 12, .mv (.tmp 79), none, []⟩])
 (.seq (.region false [⟨some 13, .mv (.const (.int .i64 1)), none, []⟩])
 (.seq (.region false [⟨some 80, .load 4 true false (.tmp 8), none, []⟩,
  ⟨some 81, .mv (.tmp 13), none, []⟩,
  ⟨some 82, .tr (.call .view 17100 [.tmp 80, .tmp 81]), none, []⟩,
  ⟨some 13, .mv (.tmp 82), none, []⟩])
 (.seq (.seq (.region false [⟨some 83, .mv (.tmp 13), none, []⟩,
  ⟨some 84, .bin .lss (.tmp 83) (.const (.int .i64 0)), none, []⟩])
 (.cond (.tmp 84) (.seq (.region false [⟨some 2, .mv (.const (.bool false)), none, []⟩])
 .ret) .skip))
 (.seq (.seq (.region false [⟨some 85, .mv (.tmp 13), none, []⟩,
  ⟨some 86, .mv (.tmp 12), none, []⟩,
  ⟨some 87, .bin .neq (.tmp 85) (.tmp 86), none, []⟩])
 (.cond (.tmp 87) (.seq (.region false [⟨some 2, .mv (.const (.bool false)), none, []⟩])
 .ret) .skip))
 (.seq (.region false [⟨some 89, .load 4 true false (.tmp 1), none, []⟩,
  ⟨some 90, .call 16500 0 [.tmp 89], none, []⟩,
  ⟨some 91, .call 16800 0 [.tmp 90], none, []⟩,
  ⟨some 88, .mv (.tmp 91), none, []⟩,
  ⟨some 92, .ext 0 (.tmp 88), none, []⟩,
  ⟨some 93, .ext 1 (.tmp 88), none, []⟩,
  ⟨some 94, .ext 2 (.tmp 88), none, []⟩,
  ⟨some 14, .alloc 104 [.int .i64 0, .int .i64 0, .int .i64 0, .sl (.own false) .int []], none, []⟩,
  ⟨none, .store 4 (.tmp 14) (.tmp 92), none, []⟩,
  ⟨some 15, .mv (.tmp 93), none, []⟩,
  ⟨some 16, .mv (.tmp 94), none, []⟩])
 (.seq (.seq (.region false [⟨some 95, .load 4 true false (.tmp 14), none, []⟩,
  ⟨some 96, .load 4 true false (.tmp 4), none, []⟩,
  ⟨some 97, .call 16900 0 [.tmp 95, .tmp 96], none, []⟩,
  ⟨some 98, .un .not (.tmp 97), none, []⟩,
  ⟨some 99, .mv (.tmp 98), none, []⟩,
  ⟨some 100, .mv (.tmp 15), some (99, false), []⟩,
  ⟨some 101, .mv (.tmp 5), some (99, false), []⟩,
  ⟨some 102, .bin .neq (.tmp 100) (.tmp 101), some (99, false), []⟩,
  ⟨some 103, .pick (.tmp 99) (.const (.bool true)) (.tmp 102), none, []⟩,
  ⟨some 104, .mv (.tmp 103), none, []⟩,
  ⟨some 105, .mv (.tmp 16), some (104, false), []⟩,
  ⟨some 106, .mv (.tmp 6), some (104, false), []⟩,
  ⟨some 107, .eqb true (.tmp 105) (.tmp 106), some (104, false), []⟩,
  ⟨some 108, .pick (.tmp 104) (.const (.bool true)) (.tmp 107), none, []⟩])
 (.cond (.tmp 108) (.seq (.region false [⟨some 2, .mv (.const (.bool false)), none, []⟩])
 .ret) .skip))
 (.seq (.region false [⟨some 13, .mv (.const (.int .i64 1)), none, []⟩])
 (.seq (.region false [⟨some 109, .load 4 true false (.tmp 8), none, []⟩,
  ⟨some 110, .mv (.tmp 13), none, []⟩,
  ⟨some 111, .tr (.call .view 17100 [.tmp 109, .tmp 110]), none, []⟩,
  ⟨some 13, .mv (.tmp 111), none, []⟩])
 (.seq (.seq (.region false [⟨some 112, .mv (.tmp 13), none, []⟩,
  ⟨some 113, .bin .lss (.tmp 112) (.const (.int .i64 0)), none, []⟩])
 (.cond (.tmp 113) (.seq (.region false [⟨some 2, .mv (.const (.bool false)), none, []⟩])
 .ret) .skip))
 (.seq (.seq (.region false [⟨some 114, .mv (.tmp 13), none, []⟩,
  ⟨some 115, .mv (.tmp 12), none, []⟩,
  ⟨some 116, .bin .neq (.tmp 114) (.tmp 115), none, []⟩])
 (.cond (.tmp 116) (.seq (.region false [⟨some 2, .mv (.const (.bool false)), none, []⟩])
 .ret) .skip))
 (.seq (.region false [⟨some 2, .mv (.const (.bool true)), none, []⟩])
 .ret))))))))))))))))))))))))) }
noncomputable def p38700 : ProcT := { kind := .fn, ins := [0, 1], bins := [99], res := [.tmp 4], code := (.seq (.region false [⟨some 4, .mv (.const (.int .i64 0)), none, []⟩])
 (.seq (.seq (.region false [⟨some 5, .mv (.const (.int .i64 0)), none, []⟩])
 (.block 0 (.label 38701)))
 (.seq (.region false [⟨some 18, .mv (.tmp 1), none, []⟩,
  ⟨some 4, .mv (.tmp 18), none, []⟩])
 .ret))) }
noncomputable def p38701 : ProcT := { kind := .loop, ins := [0, 1, 5], bins := [99], outs := [1, 4], bouts := [99], code := (.seq (.seq (.region false [⟨some 6, .mv (.tmp 5), none, []⟩,
  ⟨some 7, .mv (.tmp 0), none, []⟩,
  ⟨some 8, .tr (.len (.tmp 7)), none, []⟩,
  ⟨some 9, .bin .lss (.tmp 6) (.tmp 8), none, []⟩])
 (.cond (.tmp 9) .skip (.exit 0)))
 (.seq (.block 1 (.seq (.region false [⟨some 12, .mv (.tmp 0), none, []⟩,
  ⟨some 13, .mv (.tmp 5), none, []⟩,
  ⟨some 14, .mv (.tmp 1), none, []⟩,
  ⟨some 15, .tr (.iadr 1 (.tmp 12) (.tmp 13)), none, []⟩,
  ⟨none, .tr (.store 1 (.tmp 15) (.tmp 14)), none, []⟩])
 (.region false [⟨some 16, .mv (.tmp 1), none, []⟩,
  ⟨some 17, .bin .add (.tmp 16) (.const (.int .i64 1)), none, []⟩,
  ⟨some 1, .mv (.tmp 17), none, []⟩])))
 (.region false [⟨some 10, .mv (.tmp 5), none, []⟩,
  ⟨some 11, .bin .add (.tmp 10) (.const (.int .i64 1)), none, []⟩,
  ⟨some 5, .mv (.tmp 11), none, []⟩]))) }
noncomputable def p39100 : ProcT := { kind := .fn, ins := [0], bins := [99], res := [.cell 2 4 true], code := (.seq (.region false [⟨some 1, .box 100 (.tmp 0), none, []⟩,
  ⟨some 2, .alloc 101 [.int .i64 0, .int .i64 0, .int .i64 0, .tr .int none 0], none, []⟩])
 (.seq (.region false [⟨some 3, .alloc 102 [.int .i64 0, .int .i64 0, .int .i64 0, .tr .int none 0], none, []⟩])
 (.seq (.region false [⟨some 4, .fadr 0 (.tmp 1), none, []⟩,
  ⟨some 5, .load 1 false false (.tmp 4), none, []⟩,
  ⟨some 6, .fadr 0 (.tmp 3), none, []⟩,
  ⟨none, .store 1 (.tmp 6) (.tmp 5), none, []⟩])
 (.seq (.region false [⟨some 7, .fadr 1 (.tmp 1), none, []⟩,
  ⟨some 8, .load 1 false false (.tmp 7), none, []⟩,
  ⟨some 9, .fadr 1 (.tmp 3), none, []⟩,
  ⟨none, .store 1 (.tmp 9) (.tmp 8), none, []⟩])
 (.seq (.region false [⟨some 10, .fadr 2 (.tmp 1), none, []⟩,
  ⟨some 11, .load 1 false false (.tmp 10), none, []⟩,
  ⟨some 12, .fadr 2 (.tmp 3), none, []⟩,
  ⟨none, .store 1 (.tmp 12) (.tmp 11), none, []⟩])
 (.seq (.region false [⟨some 13, .fadr 3 (.tmp 1), none, []⟩,
  ⟨some 14, .load 1 false false (.tmp 13), none, []⟩,
  ⟨some 15, .tr (.call .pass 39600 [.tmp 14]), none, []⟩,
  ⟨some 16, .fadr 3 (.tmp 3), none, []⟩,
  ⟨none, .store 1 (.tmp 16) (.take 15), none, []⟩])
 (.seq (.region false [⟨some 17, .load 4 true false (.tmp 3), none, []⟩,
  ⟨none, .store 4 (.tmp 2) (.tmp 17), none, []⟩])
 .ret))))))) }
noncomputable def p39200 : ProcT := { kind := .fn, ins := [0], bins := [99], res := [.cell 2 4 true, .tmp 3, .tmp 4], code := (.seq (.region false [⟨some 1, .box 100 (.tmp 0), none, []⟩,
  ⟨some 2, .alloc 101 [.int .i64 0, .int .i64 0, .int .i64 0, .tr .int none 0], none, []⟩,
  ⟨some 3, .mv (.const (.int .i64 0)), none, []⟩,
  ⟨some 4, .mv (.const (.bool false)), none, []⟩])
 (.seq (.seq (.region false [⟨some 6, .load 4 true false (.tmp 1), none, []⟩,
  ⟨some 7, .call 16600 0 [.tmp 6], none, []⟩,
  ⟨some 8, .un .not (.tmp 7), none, []⟩,
  ⟨some 9, .mv (.tmp 8), none, []⟩,
  ⟨some 10, .fadr 2 (.tmp 1), some (9, false), []⟩,
  ⟨some 11, .load 1 false false (.tmp 10), some (9, false), []⟩,
  ⟨some 12, .bin .eql (.tmp 11) (.const (.int .i64 0)), some (9, false), []⟩,
  ⟨some 13, .pick (.tmp 9) (.const (.bool true)) (.tmp 12), none, []⟩])
 (.cond (.tmp 13) (.seq (.region false [⟨some 14, .build [.int .i64 0, .int .i64 0, .int .i64 0, .tr .int none 0] [], none, []⟩,
  ⟨none, .store 4 (.tmp 2) (.tmp 14), none, []⟩,
  ⟨some 3, .mv (.const (.int .i64 0)), none, []⟩,
  ⟨some 4, .mv (.const (.bool false)), none, []⟩])
 .ret) .skip))
 (.seq (.region false [⟨some 15, .fadr 3 (.tmp 1), none, []⟩,
  ⟨some 16, .load 1 false false (.tmp 15), none, []⟩,
  ⟨some 17, .tr (.call .pass 38200 [.tmp 16]), none, []⟩,
  ⟨some 18, .fadr 3 (.tmp 1), none, []⟩,
  ⟨none, .store 1 (.tmp 18) (.take 17), none, []⟩])
 (.seq (.region false [⟨some 19, .fadr 3 (.tmp 1), none, []⟩,
  ⟨some 20, .load 1 false false (.tmp 19), none, []⟩,
  ⟨some 21, .fadr 1 (.tmp 1), none, []⟩,
  ⟨some 22, .load 1 false false (.tmp 21), none, []⟩,
  ⟨some 23, .tr (.iadr 1 (.tmp 20) (.tmp 22)), none, []⟩,
  ⟨some 24, .tr (.load 1 false (.tmp 23)), none, []⟩,
  ⟨some 5, .mv (.tmp 24), none, []⟩])
 (.seq (.region false [⟨some 25, .fadr 1 (.tmp 1), none, []⟩,
  ⟨some 26, .load 1 false false (.tmp 25), none, []⟩,
  ⟨some 27, .bin .add (.tmp 26) (.const (.int .i64 1)), none, []⟩,
  ⟨some 28, .fadr 0 (.tmp 1), none, []⟩,
  ⟨some 29, .load 1 false false (.tmp 28), none, []⟩,
  ⟨some 30, .bin .rem (.tmp 27) (.tmp 29), none, []⟩,
  ⟨some 31, .fadr 1 (.tmp 1), none, []⟩,
  ⟨none, .store 1 (.tmp 31) (.tmp 30), none, []⟩])
 (.seq (.region false [⟨some 32, .fadr 2 (.tmp 1), none, []⟩,
  ⟨some 33, .load 1 false false (.tmp 32), none, []⟩,
  ⟨some 34, .bin .sub (.tmp 33) (.const (.int .i64 1)), none, []⟩,
  ⟨some 35, .fadr 2 (.tmp 1), none, []⟩,
  ⟨none, .store 1 (.tmp 35) (.tmp 34), none, []⟩])
 (.seq (.region false [⟨some 36, .load 4 true false (.tmp 1), none, []⟩,
  ⟨some 37, .mv (.tmp 5), none, []⟩,
  ⟨none, .store 4 (.tmp 2) (.tmp 36), none, []⟩,
  ⟨some 3, .mv (.tmp 37), none, []⟩,
  ⟨some 4, .mv (.const (.bool true)), none, []⟩])
 .ret))))))) }
noncomputable def p39300 : ProcT := { kind := .fn, ins := [0, 1], bins := [99], res := [.tmp 4], code := (.seq (.region false [⟨some 2, .box 100 (.tmp 0), none, []⟩,
  ⟨some 4, .mv (.const (.int .i64 0)), none, []⟩])
 (.seq (.region false [⟨some 5, .fadr 3 (.tmp 2), none, []⟩,
  ⟨some 6, .load 1 false false (.tmp 5), none, []⟩,
  ⟨some 7, .mv (.tmp 1), none, []⟩,
  ⟨some 8, .tr (.call .pass 38700 [.tmp 6, .tmp 7]), none, []⟩,
  ⟨some 1, .mv (.tmp 8), none, []⟩])
 (.seq (.region false [⟨some 9, .mv (.tmp 1), none, []⟩,
  ⟨some 4, .mv (.tmp 9), none, []⟩])
 .ret))) }
noncomputable def p39600 : ProcT := { kind := .fn, ins := [0], bins := [99], res := [.tmp 2], code := (.seq (.region false [⟨some 2, .mv (.const (.tr .int none 0)), none, []⟩])
 (.seq (.region false [⟨some 5, .mv (.tmp 0), none, []⟩,
  ⟨some 6, .len (.tmp 5), none, []⟩,
  ⟨some 7, .tr (.mk .int (.tmp 6) (.tmp 6)), none, []⟩,
  ⟨some 3, .mv (.take 7), none, []⟩])
 (.seq (.seq (.region false [⟨some 4, .mv (.const (.int .i64 0)), none, []⟩])
 (.block 0 (.label 39601)))
 (.seq (.region false [⟨some 21, .mv (.take 3), none, []⟩,
  ⟨some 2, .mv (.take 21), none, []⟩])
 .ret)))) }
noncomputable def p39601 : ProcT := { kind := .loop, ins := [0, 3, 4], bins := [99], outs := [2, 3], bouts := [99], code := (.seq (.seq (.region false [⟨some 8, .mv (.tmp 4), none, []⟩,
  ⟨some 9, .mv (.tmp 0), none, []⟩,
  ⟨some 10, .len (.tmp 9), none, []⟩,
  ⟨some 11, .bin .lss (.tmp 8) (.tmp 10), none, []⟩])
 (.cond (.tmp 11) .skip (.exit 0)))
 (.seq (.block 1 (.region false [⟨some 14, .mv (.tmp 3), none, []⟩,
  ⟨some 15, .mv (.tmp 4), none, []⟩,
  ⟨some 16, .mv (.tmp 0), none, []⟩,
  ⟨some 17, .mv (.tmp 4), none, []⟩,
  ⟨some 18, .iadr 1 (.tmp 16) (.tmp 17), none, []⟩,
  ⟨some 19, .load 1 false false (.tmp 18), none, []⟩,
  ⟨some 20, .tr (.iadr 1 (.tmp 14) (.tmp 15)), none, []⟩,
  ⟨none, .tr (.store 1 (.tmp 20) (.tmp 19)), none, []⟩]))
 (.region false [⟨some 12, .mv (.tmp 4), none, []⟩,
  ⟨some 13, .bin .add (.tmp 12) (.const (.int .i64 1)), none, []⟩,
  ⟨some 4, .mv (.tmp 13), none, []⟩]))) }
noncomputable def p16700 : ProcT := { kind := .prim, ins := [], bins := [], code := .skip, pf := Vs.cloneF, pa := Vs.cloneA }
noncomputable def p38200 : ProcT := { kind := .prim, ins := [], bins := [], code := .skip, pf := Vs.cloneF, pa := Vs.cloneA }
noncomputable def tab : List (Nat × ProcT) := [(1600, p1600), (5000, p5000), (5100, p5100), (5101, p5101), (6400, p6400), (6500, p6500), (6501, p6501), (7200, p7200), (7800, p7800), (7801, p7801), (8400, p8400), (8401, p8401), (10600, p10600), (10601, p10601), (16200, p16200), (16300, p16300), (16400, p16400), (16500, p16500), (16600, p16600), (16700, p16700), (16800, p16800), (16900, p16900), (17100, p17100), (17200, p17200), (38200, p38200), (38700, p38700), (38701, p38701), (39100, p39100), (39200, p39200), (39300, p39300), (39600, p39600), (39601, p39601)]
noncomputable abbrev Tb : Nat → Option ProcT := (Vs.look · tab)
@[reducible] def s1600 : Sig := [⟨.ret, [.one], [], [.h (.bool)]⟩]
@[reducible] def s5000 : Sig := [⟨.ret, [.one], [], [.h (.bool)]⟩]
@[reducible] def s5100 : Sig := [⟨.ret, [.one], [], [.h (.bool)]⟩]
@[reducible] def s5101 : Sig := [⟨.exit 0, [.one], [], [.undef]⟩, ⟨.ret, [.one], [], [.h (.bool)]⟩]
@[reducible] def s6400 : Sig := [⟨.ret, [.one], [], [.h (.bool)]⟩]
@[reducible] def s6500 : Sig := [⟨.ret, [.one], [], [.h (.bool)]⟩]
@[reducible] def s6501 : Sig := [⟨.exit 0, [.one], [], [.undef]⟩, ⟨.ret, [.one], [], [.h (.bool)]⟩]
@[reducible] def s7200 : Sig := [⟨.ret, [.one], [], [.h (.int .i64)]⟩]
@[reducible] def s7800 : Sig := [⟨.ret, [.one], [], [.h (.sl .int)]⟩]
@[reducible] def s7801 : Sig := [⟨.exit 0, [.one, .one], [.rows], [.undef, .bs 100, .h (.sl .int)]⟩]
@[reducible] def s8400 : Sig := [⟨.ret, [.one], [], [.h (.bool)]⟩]
@[reducible] def s8401 : Sig := [⟨.exit 0, [.one], [], [.undef]⟩, ⟨.ret, [.one], [], [.h (.bool)]⟩]
@[reducible] def s10600 : Sig := [⟨.ret, [.one], [], [.h (.int .i64)]⟩]
@[reducible] def s10601 : Sig := [⟨.exit 0, [.one, .one], [], [.h (.int .i64), .undef]⟩, ⟨.ret, [.one, .one], [], [.h (.int .i64), .h (.int .i64)]⟩]
@[reducible] def s16200 : Sig := [⟨.ret, [.one], [], [.h (.int .i64)]⟩]
@[reducible] def s16300 : Sig := [⟨.ret, [.one], [], [.h (.bool)]⟩]
@[reducible] def s16400 : Sig := [⟨.ret, [.tup 3], [], [.h (.agg .rg), .h (.int .i64), .h (.bool)]⟩]
@[reducible] def s16500 : Sig := [⟨.ret, [.one], [], [.h (.agg .rg)]⟩]
@[reducible] def s16600 : Sig := [⟨.ret, [.one], [], [.h (.bool)]⟩]
@[reducible] def s16700 : Sig := [⟨.ret, [.one], [], [.h (.own .int)]⟩]
@[reducible] def s16800 : Sig := [⟨.ret, [.tup 3], [], [.h (.agg .rg), .h (.int .i64), .h (.bool)]⟩]
@[reducible] def s16900 : Sig := [⟨.ret, [.one], [], [.h (.bool)]⟩]
@[reducible] def s17100 : Sig := [⟨.ret, [.one], [], [.h (.int .i64)]⟩]
@[reducible] def s17200 : Sig := [⟨.ret, [.one], [], [.h (.bool)]⟩]
@[reducible] def s38200 : Sig := [⟨.ret, [.one], [.ar], [.h (.tr .int), .h (.ar)]⟩]
@[reducible] def s38700 : Sig := [⟨.ret, [.one], [.ar], [.h (.int .i64), .h (.ar)]⟩]
@[reducible] def s38701 : Sig := [⟨.exit 0, [.one, .one], [.ar], [.h (.int .i64), .undef, .h (.ar)]⟩]
@[reducible] def s39100 : Sig := [⟨.ret, [.one], [.ar], [.h (.agg .rgH), .h (.ar)]⟩]
@[reducible] def s39200 : Sig := [⟨.ret, [.tup 3], [.ar], [.h (.agg .rgH), .h (.int .i64), .h (.bool), .h (.ar)]⟩]
@[reducible] def s39300 : Sig := [⟨.ret, [.one], [.ar], [.h (.int .i64), .h (.ar)]⟩]
@[reducible] def s39600 : Sig := [⟨.ret, [.one], [.ar], [.h (.tr .int), .h (.ar)]⟩]
@[reducible] def s39601 : Sig := [⟨.exit 0, [.one, .one], [.ar], [.undef, .h (.tr .int), .h (.ar)]⟩]
def sgs : List (Nat × Sig) := [(1600, s1600), (5000, s5000), (5100, s5100), (5101, s5101), (6400, s6400), (6500, s6500), (6501, s6501), (7200, s7200), (7800, s7800), (7801, s7801), (8400, s8400), (8401, s8401), (10600, s10600), (10601, s10601), (16200, s16200), (16300, s16300), (16400, s16400), (16500, s16500), (16600, s16600), (16700, s16700), (16800, s16800), (16900, s16900), (17100, s17100), (17200, s17200), (38200, s38200), (38700, s38700), (38701, s38701), (39100, s39100), (39200, s39200), (39300, s39300), (39600, s39600), (39601, s39601)]
def sg (g : Nat) : Sig := (Vs.look g sgs).getD []
def GT (i : Nat) : List TV := []
noncomputable def laws_FnExactRingTake (a0 : Rg) : Option (Bool) := callTy Tb GT s17200 17200 [.agg (rowT .rg a0)] []
noncomputable def laws_szRing (a0 : Rg) (a1 : Int) : Option (Int) := callTy Tb GT s16200 16200 [.agg (rowT .rg a0), .int .i64 a1] []
noncomputable def laws_toRing (a0 : Rg) : Option (Rg) := callTy Tb GT s16500 16500 [.agg (rowT .rg a0)] []
noncomputable def spec_RingTake (a0 : Rg) : Option (Rg × Int × Bool) := callTy Tb GT s16400 16400 [.agg (rowT .rg a0)] []
noncomputable def laws_toRing_p (a0 : Rg) (A : List Ent) : Option (RgH × List Ent) := callTy Tb GT s39100 39100 [.agg (rowT .rg a0)] [.ar A]
noncomputable def impl_RingTake_p (a0 : Rg) (A : List Ent) : Option (RgH × Int × Bool × List Ent) := callTy Tb GT s39200 39200 [.agg (rowT .rg a0)] [.ar A]
noncomputable def laws_eqRing (a0 : Rg) (a1 : Rg) : Option (Bool) := callTy Tb GT s16900 16900 [.agg (rowT .rg a0), .agg (rowT .rg a1)] []
noncomputable def laws_markRing_p (a0 : RgH) (a1 : Int) (A : List Ent) : Option (Int × List Ent) := callTy Tb GT s39300 39300 [.agg (rowT .rgH a0), .int .i64 a1] [.ar A]
noncomputable def laws_heldRing (a0 : Rg) (a1 : Int) : Option (Int) := callTy Tb GT s17100 17100 [.agg (rowT .rg a0), .int .i64 a1] []
noncomputable def impl_RingTake (a0 : Rg) : Option (Rg × Int × Bool) := callTy Tb GT s16800 16800 [.agg (rowT .rg a0)] []
noncomputable def laws_szIntS (a0 : List Int) (a1 : Int) : Option (Int) := callTy Tb GT s7200 7200 [.sl .share .int a0, .int .i64 a1] []
noncomputable def laws_toIntS (a0 : List Int) : Option (List Int) := callTy Tb GT s7800 7800 [.sl .share .int a0] []
noncomputable def spec_RingValid (a0 : Rg) : Option (Bool) := callTy Tb GT s16300 16300 [.agg (rowT .rg a0)] []
noncomputable def laws_toIntS_p (a0 : List Int) (A : List Ent) : Option (Hd × List Ent) := callTy Tb GT s39600 39600 [.sl .share .int a0] [.ar A]
noncomputable def impl_RingValid (a0 : Rg) : Option (Bool) := callTy Tb GT s16600 16600 [.agg (rowT .rg a0)] []
noncomputable def slices_Clone___int_int__p (a0 : List Int) (A : List Ent) : Option (Hd × List Ent) := callTy Tb GT s38200 38200 [.sl .share .int a0] [.ar A]
noncomputable def laws_eqIntS (a0 : List Int) (a1 : List Int) : Option (Bool) := callTy Tb GT s8400 8400 [.sl .share .int a0, .sl .share .int a1] []
noncomputable def laws_markIntS_p (a0 : Hd) (a1 : Int) (A : List Ent) : Option (Int × List Ent) := callTy Tb GT s38700 38700 [.tr .int a0.id a0.n, .int .i64 a1] [.ar A]
noncomputable def laws_heldIntS (a0 : List Int) (a1 : Int) : Option (Int) := callTy Tb GT s10600 10600 [.sl .share .int a0, .int .i64 a1] []
noncomputable def slices_Clone___int_int_ (a0 : List Int) : Option (List Int) := callTy Tb GT s16700 16700 [.sl .share .int a0] []
noncomputable def laws_toIntS_l1 (t0 : List Int) (t4 : Int) (b100 : List Int) : Option (List Int) := callTy Tb GT s7801 7801 [.sl .share .int t0, .bs 100, .int .i64 t4] [.rows .int b100]
noncomputable def spec_l6In (a0 : Int) (a1 : Int) (a2 : Int) : Option (Bool) := callTy Tb GT s1600 1600 [.int .i64 a0, .int .i64 a1, .int .i64 a2] []
noncomputable def spec_l4Words (a0 : List Int) (a1 : Int) : Option (Bool) := callTy Tb GT s6500 6500 [.sl .share .int a0, .int .i64 a1] []
noncomputable def laws_toIntS_p_l1 (t0 : List Int) (t3 : Hd) (t4 : Int) (b99 : List Ent) : Option (Hd × List Ent) := callTy Tb GT s39601 39601 [.sl .share .int t0, .tr .int t3.id t3.n, .int .i64 t4] [.ar b99]
noncomputable def impl_areWords (a0 : List Int) : Option (Bool) := callTy Tb GT s5100 5100 [.sl .share .int a0] []
noncomputable def laws_eqIntS_l1 (t0 : List Int) (t1 : List Int) (t5 : Int) : Option (Unit ⊕ Bool) := callTy Tb GT s8401 8401 [.sl .share .int t0, .sl .share .int t1, .int .i64 t5] []
noncomputable def laws_markIntS_p_l1 (t0 : Hd) (t1 : Int) (t5 : Int) (b99 : List Ent) : Option (Int × List Ent) := callTy Tb GT s38701 38701 [.tr .int t0.id t0.n, .int .i64 t1, .int .i64 t5] [.ar b99]
noncomputable def laws_heldIntS_l1 (t0 : List Int) (t1 : Int) (t5 : Int) : Option (Int ⊕ (Int × Int)) := callTy Tb GT s10601 10601 [.sl .share .int t0, .int .i64 t1, .int .i64 t5] []
noncomputable def spec_WordValid (a0 : Int) : Option (Bool) := callTy Tb GT s6400 6400 [.int .i64 a0] []
noncomputable def spec_l4Words_l1 (t0 : List Int) (t5 : Int) : Option (Unit ⊕ Bool) := callTy Tb GT s6501 6501 [.sl .share .int t0, .int .i64 t5] []
noncomputable def impl_WordValid (a0 : Int) : Option (Bool) := callTy Tb GT s5000 5000 [.int .i64 a0] []
noncomputable def impl_areWords_l1 (t5 : List Int) (t6 : Int) (t7 : Int) : Option (Unit ⊕ Bool) := callTy Tb GT s5101 5101 [.sl .share .int t5, .int .i64 t6, .int .i64 t7] []
end Go.TFnExactRingTake
