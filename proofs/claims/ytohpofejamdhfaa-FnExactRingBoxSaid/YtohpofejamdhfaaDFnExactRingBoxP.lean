import Derived.Test.YtohpofejamdhfaaLkA

set_option linter.unusedVariables false
namespace Go.TFnExactRingBox
open Go Go.RowKit Go.Vs Go.Tv

noncomputable def p1600 : ProcT := { kind := .fn, ins := [0, 1, 2], bins := [], res := [.tmp 6], code := (.seq (.region false [⟨some 6, .mv (.const (.bool false)), none, []⟩])
 (.seq (.region false [⟨some 7, .mv (.tmp 0), none, []⟩,
  ⟨some 8, .mv (.tmp 1), none, []⟩,
  ⟨some 9, .bin .geq (.tmp 7) (.tmp 8), none, []⟩,
  ⟨some 10, .mv (.tmp 9), none, []⟩,
  ⟨some 11, .mv (.tmp 0), some (10, true), []⟩,
  ⟨some 12, .mv (.tmp 2), some (10, true), []⟩,
  ⟨some 13, .bin .leq (.tmp 11) (.tmp 12), some (10, true), []⟩,
  ⟨some 14, .pick (.tmp 10) (.tmp 13) (.const (.bool false)), none, []⟩,
  ⟨some 6, .mv (.tmp 14), none, []⟩])
 .ret)) }
noncomputable def p5000 : ProcT := { kind := .fn, ins := [0], bins := [], res := [.tmp 2], code := (.seq (.region false [⟨some 2, .mv (.const (.bool false)), none, []⟩])
 (.seq (.region false [⟨some 3, .mv (.tmp 0), none, []⟩,
  ⟨some 4, .bin .geq (.tmp 3) (.const (.int .i64 (-2147483648))), none, []⟩,
  ⟨some 5, .mv (.tmp 4), none, []⟩,
  ⟨some 6, .mv (.tmp 0), some (5, true), []⟩,
  ⟨some 7, .bin .leq (.tmp 6) (.const (.int .i64 2147483647)), some (5, true), []⟩,
  ⟨some 8, .pick (.tmp 5) (.tmp 7) (.const (.bool false)), none, []⟩,
  ⟨some 2, .mv (.tmp 8), none, []⟩])
 .ret)) }
noncomputable def p5100 : ProcT := { kind := .fn, ins := [0], bins := [], res := [.tmp 2], code := (.seq (.region false [⟨some 2, .mv (.const (.bool false)), none, []⟩])
 (.seq (.seq (.region false [⟨some 5, .mv (.tmp 0), none, []⟩,
  ⟨some 6, .len (.tmp 5), none, []⟩,
  ⟨some 7, .mv (.const (.int .i64 0)), none, []⟩])
 (.block 0 (.label 5101)))
 (.seq (.region false [⟨some 2, .mv (.const (.bool true)), none, []⟩])
 .ret))) }
noncomputable def p5101 : ProcT := { kind := .loop, ins := [5, 6, 7], bins := [], outs := [2], bouts := [], code := (.seq (.region false [⟨some 8, .bin .lss (.tmp 7) (.tmp 6), none, []⟩])
 (.seq (.cond (.tmp 8) .skip (.exit 0))
 (.seq (.block 1 (.seq (.region false [⟨some 9, .iadr 1 (.tmp 5) (.tmp 7), none, []⟩,
  ⟨some 10, .load 1 false false (.tmp 9), none, []⟩,
  ⟨some 4, .mv (.tmp 10), none, []⟩])
 (.seq (.region false [⟨some 11, .mv (.tmp 4), none, []⟩,
  ⟨some 12, .call 5000 0 [.tmp 11], none, []⟩,
  ⟨some 13, .un .not (.tmp 12), none, []⟩])
 (.cond (.tmp 13) (.seq (.region false [⟨some 2, .mv (.const (.bool false)), none, []⟩])
 .ret) .skip))))
 (.region false [⟨some 14, .bin .add (.tmp 7) (.const (.int .i64 1)), none, []⟩,
  ⟨some 7, .mv (.tmp 14), none, []⟩])))) }
noncomputable def p6400 : ProcT := { kind := .fn, ins := [0], bins := [], res := [.tmp 2], code := (.seq (.region false [⟨some 2, .mv (.const (.bool false)), none, []⟩])
 (.seq (.region false [⟨some 3, .mv (.tmp 0), none, []⟩,
  ⟨some 4, .call 1600 0 [.tmp 3, .const (.int .i64 (-2147483648)), .const (.int .i64 2147483647)], none, []⟩,
  ⟨some 2, .mv (.tmp 4), none, []⟩])
 .ret)) }
noncomputable def p6500 : ProcT := { kind := .fn, ins := [0, 1], bins := [], res := [.tmp 4], code := (.seq (.region false [⟨some 4, .mv (.const (.bool false)), none, []⟩])
 (.seq (.seq (.region false [⟨some 6, .mv (.tmp 0), none, []⟩,
  ⟨some 7, .len (.tmp 6), none, []⟩,
  ⟨some 8, .mv (.tmp 1), none, []⟩,
  ⟨some 9, .bin .neq (.tmp 7) (.tmp 8), none, []⟩])
 (.cond (.tmp 9) (.seq (.region false [⟨some 4, .mv (.const (.bool false)), none, []⟩])
 .ret) .skip))
 (.seq (.seq (.region false [⟨some 5, .mv (.const (.int .i64 0)), none, []⟩])
 (.block 0 (.label 6501)))
 (.seq (.region false [⟨some 4, .mv (.const (.bool true)), none, []⟩])
 .ret)))) }
noncomputable def p6501 : ProcT := { kind := .loop, ins := [0, 5], bins := [], outs := [4], bouts := [], code := (.seq (.seq (.region false [⟨some 10, .mv (.tmp 5), none, []⟩,
  ⟨some 11, .mv (.tmp 0), none, []⟩,
  ⟨some 12, .len (.tmp 11), none, []⟩,
  ⟨some 13, .bin .lss (.tmp 10) (.tmp 12), none, []⟩])
 (.cond (.tmp 13) .skip (.exit 0)))
 (.seq (.block 1 (.seq (.region false [⟨some 16, .mv (.tmp 0), none, []⟩,
  ⟨some 17, .mv (.tmp 5), none, []⟩,
  ⟨some 18, .iadr 1 (.tmp 16) (.tmp 17), none, []⟩,
  ⟨some 19, .load 1 false false (.tmp 18), none, []⟩,
  ⟨some 20, .call 6400 0 [.tmp 19], none, []⟩,
  ⟨some 21, .un .not (.tmp 20), none, []⟩])
 (.cond (.tmp 21) (.seq (.region false [⟨some 4, .mv (.const (.bool false)), none, []⟩])
 .ret) .skip)))
 (.region false [⟨some 14, .mv (.tmp 5), none, []⟩,
  ⟨some 15, .bin .add (.tmp 14) (.const (.int .i64 1)), none, []⟩,
  ⟨some 5, .mv (.tmp 15), none, []⟩]))) }
noncomputable def p7200 : ProcT := { kind := .fn, ins := [0, 1], bins := [], res := [.tmp 4], code := (.seq (.region false [⟨some 4, .mv (.const (.int .i64 0)), none, []⟩])
 (.seq (.region false [⟨some 5, .mv (.tmp 1), none, []⟩,
  ⟨some 6, .mv (.tmp 0), none, []⟩,
  ⟨some 7, .len (.tmp 6), none, []⟩,
  ⟨some 8, .bin .sub (.tmp 5) (.tmp 7), none, []⟩,
  ⟨some 1, .mv (.tmp 8), none, []⟩])
 (.seq (.seq (.region false [⟨some 9, .mv (.tmp 1), none, []⟩,
  ⟨some 10, .bin .lss (.tmp 9) (.const (.int .i64 0)), none, []⟩])
 (.cond (.tmp 10) (.seq (.region false [⟨some 4, .mv (.const (.int .i64 (-1))), none, []⟩])
 .ret) .skip))
 (.seq (.region false [⟨some 11, .mv (.tmp 1), none, []⟩,
  ⟨some 4, .mv (.tmp 11), none, []⟩])
 .ret)))) }
noncomputable def p7800 : ProcT := { kind := .fn, ins := [0], bins := [], res := [.tmp 2], code := (.seq (.region false [⟨some 2, .mv (.const (.sl (.own false) .int [])), none, []⟩])
 (.seq (.region false [⟨some 5, .mv (.tmp 0), none, []⟩,
  ⟨some 6, .len (.tmp 5), none, []⟩,
  ⟨some 7, .mksl 100 .int (.tmp 6) (.tmp 6), none, []⟩,
  ⟨some 3, .mv (.take 7), none, []⟩])
 (.seq (.seq (.region false [⟨some 4, .mv (.const (.int .i64 0)), none, []⟩])
 (.block 0 (.label 7801)))
 (.seq (.region false [⟨some 21, .mv (.take 3), none, []⟩,
  ⟨some 2, .mv (.take 21), none, []⟩])
 .ret)))) }
noncomputable def p7801 : ProcT := { kind := .loop, ins := [0, 3, 4], bins := [100], outs := [2, 3], bouts := [100], code := (.seq (.seq (.region false [⟨some 8, .mv (.tmp 4), none, []⟩,
  ⟨some 9, .mv (.tmp 0), none, []⟩,
  ⟨some 10, .len (.tmp 9), none, []⟩,
  ⟨some 11, .bin .lss (.tmp 8) (.tmp 10), none, []⟩])
 (.cond (.tmp 11) .skip (.exit 0)))
 (.seq (.block 1 (.region false [⟨some 14, .mv (.tmp 3), none, []⟩,
  ⟨some 15, .mv (.tmp 4), none, []⟩,
  ⟨some 16, .mv (.tmp 0), none, []⟩,
  ⟨some 17, .mv (.tmp 4), none, []⟩,
  ⟨some 18, .iadr 1 (.tmp 16) (.tmp 17), none, []⟩,
  ⟨some 19, .load 1 false false (.tmp 18), none, []⟩,
  ⟨some 20, .iadr 1 (.tmp 14) (.tmp 15), none, []⟩,
  ⟨none, .store 1 (.tmp 20) (.tmp 19), none, []⟩]))
 (.region false [⟨some 12, .mv (.tmp 4), none, []⟩,
  ⟨some 13, .bin .add (.tmp 12) (.const (.int .i64 1)), none, []⟩,
  ⟨some 4, .mv (.tmp 13), none, []⟩]))) }
noncomputable def p8400 : ProcT := { kind := .fn, ins := [0, 1], bins := [], res := [.tmp 4], code := (.seq (.region false [⟨some 4, .mv (.const (.bool false)), none, []⟩])
 (.seq (.seq (.region false [⟨some 6, .mv (.tmp 0), none, []⟩,
  ⟨some 7, .len (.tmp 6), none, []⟩,
  ⟨some 8, .mv (.tmp 1), none, []⟩,
  ⟨some 9, .len (.tmp 8), none, []⟩,
  ⟨some 10, .bin .neq (.tmp 7) (.tmp 9), none, []⟩])
 (.cond (.tmp 10) (.seq (.region false [⟨some 4, .mv (.const (.bool false)), none, []⟩])
 .ret) .skip))
 (.seq (.seq (.region false [⟨some 5, .mv (.const (.int .i64 0)), none, []⟩])
 (.block 0 (.label 8401)))
 (.seq (.region false [⟨some 4, .mv (.const (.bool true)), none, []⟩])
 .ret)))) }
noncomputable def p8401 : ProcT := { kind := .loop, ins := [0, 1, 5], bins := [], outs := [4], bouts := [], code := (.seq (.seq (.region false [⟨some 11, .mv (.tmp 5), none, []⟩,
  ⟨some 12, .mv (.tmp 0), none, []⟩,
  ⟨some 13, .len (.tmp 12), none, []⟩,
  ⟨some 14, .bin .lss (.tmp 11) (.tmp 13), none, []⟩])
 (.cond (.tmp 14) .skip (.exit 0)))
 (.seq (.block 1 (.seq (.region true [⟨some 17, .mv (.tmp 0), none, []⟩,
  ⟨some 18, .mv (.tmp 5), none, []⟩,
  ⟨some 19, .iadr 1 (.tmp 17) (.tmp 18), none, []⟩,
  ⟨some 20, .load 1 false false (.tmp 19), none, []⟩,
  ⟨some 21, .mv (.tmp 1), none, []⟩,
  ⟨some 22, .mv (.tmp 5), none, []⟩,
  ⟨some 23, .iadr 1 (.tmp 21) (.tmp 22), none, []⟩,
  ⟨some 24, .load 1 false false (.tmp 23), none, []⟩,
  ⟨some 25, .bin .neq (.tmp 20) (.tmp 24), none, []⟩])
 (.cond (.tmp 25) (.seq (.region false [⟨some 4, .mv (.const (.bool false)), none, []⟩])
 .ret) .skip)))
 (.region false [⟨some 15, .mv (.tmp 5), none, []⟩,
  ⟨some 16, .bin .add (.tmp 15) (.const (.int .i64 1)), none, []⟩,
  ⟨some 5, .mv (.tmp 16), none, []⟩]))) }
noncomputable def p10600 : ProcT := { kind := .fn, ins := [0, 1], bins := [], res := [.tmp 4], code := (.seq (.region false [⟨some 4, .mv (.const (.int .i64 0)), none, []⟩])
 (.seq (.seq (.region false [⟨some 5, .mv (.const (.int .i64 0)), none, []⟩])
 (.block 0 (.label 10601)))
 (.seq (.region false [⟨some 20, .mv (.tmp 1), none, []⟩,
  ⟨some 4, .mv (.tmp 20), none, []⟩])
 .ret))) }
noncomputable def p10601 : ProcT := { kind := .loop, ins := [0, 1, 5], bins := [], outs := [1, 4], bouts := [], code := (.seq (.seq (.region false [⟨some 6, .mv (.tmp 5), none, []⟩,
  ⟨some 7, .mv (.tmp 0), none, []⟩,
  ⟨some 8, .len (.tmp 7), none, []⟩,
  ⟨some 9, .bin .lss (.tmp 6) (.tmp 8), none, []⟩])
 (.cond (.tmp 9) .skip (.exit 0)))
 (.seq (.block 1 (.seq (.seq (.region false [⟨some 12, .mv (.tmp 0), none, []⟩,
  ⟨some 13, .mv (.tmp 5), none, []⟩,
  ⟨some 14, .iadr 1 (.tmp 12) (.tmp 13), none, []⟩,
  ⟨some 15, .load 1 false false (.tmp 14), none, []⟩,
  ⟨some 16, .mv (.tmp 1), none, []⟩,
  ⟨some 17, .bin .neq (.tmp 15) (.tmp 16), none, []⟩])
 (.cond (.tmp 17) (.seq (.region false [⟨some 4, .mv (.const (.int .i64 (-1))), none, []⟩])
 .ret) .skip))
 (.region false [⟨some 18, .mv (.tmp 1), none, []⟩,
  ⟨some 19, .bin .add (.tmp 18) (.const (.int .i64 1)), none, []⟩,
  ⟨some 1, .mv (.tmp 19), none, []⟩])))
 (.region false [⟨some 10, .mv (.tmp 5), none, []⟩,
  ⟨some 11, .bin .add (.tmp 10) (.const (.int .i64 1)), none, []⟩,
  ⟨some 5, .mv (.tmp 11), none, []⟩]))) }
noncomputable def p16200 : ProcT := { kind := .fn, ins := [0, 1], bins := [], res := [.tmp 4], code := (.seq (.region false [⟨some 2, .box 100 (.tmp 0), none, []⟩,
  ⟨some 4, .mv (.const (.int .i64 0)), none, []⟩])
 (.seq (.region false [⟨some 5, .fadr 3 (.tmp 2), none, []⟩,
  ⟨some 6, .load 1 false false (.tmp 5), none, []⟩,
  ⟨some 7, .mv (.tmp 1), none, []⟩,
  ⟨some 8, .call 7200 0 [.tmp 6, .tmp 7], none, []⟩,
  ⟨some 1, .mv (.tmp 8), none, []⟩])
 (.seq (.seq (.region false [⟨some 9, .mv (.tmp 1), none, []⟩,
  ⟨some 10, .bin .lss (.tmp 9) (.const (.int .i64 0)), none, []⟩])
 (.cond (.tmp 10) (.seq (.region false [⟨some 4, .mv (.const (.int .i64 (-1))), none, []⟩])
 .ret) .skip))
 (.seq (.region false [⟨some 11, .mv (.tmp 1), none, []⟩,
  ⟨some 4, .mv (.tmp 11), none, []⟩])
 .ret)))) }
noncomputable def p16300 : ProcT := { kind := .fn, ins := [0], bins := [], res := [.tmp 2], code := (.seq (.region false [⟨some 1, .box 100 (.tmp 0), none, []⟩,
  ⟨some 2, .mv (.const (.bool false)), none, []⟩])
 (.seq (.region false [⟨some 3, .fadr 0 (.tmp 1), none, []⟩,
  ⟨some 4, .load 1 false false (.tmp 3), none, []⟩,
  ⟨some 5, .call 1600 0 [.tmp 4, .const (.int .i64 1), .const (.int .i64 4)], none, []⟩,
  ⟨some 6, .mv (.tmp 5), none, []⟩,
  ⟨some 7, .fadr 1 (.tmp 1), some (6, true), []⟩,
  ⟨some 8, .load 1 false false (.tmp 7), some (6, true), []⟩,
  ⟨some 9, .fadr 0 (.tmp 1), some (6, true), []⟩,
  ⟨some 10, .load 1 false false (.tmp 9), some (6, true), []⟩,
  ⟨some 11, .bin .sub (.tmp 10) (.const (.int .i64 1)), some (6, true), []⟩,
  ⟨some 12, .call 1600 0 [.tmp 8, .const (.int .i64 0), .tmp 11], some (6, true), []⟩,
  ⟨some 13, .pick (.tmp 6) (.tmp 12) (.const (.bool false)), none, []⟩,
  ⟨some 14, .mv (.tmp 13), none, []⟩,
  ⟨some 15, .fadr 2 (.tmp 1), some (14, true), []⟩,
  ⟨some 16, .load 1 false false (.tmp 15), some (14, true), []⟩,
  ⟨some 17, .fadr 0 (.tmp 1), some (14, true), []⟩,
  ⟨some 18, .load 1 false false (.tmp 17), some (14, true), []⟩,
  ⟨some 19, .call 1600 0 [.tmp 16, .const (.int .i64 0), .tmp 18], some (14, true), []⟩,
  ⟨some 20, .pick (.tmp 14) (.tmp 19) (.const (.bool false)), none, []⟩,
  ⟨some 21, .mv (.tmp 20), none, []⟩,
  ⟨some 22, .fadr 3 (.tmp 1), some (21, true), []⟩,
  ⟨some 23, .load 1 false false (.tmp 22), some (21, true), []⟩,
  ⟨some 24, .call 6500 0 [.tmp 23, .const (.int .i64 4)], some (21, true), []⟩,
  ⟨some 25, .pick (.tmp 21) (.tmp 24) (.const (.bool false)), none, []⟩,
  ⟨some 2, .mv (.tmp 25), none, []⟩])
 .ret)) }
noncomputable def p16500 : ProcT := { kind := .fn, ins := [0], bins := [], res := [.cell 2 4 true], code := (.seq (.region false [⟨some 1, .box 100 (.tmp 0), none, []⟩,
  ⟨some 2, .alloc 101 [.int .i64 0, .int .i64 0, .int .i64 0, .sl (.own false) .int []], none, []⟩])
 (.seq (.region false [⟨some 3, .alloc 102 [.int .i64 0, .int .i64 0, .int .i64 0, .sl (.own false) .int []], none, []⟩])
 (.seq (.region false [⟨some 4, .fadr 0 (.tmp 1), none, []⟩,
  ⟨some 5, .load 1 false false (.tmp 4), none, []⟩,
  ⟨some 6, .fadr 0 (.tmp 3), none, []⟩,
  ⟨none, .store 1 (.tmp 6) (.tmp 5), none, []⟩])
 (.seq (.region false [⟨some 7, .fadr 1 (.tmp 1), none, []⟩,
  ⟨some 8, .load 1 false false (.tmp 7), none, []⟩,
  ⟨some 9, .fadr 1 (.tmp 3), none, []⟩,
  ⟨none, .store 1 (.tmp 9) (.tmp 8), none, []⟩])
 (.seq (.region false [⟨some 10, .fadr 2 (.tmp 1), none, []⟩,
  ⟨some 11, .load 1 false false (.tmp 10), none, []⟩,
  ⟨some 12, .fadr 2 (.tmp 3), none, []⟩,
  ⟨none, .store 1 (.tmp 12) (.tmp 11), none, []⟩])
 (.seq (.region false [⟨some 13, .fadr 3 (.tmp 1), none, []⟩,
  ⟨some 14, .load 1 false false (.tmp 13), none, []⟩,
  ⟨some 15, .call 7800 0 [.tmp 14], none, []⟩,
  ⟨some 16, .fadr 3 (.tmp 3), none, []⟩,
  ⟨none, .store 1 (.tmp 16) (.take 15), none, []⟩])
 (.seq (.region false [⟨some 17, .load 4 true false (.tmp 3), none, []⟩,
  ⟨none, .store 4 (.tmp 2) (.tmp 17), none, []⟩])
 .ret))))))) }
noncomputable def p16600 : ProcT := { kind := .fn, ins := [0], bins := [], res := [.tmp 2], code := (.seq (.region false [⟨some 1, .box 100 (.tmp 0), none, []⟩,
  ⟨some 2, .mv (.const (.bool false)), none, []⟩])
 (.seq (.region false [⟨some 3, .fadr 0 (.tmp 1), none, []⟩,
  ⟨some 4, .load 1 false false (.tmp 3), none, []⟩,
  ⟨some 5, .bin .geq (.tmp 4) (.const (.int .i64 1)), none, []⟩,
  ⟨some 6, .mv (.tmp 5), none, []⟩,
  ⟨some 7, .fadr 0 (.tmp 1), some (6, true), []⟩,
  ⟨some 8, .load 1 false false (.tmp 7), some (6, true), []⟩,
  ⟨some 9, .bin .leq (.tmp 8) (.const (.int .i64 4)), some (6, true), []⟩,
  ⟨some 10, .pick (.tmp 6) (.tmp 9) (.const (.bool false)), none, []⟩,
  ⟨some 11, .mv (.tmp 10), none, []⟩,
  ⟨some 12, .fadr 1 (.tmp 1), some (11, true), []⟩,
  ⟨some 13, .load 1 false false (.tmp 12), some (11, true), []⟩,
  ⟨some 14, .bin .geq (.tmp 13) (.const (.int .i64 0)), some (11, true), []⟩,
  ⟨some 15, .pick (.tmp 11) (.tmp 14) (.const (.bool false)), none, []⟩,
  ⟨some 16, .mv (.tmp 15), none, []⟩,
  ⟨some 17, .fadr 1 (.tmp 1), some (16, true), []⟩,
  ⟨some 18, .load 1 false false (.tmp 17), some (16, true), []⟩,
  ⟨some 19, .fadr 0 (.tmp 1), some (16, true), []⟩,
  ⟨some 20, .load 1 false false (.tmp 19), some (16, true), []⟩,
  ⟨some 21, .bin .lss (.tmp 18) (.tmp 20), some (16, true), []⟩,
  ⟨some 22, .pick (.tmp 16) (.tmp 21) (.const (.bool false)), none, []⟩,
  ⟨some 23, .mv (.tmp 22), none, []⟩,
  ⟨some 24, .fadr 2 (.tmp 1), some (23, true), []⟩,
  ⟨some 25, .load 1 false false (.tmp 24), some (23, true), []⟩,
  ⟨some 26, .bin .geq (.tmp 25) (.const (.int .i64 0)), some (23, true), []⟩,
  ⟨some 27, .pick (.tmp 23) (.tmp 26) (.const (.bool false)), none, []⟩,
  ⟨some 28, .mv (.tmp 27), none, []⟩,
  ⟨some 29, .fadr 2 (.tmp 1), some (28, true), []⟩,
  ⟨some 30, .load 1 false false (.tmp 29), some (28, true), []⟩,
  ⟨some 31, .fadr 0 (.tmp 1), some (28, true), []⟩,
  ⟨some 32, .load 1 false false (.tmp 31), some (28, true), []⟩,
  ⟨some 33, .bin .leq (.tmp 30) (.tmp 32), some (28, true), []⟩,
  ⟨some 34, .pick (.tmp 28) (.tmp 33) (.const (.bool false)), none, []⟩,
  ⟨some 35, .mv (.tmp 34), none, []⟩,
  ⟨some 36, .fadr 3 (.tmp 1), some (35, true), []⟩,
  ⟨some 37, .load 1 false false (.tmp 36), some (35, true), []⟩,
  ⟨some 38, .len (.tmp 37), some (35, true), []⟩,
  ⟨some 39, .bin .eql (.tmp 38) (.const (.int .i64 4)), some (35, true), []⟩,
  ⟨some 40, .pick (.tmp 35) (.tmp 39) (.const (.bool false)), none, []⟩,
  ⟨some 41, .mv (.tmp 40), none, []⟩,
  ⟨some 42, .fadr 3 (.tmp 1), some (41, true), []⟩,
  ⟨some 43, .load 1 false false (.tmp 42), some (41, true), []⟩,
  ⟨some 44, .call 5100 0 [.tmp 43], some (41, true), []⟩,
  ⟨some 45, .pick (.tmp 41) (.tmp 44) (.const (.bool false)), none, []⟩,
  ⟨some 2, .mv (.tmp 45), none, []⟩])
 .ret)) }
noncomputable def p16900 : ProcT := { kind := .fn, ins := [0, 1], bins := [], res := [.tmp 4], code := (.seq (.region false [⟨some 2, .box 100 (.tmp 0), none, []⟩,
  ⟨some 3, .box 101 (.tmp 1), none, []⟩,
  ⟨some 4, .mv (.const (.bool false)), none, []⟩])
 (.seq (.seq (.region false [⟨some 5, .fadr 0 (.tmp 2), none, []⟩,
  ⟨some 6, .load 1 false false (.tmp 5), none, []⟩,
  ⟨some 7, .fadr 0 (.tmp 3), none, []⟩,
  ⟨some 8, .load 1 false false (.tmp 7), none, []⟩,
  ⟨some 9, .bin .neq (.tmp 6) (.tmp 8), none, []⟩])
 (.cond (.tmp 9) (.seq (.region false [⟨some 4, .mv (.const (.bool false)), none, []⟩])
 .ret) .skip))
 (.seq (.seq (.region false [⟨some 10, .fadr 1 (.tmp 2), none, []⟩,
  ⟨some 11, .load 1 false false (.tmp 10), none, []⟩,
  ⟨some 12, .fadr 1 (.tmp 3), none, []⟩,
  ⟨some 13, .load 1 false false (.tmp 12), none, []⟩,
  ⟨some 14, .bin .neq (.tmp 11) (.tmp 13), none, []⟩])
 (.cond (.tmp 14) (.seq (.region false [⟨some 4, .mv (.const (.bool false)), none, []⟩])
 .ret) .skip))
 (.seq (.seq (.region false [⟨some 15, .fadr 2 (.tmp 2), none, []⟩,
  ⟨some 16, .load 1 false false (.tmp 15), none, []⟩,
  ⟨some 17, .fadr 2 (.tmp 3), none, []⟩,
  ⟨some 18, .load 1 false false (.tmp 17), none, []⟩,
  ⟨some 19, .bin .neq (.tmp 16) (.tmp 18), none, []⟩])
 (.cond (.tmp 19) (.seq (.region false [⟨some 4, .mv (.const (.bool false)), none, []⟩])
 .ret) .skip))
 (.seq (.seq (.region false [⟨some 20, .fadr 3 (.tmp 2), none, []⟩,
  ⟨some 21, .load 1 false false (.tmp 20), none, []⟩,
  ⟨some 22, .fadr 3 (.tmp 3), none, []⟩,
  ⟨some 23, .load 1 false false (.tmp 22), none, []⟩,
  ⟨some 24, .call 8400 0 [.tmp 21, .tmp 23], none, []⟩,
  ⟨some 25, .un .not (.tmp 24), none, []⟩])
 (.cond (.tmp 25) (.seq (.region false [⟨some 4, .mv (.const (.bool false)), none, []⟩])
 .ret) .skip))
 (.seq (.region false [⟨some 4, .mv (.const (.bool true)), none, []⟩])
 .ret)))))) }
noncomputable def p18800 : ProcT := { kind := .fn, ins := [0], bins := [], res := [.cell 2 2 true, .tmp 3], code := (.seq (.region false [⟨some 1, .box 100 (.tmp 0), none, []⟩,
  ⟨some 2, .alloc 101 [.int .i64 0, .sl (.own false) .int []], none, []⟩,
  ⟨some 3, .mv (.const (.bool false)), none, []⟩])
 (.seq (.seq (.region false [⟨some 6, .load 4 true false (.tmp 1), none, []⟩,
  ⟨some 7, .call 16300 0 [.tmp 6], none, []⟩,
  ⟨some 8, .un .not (.tmp 7), none, []⟩])
 (.cond (.tmp 8) (.seq (.region false [⟨some 9, .build [.int .i64 0, .sl (.own false) .int []] [], none, []⟩,
  ⟨none, .store 2 (.tmp 2) (.tmp 9), none, []⟩,
  ⟨some 3, .mv (.const (.bool false)), none, []⟩])
 .ret) .skip))
 (.seq (.region false [⟨some 10, .fadr 0 (.tmp 1), none, []⟩,
  ⟨some 11, .load 1 false false (.tmp 10), none, []⟩,
  ⟨some 12, .buildS (.own false) .int [], none, []⟩,
  ⟨some 13, .build [.int .i64 0, .sl (.own false) .int []] [(0, 1, .tmp 11), (1, 1, .tmp 12)], none, []⟩,
  ⟨some 4, .alloc 102 [.int .i64 0, .sl (.own false) .int []], none, []⟩,
  ⟨none, .store 2 (.tmp 4) (.tmp 13), none, []⟩])
 (.seq (.seq (.region false [⟨some 5, .mv (.const (.int .i64 0)), none, []⟩])
 (.block 0 (.label 18801)))
 (.seq (.region false [⟨some 36, .load 2 true false (.tmp 4), none, []⟩,
  ⟨none, .store 2 (.tmp 2) (.tmp 36), none, []⟩,
  ⟨some 3, .mv (.const (.bool true)), none, []⟩])
 .ret))))) }
noncomputable def p18801 : ProcT := { kind := .loop, ins := [1, 2, 4, 5], bins := [100, 101, 102], outs := [2, 3, 4], bouts := [101, 102], code := (.seq (.seq (.region false [⟨some 14, .mv (.tmp 5), none, []⟩,
  ⟨some 15, .fadr 2 (.tmp 1), none, []⟩,
  ⟨some 16, .load 1 false false (.tmp 15), none, []⟩,
  ⟨some 17, .bin .lss (.tmp 14) (.tmp 16), none, []⟩])
 (.cond (.tmp 17) .skip (.exit 0)))
 (.seq (.block 1 (.region true [⟨some 20, .fadr 1 (.tmp 4), none, [102]⟩,
  ⟨some 21, .load 1 false true (.tmp 20), none, [102]⟩,
  ⟨some 22, .fadr 3 (.tmp 1), none, [100]⟩,
  ⟨some 23, .load 1 false false (.tmp 22), none, [100]⟩,
  ⟨some 24, .fadr 1 (.tmp 1), none, [100]⟩,
  ⟨some 25, .load 1 false false (.tmp 24), none, [100]⟩,
  ⟨some 26, .mv (.tmp 5), none, []⟩,
  ⟨some 27, .bin .add (.tmp 25) (.tmp 26), none, []⟩,
  ⟨some 28, .fadr 0 (.tmp 1), none, [100]⟩,
  ⟨some 29, .load 1 false false (.tmp 28), none, [100]⟩,
  ⟨some 30, .bin .rem (.tmp 27) (.tmp 29), none, []⟩,
  ⟨some 31, .iadr 1 (.tmp 23) (.tmp 30), none, []⟩,
  ⟨some 32, .load 1 false false (.tmp 31), none, []⟩,
  ⟨some 33, .buildS .full .int [.tmp 32], none, []⟩,
  ⟨some 34, .app 1 (.take 21) (.tmp 33), none, []⟩,
  ⟨some 35, .fadr 1 (.tmp 4), none, [102]⟩,
  ⟨none, .store 1 (.tmp 35) (.take 34), none, [102]⟩]))
 (.region false [⟨some 18, .mv (.tmp 5), none, []⟩,
  ⟨some 19, .bin .add (.tmp 18) (.const (.int .i64 1)), none, []⟩,
  ⟨some 5, .mv (.tmp 19), none, []⟩]))) }
noncomputable def p18900 : ProcT := { kind := .fn, ins := [0], bins := [], res := [.cell 2 2 true, .tmp 3], code := (.seq (.region false [⟨some 1, .box 100 (.tmp 0), none, []⟩,
  ⟨some 2, .alloc 101 [.int .i64 0, .sl (.own false) .int []], none, []⟩,
  ⟨some 3, .mv (.const (.bool false)), none, []⟩])
 (.seq (.seq (.region false [⟨some 6, .load 4 true false (.tmp 1), none, []⟩,
  ⟨some 7, .call 16600 0 [.tmp 6], none, []⟩,
  ⟨some 8, .un .not (.tmp 7), none, []⟩])
 (.cond (.tmp 8) (.seq (.region false [⟨some 9, .build [.int .i64 0, .sl (.own false) .int []] [], none, []⟩,
  ⟨none, .store 2 (.tmp 2) (.tmp 9), none, []⟩,
  ⟨some 3, .mv (.const (.bool false)), none, []⟩])
 .ret) .skip))
 (.seq (.region false [⟨some 10, .fadr 0 (.tmp 1), none, []⟩,
  ⟨some 11, .load 1 false false (.tmp 10), none, []⟩,
  ⟨some 12, .build [.int .i64 0, .sl (.own false) .int []] [(0, 1, .tmp 11)], none, []⟩,
  ⟨some 4, .alloc 102 [.int .i64 0, .sl (.own false) .int []], none, []⟩,
  ⟨none, .store 2 (.tmp 4) (.tmp 12), none, []⟩])
 (.seq (.seq (.region false [⟨some 13, .fadr 2 (.tmp 1), none, []⟩,
  ⟨some 14, .load 1 false false (.tmp 13), none, []⟩,
  ⟨some 15, .mv (.const (.int .i64 0)), none, []⟩])
 (.block 0 (.label 18901)))
 (.seq (.region false [⟨some 35, .load 2 true false (.tmp 4), none, []⟩,
  ⟨none, .store 2 (.tmp 2) (.tmp 35), none, []⟩,
  ⟨some 3, .mv (.const (.bool true)), none, []⟩])
 .ret))))) }
noncomputable def p18901 : ProcT := { kind := .loop, ins := [1, 2, 4, 14, 15], bins := [100, 101, 102], outs := [2, 3, 4], bouts := [101, 102], code := (.seq (.region false [⟨some 16, .bin .lss (.tmp 15) (.tmp 14), none, []⟩])
 (.seq (.cond (.tmp 16) .skip (.exit 0))
 (.seq (.block 1 (.seq (.region false [⟨some 17, .mv (.tmp 15), none, []⟩,
  ⟨some 5, .mv (.tmp 17), none, []⟩])
 (.region true [⟨some 18, .fadr 1 (.tmp 4), none, [102]⟩,
  ⟨some 19, .load 1 false true (.tmp 18), none, [102]⟩,
  ⟨some 20, .fadr 3 (.tmp 1), none, [100]⟩,
  ⟨some 21, .load 1 false false (.tmp 20), none, [100]⟩,
  ⟨some 22, .fadr 1 (.tmp 1), none, [100]⟩,
  ⟨some 23, .load 1 false false (.tmp 22), none, [100]⟩,
  ⟨some 24, .mv (.tmp 5), none, []⟩,
  ⟨some 25, .bin .add (.tmp 23) (.tmp 24), none, []⟩,
  ⟨some 26, .fadr 0 (.tmp 1), none, [100]⟩,
  ⟨some 27, .load 1 false false (.tmp 26), none, [100]⟩,
  ⟨some 28, .bin .rem (.tmp 25) (.tmp 27), none, []⟩,
  ⟨some 29, .iadr 1 (.tmp 21) (.tmp 28), none, []⟩,
  ⟨some 30, .load 1 false false (.tmp 29), none, []⟩,
  ⟨some 31, .buildS .full .int [.tmp 30], none, []⟩,
  ⟨some 32, .app 1 (.take 19) (.tmp 31), none, []⟩,
  ⟨some 33, .fadr 1 (.tmp 4), none, [102]⟩,
  ⟨none, .store 1 (.tmp 33) (.take 32), none, [102]⟩])))
 (.region false [⟨some 34, .bin .add (.tmp 15) (.const (.int .i64 1)), none, []⟩,
  ⟨some 15, .mv (.tmp 34), none, []⟩])))) }
noncomputable def p19000 : ProcT := { kind := .fn, ins := [0, 1], bins := [], res := [.tmp 4], code := (.seq (.region false [⟨some 2, .box 100 (.tmp 0), none, []⟩,
  ⟨some 3, .box 101 (.tmp 1), none, []⟩,
  ⟨some 4, .mv (.const (.bool false)), none, []⟩])
 (.seq (.seq (.region false [⟨some 5, .fadr 0 (.tmp 2), none, []⟩,
  ⟨some 6, .load 1 false false (.tmp 5), none, []⟩,
  ⟨some 7, .fadr 0 (.tmp 3), none, []⟩,
  ⟨some 8, .load 1 false false (.tmp 7), none, []⟩,
  ⟨some 9, .bin .neq (.tmp 6) (.tmp 8), none, []⟩])
 (.cond (.tmp 9) (.seq (.region false [⟨some 4, .mv (.const (.bool false)), none, []⟩])
 .ret) .skip))
 (.seq (.seq (.region false [⟨some 10, .fadr 1 (.tmp 2), none, []⟩,
  ⟨some 11, .load 1 false false (.tmp 10), none, []⟩,
  ⟨some 12, .fadr 1 (.tmp 3), none, []⟩,
  ⟨some 13, .load 1 false false (.tmp 12), none, []⟩,
  ⟨some 14, .call 8400 0 [.tmp 11, .tmp 13], none, []⟩,
  ⟨some 15, .un .not (.tmp 14), none, []⟩])
 (.cond (.tmp 15) (.seq (.region false [⟨some 4, .mv (.const (.bool false)), none, []⟩])
 .ret) .skip))
 (.seq (.region false [⟨some 4, .mv (.const (.bool true)), none, []⟩])
 .ret)))) }
noncomputable def p19200 : ProcT := { kind := .fn, ins := [0, 1], bins := [], res := [.tmp 4], code := (.seq (.region false [⟨some 2, .box 100 (.tmp 0), none, []⟩,
  ⟨some 4, .mv (.const (.int .i64 0)), none, []⟩])
 (.seq (.region false [⟨some 5, .fadr 1 (.tmp 2), none, []⟩,
  ⟨some 6, .load 1 false false (.tmp 5), none, []⟩,
  ⟨some 7, .mv (.tmp 1), none, []⟩,
  ⟨some 8, .call 10600 0 [.tmp 6, .tmp 7], none, []⟩,
  ⟨some 1, .mv (.tmp 8), none, []⟩])
 (.seq (.seq (.region false [⟨some 9, .mv (.tmp 1), none, []⟩,
  ⟨some 10, .bin .lss (.tmp 9) (.const (.int .i64 0)), none, []⟩])
 (.cond (.tmp 10) (.seq (.region false [⟨some 4, .mv (.const (.int .i64 (-1))), none, []⟩])
 .ret) .skip))
 (.seq (.region false [⟨some 11, .mv (.tmp 1), none, []⟩,
  ⟨some 4, .mv (.tmp 11), none, []⟩])
 .ret)))) }
noncomputable def p19300 : ProcT := { kind := .fn, ins := [0], bins := [], res := [.tmp 2], loc := true, code := (.seq (.region false [⟨some 1, .box 100 (.tmp 0), none, []⟩,
  ⟨some 2, .mv (.const (.bool false)), none, []⟩])
 (.seq (.region false [⟨some 3, .mv (.const (.int .i64 1048576)), none, []⟩])
 (.seq (.region false [⟨some 14, .load 4 true false (.tmp 1), none, []⟩,
  ⟨some 15, .mv (.tmp 3), none, []⟩,
  ⟨some 16, .call 16200 0 [.tmp 14, .tmp 15], none, []⟩,
  ⟨some 3, .mv (.tmp 16), none, []⟩])
 (.seq (.seq (.region false [⟨some 17, .mv (.tmp 3), none, []⟩,
  ⟨some 18, .bin .lss (.tmp 17) (.const (.int .i64 0)), none, []⟩])
 (.cond (.tmp 18) (.seq (.region false [⟨some 2, .mv (.const (.bool true)), none, []⟩])
 .ret) .skip))
 (.seq (.region false [⟨some 20, .load 4 true false (.tmp 1), none, []⟩,
  ⟨some 21, .call 16500 0 [.tmp 20], none, []⟩,
  ⟨some 22, .call 18800 0 [.tmp 21], none, []⟩,
  ⟨some 19, .mv (.tmp 22), none, []⟩,
  ⟨some 23, .ext 0 (.tmp 19), none, []⟩,
  ⟨some 24, .ext 1 (.tmp 19), none, []⟩,
  ⟨some 4, .alloc 101 [.int .i64 0, .sl (.own false) .int []], none, []⟩,
  ⟨none, .store 2 (.tmp 4) (.tmp 23), none, []⟩,
  ⟨some 5, .mv (.tmp 24), none, []⟩])
 (.seq (.region false [⟨some 25, .load 4 true false (.tmp 1), none, []⟩,
  ⟨some 26, .tr (.call .pass 39100 [.tmp 25]), none, []⟩,
  ⟨some 6, .alloc 102 [.int .i64 0, .int .i64 0, .int .i64 0, .sl (.own false) .int []], none, []⟩,
  ⟨none, .store 4 (.tmp 6) (.tmp 26), none, []⟩])
 (.seq (.region false [⟨some 28, .load 4 true false (.tmp 6), none, []⟩,
  ⟨some 29, .tr (.call .pview 39400 [.tmp 28]), none, []⟩,
  ⟨some 27, .mv (.tmp 29), none, []⟩,
  ⟨some 30, .ext 0 (.tmp 27), none, []⟩,
  ⟨some 31, .ext 1 (.tmp 27), none, []⟩,
  ⟨some 7, .alloc 103 [.int .i64 0, .sl (.own false) .int []], none, []⟩,
  ⟨none, .store 2 (.tmp 7) (.tmp 30), none, []⟩,
  ⟨some 8, .mv (.tmp 31), none, []⟩])
 (.seq (.seq (.region false [⟨some 32, .load 2 true false (.tmp 7), none, []⟩,
  ⟨some 33, .load 2 true false (.tmp 4), none, []⟩,
  ⟨some 34, .tr (.call .view 19000 [.tmp 32, .tmp 33]), none, []⟩,
  ⟨some 35, .un .not (.tmp 34), none, []⟩,
  ⟨some 36, .mv (.tmp 35), none, []⟩,
  ⟨some 37, .mv (.tmp 8), some (36, false), []⟩,
  ⟨some 38, .mv (.tmp 5), some (36, false), []⟩,
  ⟨some 39, .eqb true (.tmp 37) (.tmp 38), some (36, false), []⟩,
  ⟨some 40, .pick (.tmp 36) (.const (.bool true)) (.tmp 39), none, []⟩])
 (.cond (.tmp 40) (.seq (.region false [⟨some 2, .mv (.const (.bool false)), none, []⟩])
 .ret) .skip))
 (.seq (.seq (.region true [⟨some 41, .load 4 true false (.tmp 6), none, [102]⟩,
  ⟨some 42, .load 4 true false (.tmp 1), none, [100]⟩,
  ⟨some 43, .call 16500 0 [.tmp 42], none, []⟩,
  ⟨some 44, .tr (.call .view 16900 [.tmp 41, .tmp 43]), none, [99]⟩,
  ⟨some 45, .un .not (.tmp 44), none, []⟩])
 (.cond (.tmp 45) (.seq (.region false [⟨some 2, .mv (.const (.bool false)), none, []⟩])
 .ret) .skip))
 (.seq (.region false [⟨some 9, .mv (.const (.int .i64 1)), none, []⟩])
 (.seq (.region false [⟨some 46, .load 4 true false (.tmp 6), none, []⟩,
  ⟨some 47, .mv (.tmp 9), none, []⟩,
  ⟨some 48, .tr (.call .pass 39300 [.tmp 46, .tmp 47]), none, []⟩,
  ⟨some 9, .mv (.tmp 48), none, []⟩])
 (.seq (.seq (.region false [⟨some 49, .mv (.tmp 9), none, []⟩,
  ⟨some 50, .bin .lss (.tmp 49) (.const (.int .i64 0)), none, []⟩,
  ⟨some 51, .mv (.tmp 50), none, []⟩,
  ⟨some 52, .load 2 true false (.tmp 7), some (51, false), []⟩,
  ⟨some 53, .load 2 true false (.tmp 4), some (51, false), []⟩,
  ⟨some 54, .tr (.call .view 19000 [.tmp 52, .tmp 53]), some (51, false), []⟩,
  ⟨some 55, .un .not (.tmp 54), some (51, false), []⟩,
  ⟨some 56, .pick (.tmp 51) (.const (.bool true)) (.tmp 55), none, []⟩,
  ⟨some 57, .mv (.tmp 56), none, []⟩,
  ⟨some 58, .mv (.tmp 8), some (57, false), []⟩,
  ⟨some 59, .mv (.tmp 5), some (57, false), []⟩,
  ⟨some 60, .eqb true (.tmp 58) (.tmp 59), some (57, false), []⟩,
  ⟨some 61, .pick (.tmp 57) (.const (.bool true)) (.tmp 60), none, []⟩])
 (.cond (.tmp 61) (.seq (.region false [⟨some 2, .mv (.const (.bool false)), none, []⟩])
 .ret) .skip))
 (.seq (.region false [⟨some 10, .mv (.const (.int .i64 1)), none, []⟩])
 (.seq (.region false [⟨some 62, .load 2 true false (.tmp 7), none, []⟩,
  ⟨some 63, .mv (.tmp 10), none, []⟩,
  ⟨some 64, .tr (.call .pass 39500 [.tmp 62, .tmp 63]), none, []⟩,
  ⟨some 10, .mv (.tmp 64), none, []⟩])
 (.seq (.region false [⟨some 11, .mv (.const (.int .i64 1)), none, []⟩])
 (.seq (.region false [⟨some 65, .load 2 true false (.tmp 7), none, []⟩,
  ⟨some 66, .mv (.tmp 11), none, []⟩,
  ⟨some 67, .tr (.call .view 19200 [.tmp 65, .tmp 66]), none, []⟩,
  ⟨some 11, .mv (.tmp 67), none, []⟩])
 (.seq (.seq (.region false [⟨some 68, .mv (.tmp 11), none, []⟩,
  ⟨some 69, .bin .lss (.tmp 68) (.const (.int .i64 0)), none, []⟩])
 (.cond (.tmp 69) (.seq (.region false [⟨some 2, .mv (.const (.bool false)), none, []⟩])
 .ret) .skip))
 (.seq (.seq (.region false [⟨some 70, .mv (.tmp 11), none, []⟩,
  ⟨some 71, .mv (.tmp 10), none, []⟩,
  ⟨some 72, .bin .neq (.tmp 70) (.tmp 71), none, []⟩])
 (.cond (.tmp 72) (.seq (.region false [⟨some 2, .mv (.const (.bool false)), none, []⟩])
 .ret) .skip))
 (.seq (.region false [⟨some 74, .load 4 true false (.tmp 1), none, []⟩,
  ⟨some 75, .call 16500 0 [.tmp 74], none, []⟩,
  ⟨some 76, .call 18900 0 [.tmp 75], none, []⟩,
  ⟨some 73, .mv (.tmp 76), none, []⟩,
  ⟨some 77, .ext 0 (.tmp 73), none, []⟩,
  ⟨some 78, .ext 1 (.tmp 73), none, []⟩,
  ⟨some 12, .alloc 104 [.int .i64 0, .sl (.own false) .int []], none, []⟩,
  ⟨none, .store 2 (.tmp 12) (.tmp 77), none, []⟩,
  ⟨some 13, .mv (.tmp 78), none, []⟩])
 (.seq (.seq (.region false [⟨some 79, .load 2 true false (.tmp 12), none, []⟩,
  ⟨some 80, .load 2 true false (.tmp 4), none, []⟩,
  ⟨some 81, .call 19000 0 [.tmp 79, .tmp 80], none, []⟩,
  ⟨some 82, .un .not (.tmp 81), none, []⟩,
  ⟨some 83, .mv (.tmp 82), none, []⟩,
  ⟨some 84, .mv (.tmp 13), some (83, false), []⟩,
  ⟨some 85, .mv (.tmp 5), some (83, false), []⟩,
  ⟨some 86, .eqb true (.tmp 84) (.tmp 85), some (83, false), []⟩,
  ⟨some 87, .pick (.tmp 83) (.const (.bool true)) (.tmp 86), none, []⟩])
 (.cond (.tmp 87) (.seq (.region false [⟨some 2, .mv (.const (.bool false)), none, []⟩])
 .ret) .skip))
 (.seq (.region false [⟨some 11, .mv (.const (.int .i64 1)), none, []⟩])
 (.seq (.region false [⟨some 88, .load 2 true false (.tmp 7), none, []⟩,
  ⟨some 89, .mv (.tmp 11), none, []⟩,
  ⟨some 90, .tr (.call .view 19200 [.tmp 88, .tmp 89]), none, []⟩,
  ⟨some 11, .mv (.tmp 90), none, []⟩])
 (.seq (.seq (.region false [⟨some 91, .mv (.tmp 11), none, []⟩,
  ⟨some 92, .bin .lss (.tmp 91) (.const (.int .i64 0)), none, []⟩])
 (.cond (.tmp 92) (.seq (.region false [⟨some 2, .mv (.const (.bool false)), none, []⟩])
 .ret) .skip))
 (.seq (.seq (.region false [⟨some 93, .mv (.tmp 11), none, []⟩,
  ⟨some 94, .mv (.tmp 10), none, []⟩,
  ⟨some 95, .bin .neq (.tmp 93) (.tmp 94), none, []⟩])
 (.cond (.tmp 95) (.seq (.region false [⟨some 2, .mv (.const (.bool false)), none, []⟩])
 .ret) .skip))
 (.seq (.region false [⟨some 2, .mv (.const (.bool true)), none, []⟩])
 .ret))))))))))))))))))))))))) }
noncomputable def p38700 : ProcT := { kind := .fn, ins := [0, 1], bins := [99], res := [.tmp 4], code := (.seq (.region false [⟨some 4, .mv (.const (.int .i64 0)), none, []⟩])
 (.seq (.seq (.region false [⟨some 5, .mv (.const (.int .i64 0)), none, []⟩])
 (.block 0 (.label 38701)))
 (.seq (.region false [⟨some 18, .mv (.tmp 1), none, []⟩,
  ⟨some 4, .mv (.tmp 18), none, []⟩])
 .ret))) }
noncomputable def p38701 : ProcT := { kind := .loop, ins := [0, 1, 5], bins := [99], outs := [1, 4], bouts := [99], code := (.seq (.seq (.region false [⟨some 6, .mv (.tmp 5), none, []⟩,
  ⟨some 7, .mv (.tmp 0), none, []⟩,
  ⟨some 8, .tr (.len (.tmp 7)), none, []⟩,
  ⟨some 9, .bin .lss (.tmp 6) (.tmp 8), none, []⟩])
 (.cond (.tmp 9) .skip (.exit 0)))
 (.seq (.block 1 (.seq (.region false [⟨some 12, .mv (.tmp 0), none, []⟩,
  ⟨some 13, .mv (.tmp 5), none, []⟩,
  ⟨some 14, .mv (.tmp 1), none, []⟩,
  ⟨some 15, .tr (.iadr 1 (.tmp 12) (.tmp 13)), none, []⟩,
  ⟨none, .tr (.store 1 (.tmp 15) (.tmp 14)), none, []⟩])
 (.region false [⟨some 16, .mv (.tmp 1), none, []⟩,
  ⟨some 17, .bin .add (.tmp 16) (.const (.int .i64 1)), none, []⟩,
  ⟨some 1, .mv (.tmp 17), none, []⟩])))
 (.region false [⟨some 10, .mv (.tmp 5), none, []⟩,
  ⟨some 11, .bin .add (.tmp 10) (.const (.int .i64 1)), none, []⟩,
  ⟨some 5, .mv (.tmp 11), none, []⟩]))) }
noncomputable def p39100 : ProcT := { kind := .fn, ins := [0], bins := [99], res := [.cell 2 4 true], code := (.seq (.region false [⟨some 1, .box 100 (.tmp 0), none, []⟩,
  ⟨some 2, .alloc 101 [.int .i64 0, .int .i64 0, .int .i64 0, .tr .int none 0], none, []⟩])
 (.seq (.region false [⟨some 3, .alloc 102 [.int .i64 0, .int .i64 0, .int .i64 0, .tr .int none 0], none, []⟩])
 (.seq (.region false [⟨some 4, .fadr 0 (.tmp 1), none, []⟩,
  ⟨some 5, .load 1 false false (.tmp 4), none, []⟩,
  ⟨some 6, .fadr 0 (.tmp 3), none, []⟩,
  ⟨none, .store 1 (.tmp 6) (.tmp 5), none, []⟩])
 (.seq (.region false [⟨some 7, .fadr 1 (.tmp 1), none, []⟩,
  ⟨some 8, .load 1 false false (.tmp 7), none, []⟩,
  ⟨some 9, .fadr 1 (.tmp 3), none, []⟩,
  ⟨none, .store 1 (.tmp 9) (.tmp 8), none, []⟩])
 (.seq (.region false [⟨some 10, .fadr 2 (.tmp 1), none, []⟩,
  ⟨some 11, .load 1 false false (.tmp 10), none, []⟩,
  ⟨some 12, .fadr 2 (.tmp 3), none, []⟩,
  ⟨none, .store 1 (.tmp 12) (.tmp 11), none, []⟩])
 (.seq (.region false [⟨some 13, .fadr 3 (.tmp 1), none, []⟩,
  ⟨some 14, .load 1 false false (.tmp 13), none, []⟩,
  ⟨some 15, .tr (.call .pass 39600 [.tmp 14]), none, []⟩,
  ⟨some 16, .fadr 3 (.tmp 3), none, []⟩,
  ⟨none, .store 1 (.tmp 16) (.take 15), none, []⟩])
 (.seq (.region false [⟨some 17, .load 4 true false (.tmp 3), none, []⟩,
  ⟨none, .store 4 (.tmp 2) (.tmp 17), none, []⟩])
 .ret))))))) }
noncomputable def p39300 : ProcT := { kind := .fn, ins := [0, 1], bins := [99], res := [.tmp 4], code := (.seq (.region false [⟨some 2, .box 100 (.tmp 0), none, []⟩,
  ⟨some 4, .mv (.const (.int .i64 0)), none, []⟩])
 (.seq (.region false [⟨some 5, .fadr 3 (.tmp 2), none, []⟩,
  ⟨some 6, .load 1 false false (.tmp 5), none, []⟩,
  ⟨some 7, .mv (.tmp 1), none, []⟩,
  ⟨some 8, .tr (.call .pass 38700 [.tmp 6, .tmp 7]), none, []⟩,
  ⟨some 1, .mv (.tmp 8), none, []⟩])
 (.seq (.region false [⟨some 9, .mv (.tmp 1), none, []⟩,
  ⟨some 4, .mv (.tmp 9), none, []⟩])
 .ret))) }
noncomputable def p39400 : ProcT := { kind := .fn, ins := [0], bins := [99], res := [.cell 2 2 true, .tmp 3], code := (.seq (.region false [⟨some 1, .box 100 (.tmp 0), none, []⟩,
  ⟨some 2, .alloc 101 [.int .i64 0, .tr .int none 0], none, []⟩,
  ⟨some 3, .mv (.const (.bool false)), none, []⟩])
 (.seq (.seq (.region false [⟨some 6, .load 4 true false (.tmp 1), none, []⟩,
  ⟨some 7, .call 16600 0 [.tmp 6], none, []⟩,
  ⟨some 8, .un .not (.tmp 7), none, []⟩])
 (.cond (.tmp 8) (.seq (.region false [⟨some 9, .build [.int .i64 0, .tr .int none 0] [], none, []⟩,
  ⟨none, .store 2 (.tmp 2) (.tmp 9), none, []⟩,
  ⟨some 3, .mv (.const (.bool false)), none, []⟩])
 .ret) .skip))
 (.seq (.region false [⟨some 10, .fadr 0 (.tmp 1), none, []⟩,
  ⟨some 11, .load 1 false false (.tmp 10), none, []⟩,
  ⟨some 12, .build [.int .i64 0, .tr .int none 0] [(0, 1, .tmp 11)], none, []⟩,
  ⟨some 4, .alloc 102 [.int .i64 0, .tr .int none 0], none, []⟩,
  ⟨none, .store 2 (.tmp 4) (.tmp 12), none, []⟩])
 (.seq (.seq (.region false [⟨some 13, .fadr 2 (.tmp 1), none, []⟩,
  ⟨some 14, .load 1 false false (.tmp 13), none, []⟩,
  ⟨some 15, .mv (.const (.int .i64 0)), none, []⟩])
 (.block 0 (.label 39401)))
 (.seq (.region false [⟨some 35, .load 2 true false (.tmp 4), none, []⟩,
  ⟨none, .store 2 (.tmp 2) (.tmp 35), none, []⟩,
  ⟨some 3, .mv (.const (.bool true)), none, []⟩])
 .ret))))) }
noncomputable def p39401 : ProcT := { kind := .loop, ins := [1, 2, 4, 14, 15], bins := [100, 101, 102, 99], outs := [2, 3, 4], bouts := [101, 102, 99], code := (.seq (.region false [⟨some 16, .bin .lss (.tmp 15) (.tmp 14), none, []⟩])
 (.seq (.cond (.tmp 16) .skip (.exit 0))
 (.seq (.block 1 (.seq (.region false [⟨some 17, .mv (.tmp 15), none, []⟩,
  ⟨some 5, .mv (.tmp 17), none, []⟩])
 (.region true [⟨some 18, .fadr 1 (.tmp 4), none, [102]⟩,
  ⟨some 19, .load 1 false true (.tmp 18), none, [102]⟩,
  ⟨some 20, .fadr 3 (.tmp 1), none, [100]⟩,
  ⟨some 21, .load 1 false false (.tmp 20), none, [100]⟩,
  ⟨some 22, .fadr 1 (.tmp 1), none, [100]⟩,
  ⟨some 23, .load 1 false false (.tmp 22), none, [100]⟩,
  ⟨some 24, .mv (.tmp 5), none, []⟩,
  ⟨some 25, .bin .add (.tmp 23) (.tmp 24), none, []⟩,
  ⟨some 26, .fadr 0 (.tmp 1), none, [100]⟩,
  ⟨some 27, .load 1 false false (.tmp 26), none, [100]⟩,
  ⟨some 28, .bin .rem (.tmp 25) (.tmp 27), none, []⟩,
  ⟨some 29, .iadr 1 (.tmp 21) (.tmp 28), none, []⟩,
  ⟨some 30, .load 1 false false (.tmp 29), none, []⟩,
  ⟨some 31, .buildS .full .int [.tmp 30], none, []⟩,
  ⟨some 32, .tr (.app 1 (.take 19) (.tmp 31)), none, [99]⟩,
  ⟨some 33, .fadr 1 (.tmp 4), none, [102]⟩,
  ⟨none, .store 1 (.tmp 33) (.take 32), none, [102]⟩])))
 (.region false [⟨some 34, .bin .add (.tmp 15) (.const (.int .i64 1)), none, []⟩,
  ⟨some 15, .mv (.tmp 34), none, []⟩])))) }
noncomputable def p39500 : ProcT := { kind := .fn, ins := [0, 1], bins := [99], res := [.tmp 4], code := (.seq (.region false [⟨some 2, .box 100 (.tmp 0), none, []⟩,
  ⟨some 4, .mv (.const (.int .i64 0)), none, []⟩])
 (.seq (.region false [⟨some 5, .fadr 1 (.tmp 2), none, []⟩,
  ⟨some 6, .load 1 false false (.tmp 5), none, []⟩,
  ⟨some 7, .mv (.tmp 1), none, []⟩,
  ⟨some 8, .tr (.call .pass 38700 [.tmp 6, .tmp 7]), none, []⟩,
  ⟨some 1, .mv (.tmp 8), none, []⟩])
 (.seq (.region false [⟨some 9, .mv (.tmp 1), none, []⟩,
  ⟨some 4, .mv (.tmp 9), none, []⟩])
 .ret))) }
noncomputable def p39600 : ProcT := { kind := .fn, ins := [0], bins := [99], res := [.tmp 2], code := (.seq (.region false [⟨some 2, .mv (.const (.tr .int none 0)), none, []⟩])
 (.seq (.region false [⟨some 5, .mv (.tmp 0), none, []⟩,
  ⟨some 6, .len (.tmp 5), none, []⟩,
  ⟨some 7, .tr (.mk .int (.tmp 6) (.tmp 6)), none, []⟩,
  ⟨some 3, .mv (.take 7), none, []⟩])
 (.seq (.seq (.region false [⟨some 4, .mv (.const (.int .i64 0)), none, []⟩])
 (.block 0 (.label 39601)))
 (.seq (.region false [⟨some 21, .mv (.take 3), none, []⟩,
  ⟨some 2, .mv (.take 21), none, []⟩])
 .ret)))) }
noncomputable def p39601 : ProcT := { kind := .loop, ins := [0, 3, 4], bins := [99], outs := [2, 3], bouts := [99], code := (.seq (.seq (.region false [⟨some 8, .mv (.tmp 4), none, []⟩,
  ⟨some 9, .mv (.tmp 0), none, []⟩,
  ⟨some 10, .len (.tmp 9), none, []⟩,
  ⟨some 11, .bin .lss (.tmp 8) (.tmp 10), none, []⟩])
 (.cond (.tmp 11) .skip (.exit 0)))
 (.seq (.block 1 (.region false [⟨some 14, .mv (.tmp 3), none, []⟩,
  ⟨some 15, .mv (.tmp 4), none, []⟩,
  ⟨some 16, .mv (.tmp 0), none, []⟩,
  ⟨some 17, .mv (.tmp 4), none, []⟩,
  ⟨some 18, .iadr 1 (.tmp 16) (.tmp 17), none, []⟩,
  ⟨some 19, .load 1 false false (.tmp 18), none, []⟩,
  ⟨some 20, .tr (.iadr 1 (.tmp 14) (.tmp 15)), none, []⟩,
  ⟨none, .tr (.store 1 (.tmp 20) (.tmp 19)), none, []⟩]))
 (.region false [⟨some 12, .mv (.tmp 4), none, []⟩,
  ⟨some 13, .bin .add (.tmp 12) (.const (.int .i64 1)), none, []⟩,
  ⟨some 4, .mv (.tmp 13), none, []⟩]))) }
noncomputable def tab : List (Nat × ProcT) := [(1600, p1600), (5000, p5000), (5100, p5100), (5101, p5101), (6400, p6400), (6500, p6500), (6501, p6501), (7200, p7200), (7800, p7800), (7801, p7801), (8400, p8400), (8401, p8401), (10600, p10600), (10601, p10601), (16200, p16200), (16300, p16300), (16500, p16500), (16600, p16600), (16900, p16900), (18800, p18800), (18801, p18801), (18900, p18900), (18901, p18901), (19000, p19000), (19200, p19200), (19300, p19300), (38700, p38700), (38701, p38701), (39100, p39100), (39300, p39300), (39400, p39400), (39401, p39401), (39500, p39500), (39600, p39600), (39601, p39601)]
noncomputable abbrev Tb : Nat → Option ProcT := (Vs.look · tab)
@[reducible] def s1600 : Sig := [⟨.ret, [.one], [], [.h (.bool)]⟩]
@[reducible] def s5000 : Sig := [⟨.ret, [.one], [], [.h (.bool)]⟩]
@[reducible] def s5100 : Sig := [⟨.ret, [.one], [], [.h (.bool)]⟩]
@[reducible] def s5101 : Sig := [⟨.exit 0, [.one], [], [.undef]⟩, ⟨.ret, [.one], [], [.h (.bool)]⟩]
@[reducible] def s6400 : Sig := [⟨.ret, [.one], [], [.h (.bool)]⟩]
@[reducible] def s6500 : Sig := [⟨.ret, [.one], [], [.h (.bool)]⟩]
@[reducible] def s6501 : Sig := [⟨.exit 0, [.one], [], [.undef]⟩, ⟨.ret, [.one], [], [.h (.bool)]⟩]
@[reducible] def s7200 : Sig := [⟨.ret, [.one], [], [.h (.int .i64)]⟩]
@[reducible] def s7800 : Sig := [⟨.ret, [.one], [], [.h (.sl .int)]⟩]
@[reducible] def s7801 : Sig := [⟨.exit 0, [.one, .one], [.rows], [.undef, .bs 100, .h (.sl .int)]⟩]
@[reducible] def s8400 : Sig := [⟨.ret, [.one], [], [.h (.bool)]⟩]
@[reducible] def s8401 : Sig := [⟨.exit 0, [.one], [], [.undef]⟩, ⟨.ret, [.one], [], [.h (.bool)]⟩]
@[reducible] def s10600 : Sig := [⟨.ret, [.one], [], [.h (.int .i64)]⟩]
@[reducible] def s10601 : Sig := [⟨.exit 0, [.one, .one], [], [.h (.int .i64), .undef]⟩, ⟨.ret, [.one, .one], [], [.h (.int .i64), .h (.int .i64)]⟩]
@[reducible] def s16200 : Sig := [⟨.ret, [.one], [], [.h (.int .i64)]⟩]
@[reducible] def s16300 : Sig := [⟨.ret, [.one], [], [.h (.bool)]⟩]
@[reducible] def s16500 : Sig := [⟨.ret, [.one], [], [.h (.agg .rg)]⟩]
@[reducible] def s16600 : Sig := [⟨.ret, [.one], [], [.h (.bool)]⟩]
@[reducible] def s16900 : Sig := [⟨.ret, [.one], [], [.h (.bool)]⟩]
@[reducible] def s18800 : Sig := [⟨.ret, [.tup 2], [], [.h (.agg .bx), .h (.bool)]⟩]
@[reducible] def s18801 : Sig := [⟨.exit 0, [.one, .one, .one], [.var 2, .var 2], [.bp 101 0, .undef, .bp 102 0, .h (.int .i64), .h (.ownb .int), .h (.int .i64), .h (.ownb .int)]⟩]
@[reducible] def s18900 : Sig := [⟨.ret, [.tup 2], [], [.h (.agg .bx), .h (.bool)]⟩]
@[reducible] def s18901 : Sig := [⟨.exit 0, [.one, .one, .one], [.var 2, .var 2], [.bp 101 0, .undef, .bp 102 0, .h (.int .i64), .h (.ownb .int), .h (.int .i64), .h (.ownb .int)]⟩]
@[reducible] def s19000 : Sig := [⟨.ret, [.one], [], [.h (.bool)]⟩]
@[reducible] def s19200 : Sig := [⟨.ret, [.one], [], [.h (.int .i64)]⟩]
@[reducible] def s19300 : Sig := [⟨.ret, [.one], [], [.h (.bool)]⟩]
@[reducible] def s38700 : Sig := [⟨.ret, [.one], [.ar], [.h (.int .i64), .h (.ar)]⟩]
@[reducible] def s38701 : Sig := [⟨.exit 0, [.one, .one], [.ar], [.h (.int .i64), .undef, .h (.ar)]⟩]
@[reducible] def s39100 : Sig := [⟨.ret, [.one], [.ar], [.h (.agg .rgH), .h (.ar)]⟩]
@[reducible] def s39300 : Sig := [⟨.ret, [.one], [.ar], [.h (.int .i64), .h (.ar)]⟩]
@[reducible] def s39400 : Sig := [⟨.ret, [.tup 2], [.ar], [.h (.agg .bxH), .h (.bool), .h (.ar)]⟩]
@[reducible] def s39401 : Sig := [⟨.exit 0, [.one, .one, .one], [.var 2, .var 2, .ar], [.bp 101 0, .undef, .bp 102 0, .h (.int .i64), .h (.tr .int), .h (.int .i64), .h (.tr .int), .h (.ar)]⟩]
@[reducible] def s39500 : Sig := [⟨.ret, [.one], [.ar], [.h (.int .i64), .h (.ar)]⟩]
@[reducible] def s39600 : Sig := [⟨.ret, [.one], [.ar], [.h (.tr .int), .h (.ar)]⟩]
@[reducible] def s39601 : Sig := [⟨.exit 0, [.one, .one], [.ar], [.undef, .h (.tr .int), .h (.ar)]⟩]
def sgs : List (Nat × Sig) := [(1600, s1600), (5000, s5000), (5100, s5100), (5101, s5101), (6400, s6400), (6500, s6500), (6501, s6501), (7200, s7200), (7800, s7800), (7801, s7801), (8400, s8400), (8401, s8401), (10600, s10600), (10601, s10601), (16200, s16200), (16300, s16300), (16500, s16500), (16600, s16600), (16900, s16900), (18800, s18800), (18801, s18801), (18900, s18900), (18901, s18901), (19000, s19000), (19200, s19200), (19300, s19300), (38700, s38700), (38701, s38701), (39100, s39100), (39300, s39300), (39400, s39400), (39401, s39401), (39500, s39500), (39600, s39600), (39601, s39601)]
def sg (g : Nat) : Sig := (Vs.look g sgs).getD []
def GT (i : Nat) : List TV := []
noncomputable def laws_FnExactRingBox (a0 : Rg) : Option (Bool) := callTy Tb GT s19300 19300 [.agg (rowT .rg a0)] []
noncomputable def laws_szRing (a0 : Rg) (a1 : Int) : Option (Int) := callTy Tb GT s16200 16200 [.agg (rowT .rg a0), .int .i64 a1] []
noncomputable def laws_toRing (a0 : Rg) : Option (Rg) := callTy Tb GT s16500 16500 [.agg (rowT .rg a0)] []
noncomputable def spec_RingBox (a0 : Rg) : Option (Bx × Bool) := callTy Tb GT s18800 18800 [.agg (rowT .rg a0)] []
noncomputable def laws_toRing_p (a0 : Rg) (A : List Ent) : Option (RgH × List Ent) := callTy Tb GT s39100 39100 [.agg (rowT .rg a0)] [.ar A]
noncomputable def impl_RingBox_p (a0 : Rg) (A : List Ent) : Option (BxH × Bool × List Ent) := callTy Tb GT s39400 39400 [.agg (rowT .rg a0)] [.ar A]
noncomputable def laws_eqBox (a0 : Bx) (a1 : Bx) : Option (Bool) := callTy Tb GT s19000 19000 [.agg (rowT .bx a0), .agg (rowT .bx a1)] []
noncomputable def laws_eqRing (a0 : Rg) (a1 : Rg) : Option (Bool) := callTy Tb GT s16900 16900 [.agg (rowT .rg a0), .agg (rowT .rg a1)] []
noncomputable def laws_markRing_p (a0 : RgH) (a1 : Int) (A : List Ent) : Option (Int × List Ent) := callTy Tb GT s39300 39300 [.agg (rowT .rgH a0), .int .i64 a1] [.ar A]
noncomputable def laws_markBox_p (a0 : BxH) (a1 : Int) (A : List Ent) : Option (Int × List Ent) := callTy Tb GT s39500 39500 [.agg (rowT .bxH a0), .int .i64 a1] [.ar A]
noncomputable def laws_heldBox (a0 : Bx) (a1 : Int) : Option (Int) := callTy Tb GT s19200 19200 [.agg (rowT .bx a0), .int .i64 a1] []
noncomputable def impl_RingBox (a0 : Rg) : Option (Bx × Bool) := callTy Tb GT s18900 18900 [.agg (rowT .rg a0)] []
noncomputable def laws_szIntS (a0 : List Int) (a1 : Int) : Option (Int) := callTy Tb GT s7200 7200 [.sl .share .int a0, .int .i64 a1] []
noncomputable def laws_toIntS (a0 : List Int) : Option (List Int) := callTy Tb GT s7800 7800 [.sl .share .int a0] []
noncomputable def spec_RingValid (a0 : Rg) : Option (Bool) := callTy Tb GT s16300 16300 [.agg (rowT .rg a0)] []
noncomputable def spec_RingBox_l1 (t5 : Int) (b100_0 : Int) (b100_1 : Int) (b100_2 : Int) (b100_3 : List Int) (b101_0 : Int) (b101_1b : Bool) (b101_1 : List Int) (b102_0 : Int) (b102_1b : Bool) (b102_1 : List Int) : Option (Int × (Bool × List Int) × Int × (Bool × List Int)) := callTy Tb GT s18801 18801 [.bp 100 0, .bp 101 0, .bp 102 0, .int .i64 t5] [.var [.int .i64 b100_0, .int .i64 b100_1, .int .i64 b100_2, .sl .share .int b100_3], .var [.int .i64 b101_0, .sl (.own b101_1b) .int b101_1], .var [.int .i64 b102_0, .sl (.own b102_1b) .int b102_1]]
noncomputable def laws_toIntS_p (a0 : List Int) (A : List Ent) : Option (Hd × List Ent) := callTy Tb GT s39600 39600 [.sl .share .int a0] [.ar A]
noncomputable def impl_RingValid (a0 : Rg) : Option (Bool) := callTy Tb GT s16600 16600 [.agg (rowT .rg a0)] []
noncomputable def impl_RingBox_p_l1 (t14 : Int) (t15 : Int) (b100_0 : Int) (b100_1 : Int) (b100_2 : Int) (b100_3 : List Int) (b101_0 : Int) (b101_1 : Hd) (b102_0 : Int) (b102_1 : Hd) (b99 : List Ent) : Option (Int × Hd × Int × Hd × List Ent) := callTy Tb GT s39401 39401 [.bp 100 0, .bp 101 0, .bp 102 0, .int .i64 t14, .int .i64 t15] [.var [.int .i64 b100_0, .int .i64 b100_1, .int .i64 b100_2, .sl .share .int b100_3], .var [.int .i64 b101_0, .tr .int b101_1.id b101_1.n], .var [.int .i64 b102_0, .tr .int b102_1.id b102_1.n], .ar b99]
noncomputable def laws_eqIntS (a0 : List Int) (a1 : List Int) : Option (Bool) := callTy Tb GT s8400 8400 [.sl .share .int a0, .sl .share .int a1] []
noncomputable def laws_markIntS_p (a0 : Hd) (a1 : Int) (A : List Ent) : Option (Int × List Ent) := callTy Tb GT s38700 38700 [.tr .int a0.id a0.n, .int .i64 a1] [.ar A]
noncomputable def laws_heldIntS (a0 : List Int) (a1 : Int) : Option (Int) := callTy Tb GT s10600 10600 [.sl .share .int a0, .int .i64 a1] []
noncomputable def impl_RingBox_l1 (t14 : Int) (t15 : Int) (b100_0 : Int) (b100_1 : Int) (b100_2 : Int) (b100_3 : List Int) (b101_0 : Int) (b101_1b : Bool) (b101_1 : List Int) (b102_0 : Int) (b102_1b : Bool) (b102_1 : List Int) : Option (Int × (Bool × List Int) × Int × (Bool × List Int)) := callTy Tb GT s18901 18901 [.bp 100 0, .bp 101 0, .bp 102 0, .int .i64 t14, .int .i64 t15] [.var [.int .i64 b100_0, .int .i64 b100_1, .int .i64 b100_2, .sl .share .int b100_3], .var [.int .i64 b101_0, .sl (.own b101_1b) .int b101_1], .var [.int .i64 b102_0, .sl (.own b102_1b) .int b102_1]]
noncomputable def laws_toIntS_l1 (t0 : List Int) (t4 : Int) (b100 : List Int) : Option (List Int) := callTy Tb GT s7801 7801 [.sl .share .int t0, .bs 100, .int .i64 t4] [.rows .int b100]
noncomputable def spec_l6In (a0 : Int) (a1 : Int) (a2 : Int) : Option (Bool) := callTy Tb GT s1600 1600 [.int .i64 a0, .int .i64 a1, .int .i64 a2] []
noncomputable def spec_l4Words (a0 : List Int) (a1 : Int) : Option (Bool) := callTy Tb GT s6500 6500 [.sl .share .int a0, .int .i64 a1] []
noncomputable def laws_toIntS_p_l1 (t0 : List Int) (t3 : Hd) (t4 : Int) (b99 : List Ent) : Option (Hd × List Ent) := callTy Tb GT s39601 39601 [.sl .share .int t0, .tr .int t3.id t3.n, .int .i64 t4] [.ar b99]
noncomputable def impl_areWords (a0 : List Int) : Option (Bool) := callTy Tb GT s5100 5100 [.sl .share .int a0] []
noncomputable def laws_eqIntS_l1 (t0 : List Int) (t1 : List Int) (t5 : Int) : Option (Unit ⊕ Bool) := callTy Tb GT s8401 8401 [.sl .share .int t0, .sl .share .int t1, .int .i64 t5] []
noncomputable def laws_markIntS_p_l1 (t0 : Hd) (t1 : Int) (t5 : Int) (b99 : List Ent) : Option (Int × List Ent) := callTy Tb GT s38701 38701 [.tr .int t0.id t0.n, .int .i64 t1, .int .i64 t5] [.ar b99]
noncomputable def laws_heldIntS_l1 (t0 : List Int) (t1 : Int) (t5 : Int) : Option (Int ⊕ (Int × Int)) := callTy Tb GT s10601 10601 [.sl .share .int t0, .int .i64 t1, .int .i64 t5] []
noncomputable def spec_WordValid (a0 : Int) : Option (Bool) := callTy Tb GT s6400 6400 [.int .i64 a0] []
noncomputable def spec_l4Words_l1 (t0 : List Int) (t5 : Int) : Option (Unit ⊕ Bool) := callTy Tb GT s6501 6501 [.sl .share .int t0, .int .i64 t5] []
noncomputable def impl_WordValid (a0 : Int) : Option (Bool) := callTy Tb GT s5000 5000 [.int .i64 a0] []
noncomputable def impl_areWords_l1 (t5 : List Int) (t6 : Int) (t7 : Int) : Option (Unit ⊕ Bool) := callTy Tb GT s5101 5101 [.sl .share .int t5, .int .i64 t6, .int .i64 t7] []
end Go.TFnExactRingBox
