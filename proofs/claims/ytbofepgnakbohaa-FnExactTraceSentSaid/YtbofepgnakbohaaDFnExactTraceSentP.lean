import Derived.Test.YtbofepgnakbohaaLkA

set_option linter.unusedVariables false
namespace Go.TFnExactTraceSent
open Go Go.RowKit Go.Vs Go.Tv

noncomputable def p8400 : ProcT := { kind := .fn, ins := [0, 1], bins := [], res := [.tmp 4], code := (.seq (.region false [⟨some 4, .mv (.const (.bool false)), none, []⟩])
 (.seq (.seq (.region false [⟨some 6, .mv (.tmp 0), none, []⟩,
  ⟨some 7, .len (.tmp 6), none, []⟩,
  ⟨some 8, .mv (.tmp 1), none, []⟩,
  ⟨some 9, .len (.tmp 8), none, []⟩,
  ⟨some 10, .bin .neq (.tmp 7) (.tmp 9), none, []⟩])
 (.cond (.tmp 10) (.seq (.region false [⟨some 4, .mv (.const (.bool false)), none, []⟩])
 .ret) .skip))
 (.seq (.seq (.region false [⟨some 5, .mv (.const (.int .i64 0)), none, []⟩])
 (.block 0 (.label 8401)))
 (.seq (.region false [⟨some 4, .mv (.const (.bool true)), none, []⟩])
 .ret)))) }
noncomputable def p8401 : ProcT := { kind := .loop, ins := [0, 1, 5], bins := [], outs := [4], bouts := [], code := (.seq (.seq (.region false [⟨some 11, .mv (.tmp 5), none, []⟩,
  ⟨some 12, .mv (.tmp 0), none, []⟩,
  ⟨some 13, .len (.tmp 12), none, []⟩,
  ⟨some 14, .bin .lss (.tmp 11) (.tmp 13), none, []⟩])
 (.cond (.tmp 14) .skip (.exit 0)))
 (.seq (.block 1 (.seq (.region true [⟨some 17, .mv (.tmp 0), none, []⟩,
  ⟨some 18, .mv (.tmp 5), none, []⟩,
  ⟨some 19, .iadr 1 (.tmp 17) (.tmp 18), none, []⟩,
  ⟨some 20, .load 1 false false (.tmp 19), none, []⟩,
  ⟨some 21, .mv (.tmp 1), none, []⟩,
  ⟨some 22, .mv (.tmp 5), none, []⟩,
  ⟨some 23, .iadr 1 (.tmp 21) (.tmp 22), none, []⟩,
  ⟨some 24, .load 1 false false (.tmp 23), none, []⟩,
  ⟨some 25, .bin .neq (.tmp 20) (.tmp 24), none, []⟩])
 (.cond (.tmp 25) (.seq (.region false [⟨some 4, .mv (.const (.bool false)), none, []⟩])
 .ret) .skip)))
 (.region false [⟨some 15, .mv (.tmp 5), none, []⟩,
  ⟨some 16, .bin .add (.tmp 15) (.const (.int .i64 1)), none, []⟩,
  ⟨some 5, .mv (.tmp 16), none, []⟩]))) }
noncomputable def p10600 : ProcT := { kind := .fn, ins := [0, 1], bins := [], res := [.tmp 4], code := (.seq (.region false [⟨some 4, .mv (.const (.int .i64 0)), none, []⟩])
 (.seq (.seq (.region false [⟨some 5, .mv (.const (.int .i64 0)), none, []⟩])
 (.block 0 (.label 10601)))
 (.seq (.region false [⟨some 20, .mv (.tmp 1), none, []⟩,
  ⟨some 4, .mv (.tmp 20), none, []⟩])
 .ret))) }
noncomputable def p10601 : ProcT := { kind := .loop, ins := [0, 1, 5], bins := [], outs := [1, 4], bouts := [], code := (.seq (.seq (.region false [⟨some 6, .mv (.tmp 5), none, []⟩,
  ⟨some 7, .mv (.tmp 0), none, []⟩,
  ⟨some 8, .len (.tmp 7), none, []⟩,
  ⟨some 9, .bin .lss (.tmp 6) (.tmp 8), none, []⟩])
 (.cond (.tmp 9) .skip (.exit 0)))
 (.seq (.block 1 (.seq (.seq (.region false [⟨some 12, .mv (.tmp 0), none, []⟩,
  ⟨some 13, .mv (.tmp 5), none, []⟩,
  ⟨some 14, .iadr 1 (.tmp 12) (.tmp 13), none, []⟩,
  ⟨some 15, .load 1 false false (.tmp 14), none, []⟩,
  ⟨some 16, .mv (.tmp 1), none, []⟩,
  ⟨some 17, .bin .neq (.tmp 15) (.tmp 16), none, []⟩])
 (.cond (.tmp 17) (.seq (.region false [⟨some 4, .mv (.const (.int .i64 (-1))), none, []⟩])
 .ret) .skip))
 (.region false [⟨some 18, .mv (.tmp 1), none, []⟩,
  ⟨some 19, .bin .add (.tmp 18) (.const (.int .i64 1)), none, []⟩,
  ⟨some 1, .mv (.tmp 19), none, []⟩])))
 (.region false [⟨some 10, .mv (.tmp 5), none, []⟩,
  ⟨some 11, .bin .add (.tmp 10) (.const (.int .i64 1)), none, []⟩,
  ⟨some 5, .mv (.tmp 11), none, []⟩]))) }
noncomputable def p12500 : ProcT := { kind := .fn, ins := [0, 1], bins := [], res := [.tmp 4], code := (.seq (.region false [⟨some 4, .mv (.const (.int .i64 0)), none, []⟩])
 (.seq (.region false [⟨some 5, .mv (.tmp 1), none, []⟩,
  ⟨some 6, .mv (.tmp 0), none, []⟩,
  ⟨some 7, .len (.tmp 6), none, []⟩,
  ⟨some 8, .bin .sub (.tmp 5) (.tmp 7), none, []⟩,
  ⟨some 1, .mv (.tmp 8), none, []⟩])
 (.seq (.seq (.region false [⟨some 9, .mv (.tmp 1), none, []⟩,
  ⟨some 10, .bin .lss (.tmp 9) (.const (.int .i64 0)), none, []⟩])
 (.cond (.tmp 10) (.seq (.region false [⟨some 4, .mv (.const (.int .i64 (-1))), none, []⟩])
 .ret) .skip))
 (.seq (.region false [⟨some 11, .mv (.tmp 1), none, []⟩,
  ⟨some 4, .mv (.tmp 11), none, []⟩])
 .ret)))) }
noncomputable def p12700 : ProcT := { kind := .fn, ins := [0], bins := [], res := [.cell 2 4 true], code := (.seq (.region false [⟨some 1, .box 100 (.tmp 0), none, []⟩,
  ⟨some 2, .alloc 101 [.int .i64 0, .int .i64 0, .int .i64 0, .int .i64 0], none, []⟩])
 (.seq (.region false [⟨some 3, .alloc 102 [.int .i64 0, .int .i64 0, .int .i64 0, .int .i64 0], none, []⟩])
 (.seq (.region false [⟨some 4, .fadr 0 (.tmp 1), none, []⟩,
  ⟨some 5, .load 1 false false (.tmp 4), none, []⟩,
  ⟨some 6, .fadr 0 (.tmp 3), none, []⟩,
  ⟨none, .store 1 (.tmp 6) (.tmp 5), none, []⟩])
 (.seq (.region false [⟨some 7, .fadr 1 (.tmp 1), none, []⟩,
  ⟨some 8, .load 1 false false (.tmp 7), none, []⟩,
  ⟨some 9, .fadr 1 (.tmp 3), none, []⟩,
  ⟨none, .store 1 (.tmp 9) (.tmp 8), none, []⟩])
 (.seq (.region false [⟨some 10, .fadr 2 (.tmp 1), none, []⟩,
  ⟨some 11, .load 1 false false (.tmp 10), none, []⟩,
  ⟨some 12, .fadr 2 (.tmp 3), none, []⟩,
  ⟨none, .store 1 (.tmp 12) (.tmp 11), none, []⟩])
 (.seq (.region false [⟨some 13, .fadr 3 (.tmp 1), none, []⟩,
  ⟨some 14, .load 1 false false (.tmp 13), none, []⟩,
  ⟨some 15, .fadr 3 (.tmp 3), none, []⟩,
  ⟨none, .store 1 (.tmp 15) (.tmp 14), none, []⟩])
 (.seq (.region false [⟨some 16, .load 4 true false (.tmp 3), none, []⟩,
  ⟨none, .store 4 (.tmp 2) (.tmp 16), none, []⟩])
 .ret))))))) }
noncomputable def p12800 : ProcT := { kind := .fn, ins := [0], bins := [], res := [.tmp 2], code := (.seq (.region false [⟨some 2, .mv (.const (.sl (.own false) .event [])), none, []⟩])
 (.seq (.region false [⟨some 5, .mv (.tmp 0), none, []⟩,
  ⟨some 6, .len (.tmp 5), none, []⟩,
  ⟨some 7, .mksl 100 .event (.tmp 6) (.tmp 6), none, []⟩,
  ⟨some 3, .mv (.take 7), none, []⟩])
 (.seq (.seq (.region false [⟨some 4, .mv (.const (.int .i64 0)), none, []⟩])
 (.block 0 (.label 12801)))
 (.seq (.region false [⟨some 22, .mv (.take 3), none, []⟩,
  ⟨some 2, .mv (.take 22), none, []⟩])
 .ret)))) }
noncomputable def p12801 : ProcT := { kind := .loop, ins := [0, 3, 4], bins := [100], outs := [2, 3], bouts := [100], code := (.seq (.seq (.region false [⟨some 8, .mv (.tmp 4), none, []⟩,
  ⟨some 9, .mv (.tmp 0), none, []⟩,
  ⟨some 10, .len (.tmp 9), none, []⟩,
  ⟨some 11, .bin .lss (.tmp 8) (.tmp 10), none, []⟩])
 (.cond (.tmp 11) .skip (.exit 0)))
 (.seq (.block 1 (.region false [⟨some 14, .mv (.tmp 3), none, []⟩,
  ⟨some 15, .mv (.tmp 4), none, []⟩,
  ⟨some 16, .mv (.tmp 0), none, []⟩,
  ⟨some 17, .mv (.tmp 4), none, []⟩,
  ⟨some 18, .iadr 4 (.tmp 16) (.tmp 17), none, []⟩,
  ⟨some 19, .load 4 true false (.tmp 18), none, []⟩,
  ⟨some 20, .call 12700 0 [.tmp 19], none, []⟩,
  ⟨some 21, .iadr 4 (.tmp 14) (.tmp 15), none, []⟩,
  ⟨none, .store 4 (.tmp 21) (.tmp 20), none, []⟩]))
 (.region false [⟨some 12, .mv (.tmp 4), none, []⟩,
  ⟨some 13, .bin .add (.tmp 12) (.const (.int .i64 1)), none, []⟩,
  ⟨some 4, .mv (.tmp 13), none, []⟩]))) }
noncomputable def p13000 : ProcT := { kind := .fn, ins := [0, 1], bins := [], res := [.tmp 4], code := (.seq (.region false [⟨some 2, .box 100 (.tmp 0), none, []⟩,
  ⟨some 3, .box 101 (.tmp 1), none, []⟩,
  ⟨some 4, .mv (.const (.bool false)), none, []⟩])
 (.seq (.seq (.region false [⟨some 5, .fadr 0 (.tmp 2), none, []⟩,
  ⟨some 6, .load 1 false false (.tmp 5), none, []⟩,
  ⟨some 7, .fadr 0 (.tmp 3), none, []⟩,
  ⟨some 8, .load 1 false false (.tmp 7), none, []⟩,
  ⟨some 9, .bin .neq (.tmp 6) (.tmp 8), none, []⟩])
 (.cond (.tmp 9) (.seq (.region false [⟨some 4, .mv (.const (.bool false)), none, []⟩])
 .ret) .skip))
 (.seq (.seq (.region false [⟨some 10, .fadr 1 (.tmp 2), none, []⟩,
  ⟨some 11, .load 1 false false (.tmp 10), none, []⟩,
  ⟨some 12, .fadr 1 (.tmp 3), none, []⟩,
  ⟨some 13, .load 1 false false (.tmp 12), none, []⟩,
  ⟨some 14, .bin .neq (.tmp 11) (.tmp 13), none, []⟩])
 (.cond (.tmp 14) (.seq (.region false [⟨some 4, .mv (.const (.bool false)), none, []⟩])
 .ret) .skip))
 (.seq (.seq (.region false [⟨some 15, .fadr 2 (.tmp 2), none, []⟩,
  ⟨some 16, .load 1 false false (.tmp 15), none, []⟩,
  ⟨some 17, .fadr 2 (.tmp 3), none, []⟩,
  ⟨some 18, .load 1 false false (.tmp 17), none, []⟩,
  ⟨some 19, .bin .neq (.tmp 16) (.tmp 18), none, []⟩])
 (.cond (.tmp 19) (.seq (.region false [⟨some 4, .mv (.const (.bool false)), none, []⟩])
 .ret) .skip))
 (.seq (.seq (.region false [⟨some 20, .fadr 3 (.tmp 2), none, []⟩,
  ⟨some 21, .load 1 false false (.tmp 20), none, []⟩,
  ⟨some 22, .fadr 3 (.tmp 3), none, []⟩,
  ⟨some 23, .load 1 false false (.tmp 22), none, []⟩,
  ⟨some 24, .bin .neq (.tmp 21) (.tmp 23), none, []⟩])
 (.cond (.tmp 24) (.seq (.region false [⟨some 4, .mv (.const (.bool false)), none, []⟩])
 .ret) .skip))
 (.seq (.region false [⟨some 4, .mv (.const (.bool true)), none, []⟩])
 .ret)))))) }
noncomputable def p13100 : ProcT := { kind := .fn, ins := [0, 1], bins := [], res := [.tmp 4], code := (.seq (.region false [⟨some 4, .mv (.const (.bool false)), none, []⟩])
 (.seq (.seq (.region false [⟨some 6, .mv (.tmp 0), none, []⟩,
  ⟨some 7, .len (.tmp 6), none, []⟩,
  ⟨some 8, .mv (.tmp 1), none, []⟩,
  ⟨some 9, .len (.tmp 8), none, []⟩,
  ⟨some 10, .bin .neq (.tmp 7) (.tmp 9), none, []⟩])
 (.cond (.tmp 10) (.seq (.region false [⟨some 4, .mv (.const (.bool false)), none, []⟩])
 .ret) .skip))
 (.seq (.seq (.region false [⟨some 5, .mv (.const (.int .i64 0)), none, []⟩])
 (.block 0 (.label 13101)))
 (.seq (.region false [⟨some 4, .mv (.const (.bool true)), none, []⟩])
 .ret)))) }
noncomputable def p13101 : ProcT := { kind := .loop, ins := [0, 1, 5], bins := [], outs := [4], bouts := [], code := (.seq (.seq (.region false [⟨some 11, .mv (.tmp 5), none, []⟩,
  ⟨some 12, .mv (.tmp 0), none, []⟩,
  ⟨some 13, .len (.tmp 12), none, []⟩,
  ⟨some 14, .bin .lss (.tmp 11) (.tmp 13), none, []⟩])
 (.cond (.tmp 14) .skip (.exit 0)))
 (.seq (.block 1 (.seq (.region true [⟨some 17, .mv (.tmp 0), none, []⟩,
  ⟨some 18, .mv (.tmp 5), none, []⟩,
  ⟨some 19, .iadr 4 (.tmp 17) (.tmp 18), none, []⟩,
  ⟨some 20, .load 4 true false (.tmp 19), none, []⟩,
  ⟨some 21, .mv (.tmp 1), none, []⟩,
  ⟨some 22, .mv (.tmp 5), none, []⟩,
  ⟨some 23, .iadr 4 (.tmp 21) (.tmp 22), none, []⟩,
  ⟨some 24, .load 4 true false (.tmp 23), none, []⟩,
  ⟨some 25, .call 13000 0 [.tmp 20, .tmp 24], none, []⟩,
  ⟨some 26, .un .not (.tmp 25), none, []⟩])
 (.cond (.tmp 26) (.seq (.region false [⟨some 4, .mv (.const (.bool false)), none, []⟩])
 .ret) .skip)))
 (.region false [⟨some 15, .mv (.tmp 5), none, []⟩,
  ⟨some 16, .bin .add (.tmp 15) (.const (.int .i64 1)), none, []⟩,
  ⟨some 5, .mv (.tmp 16), none, []⟩]))) }
noncomputable def p13600 : ProcT := { kind := .fn, ins := [0, 1], bins := [], res := [.tmp 4], code := (.seq (.region false [⟨some 4, .mv (.const (.sl (.own false) .int [])), none, []⟩])
 (.seq (.region false [⟨some 5, .mv (.const (.sl (.own false) .int [])), none, []⟩])
 (.seq (.seq (.region false [⟨some 8, .mv (.tmp 0), none, []⟩,
  ⟨some 9, .len (.tmp 8), none, []⟩,
  ⟨some 10, .mv (.const (.int .i64 0)), none, []⟩])
 (.block 0 (.label 13601)))
 (.seq (.region false [⟨some 23, .mv (.take 5), none, []⟩,
  ⟨some 4, .mv (.take 23), none, []⟩])
 .ret)))) }
noncomputable def p13601 : ProcT := { kind := .loop, ins := [1, 5, 8, 9, 10], bins := [], outs := [4, 5], bouts := [], code := (.seq (.region false [⟨some 11, .bin .lss (.tmp 10) (.tmp 9), none, []⟩])
 (.seq (.cond (.tmp 11) .skip (.exit 0))
 (.seq (.block 1 (.seq (.region false [⟨some 12, .iadr 4 (.tmp 8) (.tmp 10), none, []⟩,
  ⟨some 13, .load 4 true false (.tmp 12), none, []⟩,
  ⟨some 7, .alloc 100 [.int .i64 0, .int .i64 0, .int .i64 0, .int .i64 0], none, []⟩,
  ⟨none, .store 4 (.tmp 7) (.tmp 13), none, []⟩])
 (.seq (.region false [⟨some 14, .mv (.tmp 1), none, []⟩,
  ⟨some 15, .load 4 true false (.tmp 7), none, []⟩,
  ⟨some 16, .callv (.tmp 14) [.tmp 15], none, []⟩])
 (.cond (.tmp 16) (.region false [⟨some 17, .mv (.take 5), none, []⟩,
  ⟨some 18, .fadr 3 (.tmp 7), none, []⟩,
  ⟨some 19, .load 1 false false (.tmp 18), none, []⟩,
  ⟨some 20, .buildS .full .int [.tmp 19], none, []⟩,
  ⟨some 21, .app 1 (.take 17) (.tmp 20), none, []⟩,
  ⟨some 5, .mv (.take 21), none, []⟩]) .skip))))
 (.region false [⟨some 22, .bin .add (.tmp 10) (.const (.int .i64 1)), none, []⟩,
  ⟨some 10, .mv (.tmp 22), none, []⟩])))) }
noncomputable def p13900 : ProcT := { kind := .fn, ins := [0, 1, 2], bins := [], res := [.tmp 6], code := (.seq (.region false [⟨some 6, .mv (.const (.sl (.own false) .int [])), none, []⟩])
 (.seq (.region false [⟨some 9, .buildS (.own true) .int [], none, []⟩,
  ⟨some 7, .mv (.take 9), none, []⟩])
 (.seq (.seq (.region false [⟨some 8, .mv (.const (.int .i64 0)), none, []⟩])
 (.block 0 (.label 13901)))
 (.seq (.region false [⟨some 40, .mv (.take 7), none, []⟩,
  ⟨some 6, .mv (.take 40), none, []⟩])
 .ret)))) }
noncomputable def p13901 : ProcT := { kind := .loop, ins := [0, 1, 2, 7, 8], bins := [], outs := [6, 7], bouts := [], code := (.seq (.seq (.region false [⟨some 10, .mv (.tmp 8), none, []⟩,
  ⟨some 11, .mv (.tmp 0), none, []⟩,
  ⟨some 12, .len (.tmp 11), none, []⟩,
  ⟨some 13, .bin .lss (.tmp 10) (.tmp 12), none, []⟩])
 (.cond (.tmp 13) .skip (.exit 0)))
 (.seq (.block 1 (.seq (.region false [⟨some 16, .mv (.tmp 0), none, []⟩,
  ⟨some 17, .mv (.tmp 8), none, []⟩,
  ⟨some 18, .iadr 4 (.tmp 16) (.tmp 17), none, []⟩,
  ⟨some 19, .fadr 1 (.tmp 18), none, []⟩,
  ⟨some 20, .load 1 false false (.tmp 19), none, []⟩,
  ⟨some 21, .mv (.tmp 1), none, []⟩,
  ⟨some 22, .bin .eql (.tmp 20) (.tmp 21), none, []⟩,
  ⟨some 23, .mv (.tmp 22), none, []⟩,
  ⟨some 24, .mv (.tmp 0), some (23, true), []⟩,
  ⟨some 25, .mv (.tmp 8), some (23, true), []⟩,
  ⟨some 26, .iadr 4 (.tmp 24) (.tmp 25), some (23, true), []⟩,
  ⟨some 27, .fadr 2 (.tmp 26), some (23, true), []⟩,
  ⟨some 28, .load 1 false false (.tmp 27), some (23, true), []⟩,
  ⟨some 29, .mv (.tmp 2), some (23, true), []⟩,
  ⟨some 30, .bin .eql (.tmp 28) (.tmp 29), some (23, true), []⟩,
  ⟨some 31, .pick (.tmp 23) (.tmp 30) (.const (.bool false)), none, []⟩])
 (.cond (.tmp 31) (.region false [⟨some 32, .mv (.take 7), none, []⟩,
  ⟨some 33, .mv (.tmp 0), none, []⟩,
  ⟨some 34, .mv (.tmp 8), none, []⟩,
  ⟨some 35, .iadr 4 (.tmp 33) (.tmp 34), none, []⟩,
  ⟨some 36, .fadr 3 (.tmp 35), none, []⟩,
  ⟨some 37, .load 1 false false (.tmp 36), none, []⟩,
  ⟨some 38, .buildS .full .int [.tmp 37], none, []⟩,
  ⟨some 39, .app 1 (.take 32) (.tmp 38), none, []⟩,
  ⟨some 7, .mv (.take 39), none, []⟩]) .skip)))
 (.region false [⟨some 14, .mv (.tmp 8), none, []⟩,
  ⟨some 15, .bin .add (.tmp 14) (.const (.int .i64 1)), none, []⟩,
  ⟨some 8, .mv (.tmp 15), none, []⟩]))) }
noncomputable def p14300 : ProcT := { kind := .fn, ins := [0, 1], bins := [], res := [.tmp 4], code := (.seq (.region false [⟨some 4, .mv (.const (.sl (.own false) .int [])), none, []⟩])
 (.seq (.region false [⟨some 5, .mv (.tmp 0), none, []⟩,
  ⟨some 6, .mv (.tmp 1), none, []⟩,
  ⟨some 7, .call 13900 0 [.tmp 5, .const (.int .i64 1), .tmp 6], none, []⟩,
  ⟨some 4, .mv (.take 7), none, []⟩])
 .ret)) }
noncomputable def p14400 : ProcT := { kind := .fn, ins := [0, 1], bins := [], res := [.tmp 4], code := (.seq (.region false [⟨some 3, .box 100 (.tmp 1), none, []⟩,
  ⟨some 4, .mv (.const (.sl (.own false) .int [])), none, []⟩])
 (.seq (.region false [⟨some 5, .mv (.tmp 0), none, []⟩,
  ⟨some 6, .mkfn 16100 [.tmp 3], none, []⟩,
  ⟨some 7, .call 13600 0 [.tmp 5, .tmp 6], none, []⟩,
  ⟨some 4, .mv (.take 7), none, []⟩])
 .ret)) }
noncomputable def p14500 : ProcT := { kind := .fn, ins := [0, 1], bins := [], res := [.tmp 4], loc := true, code := (.seq (.region false [⟨some 4, .mv (.const (.bool false)), none, []⟩])
 (.seq (.region false [⟨some 5, .mv (.const (.int .i64 1048576)), none, []⟩])
 (.seq (.region false [⟨some 13, .mv (.tmp 0), none, []⟩,
  ⟨some 14, .mv (.tmp 5), none, []⟩,
  ⟨some 15, .call 12500 0 [.tmp 13, .tmp 14], none, []⟩,
  ⟨some 5, .mv (.tmp 15), none, []⟩])
 (.seq (.seq (.region false [⟨some 16, .mv (.tmp 5), none, []⟩,
  ⟨some 17, .bin .lss (.tmp 16) (.const (.int .i64 0)), none, []⟩])
 (.cond (.tmp 17) (.seq (.region false [⟨some 4, .mv (.const (.bool true)), none, []⟩])
 .ret) .skip))
 (.seq (.region false [⟨some 18, .mv (.tmp 0), none, []⟩,
  ⟨some 19, .call 12800 0 [.tmp 18], none, []⟩,
  ⟨some 20, .mv (.tmp 1), none, []⟩,
  ⟨some 21, .call 14300 0 [.tmp 19, .tmp 20], none, []⟩,
  ⟨some 6, .mv (.take 21), none, []⟩])
 (.seq (.region false [⟨some 22, .mv (.tmp 0), none, []⟩,
  ⟨some 23, .tr (.call .pass 38300 [.tmp 22]), none, []⟩,
  ⟨some 7, .mv (.take 23), none, []⟩])
 (.seq (.region false [⟨some 24, .mv (.tmp 7), none, []⟩,
  ⟨some 25, .mv (.tmp 1), none, []⟩,
  ⟨some 26, .tr (.call .pview 38900 [.tmp 24, .tmp 25]), none, []⟩,
  ⟨some 8, .mv (.take 26), none, []⟩])
 (.seq (.seq (.region false [⟨some 27, .mv (.tmp 8), none, []⟩,
  ⟨some 28, .mv (.tmp 6), none, []⟩,
  ⟨some 29, .tr (.call .view 8400 [.tmp 27, .tmp 28]), none, []⟩,
  ⟨some 30, .un .not (.tmp 29), none, []⟩])
 (.cond (.tmp 30) (.seq (.region false [⟨some 4, .mv (.const (.bool false)), none, []⟩])
 .ret) .skip))
 (.seq (.seq (.region false [⟨some 31, .mv (.tmp 7), none, []⟩,
  ⟨some 32, .mv (.tmp 0), none, []⟩,
  ⟨some 33, .call 12800 0 [.tmp 32], none, []⟩,
  ⟨some 34, .tr (.call .view 13100 [.tmp 31, .tmp 33]), none, []⟩,
  ⟨some 35, .un .not (.tmp 34), none, []⟩])
 (.cond (.tmp 35) (.seq (.region false [⟨some 4, .mv (.const (.bool false)), none, []⟩])
 .ret) .skip))
 (.seq (.region false [⟨some 9, .mv (.const (.int .i64 1)), none, []⟩])
 (.seq (.region false [⟨some 36, .mv (.tmp 7), none, []⟩,
  ⟨some 37, .mv (.tmp 9), none, []⟩,
  ⟨some 38, .tr (.call .pass 38500 [.tmp 36, .tmp 37]), none, []⟩,
  ⟨some 9, .mv (.tmp 38), none, []⟩])
 (.seq (.seq (.region false [⟨some 39, .mv (.tmp 9), none, []⟩,
  ⟨some 40, .bin .lss (.tmp 39) (.const (.int .i64 0)), none, []⟩,
  ⟨some 41, .mv (.tmp 40), none, []⟩,
  ⟨some 42, .mv (.tmp 8), some (41, false), []⟩,
  ⟨some 43, .mv (.tmp 6), some (41, false), []⟩,
  ⟨some 44, .tr (.call .view 8400 [.tmp 42, .tmp 43]), some (41, false), []⟩,
  ⟨some 45, .un .not (.tmp 44), some (41, false), []⟩,
  ⟨some 46, .pick (.tmp 41) (.const (.bool true)) (.tmp 45), none, []⟩])
 (.cond (.tmp 46) (.seq (.region false [⟨some 4, .mv (.const (.bool false)), none, []⟩])
 .ret) .skip))
 (.seq (.region false [⟨some 10, .mv (.const (.int .i64 1)), none, []⟩])
 (.seq (.region false [⟨some 47, .mv (.tmp 8), none, []⟩,
  ⟨some 48, .mv (.tmp 10), none, []⟩,
  ⟨some 49, .tr (.call .pass 38700 [.tmp 47, .tmp 48]), none, []⟩,
  ⟨some 10, .mv (.tmp 49), none, []⟩])
 (.seq (.region false [⟨some 11, .mv (.const (.int .i64 1)), none, []⟩])
 (.seq (.region false [⟨some 50, .mv (.tmp 8), none, []⟩,
  ⟨some 51, .mv (.tmp 11), none, []⟩,
  ⟨some 52, .tr (.call .view 10600 [.tmp 50, .tmp 51]), none, []⟩,
  ⟨some 11, .mv (.tmp 52), none, []⟩])
 (.seq (.seq (.region false [⟨some 53, .mv (.tmp 11), none, []⟩,
  ⟨some 54, .bin .lss (.tmp 53) (.const (.int .i64 0)), none, []⟩])
 (.cond (.tmp 54) (.seq (.region false [⟨some 4, .mv (.const (.bool false)), none, []⟩])
 .ret) .skip))
 (.seq (.seq (.region false [⟨some 55, .mv (.tmp 11), none, []⟩,
  ⟨some 56, .mv (.tmp 10), none, []⟩,
  ⟨some 57, .bin .neq (.tmp 55) (.tmp 56), none, []⟩])
 (.cond (.tmp 57) (.seq (.region false [⟨some 4, .mv (.const (.bool false)), none, []⟩])
 .ret) .skip))
 (.seq (.region false [⟨some 58, .mv (.tmp 0), none, []⟩,
  ⟨some 59, .call 12800 0 [.tmp 58], none, []⟩,
  ⟨some 60, .mv (.tmp 1), none, []⟩,
  ⟨some 61, .call 14400 0 [.tmp 59, .tmp 60], none, []⟩,
  ⟨some 12, .mv (.take 61), none, []⟩])
 (.seq (.seq (.region false [⟨some 62, .mv (.tmp 12), none, []⟩,
  ⟨some 63, .mv (.tmp 6), none, []⟩,
  ⟨some 64, .call 8400 0 [.tmp 62, .tmp 63], none, []⟩,
  ⟨some 65, .un .not (.tmp 64), none, []⟩])
 (.cond (.tmp 65) (.seq (.region false [⟨some 4, .mv (.const (.bool false)), none, []⟩])
 .ret) .skip))
 (.seq (.region false [⟨some 11, .mv (.const (.int .i64 1)), none, []⟩])
 (.seq (.region false [⟨some 66, .mv (.tmp 8), none, []⟩,
  ⟨some 67, .mv (.tmp 11), none, []⟩,
  ⟨some 68, .tr (.call .view 10600 [.tmp 66, .tmp 67]), none, []⟩,
  ⟨some 11, .mv (.tmp 68), none, []⟩])
 (.seq (.seq (.region false [⟨some 69, .mv (.tmp 11), none, []⟩,
  ⟨some 70, .bin .lss (.tmp 69) (.const (.int .i64 0)), none, []⟩])
 (.cond (.tmp 70) (.seq (.region false [⟨some 4, .mv (.const (.bool false)), none, []⟩])
 .ret) .skip))
 (.seq (.seq (.region false [⟨some 71, .mv (.tmp 11), none, []⟩,
  ⟨some 72, .mv (.tmp 10), none, []⟩,
  ⟨some 73, .bin .neq (.tmp 71) (.tmp 72), none, []⟩])
 (.cond (.tmp 73) (.seq (.region false [⟨some 4, .mv (.const (.bool false)), none, []⟩])
 .ret) .skip))
 (.seq (.region false [⟨some 4, .mv (.const (.bool true)), none, []⟩])
 .ret))))))))))))))))))))))))) }
noncomputable def p16100 : ProcT := { kind := .fn, ins := [0, 1], bins := [], res := [.tmp 3], code := (.seq (.region false [⟨some 2, .box 100 (.tmp 0), none, []⟩,
  ⟨some 3, .mv (.const (.bool false)), none, []⟩])
 (.seq (.region false [⟨some 4, .fadr 1 (.tmp 2), none, []⟩,
  ⟨some 5, .load 1 false false (.tmp 4), none, []⟩,
  ⟨some 6, .bin .eql (.tmp 5) (.const (.int .i64 1)), none, []⟩,
  ⟨some 7, .mv (.tmp 6), none, []⟩,
  ⟨some 8, .fadr 2 (.tmp 2), some (7, true), []⟩,
  ⟨some 9, .load 1 false false (.tmp 8), some (7, true), []⟩,
  ⟨some 10, .load 1 false false (.tmp 1), some (7, true), []⟩,
  ⟨some 11, .bin .eql (.tmp 9) (.tmp 10), some (7, true), []⟩,
  ⟨some 12, .pick (.tmp 7) (.tmp 11) (.const (.bool false)), none, []⟩,
  ⟨some 3, .mv (.tmp 12), none, []⟩])
 .ret)) }
noncomputable def p38300 : ProcT := { kind := .fn, ins := [0], bins := [99], res := [.tmp 2], code := (.seq (.region false [⟨some 2, .mv (.const (.tr .event none 0)), none, []⟩])
 (.seq (.region false [⟨some 5, .mv (.tmp 0), none, []⟩,
  ⟨some 6, .len (.tmp 5), none, []⟩,
  ⟨some 7, .tr (.mk .event (.tmp 6) (.tmp 6)), none, []⟩,
  ⟨some 3, .mv (.take 7), none, []⟩])
 (.seq (.seq (.region false [⟨some 4, .mv (.const (.int .i64 0)), none, []⟩])
 (.block 0 (.label 38301)))
 (.seq (.region false [⟨some 22, .mv (.take 3), none, []⟩,
  ⟨some 2, .mv (.take 22), none, []⟩])
 .ret)))) }
noncomputable def p38301 : ProcT := { kind := .loop, ins := [0, 3, 4], bins := [99], outs := [2, 3], bouts := [99], code := (.seq (.seq (.region false [⟨some 8, .mv (.tmp 4), none, []⟩,
  ⟨some 9, .mv (.tmp 0), none, []⟩,
  ⟨some 10, .len (.tmp 9), none, []⟩,
  ⟨some 11, .bin .lss (.tmp 8) (.tmp 10), none, []⟩])
 (.cond (.tmp 11) .skip (.exit 0)))
 (.seq (.block 1 (.region false [⟨some 14, .mv (.tmp 3), none, []⟩,
  ⟨some 15, .mv (.tmp 4), none, []⟩,
  ⟨some 16, .mv (.tmp 0), none, []⟩,
  ⟨some 17, .mv (.tmp 4), none, []⟩,
  ⟨some 18, .iadr 4 (.tmp 16) (.tmp 17), none, []⟩,
  ⟨some 19, .load 4 true false (.tmp 18), none, []⟩,
  ⟨some 20, .call 12700 0 [.tmp 19], none, []⟩,
  ⟨some 21, .tr (.iadr 4 (.tmp 14) (.tmp 15)), none, []⟩,
  ⟨none, .tr (.store 4 (.tmp 21) (.tmp 20)), none, []⟩]))
 (.region false [⟨some 12, .mv (.tmp 4), none, []⟩,
  ⟨some 13, .bin .add (.tmp 12) (.const (.int .i64 1)), none, []⟩,
  ⟨some 4, .mv (.tmp 13), none, []⟩]))) }
noncomputable def p38500 : ProcT := { kind := .fn, ins := [0, 1], bins := [99], res := [.tmp 4], code := (.seq (.region false [⟨some 4, .mv (.const (.int .i64 0)), none, []⟩])
 (.seq (.seq (.region false [⟨some 5, .mv (.const (.int .i64 0)), none, []⟩])
 (.block 0 (.label 38501)))
 (.seq (.region false [⟨some 40, .mv (.tmp 1), none, []⟩,
  ⟨some 4, .mv (.tmp 40), none, []⟩])
 .ret))) }
noncomputable def p38501 : ProcT := { kind := .loop, ins := [0, 1, 5], bins := [99], outs := [1, 4], bouts := [99], code := (.seq (.seq (.region false [⟨some 6, .mv (.tmp 5), none, []⟩,
  ⟨some 7, .mv (.tmp 0), none, []⟩,
  ⟨some 8, .tr (.len (.tmp 7)), none, []⟩,
  ⟨some 9, .bin .lss (.tmp 6) (.tmp 8), none, []⟩])
 (.cond (.tmp 9) .skip (.exit 0)))
 (.seq (.block 1 (.seq (.region false [⟨some 12, .mv (.tmp 0), none, []⟩,
  ⟨some 13, .mv (.tmp 5), none, []⟩,
  ⟨some 14, .mv (.tmp 1), none, []⟩,
  ⟨some 15, .tr (.iadr 4 (.tmp 12) (.tmp 13)), none, []⟩,
  ⟨some 16, .tr (.fadr 0 (.tmp 15)), none, []⟩,
  ⟨none, .tr (.store 1 (.tmp 16) (.tmp 14)), none, []⟩])
 (.seq (.region false [⟨some 17, .mv (.tmp 1), none, []⟩,
  ⟨some 18, .bin .add (.tmp 17) (.const (.int .i64 1)), none, []⟩,
  ⟨some 1, .mv (.tmp 18), none, []⟩])
 (.seq (.region false [⟨some 19, .mv (.tmp 0), none, []⟩,
  ⟨some 20, .mv (.tmp 5), none, []⟩,
  ⟨some 21, .mv (.tmp 1), none, []⟩,
  ⟨some 22, .tr (.iadr 4 (.tmp 19) (.tmp 20)), none, []⟩,
  ⟨some 23, .tr (.fadr 1 (.tmp 22)), none, []⟩,
  ⟨none, .tr (.store 1 (.tmp 23) (.tmp 21)), none, []⟩])
 (.seq (.region false [⟨some 24, .mv (.tmp 1), none, []⟩,
  ⟨some 25, .bin .add (.tmp 24) (.const (.int .i64 1)), none, []⟩,
  ⟨some 1, .mv (.tmp 25), none, []⟩])
 (.seq (.region false [⟨some 26, .mv (.tmp 0), none, []⟩,
  ⟨some 27, .mv (.tmp 5), none, []⟩,
  ⟨some 28, .mv (.tmp 1), none, []⟩,
  ⟨some 29, .tr (.iadr 4 (.tmp 26) (.tmp 27)), none, []⟩,
  ⟨some 30, .tr (.fadr 2 (.tmp 29)), none, []⟩,
  ⟨none, .tr (.store 1 (.tmp 30) (.tmp 28)), none, []⟩])
 (.seq (.region false [⟨some 31, .mv (.tmp 1), none, []⟩,
  ⟨some 32, .bin .add (.tmp 31) (.const (.int .i64 1)), none, []⟩,
  ⟨some 1, .mv (.tmp 32), none, []⟩])
 (.seq (.region false [⟨some 33, .mv (.tmp 0), none, []⟩,
  ⟨some 34, .mv (.tmp 5), none, []⟩,
  ⟨some 35, .mv (.tmp 1), none, []⟩,
  ⟨some 36, .tr (.iadr 4 (.tmp 33) (.tmp 34)), none, []⟩,
  ⟨some 37, .tr (.fadr 3 (.tmp 36)), none, []⟩,
  ⟨none, .tr (.store 1 (.tmp 37) (.tmp 35)), none, []⟩])
 (.region false [⟨some 38, .mv (.tmp 1), none, []⟩,
  ⟨some 39, .bin .add (.tmp 38) (.const (.int .i64 1)), none, []⟩,
  ⟨some 1, .mv (.tmp 39), none, []⟩])))))))))
 (.region false [⟨some 10, .mv (.tmp 5), none, []⟩,
  ⟨some 11, .bin .add (.tmp 10) (.const (.int .i64 1)), none, []⟩,
  ⟨some 5, .mv (.tmp 11), none, []⟩]))) }
noncomputable def p38700 : ProcT := { kind := .fn, ins := [0, 1], bins := [99], res := [.tmp 4], code := (.seq (.region false [⟨some 4, .mv (.const (.int .i64 0)), none, []⟩])
 (.seq (.seq (.region false [⟨some 5, .mv (.const (.int .i64 0)), none, []⟩])
 (.block 0 (.label 38701)))
 (.seq (.region false [⟨some 18, .mv (.tmp 1), none, []⟩,
  ⟨some 4, .mv (.tmp 18), none, []⟩])
 .ret))) }
noncomputable def p38701 : ProcT := { kind := .loop, ins := [0, 1, 5], bins := [99], outs := [1, 4], bouts := [99], code := (.seq (.seq (.region false [⟨some 6, .mv (.tmp 5), none, []⟩,
  ⟨some 7, .mv (.tmp 0), none, []⟩,
  ⟨some 8, .tr (.len (.tmp 7)), none, []⟩,
  ⟨some 9, .bin .lss (.tmp 6) (.tmp 8), none, []⟩])
 (.cond (.tmp 9) .skip (.exit 0)))
 (.seq (.block 1 (.seq (.region false [⟨some 12, .mv (.tmp 0), none, []⟩,
  ⟨some 13, .mv (.tmp 5), none, []⟩,
  ⟨some 14, .mv (.tmp 1), none, []⟩,
  ⟨some 15, .tr (.iadr 1 (.tmp 12) (.tmp 13)), none, []⟩,
  ⟨none, .tr (.store 1 (.tmp 15) (.tmp 14)), none, []⟩])
 (.region false [⟨some 16, .mv (.tmp 1), none, []⟩,
  ⟨some 17, .bin .add (.tmp 16) (.const (.int .i64 1)), none, []⟩,
  ⟨some 1, .mv (.tmp 17), none, []⟩])))
 (.region false [⟨some 10, .mv (.tmp 5), none, []⟩,
  ⟨some 11, .bin .add (.tmp 10) (.const (.int .i64 1)), none, []⟩,
  ⟨some 5, .mv (.tmp 11), none, []⟩]))) }
noncomputable def p38900 : ProcT := { kind := .fn, ins := [0, 1], bins := [99], res := [.tmp 4], code := (.seq (.region false [⟨some 3, .box 100 (.tmp 1), none, []⟩,
  ⟨some 4, .mv (.const (.tr .int none 0)), none, []⟩])
 (.seq (.region false [⟨some 5, .mv (.tmp 0), none, []⟩,
  ⟨some 6, .mkfn 16100 [.tmp 3], none, []⟩,
  ⟨some 7, .tr (.call .pass 39000 [.tmp 5, .tmp 6]), none, []⟩,
  ⟨some 4, .mv (.take 7), none, []⟩])
 .ret)) }
noncomputable def p39000 : ProcT := { kind := .fn, ins := [0, 1], bins := [99], res := [.tmp 4], code := (.seq (.region false [⟨some 4, .mv (.const (.tr .int none 0)), none, []⟩])
 (.seq (.region false [⟨some 5, .mv (.const (.tr .int none 0)), none, []⟩])
 (.seq (.seq (.region false [⟨some 8, .mv (.tmp 0), none, []⟩,
  ⟨some 9, .len (.tmp 8), none, []⟩,
  ⟨some 10, .mv (.const (.int .i64 0)), none, []⟩])
 (.block 0 (.label 39001)))
 (.seq (.region false [⟨some 23, .mv (.take 5), none, []⟩,
  ⟨some 4, .mv (.take 23), none, []⟩])
 .ret)))) }
noncomputable def p39001 : ProcT := { kind := .loop, ins := [1, 5, 8, 9, 10], bins := [99], outs := [4, 5], bouts := [99], code := (.seq (.region false [⟨some 11, .bin .lss (.tmp 10) (.tmp 9), none, []⟩])
 (.seq (.cond (.tmp 11) .skip (.exit 0))
 (.seq (.block 1 (.seq (.region false [⟨some 12, .iadr 4 (.tmp 8) (.tmp 10), none, []⟩,
  ⟨some 13, .load 4 true false (.tmp 12), none, []⟩,
  ⟨some 7, .alloc 100 [.int .i64 0, .int .i64 0, .int .i64 0, .int .i64 0], none, []⟩,
  ⟨none, .store 4 (.tmp 7) (.tmp 13), none, []⟩])
 (.seq (.region false [⟨some 14, .mv (.tmp 1), none, []⟩,
  ⟨some 15, .load 4 true false (.tmp 7), none, []⟩,
  ⟨some 16, .callv (.tmp 14) [.tmp 15], none, []⟩])
 (.cond (.tmp 16) (.region false [⟨some 17, .mv (.take 5), none, []⟩,
  ⟨some 18, .fadr 3 (.tmp 7), none, []⟩,
  ⟨some 19, .load 1 false false (.tmp 18), none, []⟩,
  ⟨some 20, .buildS .full .int [.tmp 19], none, []⟩,
  ⟨some 21, .tr (.app 1 (.take 17) (.tmp 20)), none, []⟩,
  ⟨some 5, .mv (.take 21), none, []⟩]) .skip))))
 (.region false [⟨some 22, .bin .add (.tmp 10) (.const (.int .i64 1)), none, []⟩,
  ⟨some 10, .mv (.tmp 22), none, []⟩])))) }
noncomputable def tab : List (Nat × ProcT) := [(8400, p8400), (8401, p8401), (10600, p10600), (10601, p10601), (12500, p12500), (12700, p12700), (12800, p12800), (12801, p12801), (13000, p13000), (13100, p13100), (13101, p13101), (13600, p13600), (13601, p13601), (13900, p13900), (13901, p13901), (14300, p14300), (14400, p14400), (14500, p14500), (16100, p16100), (38300, p38300), (38301, p38301), (38500, p38500), (38501, p38501), (38700, p38700), (38701, p38701), (38900, p38900), (39000, p39000), (39001, p39001)]
noncomputable abbrev Tb : Nat → Option ProcT := (Vs.look · tab)
@[reducible] def s8400 : Sig := [⟨.ret, [.one], [], [.h (.bool)]⟩]
@[reducible] def s8401 : Sig := [⟨.exit 0, [.one], [], [.undef]⟩, ⟨.ret, [.one], [], [.h (.bool)]⟩]
@[reducible] def s10600 : Sig := [⟨.ret, [.one], [], [.h (.int .i64)]⟩]
@[reducible] def s10601 : Sig := [⟨.exit 0, [.one, .one], [], [.h (.int .i64), .undef]⟩, ⟨.ret, [.one, .one], [], [.h (.int .i64), .h (.int .i64)]⟩]
@[reducible] def s12500 : Sig := [⟨.ret, [.one], [], [.h (.int .i64)]⟩]
@[reducible] def s12700 : Sig := [⟨.ret, [.one], [], [.h (.agg .event)]⟩]
@[reducible] def s12800 : Sig := [⟨.ret, [.one], [], [.h (.sl .event)]⟩]
@[reducible] def s12801 : Sig := [⟨.exit 0, [.one, .one], [.rows], [.undef, .bs 100, .h (.sl .event)]⟩]
@[reducible] def s13000 : Sig := [⟨.ret, [.one], [], [.h (.bool)]⟩]
@[reducible] def s13100 : Sig := [⟨.ret, [.one], [], [.h (.bool)]⟩]
@[reducible] def s13101 : Sig := [⟨.exit 0, [.one], [], [.undef]⟩, ⟨.ret, [.one], [], [.h (.bool)]⟩]
@[reducible] def s13600 : Sig := [⟨.ret, [.one], [], [.h (.own .int)]⟩]
@[reducible] def s13601 : Sig := [⟨.exit 0, [.one, .one], [], [.undef, .h (.ownb .int)]⟩]
@[reducible] def s13900 : Sig := [⟨.ret, [.one], [], [.h (.own .int)]⟩]
@[reducible] def s13901 : Sig := [⟨.exit 0, [.one, .one], [], [.undef, .h (.ownb .int)]⟩]
@[reducible] def s14300 : Sig := [⟨.ret, [.one], [], [.h (.own .int)]⟩]
@[reducible] def s14400 : Sig := [⟨.ret, [.one], [], [.h (.own .int)]⟩]
@[reducible] def s14500 : Sig := [⟨.ret, [.one], [], [.h (.bool)]⟩]
@[reducible] def s16100 : Sig := [⟨.ret, [.one], [], [.h (.bool)]⟩]
@[reducible] def s38300 : Sig := [⟨.ret, [.one], [.ar], [.h (.tr .event), .h (.ar)]⟩]
@[reducible] def s38301 : Sig := [⟨.exit 0, [.one, .one], [.ar], [.undef, .h (.tr .event), .h (.ar)]⟩]
@[reducible] def s38500 : Sig := [⟨.ret, [.one], [.ar], [.h (.int .i64), .h (.ar)]⟩]
@[reducible] def s38501 : Sig := [⟨.exit 0, [.one, .one], [.ar], [.h (.int .i64), .undef, .h (.ar)]⟩]
@[reducible] def s38700 : Sig := [⟨.ret, [.one], [.ar], [.h (.int .i64), .h (.ar)]⟩]
@[reducible] def s38701 : Sig := [⟨.exit 0, [.one, .one], [.ar], [.h (.int .i64), .undef, .h (.ar)]⟩]
@[reducible] def s38900 : Sig := [⟨.ret, [.one], [.ar], [.h (.tr .int), .h (.ar)]⟩]
@[reducible] def s39000 : Sig := [⟨.ret, [.one], [.ar], [.h (.tr .int), .h (.ar)]⟩]
@[reducible] def s39001 : Sig := [⟨.exit 0, [.one, .one], [.ar], [.undef, .h (.tr .int), .h (.ar)]⟩]
def sgs : List (Nat × Sig) := [(8400, s8400), (8401, s8401), (10600, s10600), (10601, s10601), (12500, s12500), (12700, s12700), (12800, s12800), (12801, s12801), (13000, s13000), (13100, s13100), (13101, s13101), (13600, s13600), (13601, s13601), (13900, s13900), (13901, s13901), (14300, s14300), (14400, s14400), (14500, s14500), (16100, s16100), (38300, s38300), (38301, s38301), (38500, s38500), (38501, s38501), (38700, s38700), (38701, s38701), (38900, s38900), (39000, s39000), (39001, s39001)]
def sg (g : Nat) : Sig := (Vs.look g sgs).getD []
def GT (i : Nat) : List TV := []
noncomputable def laws_FnExactTraceSent (a0 : List Evt) (a1 : Int) : Option (Bool) := callTy Tb GT s14500 14500 [.sl .share .event a0, .int .i64 a1] []
noncomputable def laws_szEventS (a0 : List Evt) (a1 : Int) : Option (Int) := callTy Tb GT s12500 12500 [.sl .share .event a0, .int .i64 a1] []
noncomputable def laws_toEventS (a0 : List Evt) : Option (List Evt) := callTy Tb GT s12800 12800 [.sl .share .event a0] []
noncomputable def spec_TraceSent (a0 : List Evt) (a1 : Int) : Option (List Int) := callTy Tb GT s14300 14300 [.sl .share .event a0, .int .i64 a1] []
noncomputable def laws_toEventS_p (a0 : List Evt) (A : List Ent) : Option (Hd × List Ent) := callTy Tb GT s38300 38300 [.sl .share .event a0] [.ar A]
noncomputable def impl_TraceSent_p (a0 : List Evt) (a1 : Int) (A : List Ent) : Option (Hd × List Ent) := callTy Tb GT s38900 38900 [.sl .share .event a0, .int .i64 a1] [.ar A]
noncomputable def laws_eqIntS (a0 : List Int) (a1 : List Int) : Option (Bool) := callTy Tb GT s8400 8400 [.sl .share .int a0, .sl .share .int a1] []
noncomputable def laws_eqEventS (a0 : List Evt) (a1 : List Evt) : Option (Bool) := callTy Tb GT s13100 13100 [.sl .share .event a0, .sl .share .event a1] []
noncomputable def laws_markEventS_p (a0 : Hd) (a1 : Int) (A : List Ent) : Option (Int × List Ent) := callTy Tb GT s38500 38500 [.tr .event a0.id a0.n, .int .i64 a1] [.ar A]
noncomputable def laws_markIntS_p (a0 : Hd) (a1 : Int) (A : List Ent) : Option (Int × List Ent) := callTy Tb GT s38700 38700 [.tr .int a0.id a0.n, .int .i64 a1] [.ar A]
noncomputable def laws_heldIntS (a0 : List Int) (a1 : Int) : Option (Int) := callTy Tb GT s10600 10600 [.sl .share .int a0, .int .i64 a1] []
noncomputable def impl_TraceSent (a0 : List Evt) (a1 : Int) : Option (List Int) := callTy Tb GT s14400 14400 [.sl .share .event a0, .int .i64 a1] []
noncomputable def laws_toEvent (a0 : Evt) : Option (Evt) := callTy Tb GT s12700 12700 [.agg (rowT .event a0)] []
noncomputable def laws_toEventS_l1 (t0 : List Evt) (t4 : Int) (b100 : List Evt) : Option (List Evt) := callTy Tb GT s12801 12801 [.sl .share .event t0, .bs 100, .int .i64 t4] [.rows .event b100]
noncomputable def spec_l17Values (a0 : List Evt) (a1 : Int) (a2 : Int) : Option (List Int) := callTy Tb GT s13900 13900 [.sl .share .event a0, .int .i64 a1, .int .i64 a2] []
noncomputable def laws_toEventS_p_l1 (t0 : List Evt) (t3 : Hd) (t4 : Int) (b99 : List Ent) : Option (Hd × List Ent) := callTy Tb GT s38301 38301 [.sl .share .event t0, .tr .event t3.id t3.n, .int .i64 t4] [.ar b99]
noncomputable def impl_valuesOf_p_16100 (a0 : List Evt) (a1_0_0 : Int) (A : List Ent) : Option (Hd × List Ent) := callTy Tb GT s39000 39000 [.sl .share .event a0, .fn 16100 [.rp [.int .i64 a1_0_0] 0]] [.ar A]
noncomputable def laws_eqIntS_l1 (t0 : List Int) (t1 : List Int) (t5 : Int) : Option (Unit ⊕ Bool) := callTy Tb GT s8401 8401 [.sl .share .int t0, .sl .share .int t1, .int .i64 t5] []
noncomputable def laws_eqEvent (a0 : Evt) (a1 : Evt) : Option (Bool) := callTy Tb GT s13000 13000 [.agg (rowT .event a0), .agg (rowT .event a1)] []
noncomputable def laws_eqEventS_l1 (t0 : List Evt) (t1 : List Evt) (t5 : Int) : Option (Unit ⊕ Bool) := callTy Tb GT s13101 13101 [.sl .share .event t0, .sl .share .event t1, .int .i64 t5] []
noncomputable def laws_markEventS_p_l1 (t0 : Hd) (t1 : Int) (t5 : Int) (b99 : List Ent) : Option (Int × List Ent) := callTy Tb GT s38501 38501 [.tr .event t0.id t0.n, .int .i64 t1, .int .i64 t5] [.ar b99]
noncomputable def laws_markIntS_p_l1 (t0 : Hd) (t1 : Int) (t5 : Int) (b99 : List Ent) : Option (Int × List Ent) := callTy Tb GT s38701 38701 [.tr .int t0.id t0.n, .int .i64 t1, .int .i64 t5] [.ar b99]
noncomputable def laws_heldIntS_l1 (t0 : List Int) (t1 : Int) (t5 : Int) : Option (Int ⊕ (Int × Int)) := callTy Tb GT s10601 10601 [.sl .share .int t0, .int .i64 t1, .int .i64 t5] []
noncomputable def impl_valuesOf_16100 (a0 : List Evt) (a1_0_0 : Int) : Option (List Int) := callTy Tb GT s13600 13600 [.sl .share .event a0, .fn 16100 [.rp [.int .i64 a1_0_0] 0]] []
noncomputable def spec_l17Values_l1 (t0 : List Evt) (t1 : Int) (t2 : Int) (t7b : Bool) (t7 : List Int) (t8 : Int) : Option ((Bool × List Int)) := callTy Tb GT s13901 13901 [.sl .share .event t0, .int .i64 t1, .int .i64 t2, .sl (.own t7b) .int t7, .int .i64 t8] []
noncomputable def impl_TraceSent_1 (a0 : Evt) (a1_0 : Int) : Option (Bool) := callTy Tb GT s16100 16100 [.agg (rowT .event a0), .rp [.int .i64 a1_0] 0] []
noncomputable def impl_valuesOf_p_16100_l1_16100 (t1_0_0 : Int) (t5 : Hd) (t8 : List Evt) (t9 : Int) (t10 : Int) (b99 : List Ent) : Option (Hd × List Ent) := callTy Tb GT s39001 39001 [.fn 16100 [.rp [.int .i64 t1_0_0] 0], .tr .int t5.id t5.n, .sl .share .event t8, .int .i64 t9, .int .i64 t10] [.ar b99]
noncomputable def impl_valuesOf_16100_l1_16100 (t1_0_0 : Int) (t5b : Bool) (t5 : List Int) (t8 : List Evt) (t9 : Int) (t10 : Int) : Option ((Bool × List Int)) := callTy Tb GT s13601 13601 [.fn 16100 [.rp [.int .i64 t1_0_0] 0], .sl (.own t5b) .int t5, .sl .share .event t8, .int .i64 t9, .int .i64 t10] []
end Go.TFnExactTraceSent
