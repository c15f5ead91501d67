import Derived.Test.YtpkgdoapdijmeaaLkA
import Derived.Test.YtpkgdoapdijmeaaPm2
import Derived.Test.YtpkgdoapdijmeaaPm4

set_option linter.unusedVariables false
namespace Go.TFnExactWorldOutcome
open Go Go.RowKit Go.Vs Go.Tv

@[reducible] def oo (d : Nat) (k : KT) : AOpT := ⟨some d, k, none, []⟩
@[reducible] def op (d : Nat) (k : KT) (f : List Nat) : AOpT := ⟨some d, k, none, f⟩
@[reducible] def on (k : KT) (f : List Nat) : AOpT := ⟨none, k, none, f⟩
@[reducible] def og (d : Option Nat) (k : KT) (i : Nat) (b : Bool) (f : List Nat) : AOpT := ⟨d, k, some (i, b), f⟩
@[reducible] def tt (i : Nat) : OpT := .tmp i
@[reducible] def nn (i : Int) : OpT := .const (.int .i64 i)
@[reducible] def rr (l : List AOpT) : ACT := .region false l
noncomputable def p1000 : ProcT := { kind := .fn, ins := [0], bins := [], res := [.tmp 2], code := (.seq (rr [oo 2 (.mv (.const (.bool false)))])
 (.seq (rr [oo 3 (.mv (tt 0)),
oo 4 (.bin .geq (tt 3) (nn 1)),
oo 5 (.mv (tt 4)),
og (some 6) (.mv (tt 0)) 5 true [],
og (some 7) (.bin .leq (tt 6) (nn 12)) 5 true [],
oo 8 (.pick (tt 5) (tt 7) (.const (.bool false))),
oo 2 (.mv (tt 8))])
 .ret)) }
noncomputable def p1100 : ProcT := { kind := .fn, ins := [0, 1], bins := [], res := [.tmp 4], code := (.seq (rr [oo 2 (.box 100 (tt 0)),
oo 4 (.mv (.const (.bool false)))])
 (.seq (.block 0 (.seq (rr [oo 6 (.fadr 0 (tt 2)),
oo 7 (.load 1 false false (tt 6)),
oo 8 (.bin .eql (tt 7) (nn 0)),
oo 5 (.mv (tt 8))])
 (.cond (tt 5) (.seq (rr [oo 9 (.fadr 1 (tt 2)),
oo 10 (.load 1 false false (tt 9)),
oo 11 (.bin .geq (tt 10) (nn 0)),
oo 12 (.mv (tt 11)),
og (some 13) (.fadr 1 (tt 2)) 12 true [],
og (some 14) (.load 1 false false (tt 13)) 12 true [],
og (some 15) (.bin .leq (tt 14) (nn 99999)) 12 true [],
oo 16 (.pick (tt 12) (tt 15) (.const (.bool false))),
oo 17 (.mv (tt 16)),
og (some 18) (.fadr 2 (tt 2)) 17 true [],
og (some 19) (.load 1 false false (tt 18)) 17 true [],
og (some 20) (.len (tt 19)) 17 true [],
og (some 21) (.bin .eql (tt 20) (nn 0)) 17 true [],
oo 22 (.pick (tt 17) (tt 21) (.const (.bool false))),
oo 23 (.mv (tt 22)),
og (some 24) (.mv (tt 1)) 23 true [],
og (some 25) (.bin .gtr (tt 24) (nn 0)) 23 true [],
oo 26 (.pick (tt 23) (tt 25) (.const (.bool false))),
oo 4 (.mv (tt 26))])
 .ret) (.seq (rr [oo 28 (.fadr 0 (tt 2)),
oo 29 (.load 1 false false (tt 28)),
oo 30 (.bin .eql (tt 29) (nn 13)),
oo 27 (.mv (tt 30))])
 (.cond (tt 27) (.seq (rr [oo 31 (.fadr 1 (tt 2)),
oo 32 (.load 1 false false (tt 31)),
oo 33 (.bin .geq (tt 32) (nn 0)),
oo 34 (.mv (tt 33)),
og (some 35) (.fadr 1 (tt 2)) 34 true [],
og (some 36) (.load 1 false false (tt 35)) 34 true [],
og (some 37) (.bin .lss (tt 36) (nn 4)) 34 true [],
oo 38 (.pick (tt 34) (tt 37) (.const (.bool false))),
oo 39 (.mv (tt 38)),
og (some 40) (.fadr 2 (tt 2)) 39 true [],
og (some 41) (.load 1 false false (tt 40)) 39 true [],
og (some 42) (.len (tt 41)) 39 true [],
og (some 43) (.bin .eql (tt 42) (nn 0)) 39 true [],
oo 44 (.pick (tt 39) (tt 43) (.const (.bool false))),
oo 45 (.mv (tt 44)),
og (some 46) (.mv (tt 1)) 45 true [],
og (some 47) (.bin .gtr (tt 46) (nn 0)) 45 true [],
oo 48 (.pick (tt 45) (tt 47) (.const (.bool false))),
oo 4 (.mv (tt 48))])
 .ret) .skip)))))
 (.seq (rr [oo 49 (.fadr 0 (tt 2)),
oo 50 (.load 1 false false (tt 49)),
oo 51 (.call 1000 0 [tt 50]),
oo 52 (.mv (tt 51)),
og (some 53) (.fadr 1 (tt 2)) 52 true [],
og (some 54) (.load 1 false false (tt 53)) 52 true [],
og (some 55) (.bin .eql (tt 54) (nn 0)) 52 true [],
oo 56 (.pick (tt 52) (tt 55) (.const (.bool false))),
oo 57 (.mv (tt 56)),
og (some 58) (.fadr 2 (tt 2)) 57 true [],
og (some 59) (.load 1 false false (tt 58)) 57 true [],
og (some 60) (.len (tt 59)) 57 true [],
og (some 61) (.bin .eql (tt 60) (nn 2)) 57 true [],
oo 62 (.pick (tt 57) (tt 61) (.const (.bool false))),
oo 63 (.mv (tt 62)),
og (some 64) (.mv (tt 1)) 63 true [],
og (some 65) (.bin .gtr (tt 64) (nn 1)) 63 true [],
oo 66 (.pick (tt 63) (tt 65) (.const (.bool false))),
oo 67 (.mv (tt 66)),
og (some 68) (.fadr 2 (tt 2)) 67 true [],
og (some 69) (.load 1 false false (tt 68)) 67 true [],
og (some 70) (.iadr 3 (tt 69) (nn 0)) 67 true [],
og (some 71) (.load 3 true false (tt 70)) 67 true [],
og (some 72) (.mv (tt 1)) 67 true [],
og (some 73) (.bin .sub (tt 72) (nn 1)) 67 true [],
og (some 74) (.call 1100 0 [tt 71, tt 73]) 67 true [],
oo 75 (.pick (tt 67) (tt 74) (.const (.bool false))),
oo 76 (.mv (tt 75)),
og (some 77) (.fadr 2 (tt 2)) 76 true [],
og (some 78) (.load 1 false false (tt 77)) 76 true [],
og (some 79) (.iadr 3 (tt 78) (nn 1)) 76 true [],
og (some 80) (.load 3 true false (tt 79)) 76 true [],
og (some 81) (.mv (tt 1)) 76 true [],
og (some 82) (.bin .sub (tt 81) (nn 1)) 76 true [],
og (some 83) (.call 1100 0 [tt 80, tt 82]) 76 true [],
oo 84 (.pick (tt 76) (tt 83) (.const (.bool false))),
oo 4 (.mv (tt 84))])
 .ret))) }
noncomputable def p1200 : ProcT := { kind := .fn, ins := [0], bins := [], res := [.tmp 2], code := (.seq (rr [oo 1 (.box 100 (tt 0)),
oo 2 (.mv (.const (.bool false)))])
 (.seq (rr [oo 3 (.load 3 true false (tt 1)),
oo 4 (.call 1100 0 [tt 3, nn 5]),
oo 2 (.mv (tt 4))])
 .ret)) }
noncomputable def p1600 : ProcT := { kind := .fn, ins := [0, 1, 2], bins := [], res := [.tmp 6], code := (.seq (rr [oo 6 (.mv (.const (.bool false)))])
 (.seq (rr [oo 7 (.mv (tt 0)),
oo 8 (.mv (tt 1)),
oo 9 (.bin .geq (tt 7) (tt 8)),
oo 10 (.mv (tt 9)),
og (some 11) (.mv (tt 0)) 10 true [],
og (some 12) (.mv (tt 2)) 10 true [],
og (some 13) (.bin .leq (tt 11) (tt 12)) 10 true [],
oo 14 (.pick (tt 10) (tt 13) (.const (.bool false))),
oo 6 (.mv (tt 14))])
 .ret)) }
noncomputable def p1700 : ProcT := { kind := .fn, ins := [0], bins := [], res := [.tmp 2], code := (.seq (rr [oo 2 (.mv (.const (.bool false)))])
 (.seq (rr [oo 3 (.mv (tt 0)),
oo 4 (.call 1600 0 [tt 3, nn 1, nn 12]),
oo 2 (.mv (tt 4))])
 .ret)) }
noncomputable def p1800 : ProcT := { kind := .fn, ins := [0, 1], bins := [], res := [.tmp 4], code := (.seq (rr [oo 2 (.box 100 (tt 0)),
oo 4 (.mv (.const (.bool false)))])
 (.seq (.seq (rr [oo 5 (.mv (tt 1)),
oo 6 (.bin .lss (tt 5) (nn 1))])
 (.cond (tt 6) (.seq (rr [oo 4 (.mv (.const (.bool false)))])
 .ret) .skip))
 (.seq (.seq (rr [oo 7 (.fadr 0 (tt 2)),
oo 8 (.load 1 false false (tt 7)),
oo 9 (.bin .eql (tt 8) (nn 0))])
 (.cond (tt 9) (.seq (rr [oo 10 (.fadr 1 (tt 2)),
oo 11 (.load 1 false false (tt 10)),
oo 12 (.call 1600 0 [tt 11, nn 0, nn 99999]),
oo 13 (.mv (tt 12)),
og (some 14) (.fadr 2 (tt 2)) 13 true [],
og (some 15) (.load 1 false false (tt 14)) 13 true [],
og (some 16) (.len (tt 15)) 13 true [],
og (some 17) (.bin .eql (tt 16) (nn 0)) 13 true [],
oo 18 (.pick (tt 13) (tt 17) (.const (.bool false))),
oo 4 (.mv (tt 18))])
 .ret) .skip))
 (.seq (.seq (rr [oo 19 (.fadr 0 (tt 2)),
oo 20 (.load 1 false false (tt 19)),
oo 21 (.bin .eql (tt 20) (nn 13))])
 (.cond (tt 21) (.seq (rr [oo 22 (.fadr 1 (tt 2)),
oo 23 (.load 1 false false (tt 22)),
oo 24 (.call 1600 0 [tt 23, nn 0, nn 3]),
oo 25 (.mv (tt 24)),
og (some 26) (.fadr 2 (tt 2)) 25 true [],
og (some 27) (.load 1 false false (tt 26)) 25 true [],
og (some 28) (.len (tt 27)) 25 true [],
og (some 29) (.bin .eql (tt 28) (nn 0)) 25 true [],
oo 30 (.pick (tt 25) (tt 29) (.const (.bool false))),
oo 4 (.mv (tt 30))])
 .ret) .skip))
 (.seq (rr [oo 31 (.fadr 0 (tt 2)),
oo 32 (.load 1 false false (tt 31)),
oo 33 (.call 1700 0 [tt 32]),
oo 34 (.mv (tt 33)),
og (some 35) (.fadr 1 (tt 2)) 34 true [],
og (some 36) (.load 1 false false (tt 35)) 34 true [],
og (some 37) (.bin .eql (tt 36) (nn 0)) 34 true [],
oo 38 (.pick (tt 34) (tt 37) (.const (.bool false))),
oo 39 (.mv (tt 38)),
og (some 40) (.fadr 2 (tt 2)) 39 true [],
og (some 41) (.load 1 false false (tt 40)) 39 true [],
og (some 42) (.len (tt 41)) 39 true [],
og (some 43) (.bin .eql (tt 42) (nn 2)) 39 true [],
oo 44 (.pick (tt 39) (tt 43) (.const (.bool false))),
oo 45 (.mv (tt 44)),
og (some 46) (.fadr 2 (tt 2)) 45 true [],
og (some 47) (.load 1 false false (tt 46)) 45 true [],
og (some 48) (.iadr 3 (tt 47) (nn 0)) 45 true [],
og (some 49) (.load 3 true false (tt 48)) 45 true [],
og (some 50) (.mv (tt 1)) 45 true [],
og (some 51) (.bin .sub (tt 50) (nn 1)) 45 true [],
og (some 52) (.call 1800 0 [tt 49, tt 51]) 45 true [],
oo 53 (.pick (tt 45) (tt 52) (.const (.bool false))),
oo 54 (.mv (tt 53)),
og (some 55) (.fadr 2 (tt 2)) 54 true [],
og (some 56) (.load 1 false false (tt 55)) 54 true [],
og (some 57) (.iadr 3 (tt 56) (nn 1)) 54 true [],
og (some 58) (.load 3 true false (tt 57)) 54 true [],
og (some 59) (.mv (tt 1)) 54 true [],
og (some 60) (.bin .sub (tt 59) (nn 1)) 54 true [],
og (some 61) (.call 1800 0 [tt 58, tt 60]) 54 true [],
oo 62 (.pick (tt 54) (tt 61) (.const (.bool false))),
oo 4 (.mv (tt 62))])
 .ret))))) }
noncomputable def p1900 : ProcT := { kind := .fn, ins := [0], bins := [], res := [.tmp 2], code := (.seq (rr [oo 1 (.box 100 (tt 0)),
oo 2 (.mv (.const (.bool false)))])
 (.seq (rr [oo 3 (.load 3 true false (tt 1)),
oo 4 (.call 1800 0 [tt 3, nn 5]),
oo 2 (.mv (tt 4))])
 .ret)) }
noncomputable def p4000 : ProcT := { kind := .fn, ins := [0], bins := [], res := [.tmp 2], code := (.seq (rr [oo 2 (.mv (nn 0))])
 (.seq (rr [oo 3 (.mv (nn 0))])
 (.seq (.seq (rr [oo 4 (.mv (nn 0))])
 (.block 0 (.label 4001)))
 (.seq (rr [oo 27 (.mv (tt 3)),
oo 2 (.mv (tt 27))])
 .ret)))) }
noncomputable def p4001 : ProcT := { kind := .loop, ins := [0, 3, 4], bins := [], outs := [2, 3], bouts := [], code := (.seq (.seq (rr [oo 5 (.mv (tt 4)),
oo 6 (.mv (tt 0)),
oo 7 (.len (tt 6)),
oo 8 (.bin .lss (tt 5) (tt 7))])
 (.cond (tt 8) .skip (.exit 0)))
 (.seq (.block 1 (.region true [oo 11 (.mv (tt 3)),
oo 12 (.bin .add (tt 11) (nn 1)),
oo 13 (.mv (tt 0)),
oo 14 (.mv (tt 4)),
oo 15 (.iadr 8 (tt 13) (tt 14)),
oo 16 (.fadr 6 (tt 15)),
oo 17 (.load 1 false false (tt 16)),
oo 18 (.call 4000 0 [tt 17]),
oo 19 (.bin .add (tt 12) (tt 18)),
oo 20 (.mv (tt 0)),
oo 21 (.mv (tt 4)),
oo 22 (.iadr 8 (tt 20) (tt 21)),
oo 23 (.fadr 7 (tt 22)),
oo 24 (.load 1 false false (tt 23)),
oo 25 (.call 4000 0 [tt 24]),
oo 26 (.bin .add (tt 19) (tt 25)),
oo 3 (.mv (tt 26))]))
 (rr [oo 9 (.mv (tt 4)),
oo 10 (.bin .add (tt 9) (nn 1)),
oo 4 (.mv (tt 10))]))) }
noncomputable def p5000 : ProcT := { kind := .fn, ins := [0], bins := [], res := [.tmp 2], code := (.seq (rr [oo 2 (.mv (.const (.bool false)))])
 (.seq (rr [oo 3 (.mv (tt 0)),
oo 4 (.bin .geq (tt 3) (nn (-2147483648))),
oo 5 (.mv (tt 4)),
og (some 6) (.mv (tt 0)) 5 true [],
og (some 7) (.bin .leq (tt 6) (nn 2147483647)) 5 true [],
oo 8 (.pick (tt 5) (tt 7) (.const (.bool false))),
oo 2 (.mv (tt 8))])
 .ret)) }
noncomputable def p5100 : ProcT := { kind := .fn, ins := [0], bins := [], res := [.tmp 2], code := (.seq (rr [oo 2 (.mv (.const (.bool false)))])
 (.seq (.seq (rr [oo 5 (.mv (tt 0)),
oo 6 (.len (tt 5)),
oo 7 (.mv (nn 0))])
 (.block 0 (.label 5101)))
 (.seq (rr [oo 2 (.mv (.const (.bool true)))])
 .ret))) }
noncomputable def p5101 : ProcT := { kind := .loop, ins := [5, 6, 7], bins := [], outs := [2], bouts := [], code := (.seq (rr [oo 8 (.bin .lss (tt 7) (tt 6))])
 (.seq (.cond (tt 8) .skip (.exit 0))
 (.seq (.block 1 (.seq (rr [oo 9 (.iadr 1 (tt 5) (tt 7)),
oo 10 (.load 1 false false (tt 9)),
oo 4 (.mv (tt 10))])
 (.seq (rr [oo 11 (.mv (tt 4)),
oo 12 (.call 5000 0 [tt 11]),
oo 13 (.un .not (tt 12))])
 (.cond (tt 13) (.seq (rr [oo 2 (.mv (.const (.bool false)))])
 .ret) .skip))))
 (rr [oo 14 (.bin .add (tt 7) (nn 1)),
oo 7 (.mv (tt 14))])))) }
noncomputable def p5200 : ProcT := { kind := .fn, ins := [0, 1], bins := [], res := [.tmp 4], code := (.seq (rr [oo 4 (.mv (.const (.bool false)))])
 (.seq (rr [oo 5 (.alloc 100 [.bool false, .bool false, .bool false, .bool false, .bool false])])
 (.seq (.seq (rr [oo 7 (.mv (tt 0)),
oo 8 (.nilck (tt 7)),
oo 9 (.fadr 0 (tt 8)),
oo 10 (.load 1 false false (tt 9))])
 (.block 0 (.seq (rr [oo 12 (.bin .eql (tt 10) (nn 1)),
oo 11 (.mv (tt 12))])
 (.cond (tt 11) (rr [oo 13 (.fadr 0 (tt 5)),
on (.store 1 (tt 13) (.const (.bool true))) [],
oo 14 (.fadr 2 (tt 5)),
on (.store 1 (tt 14) (.const (.bool true))) []]) (.seq (rr [oo 16 (.bin .eql (tt 10) (nn 2)),
oo 15 (.mv (tt 16))])
 (.cond (tt 15) (rr [oo 17 (.fadr 2 (tt 5)),
on (.store 1 (tt 17) (.const (.bool true))) [],
oo 18 (.fadr 3 (tt 5)),
on (.store 1 (tt 18) (.const (.bool true))) [],
oo 19 (.fadr 4 (tt 5)),
on (.store 1 (tt 19) (.const (.bool true))) []]) (.seq (rr [oo 21 (.bin .eql (tt 10) (nn 3)),
oo 20 (.mv (tt 21))])
 (.cond (tt 20) (rr [oo 22 (.fadr 2 (tt 5)),
on (.store 1 (tt 22) (.const (.bool true))) [],
oo 23 (.fadr 3 (tt 5)),
on (.store 1 (tt 23) (.const (.bool true))) []]) (.seq (rr [oo 25 (.bin .eql (tt 10) (nn 4)),
oo 24 (.mv (tt 25))])
 (.cond (tt 24) (rr [oo 26 (.fadr 1 (tt 5)),
on (.store 1 (tt 26) (.const (.bool true))) [],
oo 27 (.fadr 2 (tt 5)),
on (.store 1 (tt 27) (.const (.bool true))) []]) (.seq (rr [oo 29 (.bin .eql (tt 10) (nn 5)),
oo 28 (.mv (tt 29))])
 (.cond (tt 28) (rr [oo 30 (.fadr 1 (tt 5)),
on (.store 1 (tt 30) (.const (.bool true))) [],
oo 31 (.fadr 0 (tt 5)),
on (.store 1 (tt 31) (.const (.bool true))) []]) (.seq (rr [oo 33 (.bin .eql (tt 10) (nn 7)),
oo 32 (.mv (tt 33))])
 (.cond (tt 32) (rr [oo 34 (.fadr 2 (tt 5)),
on (.store 1 (tt 34) (.const (.bool true))) []]) (.seq (rr [oo 36 (.bin .eql (tt 10) (nn 6)),
oo 35 (.mv (tt 36))])
 (.cond (tt 35) .skip (.seq (rr [oo 4 (.mv (.const (.bool false)))])
 .ret)))))))))))))))))
 (.seq (rr [oo 6 (.mv (.func 11100))])
 (.seq (.seq (.region true [oo 37 (.mv (tt 6)),
oo 38 (.mv (tt 0)),
oo 39 (.nilck (tt 38)),
oo 40 (.fadr 1 (tt 39)),
oo 41 (.load 1 false false (tt 40)),
op 42 (.fadr 0 (tt 5)) [100],
op 43 (.load 1 false false (tt 42)) [100],
oo 44 (.callv (tt 37) [tt 41, nn 4, tt 43]),
oo 45 (.un .not (tt 44)),
oo 46 (.mv (tt 45)),
og (some 47) (.mv (tt 6)) 46 false [],
og (some 48) (.mv (tt 0)) 46 false [],
og (some 49) (.nilck (tt 48)) 46 false [],
og (some 50) (.fadr 2 (tt 49)) 46 false [],
og (some 51) (.load 1 false false (tt 50)) 46 false [],
og (some 52) (.mv (tt 1)) 46 false [],
og (some 53) (.fadr 1 (tt 5)) 46 false [100],
og (some 54) (.load 1 false false (tt 53)) 46 false [100],
og (some 55) (.callv (tt 47) [tt 51, tt 52, tt 54]) 46 false [],
og (some 56) (.un .not (tt 55)) 46 false [],
oo 57 (.pick (tt 46) (.const (.bool true)) (tt 56)),
oo 58 (.mv (tt 57)),
og (some 59) (.fadr 1 (tt 5)) 58 false [100],
og (some 60) (.load 1 false false (tt 59)) 58 false [100],
og (some 61) (.mv (tt 60)) 58 false [],
og (some 62) (.mv (tt 0)) 61 true [],
og (some 63) (.nilck (tt 62)) 61 true [],
og (some 64) (.fadr 2 (tt 63)) 61 true [],
og (some 65) (.load 1 false false (tt 64)) 61 true [],
og (some 66) (.mv (tt 1)) 61 true [],
og (some 67) (.bin .geq (tt 65) (tt 66)) 61 true [],
og (some 68) (.pick (tt 61) (tt 67) (.const (.bool false))) 58 false [],
oo 69 (.pick (tt 58) (.const (.bool true)) (tt 68))])
 (.cond (tt 69) (.seq (rr [oo 4 (.mv (.const (.bool false)))])
 .ret) .skip))
 (.seq (.seq (rr [oo 70 (.fadr 2 (tt 5)),
oo 71 (.load 1 false false (tt 70)),
oo 72 (.mv (tt 71)),
og (some 73) (.mv (tt 0)) 72 true [],
og (some 74) (.nilck (tt 73)) 72 true [],
og (some 75) (.fadr 3 (tt 74)) 72 true [],
og (some 76) (.load 3 true false (tt 75)) 72 true [],
og (some 77) (.call 1200 0 [tt 76]) 72 true [],
og (some 78) (.un .not (tt 77)) 72 true [],
oo 79 (.pick (tt 72) (tt 78) (.const (.bool false))),
oo 80 (.mv (tt 79)),
og (some 81) (.fadr 2 (tt 5)) 80 false [],
og (some 82) (.load 1 false false (tt 81)) 80 false [],
og (some 83) (.un .not (tt 82)) 80 false [],
og (some 84) (.mv (tt 83)) 80 false [],
og (some 85) (.mv (tt 0)) 84 true [],
og (some 86) (.nilck (tt 85)) 84 true [],
og (some 87) (.fadr 3 (tt 86)) 84 true [],
og (some 88) (.fadr 0 (tt 87)) 84 true [],
og (some 89) (.load 1 false false (tt 88)) 84 true [],
og (some 90) (.bin .neq (tt 89) (nn 0)) 84 true [],
og (some 91) (.mv (tt 90)) 84 true [],
og (some 92) (.mv (tt 0)) 91 false [],
og (some 93) (.nilck (tt 92)) 91 false [],
og (some 94) (.fadr 3 (tt 93)) 91 false [],
og (some 95) (.fadr 1 (tt 94)) 91 false [],
og (some 96) (.load 1 false false (tt 95)) 91 false [],
og (some 97) (.bin .neq (tt 96) (nn 0)) 91 false [],
og (some 98) (.pick (tt 91) (.const (.bool true)) (tt 97)) 84 true [],
og (some 99) (.mv (tt 98)) 84 true [],
og (some 100) (.mv (tt 0)) 99 false [],
og (some 101) (.nilck (tt 100)) 99 false [],
og (some 102) (.fadr 3 (tt 101)) 99 false [],
og (some 103) (.fadr 2 (tt 102)) 99 false [],
og (some 104) (.load 1 false false (tt 103)) 99 false [],
og (some 105) (.len (tt 104)) 99 false [],
og (some 106) (.bin .gtr (tt 105) (nn 0)) 99 false [],
og (some 107) (.pick (tt 99) (.const (.bool true)) (tt 106)) 84 true [],
og (some 108) (.pick (tt 84) (tt 107) (.const (.bool false))) 80 false [],
oo 109 (.pick (tt 80) (.const (.bool true)) (tt 108))])
 (.cond (tt 109) (.seq (rr [oo 4 (.mv (.const (.bool false)))])
 .ret) .skip))
 (.seq (rr [oo 110 (.fadr 3 (tt 5)),
oo 111 (.load 1 false false (tt 110)),
oo 112 (.mv (tt 111)),
og (some 113) (.mv (tt 0)) 112 false [],
og (some 114) (.nilck (tt 113)) 112 false [],
og (some 115) (.fadr 6 (tt 114)) 112 false [],
og (some 116) (.load 1 false false (tt 115)) 112 false [],
og (some 117) (.len (tt 116)) 112 false [],
og (some 118) (.bin .eql (tt 117) (nn 0)) 112 false [],
oo 119 (.pick (tt 112) (.const (.bool true)) (tt 118)),
oo 120 (.mv (tt 119)),
og (some 121) (.fadr 4 (tt 5)) 120 true [],
og (some 122) (.load 1 false false (tt 121)) 120 true [],
og (some 123) (.mv (tt 122)) 120 true [],
og (some 124) (.mv (tt 0)) 123 false [],
og (some 125) (.nilck (tt 124)) 123 false [],
og (some 126) (.fadr 7 (tt 125)) 123 false [],
og (some 127) (.load 1 false false (tt 126)) 123 false [],
og (some 128) (.len (tt 127)) 123 false [],
og (some 129) (.bin .eql (tt 128) (nn 0)) 123 false [],
og (some 130) (.pick (tt 123) (.const (.bool true)) (tt 129)) 120 true [],
oo 131 (.pick (tt 120) (tt 130) (.const (.bool false))),
oo 4 (.mv (tt 131))])
 .ret))))))) }
noncomputable def p5300 : ProcT := { kind := .fn, ins := [0, 1, 2, 3], bins := [0], res := [.tmp 8], code := (.seq (rr [oo 8 (.mv (.const (.bool false)))])
 (.seq (rr [oo 11 (.mv (tt 3)),
oo 12 (.nilck (tt 11)),
oo 13 (.load 1 false false (tt 12)),
oo 14 (.mv (tt 0)),
oo 15 (.len (tt 14)),
oo 16 (.bin .add (tt 13) (tt 15)),
oo 17 (.nilck (tt 11)),
on (.store 1 (tt 17) (tt 16)) []])
 (.seq (.seq (rr [oo 18 (.mv (tt 3)),
oo 19 (.nilck (tt 18)),
oo 20 (.load 1 false false (tt 19)),
oo 21 (.bin .gtr (tt 20) (nn 16))])
 (.cond (tt 21) (.seq (rr [oo 8 (.mv (.const (.bool false)))])
 .ret) .skip))
 (.seq (.seq (rr [oo 22 (.mv (tt 0)),
oo 23 (.len (tt 22)),
oo 24 (.mv (nn 0))])
 (.block 0 (.label 5301)))
 (.seq (rr [oo 8 (.mv (.const (.bool true)))])
 .ret))))) }
noncomputable def p5301 : ProcT := { kind := .loop, ins := [0, 1, 2, 3, 23, 24], bins := [0], outs := [3, 8], bouts := [0], code := (.seq (rr [oo 25 (.bin .lss (tt 24) (tt 23))])
 (.seq (.cond (tt 25) .skip (.exit 0))
 (.seq (.block 1 (.seq (rr [oo 26 (.mv (tt 24)),
oo 9 (.mv (tt 26))])
 (.seq (rr [oo 27 (.mv (tt 0)),
oo 28 (.mv (tt 9)),
oo 29 (.iadr 8 (tt 27) (tt 28)),
oo 10 (.mv (tt 29))])
 (.seq (.seq (rr [oo 30 (.mv (tt 10)),
oo 31 (.mv (tt 1)),
oo 32 (.call 5200 0 [tt 30, tt 31]),
oo 33 (.un .not (tt 32)),
oo 34 (.mv (tt 33)),
og (some 35) (.mv (tt 2)) 34 false [],
og (some 36) (.bin .gtr (tt 35) (nn 3)) 34 false [],
oo 37 (.pick (tt 34) (.const (.bool true)) (tt 36))])
 (.cond (tt 37) (.seq (rr [oo 8 (.mv (.const (.bool false)))])
 .ret) .skip))
 (.seq (.seq (rr [oo 38 (.mv (tt 10)),
oo 39 (.nilck (tt 38)),
oo 40 (.fadr 0 (tt 39)),
oo 41 (.load 1 false false (tt 40)),
oo 42 (.bin .neq (tt 41) (nn 2)),
oo 43 (.mv (tt 42)),
og (some 44) (.mv (tt 10)) 43 true [],
og (some 45) (.nilck (tt 44)) 43 true [],
og (some 46) (.fadr 0 (tt 45)) 43 true [],
og (some 47) (.load 1 false false (tt 46)) 43 true [],
og (some 48) (.bin .neq (tt 47) (nn 3)) 43 true [],
oo 49 (.pick (tt 43) (tt 48) (.const (.bool false)))])
 (.cond (tt 49) (.exit 1) .skip))
 (.seq (rr [oo 50 (.mv (tt 2)),
oo 51 (.bin .geq (tt 50) (nn 3)),
oo 52 (.mv (tt 51)),
og (some 53) (.mv (tt 10)) 52 false [],
og (some 54) (.nilck (tt 53)) 52 false [],
og (some 55) (.fadr 6 (tt 54)) 52 false [],
og (some 56) (.load 1 false false (tt 55)) 52 false [],
og (some 57) (.mv (tt 1)) 52 false [],
og (some 58) (.mv (tt 2)) 52 false [],
og (some 59) (.bin .add (tt 58) (nn 1)) 52 false [],
og (some 60) (.mv (tt 3)) 52 false [],
og (some 61) (.call 5300 0 [tt 56, tt 57, tt 59, tt 60]) 52 false [],
og (some 62) (.un .not (tt 61)) 52 false [],
oo 63 (.pick (tt 52) (.const (.bool true)) (tt 62)),
oo 64 (.mv (tt 63)),
og (some 65) (.mv (tt 10)) 64 false [],
og (some 66) (.nilck (tt 65)) 64 false [],
og (some 67) (.fadr 7 (tt 66)) 64 false [],
og (some 68) (.load 1 false false (tt 67)) 64 false [],
og (some 69) (.mv (tt 1)) 64 false [],
og (some 70) (.mv (tt 2)) 64 false [],
og (some 71) (.bin .add (tt 70) (nn 1)) 64 false [],
og (some 72) (.mv (tt 3)) 64 false [],
og (some 73) (.call 5300 0 [tt 68, tt 69, tt 71, tt 72]) 64 false [],
og (some 74) (.un .not (tt 73)) 64 false [],
oo 75 (.pick (tt 64) (.const (.bool true)) (tt 74))])
 (.cond (tt 75) (.seq (rr [oo 8 (.mv (.const (.bool false)))])
 .ret) .skip)))))))
 (rr [oo 76 (.bin .add (tt 24) (nn 1)),
oo 24 (.mv (tt 76))])))) }
noncomputable def p5400 : ProcT := { kind := .fn, ins := [0, 1], bins := [], res := [.tmp 4], code := (.seq (rr [oo 4 (.mv (.const (.bool false)))])
 (.seq (rr [oo 5 (.alloc 100 [.int .i64 0]),
on (.store 1 (tt 5) (nn 0)) []])
 (.seq (rr [oo 6 (.mv (tt 0)),
oo 7 (.mv (tt 1)),
oo 8 (.call 5300 0 [tt 6, tt 7, nn 0, tt 5]),
oo 4 (.mv (tt 8))])
 .ret))) }
noncomputable def p5500 : ProcT := { kind := .fn, ins := [0, 1], bins := [], res := [.tmp 4], code := (.seq (rr [oo 2 (.box 100 (tt 0)),
oo 4 (.mv (.const (.bool false)))])
 (.seq (.seq (rr [oo 6 (.fadr 0 (tt 2)),
oo 7 (.load 1 false false (tt 6)),
oo 8 (.len (tt 7)),
oo 9 (.bin .neq (tt 8) (nn 4)),
oo 10 (.mv (tt 9)),
og (some 11) (.fadr 0 (tt 2)) 10 false [],
og (some 12) (.load 1 false false (tt 11)) 10 false [],
og (some 13) (.call 5100 0 [tt 12]) 10 false [],
og (some 14) (.un .not (tt 13)) 10 false [],
oo 15 (.pick (tt 10) (.const (.bool true)) (tt 14))])
 (.cond (tt 15) (.seq (rr [oo 4 (.mv (.const (.bool false)))])
 .ret) .skip))
 (.seq (.seq (rr [oo 16 (.fadr 1 (tt 2)),
oo 17 (.load 1 false false (tt 16)),
oo 18 (.len (tt 17)),
oo 19 (.mv (nn 0))])
 (.block 0 (.label 5501)))
 (.seq (rr [oo 4 (.mv (.const (.bool true)))])
 .ret)))) }
noncomputable def p5501 : ProcT := { kind := .loop, ins := [1, 2, 18, 19], bins := [100], outs := [4], bouts := [], code := (.seq (rr [oo 20 (.bin .lss (tt 19) (tt 18))])
 (.seq (.cond (tt 20) .skip (.exit 0))
 (.seq (.block 1 (.seq (rr [oo 21 (.mv (tt 19)),
oo 5 (.mv (tt 21))])
 (.seq (rr [oo 22 (.fadr 1 (tt 2)),
oo 23 (.load 1 false false (tt 22)),
oo 24 (.mv (tt 5)),
oo 25 (.mv (tt 5)),
oo 26 (.bin .add (tt 25) (nn 1)),
oo 27 (.slc 8 (tt 23) (some (tt 24)) (some (tt 26)) none),
oo 28 (.mv (tt 1)),
oo 29 (.call 5400 0 [tt 27, tt 28]),
oo 30 (.un .not (tt 29))])
 (.cond (tt 30) (.seq (rr [oo 4 (.mv (.const (.bool false)))])
 .ret) .skip))))
 (rr [oo 31 (.bin .add (tt 19) (nn 1)),
oo 19 (.mv (tt 31))])))) }
noncomputable def p5700 : ProcT := { kind := .fn, ins := [0, 1], bins := [], res := [.tmp 4], code := (.seq (rr [oo 2 (.box 100 (tt 0)),
oo 4 (.mv (.const (.bool false)))])
 (.seq (.seq (rr [oo 5 (.mv (tt 1))])
 (.cond (tt 5) (.seq (rr [oo 6 (.fadr 1 (tt 2)),
oo 7 (.load 1 false false (tt 6)),
oo 8 (.call 1600 0 [tt 7, nn 0, nn 3]),
oo 4 (.mv (tt 8))])
 .ret) .skip))
 (.seq (rr [oo 9 (.fadr 1 (tt 2)),
oo 10 (.load 1 false false (tt 9)),
oo 11 (.bin .eql (tt 10) (nn 0)),
oo 4 (.mv (tt 11))])
 .ret))) }
noncomputable def p5800 : ProcT := { kind := .fn, ins := [0, 1], bins := [], res := [.tmp 4], code := (.seq (rr [oo 2 (.box 100 (tt 0)),
oo 4 (.mv (.const (.bool false)))])
 (.seq (.seq (rr [oo 5 (.mv (tt 1))])
 (.cond (tt 5) (.seq (rr [oo 6 (.fadr 2 (tt 2)),
oo 7 (.load 1 false false (tt 6)),
oo 8 (.call 1600 0 [tt 7, nn 0, nn 2]),
oo 4 (.mv (tt 8))])
 .ret) .skip))
 (.seq (rr [oo 9 (.fadr 2 (tt 2)),
oo 10 (.load 1 false false (tt 9)),
oo 11 (.bin .eql (tt 10) (nn 0)),
oo 4 (.mv (tt 11))])
 .ret))) }
noncomputable def p5900 : ProcT := { kind := .fn, ins := [0], bins := [], res := [.tmp 2], code := (.seq (rr [oo 1 (.box 100 (tt 0)),
oo 2 (.mv (.const (.bool false)))])
 (.seq (rr [oo 3 (.fadr 0 (tt 1)),
oo 4 (.load 1 false false (tt 3)),
oo 5 (.bin .eql (tt 4) (nn 0)),
oo 6 (.mv (tt 5)),
og (some 7) (.fadr 1 (tt 1)) 6 true [],
og (some 8) (.load 1 false false (tt 7)) 6 true [],
og (some 9) (.bin .eql (tt 8) (nn 0)) 6 true [],
oo 10 (.pick (tt 6) (tt 9) (.const (.bool false))),
oo 11 (.mv (tt 10)),
og (some 12) (.fadr 2 (tt 1)) 11 true [],
og (some 13) (.load 1 false false (tt 12)) 11 true [],
og (some 14) (.len (tt 13)) 11 true [],
og (some 15) (.bin .eql (tt 14) (nn 0)) 11 true [],
oo 16 (.pick (tt 11) (tt 15) (.const (.bool false))),
oo 2 (.mv (tt 16))])
 .ret)) }
noncomputable def p6000 : ProcT := { kind := .fn, ins := [0], bins := [], res := [.tmp 2], code := (.seq (rr [oo 1 (.box 100 (tt 0)),
oo 2 (.mv (.const (.bool false)))])
 (.seq (.seq (rr [oo 3 (.fadr 6 (tt 1)),
oo 4 (.load 1 false false (tt 3)),
oo 5 (.len (tt 4)),
oo 6 (.bin .gtr (tt 5) (nn 0)),
oo 7 (.mv (tt 6)),
og (some 8) (.fadr 7 (tt 1)) 7 false [],
og (some 9) (.load 1 false false (tt 8)) 7 false [],
og (some 10) (.len (tt 9)) 7 false [],
og (some 11) (.bin .gtr (tt 10) (nn 0)) 7 false [],
oo 12 (.pick (tt 7) (.const (.bool true)) (tt 11))])
 (.cond (tt 12) (.seq (rr [oo 2 (.mv (.const (.bool false)))])
 .ret) .skip))
 (.seq (.seq (rr [oo 13 (.fadr 0 (tt 1)),
oo 14 (.load 1 false false (tt 13))])
 (.block 0 (.seq (rr [oo 16 (.bin .eql (tt 14) (nn 1)),
oo 15 (.mv (tt 16))])
 (.cond (tt 15) (.seq (rr [oo 17 (.load 8 true false (tt 1)),
oo 18 (.call 5700 0 [tt 17, .const (.bool true)]),
oo 19 (.mv (tt 18)),
og (some 20) (.load 8 true false (tt 1)) 19 true [],
og (some 21) (.call 5800 0 [tt 20, .const (.bool false)]) 19 true [],
oo 22 (.pick (tt 19) (tt 21) (.const (.bool false))),
oo 23 (.mv (tt 22)),
og (some 24) (.fadr 3 (tt 1)) 23 true [],
og (some 25) (.load 3 true false (tt 24)) 23 true [],
og (some 26) (.call 1900 0 [tt 25]) 23 true [],
oo 27 (.pick (tt 23) (tt 26) (.const (.bool false))),
oo 2 (.mv (tt 27))])
 .ret) (.seq (rr [oo 29 (.bin .eql (tt 14) (nn 4)),
oo 28 (.mv (tt 29))])
 (.cond (tt 28) (.seq (rr [oo 30 (.load 8 true false (tt 1)),
oo 31 (.call 5700 0 [tt 30, .const (.bool false)]),
oo 32 (.mv (tt 31)),
og (some 33) (.load 8 true false (tt 1)) 32 true [],
og (some 34) (.call 5800 0 [tt 33, .const (.bool true)]) 32 true [],
oo 35 (.pick (tt 32) (tt 34) (.const (.bool false))),
oo 36 (.mv (tt 35)),
og (some 37) (.fadr 3 (tt 1)) 36 true [],
og (some 38) (.load 3 true false (tt 37)) 36 true [],
og (some 39) (.call 1900 0 [tt 38]) 36 true [],
oo 40 (.pick (tt 36) (tt 39) (.const (.bool false))),
oo 2 (.mv (tt 40))])
 .ret) (.seq (rr [oo 42 (.bin .eql (tt 14) (nn 5)),
oo 41 (.mv (tt 42))])
 (.cond (tt 41) (.seq (rr [oo 43 (.load 8 true false (tt 1)),
oo 44 (.call 5700 0 [tt 43, .const (.bool true)]),
oo 45 (.mv (tt 44)),
og (some 46) (.load 8 true false (tt 1)) 45 true [],
og (some 47) (.call 5800 0 [tt 46, .const (.bool true)]) 45 true [],
oo 48 (.pick (tt 45) (tt 47) (.const (.bool false))),
oo 49 (.mv (tt 48)),
og (some 50) (.fadr 3 (tt 1)) 49 true [],
og (some 51) (.load 3 true false (tt 50)) 49 true [],
og (some 52) (.call 5900 0 [tt 51]) 49 true [],
oo 53 (.pick (tt 49) (tt 52) (.const (.bool false))),
oo 2 (.mv (tt 53))])
 .ret) (.seq (rr [oo 55 (.bin .eql (tt 14) (nn 6)),
oo 54 (.mv (tt 55))])
 (.cond (tt 54) (.seq (rr [oo 56 (.load 8 true false (tt 1)),
oo 57 (.call 5700 0 [tt 56, .const (.bool false)]),
oo 58 (.mv (tt 57)),
og (some 59) (.load 8 true false (tt 1)) 58 true [],
og (some 60) (.call 5800 0 [tt 59, .const (.bool false)]) 58 true [],
oo 61 (.pick (tt 58) (tt 60) (.const (.bool false))),
oo 62 (.mv (tt 61)),
og (some 63) (.fadr 3 (tt 1)) 62 true [],
og (some 64) (.load 3 true false (tt 63)) 62 true [],
og (some 65) (.call 5900 0 [tt 64]) 62 true [],
oo 66 (.pick (tt 62) (tt 65) (.const (.bool false))),
oo 2 (.mv (tt 66))])
 .ret) (.seq (rr [oo 68 (.bin .eql (tt 14) (nn 7)),
oo 67 (.mv (tt 68))])
 (.cond (tt 67) (.seq (rr [oo 69 (.load 8 true false (tt 1)),
oo 70 (.call 5700 0 [tt 69, .const (.bool false)]),
oo 71 (.mv (tt 70)),
og (some 72) (.load 8 true false (tt 1)) 71 true [],
og (some 73) (.call 5800 0 [tt 72, .const (.bool false)]) 71 true [],
oo 74 (.pick (tt 71) (tt 73) (.const (.bool false))),
oo 75 (.mv (tt 74)),
og (some 76) (.fadr 3 (tt 1)) 75 true [],
og (some 77) (.load 3 true false (tt 76)) 75 true [],
og (some 78) (.call 1900 0 [tt 77]) 75 true [],
oo 79 (.pick (tt 75) (tt 78) (.const (.bool false))),
oo 2 (.mv (tt 79))])
 .ret) .skip))))))))))))
 (.seq (rr [oo 2 (.mv (.const (.bool false)))])
 .ret)))) }
noncomputable def p6100 : ProcT := { kind := .fn, ins := [0, 1], bins := [], res := [.tmp 4], code := (.seq (rr [oo 2 (.box 100 (tt 0)),
oo 4 (.mv (.const (.bool false)))])
 (.seq (.seq (rr [oo 5 (.fadr 0 (tt 2)),
oo 6 (.load 1 false false (tt 5)),
oo 7 (.bin .neq (tt 6) (nn 2)),
oo 8 (.mv (tt 7)),
og (some 9) (.fadr 0 (tt 2)) 8 true [],
og (some 10) (.load 1 false false (tt 9)) 8 true [],
og (some 11) (.bin .neq (tt 10) (nn 3)) 8 true [],
oo 12 (.pick (tt 8) (tt 11) (.const (.bool false)))])
 (.cond (tt 12) (.seq (rr [oo 13 (.load 8 true false (tt 2)),
oo 14 (.call 6000 0 [tt 13]),
oo 4 (.mv (tt 14))])
 .ret) .skip))
 (.seq (.seq (rr [oo 15 (.mv (tt 1)),
oo 16 (.bin .lss (tt 15) (nn 1)),
oo 17 (.mv (tt 16)),
og (some 18) (.fadr 0 (tt 2)) 17 false [],
og (some 19) (.load 1 false false (tt 18)) 17 false [],
og (some 20) (.bin .eql (tt 19) (nn 3)) 17 false [],
og (some 21) (.mv (tt 20)) 17 false [],
og (some 22) (.fadr 7 (tt 2)) 21 true [],
og (some 23) (.load 1 false false (tt 22)) 21 true [],
og (some 24) (.len (tt 23)) 21 true [],
og (some 25) (.bin .gtr (tt 24) (nn 0)) 21 true [],
og (some 26) (.pick (tt 21) (tt 25) (.const (.bool false))) 17 false [],
oo 27 (.pick (tt 17) (.const (.bool true)) (tt 26))])
 (.cond (tt 27) (.seq (rr [oo 4 (.mv (.const (.bool false)))])
 .ret) .skip))
 (.seq (rr [oo 28 (.load 8 true false (tt 2)),
oo 29 (.call 5700 0 [tt 28, .const (.bool false)]),
oo 30 (.mv (tt 29)),
og (some 31) (.load 8 true false (tt 2)) 30 true [],
og (some 32) (.call 5800 0 [tt 31, .const (.bool false)]) 30 true [],
oo 33 (.pick (tt 30) (tt 32) (.const (.bool false))),
oo 34 (.mv (tt 33)),
og (some 35) (.fadr 3 (tt 2)) 34 true [],
og (some 36) (.load 3 true false (tt 35)) 34 true [],
og (some 37) (.call 1900 0 [tt 36]) 34 true [],
oo 38 (.pick (tt 34) (tt 37) (.const (.bool false))),
oo 39 (.mv (tt 38)),
og (some 40) (.fadr 6 (tt 2)) 39 true [],
og (some 41) (.load 1 false false (tt 40)) 39 true [],
og (some 42) (.mv (tt 1)) 39 true [],
og (some 43) (.bin .sub (tt 42) (nn 1)) 39 true [],
og (some 44) (.call 6200 0 [tt 41, tt 43]) 39 true [],
oo 45 (.pick (tt 39) (tt 44) (.const (.bool false))),
oo 46 (.mv (tt 45)),
og (some 47) (.fadr 7 (tt 2)) 46 true [],
og (some 48) (.load 1 false false (tt 47)) 46 true [],
og (some 49) (.mv (tt 1)) 46 true [],
og (some 50) (.bin .sub (tt 49) (nn 1)) 46 true [],
og (some 51) (.call 6200 0 [tt 48, tt 50]) 46 true [],
oo 52 (.pick (tt 46) (tt 51) (.const (.bool false))),
oo 4 (.mv (tt 52))])
 .ret)))) }
noncomputable def p6200 : ProcT := { kind := .fn, ins := [0, 1], bins := [], res := [.tmp 4], code := (.seq (rr [oo 4 (.mv (.const (.bool false)))])
 (.seq (.seq (rr [oo 5 (.mv (nn 0))])
 (.block 0 (.label 6201)))
 (.seq (rr [oo 4 (.mv (.const (.bool true)))])
 .ret))) }
noncomputable def p6201 : ProcT := { kind := .loop, ins := [0, 1, 5], bins := [], outs := [4], bouts := [], code := (.seq (.seq (rr [oo 6 (.mv (tt 5)),
oo 7 (.mv (tt 0)),
oo 8 (.len (tt 7)),
oo 9 (.bin .lss (tt 6) (tt 8))])
 (.cond (tt 9) .skip (.exit 0)))
 (.seq (.block 1 (.seq (rr [oo 12 (.mv (tt 0)),
oo 13 (.mv (tt 5)),
oo 14 (.iadr 8 (tt 12) (tt 13)),
oo 15 (.load 8 true false (tt 14)),
oo 16 (.mv (tt 1)),
oo 17 (.call 6100 0 [tt 15, tt 16]),
oo 18 (.un .not (tt 17))])
 (.cond (tt 18) (.seq (rr [oo 4 (.mv (.const (.bool false)))])
 .ret) .skip)))
 (rr [oo 10 (.mv (tt 5)),
oo 11 (.bin .add (tt 10) (nn 1)),
oo 5 (.mv (tt 11))]))) }
noncomputable def p6300 : ProcT := { kind := .fn, ins := [0], bins := [], res := [.tmp 2], code := (.seq (rr [oo 2 (.mv (.const (.bool false)))])
 (.seq (rr [oo 3 (.mv (tt 0)),
oo 4 (.call 6200 0 [tt 3, nn 3]),
oo 5 (.mv (tt 4)),
og (some 6) (.mv (tt 0)) 5 true [],
og (some 7) (.call 4000 0 [tt 6]) 5 true [],
og (some 8) (.bin .leq (tt 7) (nn 16)) 5 true [],
oo 9 (.pick (tt 5) (tt 8) (.const (.bool false))),
oo 2 (.mv (tt 9))])
 .ret)) }
noncomputable def p6400 : ProcT := { kind := .fn, ins := [0], bins := [], res := [.tmp 2], code := (.seq (rr [oo 2 (.mv (.const (.bool false)))])
 (.seq (rr [oo 3 (.mv (tt 0)),
oo 4 (.call 1600 0 [tt 3, nn (-2147483648), nn 2147483647]),
oo 2 (.mv (tt 4))])
 .ret)) }
noncomputable def p6500 : ProcT := { kind := .fn, ins := [0, 1], bins := [], res := [.tmp 4], code := (.seq (rr [oo 4 (.mv (.const (.bool false)))])
 (.seq (.seq (rr [oo 6 (.mv (tt 0)),
oo 7 (.len (tt 6)),
oo 8 (.mv (tt 1)),
oo 9 (.bin .neq (tt 7) (tt 8))])
 (.cond (tt 9) (.seq (rr [oo 4 (.mv (.const (.bool false)))])
 .ret) .skip))
 (.seq (.seq (rr [oo 5 (.mv (nn 0))])
 (.block 0 (.label 6501)))
 (.seq (rr [oo 4 (.mv (.const (.bool true)))])
 .ret)))) }
noncomputable def p6501 : ProcT := { kind := .loop, ins := [0, 5], bins := [], outs := [4], bouts := [], code := (.seq (.seq (rr [oo 10 (.mv (tt 5)),
oo 11 (.mv (tt 0)),
oo 12 (.len (tt 11)),
oo 13 (.bin .lss (tt 10) (tt 12))])
 (.cond (tt 13) .skip (.exit 0)))
 (.seq (.block 1 (.seq (rr [oo 16 (.mv (tt 0)),
oo 17 (.mv (tt 5)),
oo 18 (.iadr 1 (tt 16) (tt 17)),
oo 19 (.load 1 false false (tt 18)),
oo 20 (.call 6400 0 [tt 19]),
oo 21 (.un .not (tt 20))])
 (.cond (tt 21) (.seq (rr [oo 4 (.mv (.const (.bool false)))])
 .ret) .skip)))
 (rr [oo 14 (.mv (tt 5)),
oo 15 (.bin .add (tt 14) (nn 1)),
oo 5 (.mv (tt 15))]))) }
noncomputable def p6600 : ProcT := { kind := .fn, ins := [0], bins := [], res := [.tmp 2], code := (.seq (rr [oo 1 (.box 100 (tt 0)),
oo 2 (.mv (.const (.bool false)))])
 (.seq (.seq (rr [oo 3 (.mv (nn 0))])
 (.block 0 (.label 6601)))
 (.seq (rr [oo 19 (.fadr 0 (tt 1)),
oo 20 (.load 1 false false (tt 19)),
oo 21 (.call 6500 0 [tt 20, nn 4]),
oo 2 (.mv (tt 21))])
 .ret))) }
noncomputable def p6601 : ProcT := { kind := .loop, ins := [1, 3], bins := [100], outs := [1, 2], bouts := [100], code := (.seq (.seq (rr [oo 4 (.mv (tt 3)),
oo 5 (.fadr 1 (tt 1)),
oo 6 (.load 1 false false (tt 5)),
oo 7 (.len (tt 6)),
oo 8 (.bin .lss (tt 4) (tt 7))])
 (.cond (tt 8) .skip (.exit 0)))
 (.seq (.block 1 (.seq (rr [oo 11 (.fadr 1 (tt 1)),
oo 12 (.load 1 false false (tt 11)),
oo 13 (.mv (tt 3)),
oo 14 (.mv (tt 3)),
oo 15 (.bin .add (tt 14) (nn 1)),
oo 16 (.slc 8 (tt 12) (some (tt 13)) (some (tt 15)) none),
oo 17 (.call 6300 0 [tt 16]),
oo 18 (.un .not (tt 17))])
 (.cond (tt 18) (.seq (rr [oo 2 (.mv (.const (.bool false)))])
 .ret) .skip)))
 (rr [oo 9 (.mv (tt 3)),
oo 10 (.bin .add (tt 9) (nn 1)),
oo 3 (.mv (tt 10))]))) }
noncomputable def p6800 : ProcT := { kind := .fn, ins := [0, 1], bins := [], res := [.tmp 4], code := (.seq (rr [oo 4 (.mv (nn 0))])
 (.seq (rr [oo 6 (.mv (tt 1)),
oo 7 (.mv (tt 0)),
oo 8 (.len (tt 7)),
oo 9 (.bin .sub (tt 6) (tt 8)),
oo 1 (.mv (tt 9))])
 (.seq (.seq (rr [oo 10 (.mv (tt 1)),
oo 11 (.bin .lss (tt 10) (nn 0))])
 (.cond (tt 11) (.seq (rr [oo 4 (.mv (nn (-1)))])
 .ret) .skip))
 (.seq (.seq (rr [oo 5 (.mv (nn 0))])
 (.block 0 (.label 6801)))
 (.seq (rr [oo 26 (.mv (tt 1)),
oo 4 (.mv (tt 26))])
 .ret))))) }
noncomputable def p6801 : ProcT := { kind := .loop, ins := [0, 1, 5], bins := [], outs := [1, 4], bouts := [], code := (.seq (.seq (rr [oo 12 (.mv (tt 5)),
oo 13 (.mv (tt 0)),
oo 14 (.len (tt 13)),
oo 15 (.bin .lss (tt 12) (tt 14))])
 (.cond (tt 15) .skip (.exit 0)))
 (.seq (.block 1 (.seq (rr [oo 18 (.mv (tt 0)),
oo 19 (.mv (tt 5)),
oo 20 (.iadr 3 (tt 18) (tt 19)),
oo 21 (.load 3 true false (tt 20)),
oo 22 (.mv (tt 1)),
oo 23 (.call 6900 0 [tt 21, tt 22]),
oo 1 (.mv (tt 23))])
 (.seq (rr [oo 24 (.mv (tt 1)),
oo 25 (.bin .lss (tt 24) (nn 0))])
 (.cond (tt 25) (.seq (rr [oo 4 (.mv (nn (-1)))])
 .ret) .skip))))
 (rr [oo 16 (.mv (tt 5)),
oo 17 (.bin .add (tt 16) (nn 1)),
oo 5 (.mv (tt 17))]))) }
noncomputable def p6900 : ProcT := { kind := .fn, ins := [0, 1], bins := [], res := [.tmp 4], code := (.seq (rr [oo 2 (.box 100 (tt 0)),
oo 4 (.mv (nn 0))])
 (.seq (rr [oo 5 (.fadr 2 (tt 2)),
oo 6 (.load 1 false false (tt 5)),
oo 7 (.mv (tt 1)),
oo 8 (.call 6800 0 [tt 6, tt 7]),
oo 1 (.mv (tt 8))])
 (.seq (.seq (rr [oo 9 (.mv (tt 1)),
oo 10 (.bin .lss (tt 9) (nn 0))])
 (.cond (tt 10) (.seq (rr [oo 4 (.mv (nn (-1)))])
 .ret) .skip))
 (.seq (rr [oo 11 (.mv (tt 1)),
oo 4 (.mv (tt 11))])
 .ret)))) }
noncomputable def p7000 : ProcT := { kind := .fn, ins := [0, 1], bins := [], res := [.tmp 4], code := (.seq (rr [oo 2 (.box 100 (tt 0)),
oo 4 (.mv (nn 0))])
 (.seq (rr [oo 5 (.fadr 3 (tt 2)),
oo 6 (.load 3 true false (tt 5)),
oo 7 (.mv (tt 1)),
oo 8 (.call 6900 0 [tt 6, tt 7]),
oo 1 (.mv (tt 8))])
 (.seq (.seq (rr [oo 9 (.mv (tt 1)),
oo 10 (.bin .lss (tt 9) (nn 0))])
 (.cond (tt 10) (.seq (rr [oo 4 (.mv (nn (-1)))])
 .ret) .skip))
 (.seq (rr [oo 11 (.fadr 6 (tt 2)),
oo 12 (.load 1 false false (tt 11)),
oo 13 (.mv (tt 1)),
oo 14 (.call 7100 0 [tt 12, tt 13]),
oo 1 (.mv (tt 14))])
 (.seq (.seq (rr [oo 15 (.mv (tt 1)),
oo 16 (.bin .lss (tt 15) (nn 0))])
 (.cond (tt 16) (.seq (rr [oo 4 (.mv (nn (-1)))])
 .ret) .skip))
 (.seq (rr [oo 17 (.fadr 7 (tt 2)),
oo 18 (.load 1 false false (tt 17)),
oo 19 (.mv (tt 1)),
oo 20 (.call 7100 0 [tt 18, tt 19]),
oo 1 (.mv (tt 20))])
 (.seq (.seq (rr [oo 21 (.mv (tt 1)),
oo 22 (.bin .lss (tt 21) (nn 0))])
 (.cond (tt 22) (.seq (rr [oo 4 (.mv (nn (-1)))])
 .ret) .skip))
 (.seq (rr [oo 23 (.mv (tt 1)),
oo 4 (.mv (tt 23))])
 .ret)))))))) }
noncomputable def p7100 : ProcT := { kind := .fn, ins := [0, 1], bins := [], res := [.tmp 4], code := (.seq (rr [oo 4 (.mv (nn 0))])
 (.seq (rr [oo 6 (.mv (tt 1)),
oo 7 (.mv (tt 0)),
oo 8 (.len (tt 7)),
oo 9 (.bin .sub (tt 6) (tt 8)),
oo 1 (.mv (tt 9))])
 (.seq (.seq (rr [oo 10 (.mv (tt 1)),
oo 11 (.bin .lss (tt 10) (nn 0))])
 (.cond (tt 11) (.seq (rr [oo 4 (.mv (nn (-1)))])
 .ret) .skip))
 (.seq (.seq (rr [oo 5 (.mv (nn 0))])
 (.block 0 (.label 7101)))
 (.seq (rr [oo 26 (.mv (tt 1)),
oo 4 (.mv (tt 26))])
 .ret))))) }
noncomputable def p7101 : ProcT := { kind := .loop, ins := [0, 1, 5], bins := [], outs := [1, 4], bouts := [], code := (.seq (.seq (rr [oo 12 (.mv (tt 5)),
oo 13 (.mv (tt 0)),
oo 14 (.len (tt 13)),
oo 15 (.bin .lss (tt 12) (tt 14))])
 (.cond (tt 15) .skip (.exit 0)))
 (.seq (.block 1 (.seq (rr [oo 18 (.mv (tt 0)),
oo 19 (.mv (tt 5)),
oo 20 (.iadr 8 (tt 18) (tt 19)),
oo 21 (.load 8 true false (tt 20)),
oo 22 (.mv (tt 1)),
oo 23 (.call 7000 0 [tt 21, tt 22]),
oo 1 (.mv (tt 23))])
 (.seq (rr [oo 24 (.mv (tt 1)),
oo 25 (.bin .lss (tt 24) (nn 0))])
 (.cond (tt 25) (.seq (rr [oo 4 (.mv (nn (-1)))])
 .ret) .skip))))
 (rr [oo 16 (.mv (tt 5)),
oo 17 (.bin .add (tt 16) (nn 1)),
oo 5 (.mv (tt 17))]))) }
noncomputable def p7200 : ProcT := { kind := .fn, ins := [0, 1], bins := [], res := [.tmp 4], code := (.seq (rr [oo 4 (.mv (nn 0))])
 (.seq (rr [oo 5 (.mv (tt 1)),
oo 6 (.mv (tt 0)),
oo 7 (.len (tt 6)),
oo 8 (.bin .sub (tt 5) (tt 7)),
oo 1 (.mv (tt 8))])
 (.seq (.seq (rr [oo 9 (.mv (tt 1)),
oo 10 (.bin .lss (tt 9) (nn 0))])
 (.cond (tt 10) (.seq (rr [oo 4 (.mv (nn (-1)))])
 .ret) .skip))
 (.seq (rr [oo 11 (.mv (tt 1)),
oo 4 (.mv (tt 11))])
 .ret)))) }
noncomputable def p7300 : ProcT := { kind := .fn, ins := [0, 1], bins := [], res := [.tmp 4], code := (.seq (rr [oo 2 (.box 100 (tt 0)),
oo 4 (.mv (nn 0))])
 (.seq (rr [oo 5 (.fadr 0 (tt 2)),
oo 6 (.load 1 false false (tt 5)),
oo 7 (.mv (tt 1)),
oo 8 (.call 7200 0 [tt 6, tt 7]),
oo 1 (.mv (tt 8))])
 (.seq (.seq (rr [oo 9 (.mv (tt 1)),
oo 10 (.bin .lss (tt 9) (nn 0))])
 (.cond (tt 10) (.seq (rr [oo 4 (.mv (nn (-1)))])
 .ret) .skip))
 (.seq (rr [oo 11 (.fadr 1 (tt 2)),
oo 12 (.load 1 false false (tt 11)),
oo 13 (.mv (tt 1)),
oo 14 (.call 7100 0 [tt 12, tt 13]),
oo 1 (.mv (tt 14))])
 (.seq (.seq (rr [oo 15 (.mv (tt 1)),
oo 16 (.bin .lss (tt 15) (nn 0))])
 (.cond (tt 16) (.seq (rr [oo 4 (.mv (nn (-1)))])
 .ret) .skip))
 (.seq (rr [oo 17 (.mv (tt 1)),
oo 4 (.mv (tt 17))])
 .ret)))))) }
noncomputable def p7400 : ProcT := { kind := .fn, ins := [0], bins := [], res := [.tmp 2], code := (.seq (rr [oo 2 (.mv (.const (.sl (.own false) .exp [])))])
 (.seq (rr [oo 5 (.mv (tt 0)),
oo 6 (.len (tt 5)),
oo 7 (.mksl 100 .exp (tt 6) (tt 6)),
oo 3 (.mv (.take 7))])
 (.seq (.seq (rr [oo 4 (.mv (nn 0))])
 (.block 0 (.label 7401)))
 (.seq (rr [oo 22 (.mv (.take 3)),
oo 2 (.mv (.take 22))])
 .ret)))) }
noncomputable def p7401 : ProcT := { kind := .loop, ins := [0, 3, 4], bins := [100], outs := [2, 3], bouts := [100], code := (.seq (.seq (rr [oo 8 (.mv (tt 4)),
oo 9 (.mv (tt 0)),
oo 10 (.len (tt 9)),
oo 11 (.bin .lss (tt 8) (tt 10))])
 (.cond (tt 11) .skip (.exit 0)))
 (.seq (.block 1 (rr [oo 14 (.mv (tt 3)),
oo 15 (.mv (tt 4)),
oo 16 (.mv (tt 0)),
oo 17 (.mv (tt 4)),
oo 18 (.iadr 3 (tt 16) (tt 17)),
oo 19 (.load 3 true false (tt 18)),
oo 20 (.call 7500 0 [tt 19]),
oo 21 (.iadr 3 (tt 14) (tt 15)),
on (.store 3 (tt 21) (tt 20)) []]))
 (rr [oo 12 (.mv (tt 4)),
oo 13 (.bin .add (tt 12) (nn 1)),
oo 4 (.mv (tt 13))]))) }
noncomputable def p7500 : ProcT := { kind := .fn, ins := [0], bins := [], res := [.cell 2 3 true], code := (.seq (rr [oo 1 (.box 100 (tt 0)),
oo 2 (.alloc 101 [.int .i64 0, .int .i64 0, .sl (.own false) .exp []])])
 (.seq (rr [oo 3 (.alloc 102 [.int .i64 0, .int .i64 0, .sl (.own false) .exp []])])
 (.seq (rr [oo 4 (.fadr 0 (tt 1)),
oo 5 (.load 1 false false (tt 4)),
oo 6 (.fadr 0 (tt 3)),
on (.store 1 (tt 6) (tt 5)) []])
 (.seq (rr [oo 7 (.fadr 1 (tt 1)),
oo 8 (.load 1 false false (tt 7)),
oo 9 (.fadr 1 (tt 3)),
on (.store 1 (tt 9) (tt 8)) []])
 (.seq (rr [oo 10 (.fadr 2 (tt 1)),
oo 11 (.load 1 false false (tt 10)),
oo 12 (.call 7400 0 [tt 11]),
oo 13 (.fadr 2 (tt 3)),
on (.store 1 (tt 13) (.take 12)) []])
 (.seq (rr [oo 14 (.load 3 true false (tt 3)),
on (.store 3 (tt 2) (tt 14)) []])
 .ret)))))) }
noncomputable def p7600 : ProcT := { kind := .fn, ins := [0], bins := [], res := [.cell 2 8 true], code := (.seq (rr [oo 1 (.box 100 (tt 0)),
oo 2 (.alloc 101 [.int .i64 0, .int .i64 0, .int .i64 0, .int .i64 0, .int .i64 0, .sl (.own false) .exp [], .sl (.own false) .stm [], .sl (.own false) .stm []])])
 (.seq (rr [oo 3 (.alloc 102 [.int .i64 0, .int .i64 0, .int .i64 0, .int .i64 0, .int .i64 0, .sl (.own false) .exp [], .sl (.own false) .stm [], .sl (.own false) .stm []])])
 (.seq (rr [oo 4 (.fadr 0 (tt 1)),
oo 5 (.load 1 false false (tt 4)),
oo 6 (.fadr 0 (tt 3)),
on (.store 1 (tt 6) (tt 5)) []])
 (.seq (rr [oo 7 (.fadr 1 (tt 1)),
oo 8 (.load 1 false false (tt 7)),
oo 9 (.fadr 1 (tt 3)),
on (.store 1 (tt 9) (tt 8)) []])
 (.seq (rr [oo 10 (.fadr 2 (tt 1)),
oo 11 (.load 1 false false (tt 10)),
oo 12 (.fadr 2 (tt 3)),
on (.store 1 (tt 12) (tt 11)) []])
 (.seq (rr [oo 13 (.fadr 3 (tt 1)),
oo 14 (.load 3 true false (tt 13)),
oo 15 (.call 7500 0 [tt 14]),
oo 16 (.fadr 3 (tt 3)),
on (.store 3 (tt 16) (tt 15)) []])
 (.seq (rr [oo 17 (.fadr 6 (tt 1)),
oo 18 (.load 1 false false (tt 17)),
oo 19 (.call 7700 0 [tt 18]),
oo 20 (.fadr 6 (tt 3)),
on (.store 1 (tt 20) (.take 19)) []])
 (.seq (rr [oo 21 (.fadr 7 (tt 1)),
oo 22 (.load 1 false false (tt 21)),
oo 23 (.call 7700 0 [tt 22]),
oo 24 (.fadr 7 (tt 3)),
on (.store 1 (tt 24) (.take 23)) []])
 (.seq (rr [oo 25 (.load 8 true false (tt 3)),
on (.store 8 (tt 2) (tt 25)) []])
 .ret))))))))) }
noncomputable def p7700 : ProcT := { kind := .fn, ins := [0], bins := [], res := [.tmp 2], code := (.seq (rr [oo 2 (.mv (.const (.sl (.own false) .stm [])))])
 (.seq (rr [oo 5 (.mv (tt 0)),
oo 6 (.len (tt 5)),
oo 7 (.mksl 100 .stm (tt 6) (tt 6)),
oo 3 (.mv (.take 7))])
 (.seq (.seq (rr [oo 4 (.mv (nn 0))])
 (.block 0 (.label 7701)))
 (.seq (rr [oo 22 (.mv (.take 3)),
oo 2 (.mv (.take 22))])
 .ret)))) }
noncomputable def p7701 : ProcT := { kind := .loop, ins := [0, 3, 4], bins := [100], outs := [2, 3], bouts := [100], code := (.seq (.seq (rr [oo 8 (.mv (tt 4)),
oo 9 (.mv (tt 0)),
oo 10 (.len (tt 9)),
oo 11 (.bin .lss (tt 8) (tt 10))])
 (.cond (tt 11) .skip (.exit 0)))
 (.seq (.block 1 (rr [oo 14 (.mv (tt 3)),
oo 15 (.mv (tt 4)),
oo 16 (.mv (tt 0)),
oo 17 (.mv (tt 4)),
oo 18 (.iadr 8 (tt 16) (tt 17)),
oo 19 (.load 8 true false (tt 18)),
oo 20 (.call 7600 0 [tt 19]),
oo 21 (.iadr 8 (tt 14) (tt 15)),
on (.store 8 (tt 21) (tt 20)) []]))
 (rr [oo 12 (.mv (tt 4)),
oo 13 (.bin .add (tt 12) (nn 1)),
oo 4 (.mv (tt 13))]))) }
noncomputable def p7800 : ProcT := { kind := .fn, ins := [0], bins := [], res := [.tmp 2], code := (.seq (rr [oo 2 (.mv (.const (.sl (.own false) .int [])))])
 (.seq (rr [oo 5 (.mv (tt 0)),
oo 6 (.len (tt 5)),
oo 7 (.mksl 100 .int (tt 6) (tt 6)),
oo 3 (.mv (.take 7))])
 (.seq (.seq (rr [oo 4 (.mv (nn 0))])
 (.block 0 (.label 7801)))
 (.seq (rr [oo 21 (.mv (.take 3)),
oo 2 (.mv (.take 21))])
 .ret)))) }
noncomputable def p7801 : ProcT := { kind := .loop, ins := [0, 3, 4], bins := [100], outs := [2, 3], bouts := [100], code := (.seq (.seq (rr [oo 8 (.mv (tt 4)),
oo 9 (.mv (tt 0)),
oo 10 (.len (tt 9)),
oo 11 (.bin .lss (tt 8) (tt 10))])
 (.cond (tt 11) .skip (.exit 0)))
 (.seq (.block 1 (rr [oo 14 (.mv (tt 3)),
oo 15 (.mv (tt 4)),
oo 16 (.mv (tt 0)),
oo 17 (.mv (tt 4)),
oo 18 (.iadr 1 (tt 16) (tt 17)),
oo 19 (.load 1 false false (tt 18)),
oo 20 (.iadr 1 (tt 14) (tt 15)),
on (.store 1 (tt 20) (tt 19)) []]))
 (rr [oo 12 (.mv (tt 4)),
oo 13 (.bin .add (tt 12) (nn 1)),
oo 4 (.mv (tt 13))]))) }
noncomputable def p7900 : ProcT := { kind := .fn, ins := [0], bins := [], res := [.cell 2 2 true], code := (.seq (rr [oo 1 (.box 100 (tt 0)),
oo 2 (.alloc 101 [.sl (.own false) .int [], .sl (.own false) .stm []])])
 (.seq (rr [oo 3 (.alloc 102 [.sl (.own false) .int [], .sl (.own false) .stm []])])
 (.seq (rr [oo 4 (.fadr 0 (tt 1)),
oo 5 (.load 1 false false (tt 4)),
oo 6 (.call 7800 0 [tt 5]),
oo 7 (.fadr 0 (tt 3)),
on (.store 1 (tt 7) (.take 6)) []])
 (.seq (rr [oo 8 (.fadr 1 (tt 1)),
oo 9 (.load 1 false false (tt 8)),
oo 10 (.call 7700 0 [tt 9]),
oo 11 (.fadr 1 (tt 3)),
on (.store 1 (tt 11) (.take 10)) []])
 (.seq (rr [oo 12 (.load 2 true false (tt 3)),
on (.store 2 (tt 2) (tt 12)) []])
 .ret))))) }
noncomputable def p8000 : ProcT := { kind := .fn, ins := [0, 1], bins := [], res := [.tmp 4], code := (.seq (rr [oo 4 (.mv (.const (.bool false)))])
 (.seq (.seq (rr [oo 6 (.mv (tt 0)),
oo 7 (.len (tt 6)),
oo 8 (.mv (tt 1)),
oo 9 (.len (tt 8)),
oo 10 (.bin .neq (tt 7) (tt 9))])
 (.cond (tt 10) (.seq (rr [oo 4 (.mv (.const (.bool false)))])
 .ret) .skip))
 (.seq (.seq (rr [oo 5 (.mv (nn 0))])
 (.block 0 (.label 8001)))
 (.seq (rr [oo 4 (.mv (.const (.bool true)))])
 .ret)))) }
noncomputable def p8001 : ProcT := { kind := .loop, ins := [0, 1, 5], bins := [], outs := [4], bouts := [], code := (.seq (.seq (rr [oo 11 (.mv (tt 5)),
oo 12 (.mv (tt 0)),
oo 13 (.len (tt 12)),
oo 14 (.bin .lss (tt 11) (tt 13))])
 (.cond (tt 14) .skip (.exit 0)))
 (.seq (.block 1 (.seq (.region true [oo 17 (.mv (tt 0)),
oo 18 (.mv (tt 5)),
oo 19 (.iadr 3 (tt 17) (tt 18)),
oo 20 (.load 3 true false (tt 19)),
oo 21 (.mv (tt 1)),
oo 22 (.mv (tt 5)),
oo 23 (.iadr 3 (tt 21) (tt 22)),
oo 24 (.load 3 true false (tt 23)),
oo 25 (.call 8100 0 [tt 20, tt 24]),
oo 26 (.un .not (tt 25))])
 (.cond (tt 26) (.seq (rr [oo 4 (.mv (.const (.bool false)))])
 .ret) .skip)))
 (rr [oo 15 (.mv (tt 5)),
oo 16 (.bin .add (tt 15) (nn 1)),
oo 5 (.mv (tt 16))]))) }
noncomputable def p8100 : ProcT := { kind := .fn, ins := [0, 1], bins := [], res := [.tmp 4], code := (.seq (rr [oo 2 (.box 100 (tt 0)),
oo 3 (.box 101 (tt 1)),
oo 4 (.mv (.const (.bool false)))])
 (.seq (.seq (rr [oo 5 (.fadr 0 (tt 2)),
oo 6 (.load 1 false false (tt 5)),
oo 7 (.fadr 0 (tt 3)),
oo 8 (.load 1 false false (tt 7)),
oo 9 (.bin .neq (tt 6) (tt 8))])
 (.cond (tt 9) (.seq (rr [oo 4 (.mv (.const (.bool false)))])
 .ret) .skip))
 (.seq (.seq (rr [oo 10 (.fadr 1 (tt 2)),
oo 11 (.load 1 false false (tt 10)),
oo 12 (.fadr 1 (tt 3)),
oo 13 (.load 1 false false (tt 12)),
oo 14 (.bin .neq (tt 11) (tt 13))])
 (.cond (tt 14) (.seq (rr [oo 4 (.mv (.const (.bool false)))])
 .ret) .skip))
 (.seq (.seq (rr [oo 15 (.fadr 2 (tt 2)),
oo 16 (.load 1 false false (tt 15)),
oo 17 (.fadr 2 (tt 3)),
oo 18 (.load 1 false false (tt 17)),
oo 19 (.call 8000 0 [tt 16, tt 18]),
oo 20 (.un .not (tt 19))])
 (.cond (tt 20) (.seq (rr [oo 4 (.mv (.const (.bool false)))])
 .ret) .skip))
 (.seq (rr [oo 4 (.mv (.const (.bool true)))])
 .ret))))) }
noncomputable def p8200 : ProcT := { kind := .fn, ins := [0, 1], bins := [], res := [.tmp 4], code := (.seq (rr [oo 2 (.box 100 (tt 0)),
oo 3 (.box 101 (tt 1)),
oo 4 (.mv (.const (.bool false)))])
 (.seq (.seq (rr [oo 5 (.fadr 0 (tt 2)),
oo 6 (.load 1 false false (tt 5)),
oo 7 (.fadr 0 (tt 3)),
oo 8 (.load 1 false false (tt 7)),
oo 9 (.bin .neq (tt 6) (tt 8))])
 (.cond (tt 9) (.seq (rr [oo 4 (.mv (.const (.bool false)))])
 .ret) .skip))
 (.seq (.seq (rr [oo 10 (.fadr 1 (tt 2)),
oo 11 (.load 1 false false (tt 10)),
oo 12 (.fadr 1 (tt 3)),
oo 13 (.load 1 false false (tt 12)),
oo 14 (.bin .neq (tt 11) (tt 13))])
 (.cond (tt 14) (.seq (rr [oo 4 (.mv (.const (.bool false)))])
 .ret) .skip))
 (.seq (.seq (rr [oo 15 (.fadr 2 (tt 2)),
oo 16 (.load 1 false false (tt 15)),
oo 17 (.fadr 2 (tt 3)),
oo 18 (.load 1 false false (tt 17)),
oo 19 (.bin .neq (tt 16) (tt 18))])
 (.cond (tt 19) (.seq (rr [oo 4 (.mv (.const (.bool false)))])
 .ret) .skip))
 (.seq (.seq (rr [oo 20 (.fadr 3 (tt 2)),
oo 21 (.load 3 true false (tt 20)),
oo 22 (.fadr 3 (tt 3)),
oo 23 (.load 3 true false (tt 22)),
oo 24 (.call 8100 0 [tt 21, tt 23]),
oo 25 (.un .not (tt 24))])
 (.cond (tt 25) (.seq (rr [oo 4 (.mv (.const (.bool false)))])
 .ret) .skip))
 (.seq (.seq (rr [oo 26 (.fadr 6 (tt 2)),
oo 27 (.load 1 false false (tt 26)),
oo 28 (.fadr 6 (tt 3)),
oo 29 (.load 1 false false (tt 28)),
oo 30 (.call 8300 0 [tt 27, tt 29]),
oo 31 (.un .not (tt 30))])
 (.cond (tt 31) (.seq (rr [oo 4 (.mv (.const (.bool false)))])
 .ret) .skip))
 (.seq (.seq (rr [oo 32 (.fadr 7 (tt 2)),
oo 33 (.load 1 false false (tt 32)),
oo 34 (.fadr 7 (tt 3)),
oo 35 (.load 1 false false (tt 34)),
oo 36 (.call 8300 0 [tt 33, tt 35]),
oo 37 (.un .not (tt 36))])
 (.cond (tt 37) (.seq (rr [oo 4 (.mv (.const (.bool false)))])
 .ret) .skip))
 (.seq (rr [oo 4 (.mv (.const (.bool true)))])
 .ret)))))))) }
noncomputable def p8300 : ProcT := { kind := .fn, ins := [0, 1], bins := [], res := [.tmp 4], code := (.seq (rr [oo 4 (.mv (.const (.bool false)))])
 (.seq (.seq (rr [oo 6 (.mv (tt 0)),
oo 7 (.len (tt 6)),
oo 8 (.mv (tt 1)),
oo 9 (.len (tt 8)),
oo 10 (.bin .neq (tt 7) (tt 9))])
 (.cond (tt 10) (.seq (rr [oo 4 (.mv (.const (.bool false)))])
 .ret) .skip))
 (.seq (.seq (rr [oo 5 (.mv (nn 0))])
 (.block 0 (.label 8301)))
 (.seq (rr [oo 4 (.mv (.const (.bool true)))])
 .ret)))) }
noncomputable def p8301 : ProcT := { kind := .loop, ins := [0, 1, 5], bins := [], outs := [4], bouts := [], code := (.seq (.seq (rr [oo 11 (.mv (tt 5)),
oo 12 (.mv (tt 0)),
oo 13 (.len (tt 12)),
oo 14 (.bin .lss (tt 11) (tt 13))])
 (.cond (tt 14) .skip (.exit 0)))
 (.seq (.block 1 (.seq (.region true [oo 17 (.mv (tt 0)),
oo 18 (.mv (tt 5)),
oo 19 (.iadr 8 (tt 17) (tt 18)),
oo 20 (.load 8 true false (tt 19)),
oo 21 (.mv (tt 1)),
oo 22 (.mv (tt 5)),
oo 23 (.iadr 8 (tt 21) (tt 22)),
oo 24 (.load 8 true false (tt 23)),
oo 25 (.call 8200 0 [tt 20, tt 24]),
oo 26 (.un .not (tt 25))])
 (.cond (tt 26) (.seq (rr [oo 4 (.mv (.const (.bool false)))])
 .ret) .skip)))
 (rr [oo 15 (.mv (tt 5)),
oo 16 (.bin .add (tt 15) (nn 1)),
oo 5 (.mv (tt 16))]))) }
noncomputable def p8400 : ProcT := { kind := .fn, ins := [0, 1], bins := [], res := [.tmp 4], code := (.seq (rr [oo 4 (.mv (.const (.bool false)))])
 (.seq (.seq (rr [oo 6 (.mv (tt 0)),
oo 7 (.len (tt 6)),
oo 8 (.mv (tt 1)),
oo 9 (.len (tt 8)),
oo 10 (.bin .neq (tt 7) (tt 9))])
 (.cond (tt 10) (.seq (rr [oo 4 (.mv (.const (.bool false)))])
 .ret) .skip))
 (.seq (.seq (rr [oo 5 (.mv (nn 0))])
 (.block 0 (.label 8401)))
 (.seq (rr [oo 4 (.mv (.const (.bool true)))])
 .ret)))) }
noncomputable def p8401 : ProcT := { kind := .loop, ins := [0, 1, 5], bins := [], outs := [4], bouts := [], code := (.seq (.seq (rr [oo 11 (.mv (tt 5)),
oo 12 (.mv (tt 0)),
oo 13 (.len (tt 12)),
oo 14 (.bin .lss (tt 11) (tt 13))])
 (.cond (tt 14) .skip (.exit 0)))
 (.seq (.block 1 (.seq (.region true [oo 17 (.mv (tt 0)),
oo 18 (.mv (tt 5)),
oo 19 (.iadr 1 (tt 17) (tt 18)),
oo 20 (.load 1 false false (tt 19)),
oo 21 (.mv (tt 1)),
oo 22 (.mv (tt 5)),
oo 23 (.iadr 1 (tt 21) (tt 22)),
oo 24 (.load 1 false false (tt 23)),
oo 25 (.bin .neq (tt 20) (tt 24))])
 (.cond (tt 25) (.seq (rr [oo 4 (.mv (.const (.bool false)))])
 .ret) .skip)))
 (rr [oo 15 (.mv (tt 5)),
oo 16 (.bin .add (tt 15) (nn 1)),
oo 5 (.mv (tt 16))]))) }
noncomputable def p8500 : ProcT := { kind := .fn, ins := [0, 1], bins := [], res := [.tmp 4], code := (.seq (rr [oo 2 (.box 100 (tt 0)),
oo 3 (.box 101 (tt 1)),
oo 4 (.mv (.const (.bool false)))])
 (.seq (.seq (rr [oo 5 (.fadr 0 (tt 2)),
oo 6 (.load 1 false false (tt 5)),
oo 7 (.fadr 0 (tt 3)),
oo 8 (.load 1 false false (tt 7)),
oo 9 (.call 8400 0 [tt 6, tt 8]),
oo 10 (.un .not (tt 9))])
 (.cond (tt 10) (.seq (rr [oo 4 (.mv (.const (.bool false)))])
 .ret) .skip))
 (.seq (.seq (rr [oo 11 (.fadr 1 (tt 2)),
oo 12 (.load 1 false false (tt 11)),
oo 13 (.fadr 1 (tt 3)),
oo 14 (.load 1 false false (tt 13)),
oo 15 (.call 8300 0 [tt 12, tt 14]),
oo 16 (.un .not (tt 15))])
 (.cond (tt 16) (.seq (rr [oo 4 (.mv (.const (.bool false)))])
 .ret) .skip))
 (.seq (rr [oo 4 (.mv (.const (.bool true)))])
 .ret)))) }
noncomputable def p10600 : ProcT := { kind := .fn, ins := [0, 1], bins := [], res := [.tmp 4], code := (.seq (rr [oo 4 (.mv (nn 0))])
 (.seq (.seq (rr [oo 5 (.mv (nn 0))])
 (.block 0 (.label 10601)))
 (.seq (rr [oo 20 (.mv (tt 1)),
oo 4 (.mv (tt 20))])
 .ret))) }
noncomputable def p10601 : ProcT := { kind := .loop, ins := [0, 1, 5], bins := [], outs := [1, 4], bouts := [], code := (.seq (.seq (rr [oo 6 (.mv (tt 5)),
oo 7 (.mv (tt 0)),
oo 8 (.len (tt 7)),
oo 9 (.bin .lss (tt 6) (tt 8))])
 (.cond (tt 9) .skip (.exit 0)))
 (.seq (.block 1 (.seq (.seq (rr [oo 12 (.mv (tt 0)),
oo 13 (.mv (tt 5)),
oo 14 (.iadr 1 (tt 12) (tt 13)),
oo 15 (.load 1 false false (tt 14)),
oo 16 (.mv (tt 1)),
oo 17 (.bin .neq (tt 15) (tt 16))])
 (.cond (tt 17) (.seq (rr [oo 4 (.mv (nn (-1)))])
 .ret) .skip))
 (rr [oo 18 (.mv (tt 1)),
oo 19 (.bin .add (tt 18) (nn 1)),
oo 1 (.mv (tt 19))])))
 (rr [oo 10 (.mv (tt 5)),
oo 11 (.bin .add (tt 10) (nn 1)),
oo 5 (.mv (tt 11))]))) }
noncomputable def p11100 : ProcT := { kind := .fn, ins := [0, 1, 2], bins := [], res := [.tmp 6], code := (.seq (rr [oo 6 (.mv (.const (.bool false)))])
 (.seq (rr [oo 7 (.mv (tt 0)),
oo 8 (.bin .eql (tt 7) (nn 0)),
oo 9 (.mv (tt 8)),
og (some 10) (.mv (tt 2)) 9 false [],
og (some 11) (.mv (tt 10)) 9 false [],
og (some 12) (.mv (tt 0)) 11 true [],
og (some 13) (.bin .gtr (tt 12) (nn 0)) 11 true [],
og (some 14) (.pick (tt 11) (tt 13) (.const (.bool false))) 9 false [],
og (some 15) (.mv (tt 14)) 9 false [],
og (some 16) (.mv (tt 0)) 15 true [],
og (some 17) (.mv (tt 1)) 15 true [],
og (some 18) (.bin .lss (tt 16) (tt 17)) 15 true [],
og (some 19) (.pick (tt 15) (tt 18) (.const (.bool false))) 9 false [],
oo 20 (.pick (tt 9) (.const (.bool true)) (tt 19)),
oo 6 (.mv (tt 20))])
 .ret)) }
noncomputable def p17600 : ProcT := { kind := .fn, ins := [0], bins := [], res := [.tmp 2], code := (.seq (rr [oo 1 (.box 100 (tt 0)),
oo 2 (.mv (.const (.bool false)))])
 (.seq (rr [oo 3 (.fadr 0 (tt 1)),
oo 4 (.load 1 false false (tt 3)),
oo 5 (.bin .geq (tt 4) (nn 1)),
oo 6 (.mv (tt 5)),
og (some 7) (.fadr 0 (tt 1)) 6 true [],
og (some 8) (.load 1 false false (tt 7)) 6 true [],
og (some 9) (.bin .leq (tt 8) (nn 4)) 6 true [],
oo 10 (.pick (tt 6) (tt 9) (.const (.bool false))),
oo 11 (.mv (tt 10)),
og (some 12) (.fadr 1 (tt 1)) 11 true [],
og (some 13) (.load 1 false false (tt 12)) 11 true [],
og (some 14) (.len (tt 13)) 11 true [],
og (some 15) (.fadr 0 (tt 1)) 11 true [],
og (some 16) (.load 1 false false (tt 15)) 11 true [],
og (some 17) (.bin .leq (tt 14) (tt 16)) 11 true [],
oo 18 (.pick (tt 11) (tt 17) (.const (.bool false))),
oo 19 (.mv (tt 18)),
og (some 20) (.fadr 1 (tt 1)) 19 true [],
og (some 21) (.load 1 false false (tt 20)) 19 true [],
og (some 22) (.call 5100 0 [tt 21]) 19 true [],
oo 23 (.pick (tt 19) (tt 22) (.const (.bool false))),
oo 2 (.mv (tt 23))])
 .ret)) }
noncomputable def p17800 : ProcT := { kind := .fn, ins := [0], bins := [], res := [.tmp 2], code := (.seq (rr [oo 1 (.box 100 (tt 0)),
oo 2 (.mv (.const (.bool false)))])
 (.seq (rr [oo 3 (.fadr 0 (tt 1)),
oo 4 (.load 1 false false (tt 3)),
oo 5 (.call 1600 0 [tt 4, nn 1, nn 4]),
oo 6 (.mv (tt 5)),
og (some 7) (.fadr 1 (tt 1)) 6 true [],
og (some 8) (.load 1 false false (tt 7)) 6 true [],
og (some 9) (.len (tt 8)) 6 true [],
og (some 10) (.fadr 0 (tt 1)) 6 true [],
og (some 11) (.load 1 false false (tt 10)) 6 true [],
og (some 12) (.bin .leq (tt 9) (tt 11)) 6 true [],
oo 13 (.pick (tt 6) (tt 12) (.const (.bool false))),
oo 14 (.mv (tt 13)),
og (some 15) (.fadr 1 (tt 1)) 14 true [],
og (some 16) (.load 1 false false (tt 15)) 14 true [],
og (some 17) (.fadr 1 (tt 1)) 14 true [],
og (some 18) (.load 1 false false (tt 17)) 14 true [],
og (some 19) (.len (tt 18)) 14 true [],
og (some 20) (.call 6500 0 [tt 16, tt 19]) 14 true [],
oo 21 (.pick (tt 14) (tt 20) (.const (.bool false))),
oo 2 (.mv (tt 21))])
 .ret)) }
noncomputable def p19000 : ProcT := { kind := .fn, ins := [0, 1], bins := [], res := [.tmp 4], code := (.seq (rr [oo 2 (.box 100 (tt 0)),
oo 3 (.box 101 (tt 1)),
oo 4 (.mv (.const (.bool false)))])
 (.seq (.seq (rr [oo 5 (.fadr 0 (tt 2)),
oo 6 (.load 1 false false (tt 5)),
oo 7 (.fadr 0 (tt 3)),
oo 8 (.load 1 false false (tt 7)),
oo 9 (.bin .neq (tt 6) (tt 8))])
 (.cond (tt 9) (.seq (rr [oo 4 (.mv (.const (.bool false)))])
 .ret) .skip))
 (.seq (.seq (rr [oo 10 (.fadr 1 (tt 2)),
oo 11 (.load 1 false false (tt 10)),
oo 12 (.fadr 1 (tt 3)),
oo 13 (.load 1 false false (tt 12)),
oo 14 (.call 8400 0 [tt 11, tt 13]),
oo 15 (.un .not (tt 14))])
 (.cond (tt 15) (.seq (rr [oo 4 (.mv (.const (.bool false)))])
 .ret) .skip))
 (.seq (rr [oo 4 (.mv (.const (.bool true)))])
 .ret)))) }
noncomputable def p23100 : ProcT := { kind := .fn, ins := [0, 1], bins := [], res := [.tmp 4], code := (.seq (rr [oo 4 (.mv (.const (.bool false)))])
 (.seq (.seq (rr [oo 5 (.mv (nn 0))])
 (.block 0 (.label 23101)))
 (.seq (rr [oo 4 (.mv (.const (.bool true)))])
 .ret))) }
noncomputable def p23101 : ProcT := { kind := .loop, ins := [0, 1, 5], bins := [], outs := [4], bouts := [], code := (.seq (.seq (rr [oo 7 (.mv (tt 5)),
oo 8 (.mv (tt 0)),
oo 9 (.len (tt 8)),
oo 10 (.bin .lss (tt 7) (tt 9))])
 (.cond (tt 10) .skip (.exit 0)))
 (.seq (.block 1 (.seq (rr [oo 13 (.mv (tt 0)),
oo 14 (.mv (tt 5)),
oo 15 (.iadr 8 (tt 13) (tt 14)),
oo 16 (.load 8 true false (tt 15)),
oo 6 (.alloc 100 [.int .i64 0, .int .i64 0, .int .i64 0, .int .i64 0, .int .i64 0, .sl (.own false) .exp [], .sl (.own false) .stm [], .sl (.own false) .stm []]),
on (.store 8 (tt 6) (tt 16)) []])
 (.seq (.seq (rr [oo 17 (.fadr 0 (tt 6)),
oo 18 (.load 1 false false (tt 17)),
oo 19 (.bin .eql (tt 18) (nn 4)),
oo 20 (.mv (tt 19)),
og (some 21) (.fadr 0 (tt 6)) 20 false [],
og (some 22) (.load 1 false false (tt 21)) 20 false [],
og (some 23) (.bin .eql (tt 22) (nn 5)) 20 false [],
oo 24 (.pick (tt 20) (.const (.bool true)) (tt 23)),
oo 25 (.mv (tt 24)),
og (some 26) (.fadr 2 (tt 6)) 25 true [],
og (some 27) (.load 1 false false (tt 26)) 25 true [],
og (some 28) (.mv (tt 1)) 25 true [],
og (some 29) (.bin .geq (tt 27) (tt 28)) 25 true [],
oo 30 (.pick (tt 25) (tt 29) (.const (.bool false)))])
 (.cond (tt 30) (.seq (rr [oo 4 (.mv (.const (.bool false)))])
 .ret) .skip))
 (.seq (rr [oo 31 (.fadr 6 (tt 6)),
oo 32 (.load 1 false false (tt 31)),
oo 33 (.mv (tt 1)),
oo 34 (.call 23100 0 [tt 32, tt 33]),
oo 35 (.un .not (tt 34)),
oo 36 (.mv (tt 35)),
og (some 37) (.fadr 7 (tt 6)) 36 false [],
og (some 38) (.load 1 false false (tt 37)) 36 false [],
og (some 39) (.mv (tt 1)) 36 false [],
og (some 40) (.call 23100 0 [tt 38, tt 39]) 36 false [],
og (some 41) (.un .not (tt 40)) 36 false [],
oo 42 (.pick (tt 36) (.const (.bool true)) (tt 41))])
 (.cond (tt 42) (.seq (rr [oo 4 (.mv (.const (.bool false)))])
 .ret) .skip)))))
 (rr [oo 11 (.mv (tt 5)),
oo 12 (.bin .add (tt 11) (nn 1)),
oo 5 (.mv (tt 12))]))) }
noncomputable def p23800 : ProcT := { kind := .fn, ins := [0, 1, 2, 3], bins := [], res := [.tmp 8], code := (.seq (rr [oo 8 (.mv (.const (.bool false)))])
 (.seq (rr [oo 9 (.mv (tt 0)),
oo 10 (.bin .geq (tt 9) (nn 1)),
oo 11 (.mv (tt 10)),
og (some 12) (.mv (tt 0)) 11 true [],
og (some 13) (.bin .leq (tt 12) (nn 3)) 11 true [],
oo 14 (.pick (tt 11) (tt 13) (.const (.bool false))),
oo 15 (.mv (tt 14)),
og (some 16) (.mv (tt 1)) 15 true [],
og (some 17) (.bin .geq (tt 16) (nn 0)) 15 true [],
oo 18 (.pick (tt 15) (tt 17) (.const (.bool false))),
oo 19 (.mv (tt 18)),
og (some 20) (.mv (tt 1)) 19 true [],
og (some 21) (.mv (tt 0)) 19 true [],
og (some 22) (.bin .lss (tt 20) (tt 21)) 19 true [],
oo 23 (.pick (tt 19) (tt 22) (.const (.bool false))),
oo 24 (.mv (tt 23)),
og (some 25) (.mv (tt 2)) 24 true [],
og (some 26) (.bin .geq (tt 25) (nn 0)) 24 true [],
oo 27 (.pick (tt 24) (tt 26) (.const (.bool false))),
oo 28 (.mv (tt 27)),
og (some 29) (.mv (tt 2)) 28 true [],
og (some 30) (.mv (tt 0)) 28 true [],
og (some 31) (.bin .leq (tt 29) (tt 30)) 28 true [],
oo 32 (.pick (tt 28) (tt 31) (.const (.bool false))),
oo 33 (.mv (tt 32)),
og (some 34) (.mv (tt 3)) 33 true [],
og (some 35) (.call 5100 0 [tt 34]) 33 true [],
oo 36 (.pick (tt 33) (tt 35) (.const (.bool false))),
oo 8 (.mv (tt 36))])
 .ret)) }
noncomputable def p23900 : ProcT := { kind := .fn, ins := [0], bins := [], res := [.tmp 2], code := (.seq (rr [oo 2 (.mv (.const (.bool false)))])
 (.seq (.seq (rr [oo 5 (.mv (tt 0)),
oo 6 (.len (tt 5)),
oo 7 (.mv (nn 0))])
 (.block 0 (.label 23901)))
 (.seq (rr [oo 15 (.mv (tt 0)),
oo 16 (.len (tt 15)),
oo 17 (.bin .leq (tt 16) (nn 3)),
oo 2 (.mv (tt 17))])
 .ret))) }
noncomputable def p23901 : ProcT := { kind := .loop, ins := [0, 5, 6, 7], bins := [], outs := [0, 2], bouts := [], code := (.seq (rr [oo 8 (.bin .lss (tt 7) (tt 6))])
 (.seq (.cond (tt 8) .skip (.exit 0))
 (.seq (.block 1 (.seq (rr [oo 9 (.iadr 2 (tt 5) (tt 7)),
oo 10 (.load 2 true false (tt 9)),
oo 4 (.alloc 100 [.int .i64 0, .sl (.own false) .int []]),
on (.store 2 (tt 4) (tt 10)) []])
 (.seq (rr [oo 11 (.load 2 true false (tt 4)),
oo 12 (.call 17600 0 [tt 11]),
oo 13 (.un .not (tt 12))])
 (.cond (tt 13) (.seq (rr [oo 2 (.mv (.const (.bool false)))])
 .ret) .skip))))
 (rr [oo 14 (.bin .add (tt 7) (nn 1)),
oo 7 (.mv (tt 14))])))) }
noncomputable def p24000 : ProcT := { kind := .fn, ins := [0], bins := [], res := [.tmp 2], code := (.seq (rr [oo 1 (.box 100 (tt 0)),
oo 2 (.mv (.const (.bool false)))])
 (.seq (.seq (rr [oo 5 (.fadr 0 (tt 1)),
oo 6 (.load 1 false false (tt 5)),
oo 7 (.len (tt 6)),
oo 8 (.fadr 2 (tt 1)),
oo 9 (.load 1 false false (tt 8)),
oo 10 (.fadr 3 (tt 1)),
oo 11 (.load 1 false false (tt 10)),
oo 12 (.fadr 4 (tt 1)),
oo 13 (.load 1 false false (tt 12)),
oo 14 (.call 23800 0 [tt 7, tt 9, tt 11, tt 13]),
oo 15 (.un .not (tt 14)),
oo 16 (.mv (tt 15)),
og (some 17) (.fadr 1 (tt 1)) 16 false [],
og (some 18) (.load 1 false false (tt 17)) 16 false [],
og (some 19) (.call 23900 0 [tt 18]) 16 false [],
og (some 20) (.un .not (tt 19)) 16 false [],
oo 21 (.pick (tt 16) (.const (.bool true)) (tt 20))])
 (.cond (tt 21) (.seq (rr [oo 2 (.mv (.const (.bool false)))])
 .ret) .skip))
 (.seq (.seq (rr [oo 22 (.fadr 0 (tt 1)),
oo 23 (.load 1 false false (tt 22)),
oo 24 (.len (tt 23)),
oo 25 (.mv (nn 0))])
 (.block 0 (.label 24001)))
 (.seq (rr [oo 2 (.mv (.const (.bool true)))])
 .ret)))) }
noncomputable def p24001 : ProcT := { kind := .loop, ins := [1, 23, 24, 25], bins := [100], outs := [2], bouts := [], code := (.seq (rr [oo 26 (.bin .lss (tt 25) (tt 24))])
 (.seq (.cond (tt 26) .skip (.exit 0))
 (.seq (.block 1 (.seq (rr [oo 27 (.iadr 2 (tt 23) (tt 25)),
oo 28 (.load 2 true false (tt 27)),
oo 4 (.alloc 101 [.sl (.own false) .int [], .sl (.own false) .stm []]),
on (.store 2 (tt 4) (tt 28)) []])
 (.seq (rr [oo 29 (.load 2 true false (tt 4)),
oo 30 (.fadr 1 (tt 1)),
oo 31 (.load 1 false false (tt 30)),
oo 32 (.len (tt 31)),
oo 33 (.call 5500 0 [tt 29, tt 32]),
oo 34 (.un .not (tt 33))])
 (.cond (tt 34) (.seq (rr [oo 2 (.mv (.const (.bool false)))])
 .ret) .skip))))
 (rr [oo 35 (.bin .add (tt 25) (nn 1)),
oo 25 (.mv (tt 35))])))) }
noncomputable def p24200 : ProcT := { kind := .fn, ins := [0, 1], bins := [], res := [.tmp 4], code := (.seq (rr [oo 4 (.mv (nn 0))])
 (.seq (rr [oo 6 (.mv (tt 1)),
oo 7 (.mv (tt 0)),
oo 8 (.len (tt 7)),
oo 9 (.bin .sub (tt 6) (tt 8)),
oo 1 (.mv (tt 9))])
 (.seq (.seq (rr [oo 10 (.mv (tt 1)),
oo 11 (.bin .lss (tt 10) (nn 0))])
 (.cond (tt 11) (.seq (rr [oo 4 (.mv (nn (-1)))])
 .ret) .skip))
 (.seq (.seq (rr [oo 5 (.mv (nn 0))])
 (.block 0 (.label 24201)))
 (.seq (rr [oo 26 (.mv (tt 1)),
oo 4 (.mv (tt 26))])
 .ret))))) }
noncomputable def p24201 : ProcT := { kind := .loop, ins := [0, 1, 5], bins := [], outs := [1, 4], bouts := [], code := (.seq (.seq (rr [oo 12 (.mv (tt 5)),
oo 13 (.mv (tt 0)),
oo 14 (.len (tt 13)),
oo 15 (.bin .lss (tt 12) (tt 14))])
 (.cond (tt 15) .skip (.exit 0)))
 (.seq (.block 1 (.seq (rr [oo 18 (.mv (tt 0)),
oo 19 (.mv (tt 5)),
oo 20 (.iadr 2 (tt 18) (tt 19)),
oo 21 (.load 2 true false (tt 20)),
oo 22 (.mv (tt 1)),
oo 23 (.call 7300 0 [tt 21, tt 22]),
oo 1 (.mv (tt 23))])
 (.seq (rr [oo 24 (.mv (tt 1)),
oo 25 (.bin .lss (tt 24) (nn 0))])
 (.cond (tt 25) (.seq (rr [oo 4 (.mv (nn (-1)))])
 .ret) .skip))))
 (rr [oo 16 (.mv (tt 5)),
oo 17 (.bin .add (tt 16) (nn 1)),
oo 5 (.mv (tt 17))]))) }
noncomputable def p24300 : ProcT := { kind := .fn, ins := [0, 1], bins := [], res := [.tmp 4], code := (.seq (rr [oo 2 (.box 100 (tt 0)),
oo 4 (.mv (nn 0))])
 (.seq (rr [oo 5 (.fadr 1 (tt 2)),
oo 6 (.load 1 false false (tt 5)),
oo 7 (.mv (tt 1)),
oo 8 (.call 7200 0 [tt 6, tt 7]),
oo 1 (.mv (tt 8))])
 (.seq (.seq (rr [oo 9 (.mv (tt 1)),
oo 10 (.bin .lss (tt 9) (nn 0))])
 (.cond (tt 10) (.seq (rr [oo 4 (.mv (nn (-1)))])
 .ret) .skip))
 (.seq (rr [oo 11 (.mv (tt 1)),
oo 4 (.mv (tt 11))])
 .ret)))) }
noncomputable def p24400 : ProcT := { kind := .fn, ins := [0, 1], bins := [], res := [.tmp 4], code := (.seq (rr [oo 4 (.mv (nn 0))])
 (.seq (rr [oo 6 (.mv (tt 1)),
oo 7 (.mv (tt 0)),
oo 8 (.len (tt 7)),
oo 9 (.bin .sub (tt 6) (tt 8)),
oo 1 (.mv (tt 9))])
 (.seq (.seq (rr [oo 10 (.mv (tt 1)),
oo 11 (.bin .lss (tt 10) (nn 0))])
 (.cond (tt 11) (.seq (rr [oo 4 (.mv (nn (-1)))])
 .ret) .skip))
 (.seq (.seq (rr [oo 5 (.mv (nn 0))])
 (.block 0 (.label 24401)))
 (.seq (rr [oo 26 (.mv (tt 1)),
oo 4 (.mv (tt 26))])
 .ret))))) }
noncomputable def p24401 : ProcT := { kind := .loop, ins := [0, 1, 5], bins := [], outs := [1, 4], bouts := [], code := (.seq (.seq (rr [oo 12 (.mv (tt 5)),
oo 13 (.mv (tt 0)),
oo 14 (.len (tt 13)),
oo 15 (.bin .lss (tt 12) (tt 14))])
 (.cond (tt 15) .skip (.exit 0)))
 (.seq (.block 1 (.seq (rr [oo 18 (.mv (tt 0)),
oo 19 (.mv (tt 5)),
oo 20 (.iadr 2 (tt 18) (tt 19)),
oo 21 (.load 2 true false (tt 20)),
oo 22 (.mv (tt 1)),
oo 23 (.call 24300 0 [tt 21, tt 22]),
oo 1 (.mv (tt 23))])
 (.seq (rr [oo 24 (.mv (tt 1)),
oo 25 (.bin .lss (tt 24) (nn 0))])
 (.cond (tt 25) (.seq (rr [oo 4 (.mv (nn (-1)))])
 .ret) .skip))))
 (rr [oo 16 (.mv (tt 5)),
oo 17 (.bin .add (tt 16) (nn 1)),
oo 5 (.mv (tt 17))]))) }
noncomputable def p24500 : ProcT := { kind := .fn, ins := [0, 1], bins := [], res := [.tmp 4], code := (.seq (rr [oo 2 (.box 100 (tt 0)),
oo 4 (.mv (nn 0))])
 (.seq (rr [oo 5 (.fadr 0 (tt 2)),
oo 6 (.load 1 false false (tt 5)),
oo 7 (.mv (tt 1)),
oo 8 (.call 24200 0 [tt 6, tt 7]),
oo 1 (.mv (tt 8))])
 (.seq (.seq (rr [oo 9 (.mv (tt 1)),
oo 10 (.bin .lss (tt 9) (nn 0))])
 (.cond (tt 10) (.seq (rr [oo 4 (.mv (nn (-1)))])
 .ret) .skip))
 (.seq (rr [oo 11 (.fadr 1 (tt 2)),
oo 12 (.load 1 false false (tt 11)),
oo 13 (.mv (tt 1)),
oo 14 (.call 24400 0 [tt 12, tt 13]),
oo 1 (.mv (tt 14))])
 (.seq (.seq (rr [oo 15 (.mv (tt 1)),
oo 16 (.bin .lss (tt 15) (nn 0))])
 (.cond (tt 16) (.seq (rr [oo 4 (.mv (nn (-1)))])
 .ret) .skip))
 (.seq (rr [oo 17 (.fadr 4 (tt 2)),
oo 18 (.load 1 false false (tt 17)),
oo 19 (.mv (tt 1)),
oo 20 (.call 7200 0 [tt 18, tt 19]),
oo 1 (.mv (tt 20))])
 (.seq (.seq (rr [oo 21 (.mv (tt 1)),
oo 22 (.bin .lss (tt 21) (nn 0))])
 (.cond (tt 22) (.seq (rr [oo 4 (.mv (nn (-1)))])
 .ret) .skip))
 (.seq (rr [oo 23 (.mv (tt 1)),
oo 4 (.mv (tt 23))])
 .ret)))))))) }
noncomputable def p24600 : ProcT := { kind := .fn, ins := [0], bins := [], res := [.tmp 2], code := (.seq (rr [oo 2 (.mv (.const (.bool false)))])
 (.seq (.seq (rr [oo 3 (.mv (nn 0))])
 (.block 0 (.label 24601)))
 (.seq (rr [oo 16 (.mv (tt 0)),
oo 17 (.len (tt 16)),
oo 18 (.bin .leq (tt 17) (nn 3)),
oo 2 (.mv (tt 18))])
 .ret))) }
noncomputable def p24601 : ProcT := { kind := .loop, ins := [0, 3], bins := [], outs := [0, 2], bouts := [], code := (.seq (.seq (rr [oo 4 (.mv (tt 3)),
oo 5 (.mv (tt 0)),
oo 6 (.len (tt 5)),
oo 7 (.bin .lss (tt 4) (tt 6))])
 (.cond (tt 7) .skip (.exit 0)))
 (.seq (.block 1 (.seq (rr [oo 10 (.mv (tt 0)),
oo 11 (.mv (tt 3)),
oo 12 (.iadr 2 (tt 10) (tt 11)),
oo 13 (.load 2 true false (tt 12)),
oo 14 (.call 17800 0 [tt 13]),
oo 15 (.un .not (tt 14))])
 (.cond (tt 15) (.seq (rr [oo 2 (.mv (.const (.bool false)))])
 .ret) .skip)))
 (rr [oo 8 (.mv (tt 3)),
oo 9 (.bin .add (tt 8) (nn 1)),
oo 3 (.mv (tt 9))]))) }
noncomputable def p24700 : ProcT := { kind := .fn, ins := [0], bins := [], res := [.tmp 2], code := (.seq (rr [oo 1 (.box 100 (tt 0)),
oo 2 (.mv (.const (.bool false)))])
 (.seq (rr [oo 5 (.fadr 0 (tt 1)),
oo 6 (.load 1 false false (tt 5)),
oo 7 (.len (tt 6)),
oo 3 (.mv (tt 7))])
 (.seq (.seq (rr [oo 8 (.mv (tt 3)),
oo 9 (.call 1600 0 [tt 8, nn 1, nn 3]),
oo 10 (.un .not (tt 9)),
oo 11 (.mv (tt 10)),
og (some 12) (.fadr 1 (tt 1)) 11 false [],
og (some 13) (.load 1 false false (tt 12)) 11 false [],
og (some 14) (.call 24600 0 [tt 13]) 11 false [],
og (some 15) (.un .not (tt 14)) 11 false [],
oo 16 (.pick (tt 11) (.const (.bool true)) (tt 15)),
oo 17 (.mv (tt 16)),
og (some 18) (.fadr 2 (tt 1)) 17 false [],
og (some 19) (.load 1 false false (tt 18)) 17 false [],
og (some 20) (.mv (tt 3)) 17 false [],
og (some 21) (.bin .sub (tt 20) (nn 1)) 17 false [],
og (some 22) (.call 1600 0 [tt 19, nn 0, tt 21]) 17 false [],
og (some 23) (.un .not (tt 22)) 17 false [],
oo 24 (.pick (tt 17) (.const (.bool true)) (tt 23)),
oo 25 (.mv (tt 24)),
og (some 26) (.fadr 3 (tt 1)) 25 false [],
og (some 27) (.load 1 false false (tt 26)) 25 false [],
og (some 28) (.mv (tt 3)) 25 false [],
og (some 29) (.call 1600 0 [tt 27, nn 0, tt 28]) 25 false [],
og (some 30) (.un .not (tt 29)) 25 false [],
oo 31 (.pick (tt 25) (.const (.bool true)) (tt 30))])
 (.cond (tt 31) (.seq (rr [oo 2 (.mv (.const (.bool false)))])
 .ret) .skip))
 (.seq (.seq (rr [oo 4 (.mv (nn 0))])
 (.block 0 (.label 24701)))
 (.seq (rr [oo 57 (.fadr 4 (tt 1)),
oo 58 (.load 1 false false (tt 57)),
oo 59 (.fadr 4 (tt 1)),
oo 60 (.load 1 false false (tt 59)),
oo 61 (.len (tt 60)),
oo 62 (.call 6500 0 [tt 58, tt 61]),
oo 2 (.mv (tt 62))])
 .ret))))) }
noncomputable def p24701 : ProcT := { kind := .loop, ins := [1, 3, 4], bins := [100], outs := [1, 2], bouts := [100], code := (.seq (.seq (rr [oo 32 (.mv (tt 4)),
oo 33 (.mv (tt 3)),
oo 34 (.bin .lss (tt 32) (tt 33))])
 (.cond (tt 34) .skip (.exit 0)))
 (.seq (.block 1 (.seq (.region true [op 37 (.fadr 0 (tt 1)) [100],
op 38 (.load 1 false false (tt 37)) [100],
oo 39 (.mv (tt 4)),
oo 40 (.iadr 2 (tt 38) (tt 39)),
oo 41 (.load 2 true false (tt 40)),
oo 42 (.call 6600 0 [tt 41]),
oo 43 (.un .not (tt 42)),
oo 44 (.mv (tt 43)),
og (some 45) (.fadr 0 (tt 1)) 44 false [100],
og (some 46) (.load 1 false false (tt 45)) 44 false [100],
og (some 47) (.mv (tt 4)) 44 false [],
og (some 48) (.iadr 2 (tt 46) (tt 47)) 44 false [],
og (some 49) (.fadr 1 (tt 48)) 44 false [],
og (some 50) (.load 1 false false (tt 49)) 44 false [],
og (some 51) (.fadr 1 (tt 1)) 44 false [100],
og (some 52) (.load 1 false false (tt 51)) 44 false [100],
og (some 53) (.len (tt 52)) 44 false [],
og (some 54) (.call 23100 0 [tt 50, tt 53]) 44 false [],
og (some 55) (.un .not (tt 54)) 44 false [],
oo 56 (.pick (tt 44) (.const (.bool true)) (tt 55))])
 (.cond (tt 56) (.seq (rr [oo 2 (.mv (.const (.bool false)))])
 .ret) .skip)))
 (rr [oo 35 (.mv (tt 4)),
oo 36 (.bin .add (tt 35) (nn 1)),
oo 4 (.mv (tt 36))]))) }
noncomputable def p24800 : ProcT := { kind := .fn, ins := [0], bins := [], res := [.tmp 2], code := (.seq (rr [oo 2 (.mv (.const (.sl (.own false) .tk [])))])
 (.seq (rr [oo 5 (.mv (tt 0)),
oo 6 (.len (tt 5)),
oo 7 (.mksl 100 .tk (tt 6) (tt 6)),
oo 3 (.mv (.take 7))])
 (.seq (.seq (rr [oo 4 (.mv (nn 0))])
 (.block 0 (.label 24801)))
 (.seq (rr [oo 22 (.mv (.take 3)),
oo 2 (.mv (.take 22))])
 .ret)))) }
noncomputable def p24801 : ProcT := { kind := .loop, ins := [0, 3, 4], bins := [100], outs := [2, 3], bouts := [100], code := (.seq (.seq (rr [oo 8 (.mv (tt 4)),
oo 9 (.mv (tt 0)),
oo 10 (.len (tt 9)),
oo 11 (.bin .lss (tt 8) (tt 10))])
 (.cond (tt 11) .skip (.exit 0)))
 (.seq (.block 1 (rr [oo 14 (.mv (tt 3)),
oo 15 (.mv (tt 4)),
oo 16 (.mv (tt 0)),
oo 17 (.mv (tt 4)),
oo 18 (.iadr 2 (tt 16) (tt 17)),
oo 19 (.load 2 true false (tt 18)),
oo 20 (.call 7900 0 [tt 19]),
oo 21 (.iadr 2 (tt 14) (tt 15)),
on (.store 2 (tt 21) (tt 20)) []]))
 (rr [oo 12 (.mv (tt 4)),
oo 13 (.bin .add (tt 12) (nn 1)),
oo 4 (.mv (tt 13))]))) }
noncomputable def p24900 : ProcT := { kind := .fn, ins := [0], bins := [], res := [.cell 2 2 true], code := (.seq (rr [oo 1 (.box 100 (tt 0)),
oo 2 (.alloc 101 [.int .i64 0, .sl (.own false) .int []])])
 (.seq (rr [oo 3 (.alloc 102 [.int .i64 0, .sl (.own false) .int []])])
 (.seq (rr [oo 4 (.fadr 0 (tt 1)),
oo 5 (.load 1 false false (tt 4)),
oo 6 (.fadr 0 (tt 3)),
on (.store 1 (tt 6) (tt 5)) []])
 (.seq (rr [oo 7 (.fadr 1 (tt 1)),
oo 8 (.load 1 false false (tt 7)),
oo 9 (.call 7800 0 [tt 8]),
oo 10 (.fadr 1 (tt 3)),
on (.store 1 (tt 10) (.take 9)) []])
 (.seq (rr [oo 11 (.load 2 true false (tt 3)),
on (.store 2 (tt 2) (tt 11)) []])
 .ret))))) }
noncomputable def p25000 : ProcT := { kind := .fn, ins := [0], bins := [], res := [.tmp 2], code := (.seq (rr [oo 2 (.mv (.const (.sl (.own false) .bx [])))])
 (.seq (rr [oo 5 (.mv (tt 0)),
oo 6 (.len (tt 5)),
oo 7 (.mksl 100 .bx (tt 6) (tt 6)),
oo 3 (.mv (.take 7))])
 (.seq (.seq (rr [oo 4 (.mv (nn 0))])
 (.block 0 (.label 25001)))
 (.seq (rr [oo 22 (.mv (.take 3)),
oo 2 (.mv (.take 22))])
 .ret)))) }
noncomputable def p25001 : ProcT := { kind := .loop, ins := [0, 3, 4], bins := [100], outs := [2, 3], bouts := [100], code := (.seq (.seq (rr [oo 8 (.mv (tt 4)),
oo 9 (.mv (tt 0)),
oo 10 (.len (tt 9)),
oo 11 (.bin .lss (tt 8) (tt 10))])
 (.cond (tt 11) .skip (.exit 0)))
 (.seq (.block 1 (rr [oo 14 (.mv (tt 3)),
oo 15 (.mv (tt 4)),
oo 16 (.mv (tt 0)),
oo 17 (.mv (tt 4)),
oo 18 (.iadr 2 (tt 16) (tt 17)),
oo 19 (.load 2 true false (tt 18)),
oo 20 (.call 24900 0 [tt 19]),
oo 21 (.iadr 2 (tt 14) (tt 15)),
on (.store 2 (tt 21) (tt 20)) []]))
 (rr [oo 12 (.mv (tt 4)),
oo 13 (.bin .add (tt 12) (nn 1)),
oo 4 (.mv (tt 13))]))) }
noncomputable def p25100 : ProcT := { kind := .fn, ins := [0], bins := [], res := [.cell 2 5 true], code := (.seq (rr [oo 1 (.box 100 (tt 0)),
oo 2 (.alloc 101 [.sl (.own false) .tk [], .sl (.own false) .bx [], .int .i64 0, .int .i64 0, .sl (.own false) .int []])])
 (.seq (rr [oo 3 (.alloc 102 [.sl (.own false) .tk [], .sl (.own false) .bx [], .int .i64 0, .int .i64 0, .sl (.own false) .int []])])
 (.seq (rr [oo 4 (.fadr 0 (tt 1)),
oo 5 (.load 1 false false (tt 4)),
oo 6 (.call 24800 0 [tt 5]),
oo 7 (.fadr 0 (tt 3)),
on (.store 1 (tt 7) (.take 6)) []])
 (.seq (rr [oo 8 (.fadr 1 (tt 1)),
oo 9 (.load 1 false false (tt 8)),
oo 10 (.call 25000 0 [tt 9]),
oo 11 (.fadr 1 (tt 3)),
on (.store 1 (tt 11) (.take 10)) []])
 (.seq (rr [oo 12 (.fadr 2 (tt 1)),
oo 13 (.load 1 false false (tt 12)),
oo 14 (.fadr 2 (tt 3)),
on (.store 1 (tt 14) (tt 13)) []])
 (.seq (rr [oo 15 (.fadr 3 (tt 1)),
oo 16 (.load 1 false false (tt 15)),
oo 17 (.fadr 3 (tt 3)),
on (.store 1 (tt 17) (tt 16)) []])
 (.seq (rr [oo 18 (.fadr 4 (tt 1)),
oo 19 (.load 1 false false (tt 18)),
oo 20 (.call 7800 0 [tt 19]),
oo 21 (.fadr 4 (tt 3)),
on (.store 1 (tt 21) (.take 20)) []])
 (.seq (rr [oo 22 (.load 5 true false (tt 3)),
on (.store 5 (tt 2) (tt 22)) []])
 .ret)))))))) }
noncomputable def p25200 : ProcT := { kind := .fn, ins := [0, 1], bins := [], res := [.tmp 4], code := (.seq (rr [oo 4 (.mv (.const (.bool false)))])
 (.seq (.seq (rr [oo 6 (.mv (tt 0)),
oo 7 (.len (tt 6)),
oo 8 (.mv (tt 1)),
oo 9 (.len (tt 8)),
oo 10 (.bin .neq (tt 7) (tt 9))])
 (.cond (tt 10) (.seq (rr [oo 4 (.mv (.const (.bool false)))])
 .ret) .skip))
 (.seq (.seq (rr [oo 5 (.mv (nn 0))])
 (.block 0 (.label 25201)))
 (.seq (rr [oo 4 (.mv (.const (.bool true)))])
 .ret)))) }
noncomputable def p25201 : ProcT := { kind := .loop, ins := [0, 1, 5], bins := [], outs := [4], bouts := [], code := (.seq (.seq (rr [oo 11 (.mv (tt 5)),
oo 12 (.mv (tt 0)),
oo 13 (.len (tt 12)),
oo 14 (.bin .lss (tt 11) (tt 13))])
 (.cond (tt 14) .skip (.exit 0)))
 (.seq (.block 1 (.seq (.region true [oo 17 (.mv (tt 0)),
oo 18 (.mv (tt 5)),
oo 19 (.iadr 2 (tt 17) (tt 18)),
oo 20 (.load 2 true false (tt 19)),
oo 21 (.mv (tt 1)),
oo 22 (.mv (tt 5)),
oo 23 (.iadr 2 (tt 21) (tt 22)),
oo 24 (.load 2 true false (tt 23)),
oo 25 (.call 8500 0 [tt 20, tt 24]),
oo 26 (.un .not (tt 25))])
 (.cond (tt 26) (.seq (rr [oo 4 (.mv (.const (.bool false)))])
 .ret) .skip)))
 (rr [oo 15 (.mv (tt 5)),
oo 16 (.bin .add (tt 15) (nn 1)),
oo 5 (.mv (tt 16))]))) }
noncomputable def p25300 : ProcT := { kind := .fn, ins := [0, 1], bins := [], res := [.tmp 4], code := (.seq (rr [oo 4 (.mv (.const (.bool false)))])
 (.seq (.seq (rr [oo 6 (.mv (tt 0)),
oo 7 (.len (tt 6)),
oo 8 (.mv (tt 1)),
oo 9 (.len (tt 8)),
oo 10 (.bin .neq (tt 7) (tt 9))])
 (.cond (tt 10) (.seq (rr [oo 4 (.mv (.const (.bool false)))])
 .ret) .skip))
 (.seq (.seq (rr [oo 5 (.mv (nn 0))])
 (.block 0 (.label 25301)))
 (.seq (rr [oo 4 (.mv (.const (.bool true)))])
 .ret)))) }
noncomputable def p25301 : ProcT := { kind := .loop, ins := [0, 1, 5], bins := [], outs := [4], bouts := [], code := (.seq (.seq (rr [oo 11 (.mv (tt 5)),
oo 12 (.mv (tt 0)),
oo 13 (.len (tt 12)),
oo 14 (.bin .lss (tt 11) (tt 13))])
 (.cond (tt 14) .skip (.exit 0)))
 (.seq (.block 1 (.seq (.region true [oo 17 (.mv (tt 0)),
oo 18 (.mv (tt 5)),
oo 19 (.iadr 2 (tt 17) (tt 18)),
oo 20 (.load 2 true false (tt 19)),
oo 21 (.mv (tt 1)),
oo 22 (.mv (tt 5)),
oo 23 (.iadr 2 (tt 21) (tt 22)),
oo 24 (.load 2 true false (tt 23)),
oo 25 (.call 19000 0 [tt 20, tt 24]),
oo 26 (.un .not (tt 25))])
 (.cond (tt 26) (.seq (rr [oo 4 (.mv (.const (.bool false)))])
 .ret) .skip)))
 (rr [oo 15 (.mv (tt 5)),
oo 16 (.bin .add (tt 15) (nn 1)),
oo 5 (.mv (tt 16))]))) }
noncomputable def p25400 : ProcT := { kind := .fn, ins := [0, 1], bins := [], res := [.tmp 4], code := (.seq (rr [oo 2 (.box 100 (tt 0)),
oo 3 (.box 101 (tt 1)),
oo 4 (.mv (.const (.bool false)))])
 (.seq (.seq (rr [oo 5 (.fadr 0 (tt 2)),
oo 6 (.load 1 false false (tt 5)),
oo 7 (.fadr 0 (tt 3)),
oo 8 (.load 1 false false (tt 7)),
oo 9 (.call 25200 0 [tt 6, tt 8]),
oo 10 (.un .not (tt 9))])
 (.cond (tt 10) (.seq (rr [oo 4 (.mv (.const (.bool false)))])
 .ret) .skip))
 (.seq (.seq (rr [oo 11 (.fadr 1 (tt 2)),
oo 12 (.load 1 false false (tt 11)),
oo 13 (.fadr 1 (tt 3)),
oo 14 (.load 1 false false (tt 13)),
oo 15 (.call 25300 0 [tt 12, tt 14]),
oo 16 (.un .not (tt 15))])
 (.cond (tt 16) (.seq (rr [oo 4 (.mv (.const (.bool false)))])
 .ret) .skip))
 (.seq (.seq (rr [oo 17 (.fadr 2 (tt 2)),
oo 18 (.load 1 false false (tt 17)),
oo 19 (.fadr 2 (tt 3)),
oo 20 (.load 1 false false (tt 19)),
oo 21 (.bin .neq (tt 18) (tt 20))])
 (.cond (tt 21) (.seq (rr [oo 4 (.mv (.const (.bool false)))])
 .ret) .skip))
 (.seq (.seq (rr [oo 22 (.fadr 3 (tt 2)),
oo 23 (.load 1 false false (tt 22)),
oo 24 (.fadr 3 (tt 3)),
oo 25 (.load 1 false false (tt 24)),
oo 26 (.bin .neq (tt 23) (tt 25))])
 (.cond (tt 26) (.seq (rr [oo 4 (.mv (.const (.bool false)))])
 .ret) .skip))
 (.seq (.seq (rr [oo 27 (.fadr 4 (tt 2)),
oo 28 (.load 1 false false (tt 27)),
oo 29 (.fadr 4 (tt 3)),
oo 30 (.load 1 false false (tt 29)),
oo 31 (.call 8400 0 [tt 28, tt 30]),
oo 32 (.un .not (tt 31))])
 (.cond (tt 32) (.seq (rr [oo 4 (.mv (.const (.bool false)))])
 .ret) .skip))
 (.seq (rr [oo 4 (.mv (.const (.bool true)))])
 .ret))))))) }
noncomputable def p30100 : ProcT := { kind := .fn, ins := [0], bins := [], res := [.cell 2 4 true], loc := true, code := (.seq (rr [oo 1 (.box 100 (tt 0)),
oo 2 (.alloc 101 [.sl (.own false) .int [], .sl (.own false) .ints [], .tr .bool none 0, .bool false])])
 (.seq (.seq (rr [oo 6 (.load 5 true false (tt 1)),
oo 7 (.call 24000 0 [tt 6]),
oo 8 (.un .not (tt 7))])
 (.cond (tt 8) (.seq (rr [oo 9 (.build [.sl (.own false) .int [], .sl (.own false) .ints [], .tr .bool none 0, .bool false] []),
on (.store 4 (tt 2) (tt 9)) []])
 .ret) .skip))
 (.seq (rr [oo 10 (.fadr 4 (tt 1)),
oo 11 (.load 1 false false (tt 10)),
oo 12 (.fadr 1 (tt 1)),
oo 13 (.load 1 false false (tt 12)),
oo 14 (.fadr 3 (tt 1)),
oo 15 (.load 1 false false (tt 14)),
oo 16 (.fadr 0 (tt 1)),
oo 17 (.load 1 false false (tt 16)),
oo 18 (.len (tt 17)),
oo 19 (.bin .eql (tt 15) (tt 18)),
oo 20 (.tr (.call .pass 39800 [tt 11, tt 13, tt 19])),
oo 3 (.alloc 102 [.sl (.own false) .int [], .sl (.own false) .ints [], .tr .bool none 0, .bool false]),
on (.store 4 (tt 3) (tt 20)) []])
 (.seq (.seq (rr [oo 21 (.fadr 0 (tt 1)),
oo 22 (.load 1 false false (tt 21)),
oo 23 (.len (tt 22)),
oo 24 (.mv (nn 0))])
 (.block 0 (.label 30101)))
 (.seq (rr [oo 38 (.load 4 true false (tt 3)),
on (.store 4 (tt 2) (tt 38)) []])
 .ret))))) }
noncomputable def p30101 : ProcT := { kind := .loop, ins := [2, 3, 22, 23, 24], bins := [101, 102, 99], outs := [2, 3], bouts := [101, 102, 99], code := (.seq (rr [oo 25 (.bin .lss (tt 24) (tt 23))])
 (.seq (.cond (tt 25) .skip (.exit 0))
 (.seq (.block 1 (.seq (rr [oo 26 (.iadr 2 (tt 22) (tt 24)),
oo 27 (.load 2 true false (tt 26)),
oo 5 (.alloc 103 [.sl (.own false) .int [], .sl (.own false) .stm []]),
on (.store 2 (tt 5) (tt 27)) []])
 (rr [oo 28 (.fadr 2 (tt 3)),
oo 29 (.load 1 false false (tt 28)),
oo 30 (.fadr 1 (tt 5)),
oo 31 (.load 1 false false (tt 30)),
oo 32 (.len (tt 31)),
oo 33 (.bin .eql (tt 32) (nn 0)),
oo 34 (.buildS .full .bool [tt 33]),
oo 35 (.tr (.app 1 (tt 29) (tt 34))),
oo 36 (.fadr 2 (tt 3)),
on (.store 1 (tt 36) (tt 35)) []])))
 (rr [oo 37 (.bin .add (tt 24) (nn 1)),
oo 24 (.mv (tt 37))])))) }
noncomputable def p30200 : ProcT := { kind := .fn, ins := [0], bins := [], res := [.tmp 2], code := (.seq (rr [oo 2 (.mv (.const (.sl (.own false) .ints [])))])
 (.seq (rr [oo 5 (.buildS (.own true) .ints []),
oo 3 (.mv (.take 5))])
 (.seq (.seq (rr [oo 4 (.mv (nn 0))])
 (.block 0 (.label 30201)))
 (.seq (rr [oo 22 (.mv (.take 3)),
oo 2 (.mv (.take 22))])
 .ret)))) }
noncomputable def p30201 : ProcT := { kind := .loop, ins := [0, 3, 4], bins := [], outs := [2, 3], bouts := [], code := (.seq (.seq (rr [oo 6 (.mv (tt 4)),
oo 7 (.mv (tt 0)),
oo 8 (.len (tt 7)),
oo 9 (.bin .lss (tt 6) (tt 8))])
 (.cond (tt 9) .skip (.exit 0)))
 (.seq (.block 1 (rr [oo 12 (.mv (.take 3)),
oo 13 (.buildS (.own true) .int []),
oo 14 (.mv (tt 0)),
oo 15 (.mv (tt 4)),
oo 16 (.iadr 2 (tt 14) (tt 15)),
oo 17 (.fadr 1 (tt 16)),
oo 18 (.load 1 false false (tt 17)),
oo 19 (.app 1 (.take 13) (tt 18)),
oo 20 (.buildS .full .ints [tt 19]),
oo 21 (.app 1 (.take 12) (tt 20)),
oo 3 (.mv (.take 21))]))
 (rr [oo 10 (.mv (tt 4)),
oo 11 (.bin .add (tt 10) (nn 1)),
oo 4 (.mv (tt 11))]))) }
noncomputable def p30300 : ProcT := { kind := .fn, ins := [0], bins := [], res := [.cell 2 4 true], code := (.seq (rr [oo 1 (.box 100 (tt 0)),
oo 2 (.alloc 101 [.sl (.own false) .int [], .sl (.own false) .ints [], .sl (.own false) .bool [], .bool false])])
 (.seq (.seq (rr [oo 5 (.load 5 true false (tt 1)),
oo 6 (.call 24700 0 [tt 5]),
oo 7 (.un .not (tt 6))])
 (.cond (tt 7) (.seq (rr [oo 8 (.build [.sl (.own false) .int [], .sl (.own false) .ints [], .sl (.own false) .bool [], .bool false] []),
on (.store 4 (tt 2) (tt 8)) []])
 .ret) .skip))
 (.seq (.region true [oo 9 (.buildS (.own true) .int []),
op 10 (.fadr 4 (tt 1)) [100],
op 11 (.load 1 false false (tt 10)) [100],
oo 12 (.app 1 (.take 9) (tt 11)),
op 13 (.fadr 1 (tt 1)) [100],
op 14 (.load 1 false false (tt 13)) [100],
oo 15 (.call 30200 0 [tt 14]),
oo 16 (.buildS (.own false) .bool []),
op 17 (.fadr 3 (tt 1)) [100],
op 18 (.load 1 false false (tt 17)) [100],
op 19 (.fadr 0 (tt 1)) [100],
op 20 (.load 1 false false (tt 19)) [100],
oo 21 (.len (tt 20)),
oo 22 (.bin .eql (tt 18) (tt 21)),
oo 23 (.build [.sl (.own false) .int [], .sl (.own false) .ints [], .sl (.own false) .bool [], .bool false] [(0, 1, tt 12), (1, 1, tt 15), (2, 1, tt 16), (3, 1, tt 22)]),
op 3 (.alloc 102 [.sl (.own false) .int [], .sl (.own false) .ints [], .sl (.own false) .bool [], .bool false]) [102],
on (.store 4 (tt 3) (tt 23)) [102]])
 (.seq (.seq (rr [oo 4 (.mv (nn 0))])
 (.block 0 (.label 30301)))
 (.seq (rr [oo 44 (.load 4 true false (tt 3)),
on (.store 4 (tt 2) (tt 44)) []])
 .ret))))) }
noncomputable def p30301 : ProcT := { kind := .loop, ins := [1, 2, 3, 4], bins := [100, 101, 102], outs := [2, 3], bouts := [101, 102], code := (.seq (.seq (rr [oo 24 (.mv (tt 4)),
oo 25 (.fadr 0 (tt 1)),
oo 26 (.load 1 false false (tt 25)),
oo 27 (.len (tt 26)),
oo 28 (.bin .lss (tt 24) (tt 27))])
 (.cond (tt 28) .skip (.exit 0)))
 (.seq (.block 1 (.region true [op 31 (.fadr 2 (tt 3)) [102],
op 32 (.load 1 false true (tt 31)) [102],
op 33 (.fadr 0 (tt 1)) [100],
op 34 (.load 1 false false (tt 33)) [100],
oo 35 (.mv (tt 4)),
oo 36 (.iadr 2 (tt 34) (tt 35)),
oo 37 (.fadr 1 (tt 36)),
oo 38 (.load 1 false false (tt 37)),
oo 39 (.len (tt 38)),
oo 40 (.bin .eql (tt 39) (nn 0)),
oo 41 (.buildS .full .bool [tt 40]),
oo 42 (.app 1 (.take 32) (tt 41)),
op 43 (.fadr 2 (tt 3)) [102],
on (.store 1 (tt 43) (.take 42)) [102]]))
 (rr [oo 29 (.mv (tt 4)),
oo 30 (.bin .add (tt 29) (nn 1)),
oo 4 (.mv (tt 30))]))) }
noncomputable def p30800 : ProcT := { kind := .fn, ins := [0, 1], bins := [], res := [.tmp 4], code := (.seq (rr [oo 4 (.mv (.const (.bool false)))])
 (.seq (.seq (rr [oo 6 (.mv (tt 0)),
oo 7 (.len (tt 6)),
oo 8 (.mv (tt 1)),
oo 9 (.len (tt 8)),
oo 10 (.bin .neq (tt 7) (tt 9))])
 (.cond (tt 10) (.seq (rr [oo 4 (.mv (.const (.bool false)))])
 .ret) .skip))
 (.seq (.seq (rr [oo 5 (.mv (nn 0))])
 (.block 0 (.label 30801)))
 (.seq (rr [oo 4 (.mv (.const (.bool true)))])
 .ret)))) }
noncomputable def p30801 : ProcT := { kind := .loop, ins := [0, 1, 5], bins := [], outs := [4], bouts := [], code := (.seq (.seq (rr [oo 11 (.mv (tt 5)),
oo 12 (.mv (tt 0)),
oo 13 (.len (tt 12)),
oo 14 (.bin .lss (tt 11) (tt 13))])
 (.cond (tt 14) .skip (.exit 0)))
 (.seq (.block 1 (.seq (.region true [oo 17 (.mv (tt 0)),
oo 18 (.mv (tt 5)),
oo 19 (.iadr 1 (tt 17) (tt 18)),
oo 20 (.load 1 false false (tt 19)),
oo 21 (.mv (tt 1)),
oo 22 (.mv (tt 5)),
oo 23 (.iadr 1 (tt 21) (tt 22)),
oo 24 (.load 1 false false (tt 23)),
oo 25 (.call 8400 0 [tt 20, tt 24]),
oo 26 (.un .not (tt 25))])
 (.cond (tt 26) (.seq (rr [oo 4 (.mv (.const (.bool false)))])
 .ret) .skip)))
 (rr [oo 15 (.mv (tt 5)),
oo 16 (.bin .add (tt 15) (nn 1)),
oo 5 (.mv (tt 16))]))) }
noncomputable def p30900 : ProcT := { kind := .fn, ins := [0, 1], bins := [], res := [.tmp 4], code := (.seq (rr [oo 4 (.mv (.const (.bool false)))])
 (.seq (.seq (rr [oo 6 (.mv (tt 0)),
oo 7 (.len (tt 6)),
oo 8 (.mv (tt 1)),
oo 9 (.len (tt 8)),
oo 10 (.bin .neq (tt 7) (tt 9))])
 (.cond (tt 10) (.seq (rr [oo 4 (.mv (.const (.bool false)))])
 .ret) .skip))
 (.seq (.seq (rr [oo 5 (.mv (nn 0))])
 (.block 0 (.label 30901)))
 (.seq (rr [oo 4 (.mv (.const (.bool true)))])
 .ret)))) }
noncomputable def p30901 : ProcT := { kind := .loop, ins := [0, 1, 5], bins := [], outs := [4], bouts := [], code := (.seq (.seq (rr [oo 11 (.mv (tt 5)),
oo 12 (.mv (tt 0)),
oo 13 (.len (tt 12)),
oo 14 (.bin .lss (tt 11) (tt 13))])
 (.cond (tt 14) .skip (.exit 0)))
 (.seq (.block 1 (.seq (.region true [oo 17 (.mv (tt 0)),
oo 18 (.mv (tt 5)),
oo 19 (.iadr 1 (tt 17) (tt 18)),
oo 20 (.load 1 false false (tt 19)),
oo 21 (.mv (tt 1)),
oo 22 (.mv (tt 5)),
oo 23 (.iadr 1 (tt 21) (tt 22)),
oo 24 (.load 1 false false (tt 23)),
oo 25 (.eqb true (tt 20) (tt 24))])
 (.cond (tt 25) (.seq (rr [oo 4 (.mv (.const (.bool false)))])
 .ret) .skip)))
 (rr [oo 15 (.mv (tt 5)),
oo 16 (.bin .add (tt 15) (nn 1)),
oo 5 (.mv (tt 16))]))) }
noncomputable def p31000 : ProcT := { kind := .fn, ins := [0, 1], bins := [], res := [.tmp 4], code := (.seq (rr [oo 2 (.box 100 (tt 0)),
oo 3 (.box 101 (tt 1)),
oo 4 (.mv (.const (.bool false)))])
 (.seq (.seq (rr [oo 5 (.fadr 0 (tt 2)),
oo 6 (.load 1 false false (tt 5)),
oo 7 (.fadr 0 (tt 3)),
oo 8 (.load 1 false false (tt 7)),
oo 9 (.call 8400 0 [tt 6, tt 8]),
oo 10 (.un .not (tt 9))])
 (.cond (tt 10) (.seq (rr [oo 4 (.mv (.const (.bool false)))])
 .ret) .skip))
 (.seq (.seq (rr [oo 11 (.fadr 1 (tt 2)),
oo 12 (.load 1 false false (tt 11)),
oo 13 (.fadr 1 (tt 3)),
oo 14 (.load 1 false false (tt 13)),
oo 15 (.call 30800 0 [tt 12, tt 14]),
oo 16 (.un .not (tt 15))])
 (.cond (tt 16) (.seq (rr [oo 4 (.mv (.const (.bool false)))])
 .ret) .skip))
 (.seq (.seq (rr [oo 17 (.fadr 2 (tt 2)),
oo 18 (.load 1 false false (tt 17)),
oo 19 (.fadr 2 (tt 3)),
oo 20 (.load 1 false false (tt 19)),
oo 21 (.call 30900 0 [tt 18, tt 20]),
oo 22 (.un .not (tt 21))])
 (.cond (tt 22) (.seq (rr [oo 4 (.mv (.const (.bool false)))])
 .ret) .skip))
 (.seq (.seq (rr [oo 23 (.fadr 3 (tt 2)),
oo 24 (.load 1 false false (tt 23)),
oo 25 (.fadr 3 (tt 3)),
oo 26 (.load 1 false false (tt 25)),
oo 27 (.eqb true (tt 24) (tt 26))])
 (.cond (tt 27) (.seq (rr [oo 4 (.mv (.const (.bool false)))])
 .ret) .skip))
 (.seq (rr [oo 4 (.mv (.const (.bool true)))])
 .ret)))))) }
noncomputable def p31400 : ProcT := { kind := .fn, ins := [0, 1], bins := [], res := [.tmp 4], code := (.seq (rr [oo 4 (.mv (nn 0))])
 (.seq (.seq (rr [oo 5 (.mv (nn 0))])
 (.block 0 (.label 31401)))
 (.seq (rr [oo 20 (.mv (tt 1)),
oo 4 (.mv (tt 20))])
 .ret))) }
noncomputable def p31401 : ProcT := { kind := .loop, ins := [0, 1, 5], bins := [], outs := [1, 4], bouts := [], code := (.seq (.seq (rr [oo 6 (.mv (tt 5)),
oo 7 (.mv (tt 0)),
oo 8 (.len (tt 7)),
oo 9 (.bin .lss (tt 6) (tt 8))])
 (.cond (tt 9) .skip (.exit 0)))
 (.seq (.block 1 (.seq (rr [oo 12 (.mv (tt 0)),
oo 13 (.mv (tt 5)),
oo 14 (.iadr 1 (tt 12) (tt 13)),
oo 15 (.load 1 false false (tt 14)),
oo 16 (.mv (tt 1)),
oo 17 (.call 10600 0 [tt 15, tt 16]),
oo 1 (.mv (tt 17))])
 (.seq (rr [oo 18 (.mv (tt 1)),
oo 19 (.bin .lss (tt 18) (nn 0))])
 (.cond (tt 19) (.seq (rr [oo 4 (.mv (nn (-1)))])
 .ret) .skip))))
 (rr [oo 10 (.mv (tt 5)),
oo 11 (.bin .add (tt 10) (nn 1)),
oo 5 (.mv (tt 11))]))) }
noncomputable def p31500 : ProcT := { kind := .fn, ins := [0, 1], bins := [], res := [.tmp 4], code := (.seq (rr [oo 4 (.mv (nn 0))])
 (.seq (.seq (rr [oo 5 (.mv (nn 0))])
 (.block 0 (.label 31501)))
 (.seq (rr [oo 22 (.mv (tt 1)),
oo 4 (.mv (tt 22))])
 .ret))) }
noncomputable def p31501 : ProcT := { kind := .loop, ins := [0, 1, 5], bins := [], outs := [1, 4], bouts := [], code := (.seq (.seq (rr [oo 6 (.mv (tt 5)),
oo 7 (.mv (tt 0)),
oo 8 (.len (tt 7)),
oo 9 (.bin .lss (tt 6) (tt 8))])
 (.cond (tt 9) .skip (.exit 0)))
 (.seq (.block 1 (.seq (.seq (rr [oo 12 (.mv (tt 0)),
oo 13 (.mv (tt 5)),
oo 14 (.iadr 1 (tt 12) (tt 13)),
oo 15 (.load 1 false false (tt 14)),
oo 16 (.mv (tt 1)),
oo 17 (.bin .rem (tt 16) (nn 3)),
oo 18 (.bin .eql (tt 17) (nn 0)),
oo 19 (.eqb true (tt 15) (tt 18))])
 (.cond (tt 19) (.seq (rr [oo 4 (.mv (nn (-1)))])
 .ret) .skip))
 (rr [oo 20 (.mv (tt 1)),
oo 21 (.bin .add (tt 20) (nn 1)),
oo 1 (.mv (tt 21))])))
 (rr [oo 10 (.mv (tt 5)),
oo 11 (.bin .add (tt 10) (nn 1)),
oo 5 (.mv (tt 11))]))) }
noncomputable def p31600 : ProcT := { kind := .fn, ins := [0, 1], bins := [], res := [.tmp 4], code := (.seq (rr [oo 2 (.box 100 (tt 0)),
oo 4 (.mv (nn 0))])
 (.seq (rr [oo 5 (.fadr 0 (tt 2)),
oo 6 (.load 1 false false (tt 5)),
oo 7 (.mv (tt 1)),
oo 8 (.call 10600 0 [tt 6, tt 7]),
oo 1 (.mv (tt 8))])
 (.seq (.seq (rr [oo 9 (.mv (tt 1)),
oo 10 (.bin .lss (tt 9) (nn 0))])
 (.cond (tt 10) (.seq (rr [oo 4 (.mv (nn (-1)))])
 .ret) .skip))
 (.seq (rr [oo 11 (.fadr 1 (tt 2)),
oo 12 (.load 1 false false (tt 11)),
oo 13 (.mv (tt 1)),
oo 14 (.call 31400 0 [tt 12, tt 13]),
oo 1 (.mv (tt 14))])
 (.seq (.seq (rr [oo 15 (.mv (tt 1)),
oo 16 (.bin .lss (tt 15) (nn 0))])
 (.cond (tt 16) (.seq (rr [oo 4 (.mv (nn (-1)))])
 .ret) .skip))
 (.seq (rr [oo 17 (.fadr 2 (tt 2)),
oo 18 (.load 1 false false (tt 17)),
oo 19 (.mv (tt 1)),
oo 20 (.call 31500 0 [tt 18, tt 19]),
oo 1 (.mv (tt 20))])
 (.seq (.seq (rr [oo 21 (.mv (tt 1)),
oo 22 (.bin .lss (tt 21) (nn 0))])
 (.cond (tt 22) (.seq (rr [oo 4 (.mv (nn (-1)))])
 .ret) .skip))
 (.seq (rr [oo 23 (.mv (tt 1)),
oo 4 (.mv (tt 23))])
 .ret)))))))) }
noncomputable def p31700 : ProcT := { kind := .fn, ins := [0], bins := [], res := [.tmp 2], loc := true, code := (.seq (rr [oo 1 (.box 100 (tt 0)),
oo 2 (.mv (.const (.bool false)))])
 (.seq (rr [oo 3 (.mv (nn 1048576))])
 (.seq (rr [oo 11 (.load 5 true false (tt 1)),
oo 12 (.mv (tt 3)),
oo 13 (.call 24500 0 [tt 11, tt 12]),
oo 3 (.mv (tt 13))])
 (.seq (.seq (rr [oo 14 (.mv (tt 3)),
oo 15 (.bin .lss (tt 14) (nn 0))])
 (.cond (tt 15) (.seq (rr [oo 2 (.mv (.const (.bool true)))])
 .ret) .skip))
 (.seq (rr [oo 16 (.load 5 true false (tt 1)),
oo 17 (.call 25100 0 [tt 16]),
oo 18 (.call 30300 0 [tt 17]),
oo 4 (.alloc 101 [.sl (.own false) .int [], .sl (.own false) .ints [], .sl (.own false) .bool [], .bool false]),
on (.store 4 (tt 4) (tt 18)) []])
 (.seq (rr [oo 19 (.load 5 true false (tt 1)),
oo 20 (.tr (.call .pass 41900 [tt 19])),
oo 5 (.alloc 102 [.sl (.own false) .tk [], .sl (.own false) .bx [], .int .i64 0, .int .i64 0, .sl (.own false) .int []]),
on (.store 5 (tt 5) (tt 20)) []])
 (.seq (rr [oo 21 (.load 5 true false (tt 5)),
oo 22 (.tr (.call .pview 42300 [tt 21])),
oo 6 (.alloc 103 [.sl (.own false) .int [], .sl (.own false) .ints [], .sl (.own false) .bool [], .bool false]),
on (.store 4 (tt 6) (tt 22)) []])
 (.seq (.seq (rr [oo 23 (.load 4 true false (tt 6)),
oo 24 (.load 4 true false (tt 4)),
oo 25 (.tr (.call .view 31000 [tt 23, tt 24])),
oo 26 (.un .not (tt 25))])
 (.cond (tt 26) (.seq (rr [oo 2 (.mv (.const (.bool false)))])
 .ret) .skip))
 (.seq (.seq (.region true [op 27 (.load 5 true false (tt 5)) [102],
op 28 (.load 5 true false (tt 1)) [100],
oo 29 (.call 25100 0 [tt 28]),
op 30 (.tr (.call .view 25400 [tt 27, tt 29])) [99],
oo 31 (.un .not (tt 30))])
 (.cond (tt 31) (.seq (rr [oo 2 (.mv (.const (.bool false)))])
 .ret) .skip))
 (.seq (rr [oo 7 (.mv (nn 1))])
 (.seq (rr [oo 32 (.load 5 true false (tt 5)),
oo 33 (.mv (tt 7)),
oo 34 (.tr (.call .pass 42200 [tt 32, tt 33])),
oo 7 (.mv (tt 34))])
 (.seq (.seq (rr [oo 35 (.mv (tt 7)),
oo 36 (.bin .lss (tt 35) (nn 0)),
oo 37 (.mv (tt 36)),
og (some 38) (.load 4 true false (tt 6)) 37 false [],
og (some 39) (.load 4 true false (tt 4)) 37 false [],
og (some 40) (.tr (.call .view 31000 [tt 38, tt 39])) 37 false [],
og (some 41) (.un .not (tt 40)) 37 false [],
oo 42 (.pick (tt 37) (.const (.bool true)) (tt 41))])
 (.cond (tt 42) (.seq (rr [oo 2 (.mv (.const (.bool false)))])
 .ret) .skip))
 (.seq (rr [oo 8 (.mv (nn 1))])
 (.seq (rr [oo 43 (.load 4 true false (tt 6)),
oo 44 (.mv (tt 8)),
oo 45 (.tr (.call .pass 42400 [tt 43, tt 44])),
oo 8 (.mv (tt 45))])
 (.seq (rr [oo 9 (.mv (nn 1))])
 (.seq (rr [oo 46 (.load 4 true false (tt 6)),
oo 47 (.mv (tt 9)),
oo 48 (.tr (.call .view 31600 [tt 46, tt 47])),
oo 9 (.mv (tt 48))])
 (.seq (.seq (rr [oo 49 (.mv (tt 9)),
oo 50 (.bin .lss (tt 49) (nn 0))])
 (.cond (tt 50) (.seq (rr [oo 2 (.mv (.const (.bool false)))])
 .ret) .skip))
 (.seq (.seq (rr [oo 51 (.mv (tt 9)),
oo 52 (.mv (tt 8)),
oo 53 (.bin .neq (tt 51) (tt 52))])
 (.cond (tt 53) (.seq (rr [oo 2 (.mv (.const (.bool false)))])
 .ret) .skip))
 (.seq (rr [oo 54 (.load 5 true false (tt 1)),
oo 55 (.call 25100 0 [tt 54]),
oo 56 (.call 30100 0 [tt 55]),
oo 10 (.alloc 104 [.sl (.own false) .int [], .sl (.own false) .ints [], .sl (.own false) .bool [], .bool false]),
on (.store 4 (tt 10) (tt 56)) []])
 (.seq (.seq (rr [oo 57 (.load 4 true false (tt 10)),
oo 58 (.load 4 true false (tt 4)),
oo 59 (.call 31000 0 [tt 57, tt 58]),
oo 60 (.un .not (tt 59))])
 (.cond (tt 60) (.seq (rr [oo 2 (.mv (.const (.bool false)))])
 .ret) .skip))
 (.seq (rr [oo 9 (.mv (nn 1))])
 (.seq (rr [oo 61 (.load 4 true false (tt 6)),
oo 62 (.mv (tt 9)),
oo 63 (.tr (.call .view 31600 [tt 61, tt 62])),
oo 9 (.mv (tt 63))])
 (.seq (.seq (rr [oo 64 (.mv (tt 9)),
oo 65 (.bin .lss (tt 64) (nn 0))])
 (.cond (tt 65) (.seq (rr [oo 2 (.mv (.const (.bool false)))])
 .ret) .skip))
 (.seq (.seq (rr [oo 66 (.mv (tt 9)),
oo 67 (.mv (tt 8)),
oo 68 (.bin .neq (tt 66) (tt 67))])
 (.cond (tt 68) (.seq (rr [oo 2 (.mv (.const (.bool false)))])
 .ret) .skip))
 (.seq (rr [oo 2 (.mv (.const (.bool true)))])
 .ret))))))))))))))))))))))))) }
noncomputable def p38700 : ProcT := { kind := .fn, ins := [0, 1], bins := [99], res := [.tmp 4], code := (.seq (rr [oo 4 (.mv (nn 0))])
 (.seq (.seq (rr [oo 5 (.mv (nn 0))])
 (.block 0 (.label 38701)))
 (.seq (rr [oo 18 (.mv (tt 1)),
oo 4 (.mv (tt 18))])
 .ret))) }
noncomputable def p38701 : ProcT := { kind := .loop, ins := [0, 1, 5], bins := [99], outs := [1, 4], bouts := [99], code := (.seq (.seq (rr [oo 6 (.mv (tt 5)),
oo 7 (.mv (tt 0)),
oo 8 (.tr (.len (tt 7))),
oo 9 (.bin .lss (tt 6) (tt 8))])
 (.cond (tt 9) .skip (.exit 0)))
 (.seq (.block 1 (.seq (rr [oo 12 (.mv (tt 0)),
oo 13 (.mv (tt 5)),
oo 14 (.mv (tt 1)),
oo 15 (.tr (.iadr 1 (tt 12) (tt 13))),
on (.tr (.store 1 (tt 15) (tt 14))) []])
 (rr [oo 16 (.mv (tt 1)),
oo 17 (.bin .add (tt 16) (nn 1)),
oo 1 (.mv (tt 17))])))
 (rr [oo 10 (.mv (tt 5)),
oo 11 (.bin .add (tt 10) (nn 1)),
oo 5 (.mv (tt 11))]))) }
noncomputable def p39600 : ProcT := { kind := .fn, ins := [0], bins := [99], res := [.tmp 2], code := (.seq (rr [oo 2 (.mv (.const (.tr .int none 0)))])
 (.seq (rr [oo 5 (.mv (tt 0)),
oo 6 (.len (tt 5)),
oo 7 (.tr (.mk .int (tt 6) (tt 6))),
oo 3 (.mv (tt 7))])
 (.seq (.seq (rr [oo 4 (.mv (nn 0))])
 (.block 0 (.label 39601)))
 (.seq (rr [oo 21 (.mv (tt 3)),
oo 2 (.mv (tt 21))])
 .ret)))) }
noncomputable def p39601 : ProcT := { kind := .loop, ins := [0, 3, 4], bins := [99], outs := [2, 3], bouts := [99], code := (.seq (.seq (rr [oo 8 (.mv (tt 4)),
oo 9 (.mv (tt 0)),
oo 10 (.len (tt 9)),
oo 11 (.bin .lss (tt 8) (tt 10))])
 (.cond (tt 11) .skip (.exit 0)))
 (.seq (.block 1 (rr [oo 14 (.mv (tt 3)),
oo 15 (.mv (tt 4)),
oo 16 (.mv (tt 0)),
oo 17 (.mv (tt 4)),
oo 18 (.iadr 1 (tt 16) (tt 17)),
oo 19 (.load 1 false false (tt 18)),
oo 20 (.tr (.iadr 1 (tt 14) (tt 15))),
on (.tr (.store 1 (tt 20) (tt 19))) []]))
 (rr [oo 12 (.mv (tt 4)),
oo 13 (.bin .add (tt 12) (nn 1)),
oo 4 (.mv (tt 13))]))) }
noncomputable def p39800 : ProcT := { kind := .fn, ins := [0, 1, 2], bins := [99], res := [.cell 6 4 true], code := (.seq (rr [oo 6 (.alloc 100 [.sl (.own false) .int [], .sl (.own false) .ints [], .tr .bool none 0, .bool false])])
 (.seq (rr [oo 10 (.mv (tt 0)),
oo 11 (.call 16700 0 [tt 10]),
oo 12 (.mv (tt 2)),
oo 13 (.build [.sl (.own false) .int [], .sl (.own false) .ints [], .tr .bool none 0, .bool false] [(0, 1, tt 11), (3, 1, tt 12)]),
oo 7 (.alloc 101 [.sl (.own false) .int [], .sl (.own false) .ints [], .tr .bool none 0, .bool false]),
on (.store 4 (tt 7) (tt 13)) []])
 (.seq (.seq (rr [oo 14 (.mv (tt 1)),
oo 15 (.len (tt 14)),
oo 16 (.mv (nn 0))])
 (.block 0 (.label 39801)))
 (.seq (rr [oo 29 (.load 4 true false (tt 7)),
on (.store 4 (tt 6) (tt 29)) []])
 .ret)))) }
noncomputable def p39801 : ProcT := { kind := .loop, ins := [6, 7, 14, 15, 16], bins := [100, 101, 99], outs := [6, 7], bouts := [100, 101, 99], code := (.seq (rr [oo 17 (.bin .lss (tt 16) (tt 15))])
 (.seq (.cond (tt 17) .skip (.exit 0))
 (.seq (.block 1 (.seq (rr [oo 18 (.iadr 2 (tt 14) (tt 16)),
oo 19 (.load 2 true false (tt 18)),
oo 9 (.alloc 102 [.int .i64 0, .sl (.own false) .int []]),
on (.store 2 (tt 9) (tt 19)) []])
 (.region true [op 20 (.fadr 1 (tt 7)) [101],
op 21 (.load 1 false true (tt 20)) [101],
op 22 (.fadr 1 (tt 9)) [102],
op 23 (.load 1 false false (tt 22)) [102],
oo 24 (.call 16700 0 [tt 23]),
oo 25 (.buildS .full .ints [tt 24]),
oo 26 (.app 1 (.take 21) (tt 25)),
op 27 (.fadr 1 (tt 7)) [101],
on (.store 1 (tt 27) (.take 26)) [101]])))
 (rr [oo 28 (.bin .add (tt 16) (nn 1)),
oo 16 (.mv (tt 28))])))) }
noncomputable def p40800 : ProcT := { kind := .fn, ins := [0], bins := [99], res := [.tmp 2], code := (.seq (rr [oo 2 (.mv (.const (.tr .stmH none 0)))])
 (.seq (rr [oo 5 (.mv (tt 0)),
oo 6 (.len (tt 5)),
oo 7 (.tr (.mk .stmH (tt 6) (tt 6))),
oo 3 (.mv (tt 7))])
 (.seq (.seq (rr [oo 4 (.mv (nn 0))])
 (.block 0 (.label 40801)))
 (.seq (rr [oo 22 (.mv (tt 3)),
oo 2 (.mv (tt 22))])
 .ret)))) }
noncomputable def p40801 : ProcT := { kind := .loop, ins := [0, 3, 4], bins := [99], outs := [2, 3], bouts := [99], code := (.seq (.seq (rr [oo 8 (.mv (tt 4)),
oo 9 (.mv (tt 0)),
oo 10 (.len (tt 9)),
oo 11 (.bin .lss (tt 8) (tt 10))])
 (.cond (tt 11) .skip (.exit 0)))
 (.seq (.block 1 (rr [oo 14 (.mv (tt 3)),
oo 15 (.mv (tt 4)),
oo 16 (.mv (tt 0)),
oo 17 (.mv (tt 4)),
oo 18 (.iadr 8 (tt 16) (tt 17)),
oo 19 (.load 8 true false (tt 18)),
oo 20 (.tr (.call .pass 41200 [tt 19])),
oo 21 (.tr (.iadr 8 (tt 14) (tt 15))),
on (.tr (.store 8 (tt 21) (tt 20))) []]))
 (rr [oo 12 (.mv (tt 4)),
oo 13 (.bin .add (tt 12) (nn 1)),
oo 4 (.mv (tt 13))]))) }
noncomputable def p40900 : ProcT := { kind := .fn, ins := [0, 1], bins := [99], res := [.tmp 4], code := (.seq (rr [oo 4 (.mv (nn 0))])
 (.seq (.seq (rr [oo 5 (.mv (nn 0))])
 (.block 0 (.label 40901)))
 (.seq (rr [oo 71 (.mv (tt 1)),
oo 4 (.mv (tt 71))])
 .ret))) }
noncomputable def p40901 : ProcT := { kind := .loop, ins := [0, 1, 5], bins := [99], outs := [1, 4], bouts := [99], code := (.seq (.seq (rr [oo 6 (.mv (tt 5)),
oo 7 (.mv (tt 0)),
oo 8 (.tr (.len (tt 7))),
oo 9 (.bin .lss (tt 6) (tt 8))])
 (.cond (tt 9) .skip (.exit 0)))
 (.seq (.block 1 (.seq (rr [oo 12 (.mv (tt 0)),
oo 13 (.mv (tt 5)),
oo 14 (.mv (tt 1)),
oo 15 (.tr (.iadr 8 (tt 12) (tt 13))),
oo 16 (.tr (.fadr 0 (tt 15))),
on (.tr (.store 1 (tt 16) (tt 14))) []])
 (.seq (rr [oo 17 (.mv (tt 1)),
oo 18 (.bin .add (tt 17) (nn 1)),
oo 1 (.mv (tt 18))])
 (.seq (rr [oo 19 (.mv (tt 0)),
oo 20 (.mv (tt 5)),
oo 21 (.mv (tt 1)),
oo 22 (.tr (.iadr 8 (tt 19) (tt 20))),
oo 23 (.tr (.fadr 1 (tt 22))),
on (.tr (.store 1 (tt 23) (tt 21))) []])
 (.seq (rr [oo 24 (.mv (tt 1)),
oo 25 (.bin .add (tt 24) (nn 1)),
oo 1 (.mv (tt 25))])
 (.seq (rr [oo 26 (.mv (tt 0)),
oo 27 (.mv (tt 5)),
oo 28 (.mv (tt 1)),
oo 29 (.tr (.iadr 8 (tt 26) (tt 27))),
oo 30 (.tr (.fadr 2 (tt 29))),
on (.tr (.store 1 (tt 30) (tt 28))) []])
 (.seq (rr [oo 31 (.mv (tt 1)),
oo 32 (.bin .add (tt 31) (nn 1)),
oo 1 (.mv (tt 32))])
 (.seq (rr [oo 33 (.mv (tt 0)),
oo 34 (.mv (tt 5)),
oo 35 (.mv (tt 1)),
oo 36 (.tr (.iadr 8 (tt 33) (tt 34))),
oo 37 (.tr (.fadr 3 (tt 36))),
oo 38 (.tr (.fadr 0 (tt 37))),
on (.tr (.store 1 (tt 38) (tt 35))) []])
 (.seq (rr [oo 39 (.mv (tt 1)),
oo 40 (.bin .add (tt 39) (nn 1)),
oo 1 (.mv (tt 40))])
 (.seq (rr [oo 41 (.mv (tt 0)),
oo 42 (.mv (tt 5)),
oo 43 (.mv (tt 1)),
oo 44 (.tr (.iadr 8 (tt 41) (tt 42))),
oo 45 (.tr (.fadr 3 (tt 44))),
oo 46 (.tr (.fadr 1 (tt 45))),
on (.tr (.store 1 (tt 46) (tt 43))) []])
 (.seq (rr [oo 47 (.mv (tt 1)),
oo 48 (.bin .add (tt 47) (nn 1)),
oo 1 (.mv (tt 48))])
 (.seq (rr [oo 49 (.mv (tt 0)),
oo 50 (.mv (tt 5)),
oo 51 (.tr (.iadr 8 (tt 49) (tt 50))),
oo 52 (.tr (.fadr 3 (tt 51))),
oo 53 (.tr (.fadr 2 (tt 52))),
oo 54 (.tr (.load 1 false (tt 53))),
oo 55 (.mv (tt 1)),
oo 56 (.tr (.call .pass 41300 [tt 54, tt 55])),
oo 1 (.mv (tt 56))])
 (.seq (rr [oo 57 (.mv (tt 0)),
oo 58 (.mv (tt 5)),
oo 59 (.tr (.iadr 8 (tt 57) (tt 58))),
oo 60 (.tr (.fadr 6 (tt 59))),
oo 61 (.tr (.load 1 false (tt 60))),
oo 62 (.mv (tt 1)),
oo 63 (.tr (.call .pass 40900 [tt 61, tt 62])),
oo 1 (.mv (tt 63))])
 (rr [oo 64 (.mv (tt 0)),
oo 65 (.mv (tt 5)),
oo 66 (.tr (.iadr 8 (tt 64) (tt 65))),
oo 67 (.tr (.fadr 7 (tt 66))),
oo 68 (.tr (.load 1 false (tt 67))),
oo 69 (.mv (tt 1)),
oo 70 (.tr (.call .pass 40900 [tt 68, tt 69])),
oo 1 (.mv (tt 70))]))))))))))))))
 (rr [oo 10 (.mv (tt 5)),
oo 11 (.bin .add (tt 10) (nn 1)),
oo 5 (.mv (tt 11))]))) }
noncomputable def p41200 : ProcT := { kind := .fn, ins := [0], bins := [99], res := [.cell 2 8 true], code := (.seq (rr [oo 1 (.box 100 (tt 0)),
oo 2 (.alloc 101 [.int .i64 0, .int .i64 0, .int .i64 0, .int .i64 0, .int .i64 0, .tr .expH none 0, .tr .stmH none 0, .tr .stmH none 0])])
 (.seq (rr [oo 3 (.alloc 102 [.int .i64 0, .int .i64 0, .int .i64 0, .int .i64 0, .int .i64 0, .tr .expH none 0, .tr .stmH none 0, .tr .stmH none 0])])
 (.seq (rr [oo 4 (.fadr 0 (tt 1)),
oo 5 (.load 1 false false (tt 4)),
oo 6 (.fadr 0 (tt 3)),
on (.store 1 (tt 6) (tt 5)) []])
 (.seq (rr [oo 7 (.fadr 1 (tt 1)),
oo 8 (.load 1 false false (tt 7)),
oo 9 (.fadr 1 (tt 3)),
on (.store 1 (tt 9) (tt 8)) []])
 (.seq (rr [oo 10 (.fadr 2 (tt 1)),
oo 11 (.load 1 false false (tt 10)),
oo 12 (.fadr 2 (tt 3)),
on (.store 1 (tt 12) (tt 11)) []])
 (.seq (rr [oo 13 (.fadr 3 (tt 1)),
oo 14 (.load 3 true false (tt 13)),
oo 15 (.tr (.call .pass 41500 [tt 14])),
oo 16 (.fadr 3 (tt 3)),
on (.store 3 (tt 16) (tt 15)) []])
 (.seq (rr [oo 17 (.fadr 6 (tt 1)),
oo 18 (.load 1 false false (tt 17)),
oo 19 (.tr (.call .pass 40800 [tt 18])),
oo 20 (.fadr 6 (tt 3)),
on (.store 1 (tt 20) (tt 19)) []])
 (.seq (rr [oo 21 (.fadr 7 (tt 1)),
oo 22 (.load 1 false false (tt 21)),
oo 23 (.tr (.call .pass 40800 [tt 22])),
oo 24 (.fadr 7 (tt 3)),
on (.store 1 (tt 24) (tt 23)) []])
 (.seq (rr [oo 25 (.load 8 true false (tt 3)),
on (.store 8 (tt 2) (tt 25)) []])
 .ret))))))))) }
noncomputable def p41300 : ProcT := { kind := .fn, ins := [0, 1], bins := [99], res := [.tmp 4], code := (.seq (rr [oo 4 (.mv (nn 0))])
 (.seq (.seq (rr [oo 5 (.mv (nn 0))])
 (.block 0 (.label 41301)))
 (.seq (rr [oo 33 (.mv (tt 1)),
oo 4 (.mv (tt 33))])
 .ret))) }
noncomputable def p41301 : ProcT := { kind := .loop, ins := [0, 1, 5], bins := [99], outs := [1, 4], bouts := [99], code := (.seq (.seq (rr [oo 6 (.mv (tt 5)),
oo 7 (.mv (tt 0)),
oo 8 (.tr (.len (tt 7))),
oo 9 (.bin .lss (tt 6) (tt 8))])
 (.cond (tt 9) .skip (.exit 0)))
 (.seq (.block 1 (.seq (rr [oo 12 (.mv (tt 0)),
oo 13 (.mv (tt 5)),
oo 14 (.mv (tt 1)),
oo 15 (.tr (.iadr 3 (tt 12) (tt 13))),
oo 16 (.tr (.fadr 0 (tt 15))),
on (.tr (.store 1 (tt 16) (tt 14))) []])
 (.seq (rr [oo 17 (.mv (tt 1)),
oo 18 (.bin .add (tt 17) (nn 1)),
oo 1 (.mv (tt 18))])
 (.seq (rr [oo 19 (.mv (tt 0)),
oo 20 (.mv (tt 5)),
oo 21 (.mv (tt 1)),
oo 22 (.tr (.iadr 3 (tt 19) (tt 20))),
oo 23 (.tr (.fadr 1 (tt 22))),
on (.tr (.store 1 (tt 23) (tt 21))) []])
 (.seq (rr [oo 24 (.mv (tt 1)),
oo 25 (.bin .add (tt 24) (nn 1)),
oo 1 (.mv (tt 25))])
 (rr [oo 26 (.mv (tt 0)),
oo 27 (.mv (tt 5)),
oo 28 (.tr (.iadr 3 (tt 26) (tt 27))),
oo 29 (.tr (.fadr 2 (tt 28))),
oo 30 (.tr (.load 1 false (tt 29))),
oo 31 (.mv (tt 1)),
oo 32 (.tr (.call .pass 41300 [tt 30, tt 31])),
oo 1 (.mv (tt 32))]))))))
 (rr [oo 10 (.mv (tt 5)),
oo 11 (.bin .add (tt 10) (nn 1)),
oo 5 (.mv (tt 11))]))) }
noncomputable def p41500 : ProcT := { kind := .fn, ins := [0], bins := [99], res := [.cell 2 3 true], code := (.seq (rr [oo 1 (.box 100 (tt 0)),
oo 2 (.alloc 101 [.int .i64 0, .int .i64 0, .tr .expH none 0])])
 (.seq (rr [oo 3 (.alloc 102 [.int .i64 0, .int .i64 0, .tr .expH none 0])])
 (.seq (rr [oo 4 (.fadr 0 (tt 1)),
oo 5 (.load 1 false false (tt 4)),
oo 6 (.fadr 0 (tt 3)),
on (.store 1 (tt 6) (tt 5)) []])
 (.seq (rr [oo 7 (.fadr 1 (tt 1)),
oo 8 (.load 1 false false (tt 7)),
oo 9 (.fadr 1 (tt 3)),
on (.store 1 (tt 9) (tt 8)) []])
 (.seq (rr [oo 10 (.fadr 2 (tt 1)),
oo 11 (.load 1 false false (tt 10)),
oo 12 (.tr (.call .pass 41600 [tt 11])),
oo 13 (.fadr 2 (tt 3)),
on (.store 1 (tt 13) (tt 12)) []])
 (.seq (rr [oo 14 (.load 3 true false (tt 3)),
on (.store 3 (tt 2) (tt 14)) []])
 .ret)))))) }
noncomputable def p41600 : ProcT := { kind := .fn, ins := [0], bins := [99], res := [.tmp 2], code := (.seq (rr [oo 2 (.mv (.const (.tr .expH none 0)))])
 (.seq (rr [oo 5 (.mv (tt 0)),
oo 6 (.len (tt 5)),
oo 7 (.tr (.mk .expH (tt 6) (tt 6))),
oo 3 (.mv (tt 7))])
 (.seq (.seq (rr [oo 4 (.mv (nn 0))])
 (.block 0 (.label 41601)))
 (.seq (rr [oo 22 (.mv (tt 3)),
oo 2 (.mv (tt 22))])
 .ret)))) }
noncomputable def p41601 : ProcT := { kind := .loop, ins := [0, 3, 4], bins := [99], outs := [2, 3], bouts := [99], code := (.seq (.seq (rr [oo 8 (.mv (tt 4)),
oo 9 (.mv (tt 0)),
oo 10 (.len (tt 9)),
oo 11 (.bin .lss (tt 8) (tt 10))])
 (.cond (tt 11) .skip (.exit 0)))
 (.seq (.block 1 (rr [oo 14 (.mv (tt 3)),
oo 15 (.mv (tt 4)),
oo 16 (.mv (tt 0)),
oo 17 (.mv (tt 4)),
oo 18 (.iadr 3 (tt 16) (tt 17)),
oo 19 (.load 3 true false (tt 18)),
oo 20 (.tr (.call .pass 41500 [tt 19])),
oo 21 (.tr (.iadr 3 (tt 14) (tt 15))),
on (.tr (.store 3 (tt 21) (tt 20))) []]))
 (rr [oo 12 (.mv (tt 4)),
oo 13 (.bin .add (tt 12) (nn 1)),
oo 4 (.mv (tt 13))]))) }
noncomputable def p41700 : ProcT := { kind := .fn, ins := [0], bins := [99], res := [.cell 2 2 true], code := (.seq (rr [oo 1 (.box 100 (tt 0)),
oo 2 (.alloc 101 [.tr .int none 0, .tr .stmH none 0])])
 (.seq (rr [oo 3 (.alloc 102 [.tr .int none 0, .tr .stmH none 0])])
 (.seq (rr [oo 4 (.fadr 0 (tt 1)),
oo 5 (.load 1 false false (tt 4)),
oo 6 (.tr (.call .pass 39600 [tt 5])),
oo 7 (.fadr 0 (tt 3)),
on (.store 1 (tt 7) (tt 6)) []])
 (.seq (rr [oo 8 (.fadr 1 (tt 1)),
oo 9 (.load 1 false false (tt 8)),
oo 10 (.tr (.call .pass 40800 [tt 9])),
oo 11 (.fadr 1 (tt 3)),
on (.store 1 (tt 11) (tt 10)) []])
 (.seq (rr [oo 12 (.load 2 true false (tt 3)),
on (.store 2 (tt 2) (tt 12)) []])
 .ret))))) }
noncomputable def p41900 : ProcT := { kind := .fn, ins := [0], bins := [99], res := [.cell 2 5 true], code := (.seq (rr [oo 1 (.box 100 (tt 0)),
oo 2 (.alloc 101 [.tr .tkH none 0, .tr .bxH none 0, .int .i64 0, .int .i64 0, .tr .int none 0])])
 (.seq (rr [oo 3 (.alloc 102 [.tr .tkH none 0, .tr .bxH none 0, .int .i64 0, .int .i64 0, .tr .int none 0])])
 (.seq (rr [oo 4 (.fadr 0 (tt 1)),
oo 5 (.load 1 false false (tt 4)),
oo 6 (.tr (.call .pass 42600 [tt 5])),
oo 7 (.fadr 0 (tt 3)),
on (.store 1 (tt 7) (tt 6)) []])
 (.seq (rr [oo 8 (.fadr 1 (tt 1)),
oo 9 (.load 1 false false (tt 8)),
oo 10 (.tr (.call .pass 42700 [tt 9])),
oo 11 (.fadr 1 (tt 3)),
on (.store 1 (tt 11) (tt 10)) []])
 (.seq (rr [oo 12 (.fadr 2 (tt 1)),
oo 13 (.load 1 false false (tt 12)),
oo 14 (.fadr 2 (tt 3)),
on (.store 1 (tt 14) (tt 13)) []])
 (.seq (rr [oo 15 (.fadr 3 (tt 1)),
oo 16 (.load 1 false false (tt 15)),
oo 17 (.fadr 3 (tt 3)),
on (.store 1 (tt 17) (tt 16)) []])
 (.seq (rr [oo 18 (.fadr 4 (tt 1)),
oo 19 (.load 1 false false (tt 18)),
oo 20 (.tr (.call .pass 39600 [tt 19])),
oo 21 (.fadr 4 (tt 3)),
on (.store 1 (tt 21) (tt 20)) []])
 (.seq (rr [oo 22 (.load 5 true false (tt 3)),
on (.store 5 (tt 2) (tt 22)) []])
 .ret)))))))) }
noncomputable def p42200 : ProcT := { kind := .fn, ins := [0, 1], bins := [99], res := [.tmp 4], code := (.seq (rr [oo 2 (.box 100 (tt 0)),
oo 4 (.mv (nn 0))])
 (.seq (rr [oo 5 (.fadr 0 (tt 2)),
oo 6 (.load 1 false false (tt 5)),
oo 7 (.mv (tt 1)),
oo 8 (.tr (.call .pass 43000 [tt 6, tt 7])),
oo 1 (.mv (tt 8))])
 (.seq (rr [oo 9 (.fadr 1 (tt 2)),
oo 10 (.load 1 false false (tt 9)),
oo 11 (.mv (tt 1)),
oo 12 (.tr (.call .pass 43100 [tt 10, tt 11])),
oo 1 (.mv (tt 12))])
 (.seq (rr [oo 13 (.fadr 4 (tt 2)),
oo 14 (.load 1 false false (tt 13)),
oo 15 (.mv (tt 1)),
oo 16 (.tr (.call .pass 38700 [tt 14, tt 15])),
oo 1 (.mv (tt 16))])
 (.seq (rr [oo 17 (.mv (tt 1)),
oo 4 (.mv (tt 17))])
 .ret))))) }
noncomputable def p42300 : ProcT := { kind := .fn, ins := [0], bins := [99], res := [.cell 2 4 true], code := (.seq (rr [oo 1 (.box 100 (tt 0)),
oo 2 (.alloc 101 [.tr .int none 0, .tr .intsH none 0, .tr .bool none 0, .bool false])])
 (.seq (.seq (rr [oo 6 (.load 5 true false (tt 1)),
oo 7 (.call 24000 0 [tt 6]),
oo 8 (.un .not (tt 7))])
 (.cond (tt 8) (.seq (rr [oo 9 (.build [.tr .int none 0, .tr .intsH none 0, .tr .bool none 0, .bool false] []),
on (.store 4 (tt 2) (tt 9)) []])
 .ret) .skip))
 (.seq (rr [oo 10 (.fadr 4 (tt 1)),
oo 11 (.load 1 false false (tt 10)),
oo 12 (.fadr 1 (tt 1)),
oo 13 (.load 1 false false (tt 12)),
oo 14 (.fadr 3 (tt 1)),
oo 15 (.load 1 false false (tt 14)),
oo 16 (.fadr 0 (tt 1)),
oo 17 (.load 1 false false (tt 16)),
oo 18 (.len (tt 17)),
oo 19 (.bin .eql (tt 15) (tt 18)),
oo 20 (.tr (.call .pass 43200 [tt 11, tt 13, tt 19])),
oo 3 (.alloc 102 [.tr .int none 0, .tr .intsH none 0, .tr .bool none 0, .bool false]),
on (.store 4 (tt 3) (tt 20)) []])
 (.seq (.seq (rr [oo 21 (.fadr 0 (tt 1)),
oo 22 (.load 1 false false (tt 21)),
oo 23 (.len (tt 22)),
oo 24 (.mv (nn 0))])
 (.block 0 (.label 42301)))
 (.seq (rr [oo 38 (.load 4 true false (tt 3)),
on (.store 4 (tt 2) (tt 38)) []])
 .ret))))) }
noncomputable def p42301 : ProcT := { kind := .loop, ins := [2, 3, 22, 23, 24], bins := [101, 102, 99], outs := [2, 3], bouts := [101, 102, 99], code := (.seq (rr [oo 25 (.bin .lss (tt 24) (tt 23))])
 (.seq (.cond (tt 25) .skip (.exit 0))
 (.seq (.block 1 (.seq (rr [oo 26 (.iadr 2 (tt 22) (tt 24)),
oo 27 (.load 2 true false (tt 26)),
oo 5 (.alloc 103 [.tr .int none 0, .tr .stmH none 0]),
on (.store 2 (tt 5) (tt 27)) []])
 (rr [oo 28 (.fadr 2 (tt 3)),
oo 29 (.load 1 false false (tt 28)),
oo 30 (.fadr 1 (tt 5)),
oo 31 (.load 1 false false (tt 30)),
oo 32 (.len (tt 31)),
oo 33 (.bin .eql (tt 32) (nn 0)),
oo 34 (.buildS .full .bool [tt 33]),
oo 35 (.tr (.app 1 (tt 29) (tt 34))),
oo 36 (.fadr 2 (tt 3)),
on (.store 1 (tt 36) (tt 35)) []])))
 (rr [oo 37 (.bin .add (tt 24) (nn 1)),
oo 24 (.mv (tt 37))])))) }
noncomputable def p42400 : ProcT := { kind := .fn, ins := [0, 1], bins := [99], res := [.tmp 4], code := (.seq (rr [oo 2 (.box 100 (tt 0)),
oo 4 (.mv (nn 0))])
 (.seq (rr [oo 5 (.fadr 0 (tt 2)),
oo 6 (.load 1 false false (tt 5)),
oo 7 (.mv (tt 1)),
oo 8 (.tr (.call .pass 38700 [tt 6, tt 7])),
oo 1 (.mv (tt 8))])
 (.seq (rr [oo 9 (.fadr 1 (tt 2)),
oo 10 (.load 1 false false (tt 9)),
oo 11 (.mv (tt 1)),
oo 12 (.tr (.call .pass 43300 [tt 10, tt 11])),
oo 1 (.mv (tt 12))])
 (.seq (rr [oo 13 (.fadr 2 (tt 2)),
oo 14 (.load 1 false false (tt 13)),
oo 15 (.mv (tt 1)),
oo 16 (.tr (.call .pass 43400 [tt 14, tt 15])),
oo 1 (.mv (tt 16))])
 (.seq (rr [oo 17 (.mv (tt 1)),
oo 4 (.mv (tt 17))])
 .ret))))) }
noncomputable def p42600 : ProcT := { kind := .fn, ins := [0], bins := [99], res := [.tmp 2], code := (.seq (rr [oo 2 (.mv (.const (.tr .tkH none 0)))])
 (.seq (rr [oo 5 (.mv (tt 0)),
oo 6 (.len (tt 5)),
oo 7 (.tr (.mk .tkH (tt 6) (tt 6))),
oo 3 (.mv (tt 7))])
 (.seq (.seq (rr [oo 4 (.mv (nn 0))])
 (.block 0 (.label 42601)))
 (.seq (rr [oo 22 (.mv (tt 3)),
oo 2 (.mv (tt 22))])
 .ret)))) }
noncomputable def p42601 : ProcT := { kind := .loop, ins := [0, 3, 4], bins := [99], outs := [2, 3], bouts := [99], code := (.seq (.seq (rr [oo 8 (.mv (tt 4)),
oo 9 (.mv (tt 0)),
oo 10 (.len (tt 9)),
oo 11 (.bin .lss (tt 8) (tt 10))])
 (.cond (tt 11) .skip (.exit 0)))
 (.seq (.block 1 (rr [oo 14 (.mv (tt 3)),
oo 15 (.mv (tt 4)),
oo 16 (.mv (tt 0)),
oo 17 (.mv (tt 4)),
oo 18 (.iadr 2 (tt 16) (tt 17)),
oo 19 (.load 2 true false (tt 18)),
oo 20 (.tr (.call .pass 41700 [tt 19])),
oo 21 (.tr (.iadr 2 (tt 14) (tt 15))),
on (.tr (.store 2 (tt 21) (tt 20))) []]))
 (rr [oo 12 (.mv (tt 4)),
oo 13 (.bin .add (tt 12) (nn 1)),
oo 4 (.mv (tt 13))]))) }
noncomputable def p42700 : ProcT := { kind := .fn, ins := [0], bins := [99], res := [.tmp 2], code := (.seq (rr [oo 2 (.mv (.const (.tr .bxH none 0)))])
 (.seq (rr [oo 5 (.mv (tt 0)),
oo 6 (.len (tt 5)),
oo 7 (.tr (.mk .bxH (tt 6) (tt 6))),
oo 3 (.mv (tt 7))])
 (.seq (.seq (rr [oo 4 (.mv (nn 0))])
 (.block 0 (.label 42701)))
 (.seq (rr [oo 22 (.mv (tt 3)),
oo 2 (.mv (tt 22))])
 .ret)))) }
noncomputable def p42701 : ProcT := { kind := .loop, ins := [0, 3, 4], bins := [99], outs := [2, 3], bouts := [99], code := (.seq (.seq (rr [oo 8 (.mv (tt 4)),
oo 9 (.mv (tt 0)),
oo 10 (.len (tt 9)),
oo 11 (.bin .lss (tt 8) (tt 10))])
 (.cond (tt 11) .skip (.exit 0)))
 (.seq (.block 1 (rr [oo 14 (.mv (tt 3)),
oo 15 (.mv (tt 4)),
oo 16 (.mv (tt 0)),
oo 17 (.mv (tt 4)),
oo 18 (.iadr 2 (tt 16) (tt 17)),
oo 19 (.load 2 true false (tt 18)),
oo 20 (.tr (.call .pass 43500 [tt 19])),
oo 21 (.tr (.iadr 2 (tt 14) (tt 15))),
on (.tr (.store 2 (tt 21) (tt 20))) []]))
 (rr [oo 12 (.mv (tt 4)),
oo 13 (.bin .add (tt 12) (nn 1)),
oo 4 (.mv (tt 13))]))) }
noncomputable def p43000 : ProcT := { kind := .fn, ins := [0, 1], bins := [99], res := [.tmp 4], code := (.seq (rr [oo 4 (.mv (nn 0))])
 (.seq (.seq (rr [oo 5 (.mv (nn 0))])
 (.block 0 (.label 43001)))
 (.seq (rr [oo 26 (.mv (tt 1)),
oo 4 (.mv (tt 26))])
 .ret))) }
noncomputable def p43001 : ProcT := { kind := .loop, ins := [0, 1, 5], bins := [99], outs := [1, 4], bouts := [99], code := (.seq (.seq (rr [oo 6 (.mv (tt 5)),
oo 7 (.mv (tt 0)),
oo 8 (.tr (.len (tt 7))),
oo 9 (.bin .lss (tt 6) (tt 8))])
 (.cond (tt 9) .skip (.exit 0)))
 (.seq (.block 1 (.seq (rr [oo 12 (.mv (tt 0)),
oo 13 (.mv (tt 5)),
oo 14 (.tr (.iadr 2 (tt 12) (tt 13))),
oo 15 (.tr (.fadr 0 (tt 14))),
oo 16 (.tr (.load 1 false (tt 15))),
oo 17 (.mv (tt 1)),
oo 18 (.tr (.call .pass 38700 [tt 16, tt 17])),
oo 1 (.mv (tt 18))])
 (rr [oo 19 (.mv (tt 0)),
oo 20 (.mv (tt 5)),
oo 21 (.tr (.iadr 2 (tt 19) (tt 20))),
oo 22 (.tr (.fadr 1 (tt 21))),
oo 23 (.tr (.load 1 false (tt 22))),
oo 24 (.mv (tt 1)),
oo 25 (.tr (.call .pass 40900 [tt 23, tt 24])),
oo 1 (.mv (tt 25))])))
 (rr [oo 10 (.mv (tt 5)),
oo 11 (.bin .add (tt 10) (nn 1)),
oo 5 (.mv (tt 11))]))) }
noncomputable def p43100 : ProcT := { kind := .fn, ins := [0, 1], bins := [99], res := [.tmp 4], code := (.seq (rr [oo 4 (.mv (nn 0))])
 (.seq (.seq (rr [oo 5 (.mv (nn 0))])
 (.block 0 (.label 43101)))
 (.seq (rr [oo 26 (.mv (tt 1)),
oo 4 (.mv (tt 26))])
 .ret))) }
noncomputable def p43101 : ProcT := { kind := .loop, ins := [0, 1, 5], bins := [99], outs := [1, 4], bouts := [99], code := (.seq (.seq (rr [oo 6 (.mv (tt 5)),
oo 7 (.mv (tt 0)),
oo 8 (.tr (.len (tt 7))),
oo 9 (.bin .lss (tt 6) (tt 8))])
 (.cond (tt 9) .skip (.exit 0)))
 (.seq (.block 1 (.seq (rr [oo 12 (.mv (tt 0)),
oo 13 (.mv (tt 5)),
oo 14 (.mv (tt 1)),
oo 15 (.tr (.iadr 2 (tt 12) (tt 13))),
oo 16 (.tr (.fadr 0 (tt 15))),
on (.tr (.store 1 (tt 16) (tt 14))) []])
 (.seq (rr [oo 17 (.mv (tt 1)),
oo 18 (.bin .add (tt 17) (nn 1)),
oo 1 (.mv (tt 18))])
 (rr [oo 19 (.mv (tt 0)),
oo 20 (.mv (tt 5)),
oo 21 (.tr (.iadr 2 (tt 19) (tt 20))),
oo 22 (.tr (.fadr 1 (tt 21))),
oo 23 (.tr (.load 1 false (tt 22))),
oo 24 (.mv (tt 1)),
oo 25 (.tr (.call .pass 38700 [tt 23, tt 24])),
oo 1 (.mv (tt 25))]))))
 (rr [oo 10 (.mv (tt 5)),
oo 11 (.bin .add (tt 10) (nn 1)),
oo 5 (.mv (tt 11))]))) }
noncomputable def p43200 : ProcT := { kind := .fn, ins := [0, 1, 2], bins := [99], res := [.cell 6 4 true], code := (.seq (rr [oo 6 (.alloc 100 [.tr .int none 0, .tr .intsH none 0, .tr .bool none 0, .bool false])])
 (.seq (rr [oo 10 (.mv (tt 0)),
oo 11 (.tr (.call .pass 38200 [tt 10])),
oo 12 (.mv (tt 2)),
oo 13 (.build [.tr .int none 0, .tr .intsH none 0, .tr .bool none 0, .bool false] [(0, 1, tt 11), (3, 1, tt 12)]),
oo 7 (.alloc 101 [.tr .int none 0, .tr .intsH none 0, .tr .bool none 0, .bool false]),
on (.store 4 (tt 7) (tt 13)) []])
 (.seq (.seq (rr [oo 14 (.mv (tt 1)),
oo 15 (.len (tt 14)),
oo 16 (.mv (nn 0))])
 (.block 0 (.label 43201)))
 (.seq (rr [oo 29 (.load 4 true false (tt 7)),
on (.store 4 (tt 6) (tt 29)) []])
 .ret)))) }
noncomputable def p43201 : ProcT := { kind := .loop, ins := [6, 7, 14, 15, 16], bins := [100, 101, 99], outs := [6, 7], bouts := [100, 101, 99], code := (.seq (rr [oo 17 (.bin .lss (tt 16) (tt 15))])
 (.seq (.cond (tt 17) .skip (.exit 0))
 (.seq (.block 1 (.seq (rr [oo 18 (.iadr 2 (tt 14) (tt 16)),
oo 19 (.load 2 true false (tt 18)),
oo 9 (.alloc 102 [.int .i64 0, .tr .int none 0]),
on (.store 2 (tt 9) (tt 19)) []])
 (.region true [op 20 (.fadr 1 (tt 7)) [101],
op 21 (.load 1 false false (tt 20)) [101],
op 22 (.fadr 1 (tt 9)) [102],
op 23 (.load 1 false false (tt 22)) [102],
op 24 (.tr (.call .pass 38200 [tt 23])) [99],
oo 25 (.buildS .full .intsH [tt 24]),
op 26 (.tr (.app 1 (tt 21) (tt 25))) [99],
op 27 (.fadr 1 (tt 7)) [101],
on (.store 1 (tt 27) (tt 26)) [101]])))
 (rr [oo 28 (.bin .add (tt 16) (nn 1)),
oo 16 (.mv (tt 28))])))) }
noncomputable def p43300 : ProcT := { kind := .fn, ins := [0, 1], bins := [99], res := [.tmp 4], code := (.seq (rr [oo 4 (.mv (nn 0))])
 (.seq (.seq (rr [oo 5 (.mv (nn 0))])
 (.block 0 (.label 43301)))
 (.seq (rr [oo 18 (.mv (tt 1)),
oo 4 (.mv (tt 18))])
 .ret))) }
noncomputable def p43301 : ProcT := { kind := .loop, ins := [0, 1, 5], bins := [99], outs := [1, 4], bouts := [99], code := (.seq (.seq (rr [oo 6 (.mv (tt 5)),
oo 7 (.mv (tt 0)),
oo 8 (.tr (.len (tt 7))),
oo 9 (.bin .lss (tt 6) (tt 8))])
 (.cond (tt 9) .skip (.exit 0)))
 (.seq (.block 1 (rr [oo 12 (.mv (tt 0)),
oo 13 (.mv (tt 5)),
oo 14 (.tr (.iadr 1 (tt 12) (tt 13))),
oo 15 (.tr (.load 1 false (tt 14))),
oo 16 (.mv (tt 1)),
oo 17 (.tr (.call .pass 38700 [tt 15, tt 16])),
oo 1 (.mv (tt 17))]))
 (rr [oo 10 (.mv (tt 5)),
oo 11 (.bin .add (tt 10) (nn 1)),
oo 5 (.mv (tt 11))]))) }
noncomputable def p43400 : ProcT := { kind := .fn, ins := [0, 1], bins := [99], res := [.tmp 4], code := (.seq (rr [oo 4 (.mv (nn 0))])
 (.seq (.seq (rr [oo 5 (.mv (nn 0))])
 (.block 0 (.label 43401)))
 (.seq (rr [oo 20 (.mv (tt 1)),
oo 4 (.mv (tt 20))])
 .ret))) }
noncomputable def p43401 : ProcT := { kind := .loop, ins := [0, 1, 5], bins := [99], outs := [1, 4], bouts := [99], code := (.seq (.seq (rr [oo 6 (.mv (tt 5)),
oo 7 (.mv (tt 0)),
oo 8 (.tr (.len (tt 7))),
oo 9 (.bin .lss (tt 6) (tt 8))])
 (.cond (tt 9) .skip (.exit 0)))
 (.seq (.block 1 (.seq (rr [oo 12 (.mv (tt 0)),
oo 13 (.mv (tt 5)),
oo 14 (.mv (tt 1)),
oo 15 (.bin .rem (tt 14) (nn 3)),
oo 16 (.bin .eql (tt 15) (nn 0)),
oo 17 (.tr (.iadr 1 (tt 12) (tt 13))),
on (.tr (.store 1 (tt 17) (tt 16))) []])
 (rr [oo 18 (.mv (tt 1)),
oo 19 (.bin .add (tt 18) (nn 1)),
oo 1 (.mv (tt 19))])))
 (rr [oo 10 (.mv (tt 5)),
oo 11 (.bin .add (tt 10) (nn 1)),
oo 5 (.mv (tt 11))]))) }
noncomputable def p43500 : ProcT := { kind := .fn, ins := [0], bins := [99], res := [.cell 2 2 true], code := (.seq (rr [oo 1 (.box 100 (tt 0)),
oo 2 (.alloc 101 [.int .i64 0, .tr .int none 0])])
 (.seq (rr [oo 3 (.alloc 102 [.int .i64 0, .tr .int none 0])])
 (.seq (rr [oo 4 (.fadr 0 (tt 1)),
oo 5 (.load 1 false false (tt 4)),
oo 6 (.fadr 0 (tt 3)),
on (.store 1 (tt 6) (tt 5)) []])
 (.seq (rr [oo 7 (.fadr 1 (tt 1)),
oo 8 (.load 1 false false (tt 7)),
oo 9 (.tr (.call .pass 39600 [tt 8])),
oo 10 (.fadr 1 (tt 3)),
on (.store 1 (tt 10) (tt 9)) []])
 (.seq (rr [oo 11 (.load 2 true false (tt 3)),
on (.store 2 (tt 2) (tt 11)) []])
 .ret))))) }
noncomputable def p16700 : ProcT := { kind := .prim, ins := [], bins := [], code := .skip, pf := Vs.cloneF, pa := Vs.cloneA }
noncomputable def p38200 : ProcT := { kind := .prim, ins := [], bins := [], code := .skip, pf := Vs.cloneF, pa := Vs.cloneA }
noncomputable def tab : List (Nat × ProcT) := [(1000, p1000), (1100, p1100), (1200, p1200), (1600, p1600), (1700, p1700), (1800, p1800), (1900, p1900), (4000, p4000), (4001, p4001), (5000, p5000), (5100, p5100), (5101, p5101), (5200, p5200), (5300, p5300), (5301, p5301), (5400, p5400), (5500, p5500), (5501, p5501), (5700, p5700), (5800, p5800), (5900, p5900), (6000, p6000), (6100, p6100), (6200, p6200), (6201, p6201), (6300, p6300), (6400, p6400), (6500, p6500), (6501, p6501), (6600, p6600), (6601, p6601), (6800, p6800), (6801, p6801), (6900, p6900), (7000, p7000), (7100, p7100), (7101, p7101), (7200, p7200), (7300, p7300), (7400, p7400), (7401, p7401), (7500, p7500), (7600, p7600), (7700, p7700), (7701, p7701), (7800, p7800), (7801, p7801), (7900, p7900), (8000, p8000), (8001, p8001), (8100, p8100), (8200, p8200), (8300, p8300), (8301, p8301), (8400, p8400), (8401, p8401), (8500, p8500), (10600, p10600), (10601, p10601), (11100, p11100), (16700, p16700), (17600, p17600), (17800, p17800), (19000, p19000), (23100, p23100), (23101, p23101), (23800, p23800), (23900, p23900), (23901, p23901), (24000, p24000), (24001, p24001), (24200, p24200), (24201, p24201), (24300, p24300), (24400, p24400), (24401, p24401), (24500, p24500), (24600, p24600), (24601, p24601), (24700, p24700), (24701, p24701), (24800, p24800), (24801, p24801), (24900, p24900), (25000, p25000), (25001, p25001), (25100, p25100), (25200, p25200), (25201, p25201), (25300, p25300), (25301, p25301), (25400, p25400), (30100, p30100), (30101, p30101), (30200, p30200), (30201, p30201), (30300, p30300), (30301, p30301), (30800, p30800), (30801, p30801), (30900, p30900), (30901, p30901), (31000, p31000), (31400, p31400), (31401, p31401), (31500, p31500), (31501, p31501), (31600, p31600), (31700, p31700), (38200, p38200), (38700, p38700), (38701, p38701), (39600, p39600), (39601, p39601), (39800, p39800), (39801, p39801), (40800, p40800), (40801, p40801), (40900, p40900), (40901, p40901), (41200, p41200), (41300, p41300), (41301, p41301), (41500, p41500), (41600, p41600), (41601, p41601), (41700, p41700), (41900, p41900), (42200, p42200), (42300, p42300), (42301, p42301), (42400, p42400), (42600, p42600), (42601, p42601), (42700, p42700), (42701, p42701), (43000, p43000), (43001, p43001), (43100, p43100), (43101, p43101), (43200, p43200), (43201, p43201), (43300, p43300), (43301, p43301), (43400, p43400), (43401, p43401), (43500, p43500)]
noncomputable abbrev Tb : Nat → Option ProcT := (Vs.look · tab)
@[reducible] def s1000 : Sig := [⟨.ret, [.one], [], [.h (.bool)]⟩]
@[reducible] def s1100 : Sig := [⟨.ret, [.one], [], [.h (.bool)]⟩]
@[reducible] def s1200 : Sig := [⟨.ret, [.one], [], [.h (.bool)]⟩]
@[reducible] def s1600 : Sig := [⟨.ret, [.one], [], [.h (.bool)]⟩]
@[reducible] def s1700 : Sig := [⟨.ret, [.one], [], [.h (.bool)]⟩]
@[reducible] def s1800 : Sig := [⟨.ret, [.one], [], [.h (.bool)]⟩]
@[reducible] def s1900 : Sig := [⟨.ret, [.one], [], [.h (.bool)]⟩]
@[reducible] def s4000 : Sig := [⟨.ret, [.one], [], [.h (.int .i64)]⟩]
@[reducible] def s4001 : Sig := [⟨.exit 0, [.one, .one], [], [.undef, .h (.int .i64)]⟩]
@[reducible] def s5000 : Sig := [⟨.ret, [.one], [], [.h (.bool)]⟩]
@[reducible] def s5100 : Sig := [⟨.ret, [.one], [], [.h (.bool)]⟩]
@[reducible] def s5101 : Sig := [⟨.exit 0, [.one], [], [.undef]⟩, ⟨.ret, [.one], [], [.h (.bool)]⟩]
@[reducible] def s5200 : Sig := [⟨.ret, [.one], [], [.h (.bool)]⟩]
@[reducible] def s5300 : Sig := [⟨.ret, [.one], [.var 1], [.h (.bool), .h (.int .i64)]⟩]
@[reducible] def s5301 : Sig := [⟨.exit 0, [.one, .one], [.var 1], [.bp 0 0, .undef, .h (.int .i64)]⟩, ⟨.ret, [.one, .one], [.var 1], [.bp 0 0, .h (.bool), .h (.int .i64)]⟩]
@[reducible] def s5400 : Sig := [⟨.ret, [.one], [], [.h (.bool)]⟩]
@[reducible] def s5500 : Sig := [⟨.ret, [.one], [], [.h (.bool)]⟩]
@[reducible] def s5501 : Sig := [⟨.exit 0, [.one], [], [.undef]⟩, ⟨.ret, [.one], [], [.h (.bool)]⟩]
@[reducible] def s5700 : Sig := [⟨.ret, [.one], [], [.h (.bool)]⟩]
@[reducible] def s5800 : Sig := [⟨.ret, [.one], [], [.h (.bool)]⟩]
@[reducible] def s5900 : Sig := [⟨.ret, [.one], [], [.h (.bool)]⟩]
@[reducible] def s6000 : Sig := [⟨.ret, [.one], [], [.h (.bool)]⟩]
@[reducible] def s6100 : Sig := [⟨.ret, [.one], [], [.h (.bool)]⟩]
@[reducible] def s6200 : Sig := [⟨.ret, [.one], [], [.h (.bool)]⟩]
@[reducible] def s6201 : Sig := [⟨.exit 0, [.one], [], [.undef]⟩, ⟨.ret, [.one], [], [.h (.bool)]⟩]
@[reducible] def s6300 : Sig := [⟨.ret, [.one], [], [.h (.bool)]⟩]
@[reducible] def s6400 : Sig := [⟨.ret, [.one], [], [.h (.bool)]⟩]
@[reducible] def s6500 : Sig := [⟨.ret, [.one], [], [.h (.bool)]⟩]
@[reducible] def s6501 : Sig := [⟨.exit 0, [.one], [], [.undef]⟩, ⟨.ret, [.one], [], [.h (.bool)]⟩]
@[reducible] def s6600 : Sig := [⟨.ret, [.one], [], [.h (.bool)]⟩]
@[reducible] def s6601 : Sig := [⟨.exit 0, [.one, .one], [.var 2], [.bp 100 0, .undef, .h (.sl .int), .h (.sl .stm)]⟩, ⟨.ret, [.one, .one], [.var 2], [.bp 100 0, .h (.bool), .h (.sl .int), .h (.sl .stm)]⟩]
@[reducible] def s6800 : Sig := [⟨.ret, [.one], [], [.h (.int .i64)]⟩]
@[reducible] def s6801 : Sig := [⟨.exit 0, [.one, .one], [], [.h (.int .i64), .undef]⟩, ⟨.ret, [.one, .one], [], [.h (.int .i64), .h (.int .i64)]⟩]
@[reducible] def s6900 : Sig := [⟨.ret, [.one], [], [.h (.int .i64)]⟩]
@[reducible] def s7000 : Sig := [⟨.ret, [.one], [], [.h (.int .i64)]⟩]
@[reducible] def s7100 : Sig := [⟨.ret, [.one], [], [.h (.int .i64)]⟩]
@[reducible] def s7101 : Sig := [⟨.exit 0, [.one, .one], [], [.h (.int .i64), .undef]⟩, ⟨.ret, [.one, .one], [], [.h (.int .i64), .h (.int .i64)]⟩]
@[reducible] def s7200 : Sig := [⟨.ret, [.one], [], [.h (.int .i64)]⟩]
@[reducible] def s7300 : Sig := [⟨.ret, [.one], [], [.h (.int .i64)]⟩]
@[reducible] def s7400 : Sig := [⟨.ret, [.one], [], [.h (.sl .exp)]⟩]
@[reducible] def s7401 : Sig := [⟨.exit 0, [.one, .one], [.rows], [.undef, .bs 100, .h (.sl .exp)]⟩]
@[reducible] def s7500 : Sig := [⟨.ret, [.one], [], [.h (.agg .exp)]⟩]
@[reducible] def s7600 : Sig := [⟨.ret, [.one], [], [.h (.agg .stm)]⟩]
@[reducible] def s7700 : Sig := [⟨.ret, [.one], [], [.h (.sl .stm)]⟩]
@[reducible] def s7701 : Sig := [⟨.exit 0, [.one, .one], [.rows], [.undef, .bs 100, .h (.sl .stm)]⟩]
@[reducible] def s7800 : Sig := [⟨.ret, [.one], [], [.h (.sl .int)]⟩]
@[reducible] def s7801 : Sig := [⟨.exit 0, [.one, .one], [.rows], [.undef, .bs 100, .h (.sl .int)]⟩]
@[reducible] def s7900 : Sig := [⟨.ret, [.one], [], [.h (.agg .tk)]⟩]
@[reducible] def s8000 : Sig := [⟨.ret, [.one], [], [.h (.bool)]⟩]
@[reducible] def s8001 : Sig := [⟨.exit 0, [.one], [], [.undef]⟩, ⟨.ret, [.one], [], [.h (.bool)]⟩]
@[reducible] def s8100 : Sig := [⟨.ret, [.one], [], [.h (.bool)]⟩]
@[reducible] def s8200 : Sig := [⟨.ret, [.one], [], [.h (.bool)]⟩]
@[reducible] def s8300 : Sig := [⟨.ret, [.one], [], [.h (.bool)]⟩]
@[reducible] def s8301 : Sig := [⟨.exit 0, [.one], [], [.undef]⟩, ⟨.ret, [.one], [], [.h (.bool)]⟩]
@[reducible] def s8400 : Sig := [⟨.ret, [.one], [], [.h (.bool)]⟩]
@[reducible] def s8401 : Sig := [⟨.exit 0, [.one], [], [.undef]⟩, ⟨.ret, [.one], [], [.h (.bool)]⟩]
@[reducible] def s8500 : Sig := [⟨.ret, [.one], [], [.h (.bool)]⟩]
@[reducible] def s10600 : Sig := [⟨.ret, [.one], [], [.h (.int .i64)]⟩]
@[reducible] def s10601 : Sig := [⟨.exit 0, [.one, .one], [], [.h (.int .i64), .undef]⟩, ⟨.ret, [.one, .one], [], [.h (.int .i64), .h (.int .i64)]⟩]
@[reducible] def s11100 : Sig := [⟨.ret, [.one], [], [.h (.bool)]⟩]
@[reducible] def s16700 : Sig := [⟨.ret, [.one], [], [.h (.own .int)]⟩]
@[reducible] def s17600 : Sig := [⟨.ret, [.one], [], [.h (.bool)]⟩]
@[reducible] def s17800 : Sig := [⟨.ret, [.one], [], [.h (.bool)]⟩]
@[reducible] def s19000 : Sig := [⟨.ret, [.one], [], [.h (.bool)]⟩]
@[reducible] def s23100 : Sig := [⟨.ret, [.one], [], [.h (.bool)]⟩]
@[reducible] def s23101 : Sig := [⟨.exit 0, [.one], [], [.undef]⟩, ⟨.ret, [.one], [], [.h (.bool)]⟩]
@[reducible] def s23800 : Sig := [⟨.ret, [.one], [], [.h (.bool)]⟩]
@[reducible] def s23900 : Sig := [⟨.ret, [.one], [], [.h (.bool)]⟩]
@[reducible] def s23901 : Sig := [⟨.exit 0, [.one, .one], [], [.h (.sl .bx), .undef]⟩, ⟨.ret, [.one, .one], [], [.h (.sl .bx), .h (.bool)]⟩]
@[reducible] def s24000 : Sig := [⟨.ret, [.one], [], [.h (.bool)]⟩]
@[reducible] def s24001 : Sig := [⟨.exit 0, [.one], [], [.undef]⟩, ⟨.ret, [.one], [], [.h (.bool)]⟩]
@[reducible] def s24200 : Sig := [⟨.ret, [.one], [], [.h (.int .i64)]⟩]
@[reducible] def s24201 : Sig := [⟨.exit 0, [.one, .one], [], [.h (.int .i64), .undef]⟩, ⟨.ret, [.one, .one], [], [.h (.int .i64), .h (.int .i64)]⟩]
@[reducible] def s24300 : Sig := [⟨.ret, [.one], [], [.h (.int .i64)]⟩]
@[reducible] def s24400 : Sig := [⟨.ret, [.one], [], [.h (.int .i64)]⟩]
@[reducible] def s24401 : Sig := [⟨.exit 0, [.one, .one], [], [.h (.int .i64), .undef]⟩, ⟨.ret, [.one, .one], [], [.h (.int .i64), .h (.int .i64)]⟩]
@[reducible] def s24500 : Sig := [⟨.ret, [.one], [], [.h (.int .i64)]⟩]
@[reducible] def s24600 : Sig := [⟨.ret, [.one], [], [.h (.bool)]⟩]
@[reducible] def s24601 : Sig := [⟨.exit 0, [.one, .one], [], [.h (.sl .bx), .undef]⟩, ⟨.ret, [.one, .one], [], [.h (.sl .bx), .h (.bool)]⟩]
@[reducible] def s24700 : Sig := [⟨.ret, [.one], [], [.h (.bool)]⟩]
@[reducible] def s24701 : Sig := [⟨.exit 0, [.one, .one], [.var 5], [.bp 100 0, .undef, .h (.sl .tk), .h (.sl .bx), .h (.int .i64), .h (.int .i64), .h (.sl .int)]⟩, ⟨.ret, [.one, .one], [.var 5], [.bp 100 0, .h (.bool), .h (.sl .tk), .h (.sl .bx), .h (.int .i64), .h (.int .i64), .h (.sl .int)]⟩]
@[reducible] def s24800 : Sig := [⟨.ret, [.one], [], [.h (.sl .tk)]⟩]
@[reducible] def s24801 : Sig := [⟨.exit 0, [.one, .one], [.rows], [.undef, .bs 100, .h (.sl .tk)]⟩]
@[reducible] def s24900 : Sig := [⟨.ret, [.one], [], [.h (.agg .bx)]⟩]
@[reducible] def s25000 : Sig := [⟨.ret, [.one], [], [.h (.sl .bx)]⟩]
@[reducible] def s25001 : Sig := [⟨.exit 0, [.one, .one], [.rows], [.undef, .bs 100, .h (.sl .bx)]⟩]
@[reducible] def s25100 : Sig := [⟨.ret, [.one], [], [.h (.agg .wld)]⟩]
@[reducible] def s25200 : Sig := [⟨.ret, [.one], [], [.h (.bool)]⟩]
@[reducible] def s25201 : Sig := [⟨.exit 0, [.one], [], [.undef]⟩, ⟨.ret, [.one], [], [.h (.bool)]⟩]
@[reducible] def s25300 : Sig := [⟨.ret, [.one], [], [.h (.bool)]⟩]
@[reducible] def s25301 : Sig := [⟨.exit 0, [.one], [], [.undef]⟩, ⟨.ret, [.one], [], [.h (.bool)]⟩]
@[reducible] def s25400 : Sig := [⟨.ret, [.one], [], [.h (.bool)]⟩]
@[reducible] def s30100 : Sig := [⟨.ret, [.one], [], [.h (.agg .otc)]⟩]
@[reducible] def s30101 : Sig := [⟨.exit 0, [.one, .one], [.var 4, .var 4, .ar], [.bp 101 0, .bp 102 0, .h (.ownb .int), .h (.ownb .ints), .h (.tr .bool), .h (.bool), .h (.sl .int), .h (.sl .ints), .h (.tr .bool), .h (.bool), .h (.ar)]⟩]
@[reducible] def s30200 : Sig := [⟨.ret, [.one], [], [.h (.own .ints)]⟩]
@[reducible] def s30201 : Sig := [⟨.exit 0, [.one, .one], [], [.undef, .h (.ownb .ints)]⟩]
@[reducible] def s30300 : Sig := [⟨.ret, [.one], [], [.h (.agg .otc)]⟩]
@[reducible] def s30301 : Sig := [⟨.exit 0, [.one, .one], [.var 4, .var 4], [.bp 101 0, .bp 102 0, .h (.ownb .int), .h (.ownb .ints), .h (.ownb .bool), .h (.bool), .h (.sl .int), .h (.sl .ints), .h (.ownb .bool), .h (.bool)]⟩]
@[reducible] def s30800 : Sig := [⟨.ret, [.one], [], [.h (.bool)]⟩]
@[reducible] def s30801 : Sig := [⟨.exit 0, [.one], [], [.undef]⟩, ⟨.ret, [.one], [], [.h (.bool)]⟩]
@[reducible] def s30900 : Sig := [⟨.ret, [.one], [], [.h (.bool)]⟩]
@[reducible] def s30901 : Sig := [⟨.exit 0, [.one], [], [.undef]⟩, ⟨.ret, [.one], [], [.h (.bool)]⟩]
@[reducible] def s31000 : Sig := [⟨.ret, [.one], [], [.h (.bool)]⟩]
@[reducible] def s31400 : Sig := [⟨.ret, [.one], [], [.h (.int .i64)]⟩]
@[reducible] def s31401 : Sig := [⟨.exit 0, [.one, .one], [], [.h (.int .i64), .undef]⟩, ⟨.ret, [.one, .one], [], [.h (.int .i64), .h (.int .i64)]⟩]
@[reducible] def s31500 : Sig := [⟨.ret, [.one], [], [.h (.int .i64)]⟩]
@[reducible] def s31501 : Sig := [⟨.exit 0, [.one, .one], [], [.h (.int .i64), .undef]⟩, ⟨.ret, [.one, .one], [], [.h (.int .i64), .h (.int .i64)]⟩]
@[reducible] def s31600 : Sig := [⟨.ret, [.one], [], [.h (.int .i64)]⟩]
@[reducible] def s31700 : Sig := [⟨.ret, [.one], [], [.h (.bool)]⟩]
@[reducible] def s38200 : Sig := [⟨.ret, [.one], [.ar], [.h (.tr .int), .h (.ar)]⟩]
@[reducible] def s38700 : Sig := [⟨.ret, [.one], [.ar], [.h (.int .i64), .h (.ar)]⟩]
@[reducible] def s38701 : Sig := [⟨.exit 0, [.one, .one], [.ar], [.h (.int .i64), .undef, .h (.ar)]⟩]
@[reducible] def s39600 : Sig := [⟨.ret, [.one], [.ar], [.h (.tr .int), .h (.ar)]⟩]
@[reducible] def s39601 : Sig := [⟨.exit 0, [.one, .one], [.ar], [.undef, .h (.tr .int), .h (.ar)]⟩]
@[reducible] def s39800 : Sig := [⟨.ret, [.agg 4], [.ar], [.h (.sl .int), .h (.sl .ints), .h (.tr .bool), .h (.bool), .h (.ar)]⟩]
@[reducible] def s39801 : Sig := [⟨.exit 0, [.one, .one], [.var 4, .var 4, .ar], [.bp 100 0, .bp 101 0, .h (.ownb .int), .h (.ownb .ints), .h (.tr .bool), .h (.bool), .h (.sl .int), .h (.ownb .ints), .h (.tr .bool), .h (.bool), .h (.ar)]⟩]
@[reducible] def s40800 : Sig := [⟨.ret, [.one], [.ar], [.h (.tr .stmH), .h (.ar)]⟩]
@[reducible] def s40801 : Sig := [⟨.exit 0, [.one, .one], [.ar], [.undef, .h (.tr .stmH), .h (.ar)]⟩]
@[reducible] def s40900 : Sig := [⟨.ret, [.one], [.ar], [.h (.int .i64), .h (.ar)]⟩]
@[reducible] def s40901 : Sig := [⟨.exit 0, [.one, .one], [.ar], [.h (.int .i64), .undef, .h (.ar)]⟩]
@[reducible] def s41200 : Sig := [⟨.ret, [.one], [.ar], [.h (.agg .stmH), .h (.ar)]⟩]
@[reducible] def s41300 : Sig := [⟨.ret, [.one], [.ar], [.h (.int .i64), .h (.ar)]⟩]
@[reducible] def s41301 : Sig := [⟨.exit 0, [.one, .one], [.ar], [.h (.int .i64), .undef, .h (.ar)]⟩]
@[reducible] def s41500 : Sig := [⟨.ret, [.one], [.ar], [.h (.agg .expH), .h (.ar)]⟩]
@[reducible] def s41600 : Sig := [⟨.ret, [.one], [.ar], [.h (.tr .expH), .h (.ar)]⟩]
@[reducible] def s41601 : Sig := [⟨.exit 0, [.one, .one], [.ar], [.undef, .h (.tr .expH), .h (.ar)]⟩]
@[reducible] def s41700 : Sig := [⟨.ret, [.one], [.ar], [.h (.agg .tkH), .h (.ar)]⟩]
@[reducible] def s41900 : Sig := [⟨.ret, [.one], [.ar], [.h (.agg .wldH), .h (.ar)]⟩]
@[reducible] def s42200 : Sig := [⟨.ret, [.one], [.ar], [.h (.int .i64), .h (.ar)]⟩]
@[reducible] def s42300 : Sig := [⟨.ret, [.one], [.ar], [.h (.agg .otcH), .h (.ar)]⟩]
@[reducible] def s42301 : Sig := [⟨.exit 0, [.one, .one], [.var 4, .var 4, .ar], [.bp 101 0, .bp 102 0, .h (.tr .int), .h (.tr .intsH), .h (.tr .bool), .h (.bool), .h (.tr .int), .h (.tr .intsH), .h (.tr .bool), .h (.bool), .h (.ar)]⟩]
@[reducible] def s42400 : Sig := [⟨.ret, [.one], [.ar], [.h (.int .i64), .h (.ar)]⟩]
@[reducible] def s42600 : Sig := [⟨.ret, [.one], [.ar], [.h (.tr .tkH), .h (.ar)]⟩]
@[reducible] def s42601 : Sig := [⟨.exit 0, [.one, .one], [.ar], [.undef, .h (.tr .tkH), .h (.ar)]⟩]
@[reducible] def s42700 : Sig := [⟨.ret, [.one], [.ar], [.h (.tr .bxH), .h (.ar)]⟩]
@[reducible] def s42701 : Sig := [⟨.exit 0, [.one, .one], [.ar], [.undef, .h (.tr .bxH), .h (.ar)]⟩]
@[reducible] def s43000 : Sig := [⟨.ret, [.one], [.ar], [.h (.int .i64), .h (.ar)]⟩]
@[reducible] def s43001 : Sig := [⟨.exit 0, [.one, .one], [.ar], [.h (.int .i64), .undef, .h (.ar)]⟩]
@[reducible] def s43100 : Sig := [⟨.ret, [.one], [.ar], [.h (.int .i64), .h (.ar)]⟩]
@[reducible] def s43101 : Sig := [⟨.exit 0, [.one, .one], [.ar], [.h (.int .i64), .undef, .h (.ar)]⟩]
@[reducible] def s43200 : Sig := [⟨.ret, [.one], [.ar], [.h (.agg .otcH), .h (.ar)]⟩]
@[reducible] def s43201 : Sig := [⟨.exit 0, [.one, .one], [.var 4, .var 4, .ar], [.bp 100 0, .bp 101 0, .h (.tr .int), .h (.tr .intsH), .h (.tr .bool), .h (.bool), .h (.tr .int), .h (.tr .intsH), .h (.tr .bool), .h (.bool), .h (.ar)]⟩]
@[reducible] def s43300 : Sig := [⟨.ret, [.one], [.ar], [.h (.int .i64), .h (.ar)]⟩]
@[reducible] def s43301 : Sig := [⟨.exit 0, [.one, .one], [.ar], [.h (.int .i64), .undef, .h (.ar)]⟩]
@[reducible] def s43400 : Sig := [⟨.ret, [.one], [.ar], [.h (.int .i64), .h (.ar)]⟩]
@[reducible] def s43401 : Sig := [⟨.exit 0, [.one, .one], [.ar], [.h (.int .i64), .undef, .h (.ar)]⟩]
@[reducible] def s43500 : Sig := [⟨.ret, [.one], [.ar], [.h (.agg .bxH), .h (.ar)]⟩]
def sgs : List (Nat × Sig) := [(1000, s1000), (1100, s1100), (1200, s1200), (1600, s1600), (1700, s1700), (1800, s1800), (1900, s1900), (4000, s4000), (4001, s4001), (5000, s5000), (5100, s5100), (5101, s5101), (5200, s5200), (5300, s5300), (5301, s5301), (5400, s5400), (5500, s5500), (5501, s5501), (5700, s5700), (5800, s5800), (5900, s5900), (6000, s6000), (6100, s6100), (6200, s6200), (6201, s6201), (6300, s6300), (6400, s6400), (6500, s6500), (6501, s6501), (6600, s6600), (6601, s6601), (6800, s6800), (6801, s6801), (6900, s6900), (7000, s7000), (7100, s7100), (7101, s7101), (7200, s7200), (7300, s7300), (7400, s7400), (7401, s7401), (7500, s7500), (7600, s7600), (7700, s7700), (7701, s7701), (7800, s7800), (7801, s7801), (7900, s7900), (8000, s8000), (8001, s8001), (8100, s8100), (8200, s8200), (8300, s8300), (8301, s8301), (8400, s8400), (8401, s8401), (8500, s8500), (10600, s10600), (10601, s10601), (11100, s11100), (16700, s16700), (17600, s17600), (17800, s17800), (19000, s19000), (23100, s23100), (23101, s23101), (23800, s23800), (23900, s23900), (23901, s23901), (24000, s24000), (24001, s24001), (24200, s24200), (24201, s24201), (24300, s24300), (24400, s24400), (24401, s24401), (24500, s24500), (24600, s24600), (24601, s24601), (24700, s24700), (24701, s24701), (24800, s24800), (24801, s24801), (24900, s24900), (25000, s25000), (25001, s25001), (25100, s25100), (25200, s25200), (25201, s25201), (25300, s25300), (25301, s25301), (25400, s25400), (30100, s30100), (30101, s30101), (30200, s30200), (30201, s30201), (30300, s30300), (30301, s30301), (30800, s30800), (30801, s30801), (30900, s30900), (30901, s30901), (31000, s31000), (31400, s31400), (31401, s31401), (31500, s31500), (31501, s31501), (31600, s31600), (31700, s31700), (38200, s38200), (38700, s38700), (38701, s38701), (39600, s39600), (39601, s39601), (39800, s39800), (39801, s39801), (40800, s40800), (40801, s40801), (40900, s40900), (40901, s40901), (41200, s41200), (41300, s41300), (41301, s41301), (41500, s41500), (41600, s41600), (41601, s41601), (41700, s41700), (41900, s41900), (42200, s42200), (42300, s42300), (42301, s42301), (42400, s42400), (42600, s42600), (42601, s42601), (42700, s42700), (42701, s42701), (43000, s43000), (43001, s43001), (43100, s43100), (43101, s43101), (43200, s43200), (43201, s43201), (43300, s43300), (43301, s43301), (43400, s43400), (43401, s43401), (43500, s43500)]
def sg (g : Nat) : Sig := (Vs.look g sgs).getD []
def GT (i : Nat) : List TV := []
noncomputable def laws_FnExactWorldOutcome (a0 : Wld) : Option (Bool) := callTy Tb GT s31700 31700 [.agg (rowT .wld a0)] []
noncomputable def laws_szWorld (a0 : Wld) (a1 : Int) : Option (Int) := callTy Tb GT s24500 24500 [.agg (rowT .wld a0), .int .i64 a1] []
noncomputable def laws_toWorld (a0 : Wld) : Option (Wld) := callTy Tb GT s25100 25100 [.agg (rowT .wld a0)] []
noncomputable def spec_WorldOutcome (a0 : Wld) : Option (Otc) := callTy Tb GT s30300 30300 [.agg (rowT .wld a0)] []
noncomputable def laws_toWorld_p (a0 : Wld) (A : List Ent) : Option (WldH × List Ent) := callTy Tb GT s41900 41900 [.agg (rowT .wld a0)] [.ar A]
noncomputable def impl_WorldOutcome_p (a0 : Wld) (A : List Ent) : Option (OtcH × List Ent) := callTy Tb GT s42300 42300 [.agg (rowT .wld a0)] [.ar A]
noncomputable def laws_eqOutcome (a0 : Otc) (a1 : Otc) : Option (Bool) := callTy Tb GT s31000 31000 [.agg (rowT .otc a0), .agg (rowT .otc a1)] []
noncomputable def laws_eqWorld (a0 : Wld) (a1 : Wld) : Option (Bool) := callTy Tb GT s25400 25400 [.agg (rowT .wld a0), .agg (rowT .wld a1)] []
noncomputable def laws_markWorld_p (a0 : WldH) (a1 : Int) (A : List Ent) : Option (Int × List Ent) := callTy Tb GT s42200 42200 [.agg (rowT .wldH a0), .int .i64 a1] [.ar A]
noncomputable def laws_markOutcome_p (a0 : OtcH) (a1 : Int) (A : List Ent) : Option (Int × List Ent) := callTy Tb GT s42400 42400 [.agg (rowT .otcH a0), .int .i64 a1] [.ar A]
noncomputable def laws_heldOutcome (a0 : Otc) (a1 : Int) : Option (Int) := callTy Tb GT s31600 31600 [.agg (rowT .otc a0), .int .i64 a1] []
noncomputable def impl_WorldOutcome (a0 : Wld) : Option (Otc) := callTy Tb GT s30100 30100 [.agg (rowT .wld a0)] []
noncomputable def laws_szTaskS (a0 : List Tk) (a1 : Int) : Option (Int) := callTy Tb GT s24200 24200 [.sl .share .tk a0, .int .i64 a1] []
noncomputable def laws_szBoxS (a0 : List Bx) (a1 : Int) : Option (Int) := callTy Tb GT s24400 24400 [.sl .share .bx a0, .int .i64 a1] []
noncomputable def laws_szIntS (a0 : List Int) (a1 : Int) : Option (Int) := callTy Tb GT s7200 7200 [.sl .share .int a0, .int .i64 a1] []
noncomputable def laws_toTaskS (a0 : List Tk) : Option (List Tk) := callTy Tb GT s24800 24800 [.sl .share .tk a0] []
noncomputable def laws_toBoxS (a0 : List Bx) : Option (List Bx) := callTy Tb GT s25000 25000 [.sl .share .bx a0] []
noncomputable def laws_toIntS (a0 : List Int) : Option (List Int) := callTy Tb GT s7800 7800 [.sl .share .int a0] []
noncomputable def spec_WorldValid (a0 : Wld) : Option (Bool) := callTy Tb GT s24700 24700 [.agg (rowT .wld a0)] []
noncomputable def spec_l16Items (a0 : List Bx) : Option (List (List Int)) := callTy Tb GT s30200 30200 [.sl .share .bx a0] []
noncomputable def spec_WorldOutcome_l1 (t4 : Int) (b100_0 : List Tk) (b100_1 : List Bx) (b100_2 : Int) (b100_3 : Int) (b100_4 : List Int) (b101_0b : Bool) (b101_0 : List Int) (b101_1b : Bool) (b101_1 : List (List Int)) (b101_2b : Bool) (b101_2 : List Bool) (b101_3 : Bool) (b102_0 : List Int) (b102_1 : List (List Int)) (b102_2b : Bool) (b102_2 : List Bool) (b102_3 : Bool) : Option ((Bool × List Int) × (Bool × List (List Int)) × (Bool × List Bool) × Bool × List Int × List (List Int) × (Bool × List Bool) × Bool) := callTy Tb GT s30301 30301 [.bp 100 0, .bp 101 0, .bp 102 0, .int .i64 t4] [.var [.sl .share .tk b100_0, .sl .share .bx b100_1, .int .i64 b100_2, .int .i64 b100_3, .sl .share .int b100_4], .var [.sl (.own b101_0b) .int b101_0, .sl (.own b101_1b) .ints b101_1, .sl (.own b101_2b) .bool b101_2, .bool b101_3], .var [.sl .share .int b102_0, .sl .share .ints b102_1, .sl (.own b102_2b) .bool b102_2, .bool b102_3]]
noncomputable def laws_toTaskS_p (a0 : List Tk) (A : List Ent) : Option (Hd × List Ent) := callTy Tb GT s42600 42600 [.sl .share .tk a0] [.ar A]
noncomputable def laws_toBoxS_p (a0 : List Bx) (A : List Ent) : Option (Hd × List Ent) := callTy Tb GT s42700 42700 [.sl .share .bx a0] [.ar A]
noncomputable def laws_toIntS_p (a0 : List Int) (A : List Ent) : Option (Hd × List Ent) := callTy Tb GT s39600 39600 [.sl .share .int a0] [.ar A]
noncomputable def impl_WorldValid (a0 : Wld) : Option (Bool) := callTy Tb GT s24000 24000 [.agg (rowT .wld a0)] []
noncomputable def impl_outcomeOf_p (a0 : List Int) (a1 : List Bx) (a2 : Bool) (A : List Ent) : Option (OtcH × List Ent) := callTy Tb GT s43200 43200 [.sl .share .int a0, .sl .share .bx a1, .bool a2] [.ar A]
noncomputable def impl_WorldOutcome_p_l1 (t22 : List Tk) (t23 : Int) (t24 : Int) (b101_0 : Hd) (b101_1 : Hd) (b101_2 : Hd) (b101_3 : Bool) (b102_0 : Hd) (b102_1 : Hd) (b102_2 : Hd) (b102_3 : Bool) (b99 : List Ent) : Option (Hd × Hd × Hd × Bool × Hd × Hd × Hd × Bool × List Ent) := callTy Tb GT s42301 42301 [.bp 101 0, .bp 102 0, .sl .share .tk t22, .int .i64 t23, .int .i64 t24] [.var [.tr .int b101_0.id b101_0.n, .tr .intsH b101_1.id b101_1.n, .tr .bool b101_2.id b101_2.n, .bool b101_3], .var [.tr .int b102_0.id b102_0.n, .tr .intsH b102_1.id b102_1.n, .tr .bool b102_2.id b102_2.n, .bool b102_3], .ar b99]
noncomputable def laws_eqIntS (a0 : List Int) (a1 : List Int) : Option (Bool) := callTy Tb GT s8400 8400 [.sl .share .int a0, .sl .share .int a1] []
noncomputable def laws_eqIntSS (a0 : List (List Int)) (a1 : List (List Int)) : Option (Bool) := callTy Tb GT s30800 30800 [.sl .share .ints a0, .sl .share .ints a1] []
noncomputable def laws_eqBoolS (a0 : List Bool) (a1 : List Bool) : Option (Bool) := callTy Tb GT s30900 30900 [.sl .share .bool a0, .sl .share .bool a1] []
noncomputable def laws_eqTaskS (a0 : List Tk) (a1 : List Tk) : Option (Bool) := callTy Tb GT s25200 25200 [.sl .share .tk a0, .sl .share .tk a1] []
noncomputable def laws_eqBoxS (a0 : List Bx) (a1 : List Bx) : Option (Bool) := callTy Tb GT s25300 25300 [.sl .share .bx a0, .sl .share .bx a1] []
noncomputable def laws_markTaskS_p (a0 : Hd) (a1 : Int) (A : List Ent) : Option (Int × List Ent) := callTy Tb GT s43000 43000 [.tr .tkH a0.id a0.n, .int .i64 a1] [.ar A]
noncomputable def laws_markBoxS_p (a0 : Hd) (a1 : Int) (A : List Ent) : Option (Int × List Ent) := callTy Tb GT s43100 43100 [.tr .bxH a0.id a0.n, .int .i64 a1] [.ar A]
noncomputable def laws_markIntS_p (a0 : Hd) (a1 : Int) (A : List Ent) : Option (Int × List Ent) := callTy Tb GT s38700 38700 [.tr .int a0.id a0.n, .int .i64 a1] [.ar A]
noncomputable def laws_markIntSS_p (a0 : Hd) (a1 : Int) (A : List Ent) : Option (Int × List Ent) := callTy Tb GT s43300 43300 [.tr .intsH a0.id a0.n, .int .i64 a1] [.ar A]
noncomputable def laws_markBoolS_p (a0 : Hd) (a1 : Int) (A : List Ent) : Option (Int × List Ent) := callTy Tb GT s43400 43400 [.tr .bool a0.id a0.n, .int .i64 a1] [.ar A]
noncomputable def laws_heldIntS (a0 : List Int) (a1 : Int) : Option (Int) := callTy Tb GT s10600 10600 [.sl .share .int a0, .int .i64 a1] []
noncomputable def laws_heldIntSS (a0 : List (List Int)) (a1 : Int) : Option (Int) := callTy Tb GT s31400 31400 [.sl .share .ints a0, .int .i64 a1] []
noncomputable def laws_heldBoolS (a0 : List Bool) (a1 : Int) : Option (Int) := callTy Tb GT s31500 31500 [.sl .share .bool a0, .int .i64 a1] []
noncomputable def impl_outcomeOf_o (a0 : List Int) (a1 : List Bx) (a2 : Bool) (A : List Ent) : Option (List Int × List (List Int) × Hd × Bool × List Ent) := callTy Tb GT s39800 39800 [.sl .share .int a0, .sl .share .bx a1, .bool a2] [.ar A]
noncomputable def impl_WorldOutcome_l1 (t22 : List Tk) (t23 : Int) (t24 : Int) (b101_0b : Bool) (b101_0 : List Int) (b101_1b : Bool) (b101_1 : List (List Int)) (b101_2 : Hd) (b101_3 : Bool) (b102_0 : List Int) (b102_1 : List (List Int)) (b102_2 : Hd) (b102_3 : Bool) (b99 : List Ent) : Option ((Bool × List Int) × (Bool × List (List Int)) × Hd × Bool × List Int × List (List Int) × Hd × Bool × List Ent) := callTy Tb GT s30101 30101 [.bp 101 0, .bp 102 0, .sl .share .tk t22, .int .i64 t23, .int .i64 t24] [.var [.sl (.own b101_0b) .int b101_0, .sl (.own b101_1b) .ints b101_1, .tr .bool b101_2.id b101_2.n, .bool b101_3], .var [.sl .share .int b102_0, .sl .share .ints b102_1, .tr .bool b102_2.id b102_2.n, .bool b102_3], .ar b99]
noncomputable def laws_szTask (a0 : Tk) (a1 : Int) : Option (Int) := callTy Tb GT s7300 7300 [.agg (rowT .tk a0), .int .i64 a1] []
noncomputable def laws_szTaskS_l1 (t0 : List Tk) (t1 : Int) (t5 : Int) : Option (Int ⊕ (Int × Int)) := callTy Tb GT s24201 24201 [.sl .share .tk t0, .int .i64 t1, .int .i64 t5] []
noncomputable def laws_szBox (a0 : Bx) (a1 : Int) : Option (Int) := callTy Tb GT s24300 24300 [.agg (rowT .bx a0), .int .i64 a1] []
noncomputable def laws_szBoxS_l1 (t0 : List Bx) (t1 : Int) (t5 : Int) : Option (Int ⊕ (Int × Int)) := callTy Tb GT s24401 24401 [.sl .share .bx t0, .int .i64 t1, .int .i64 t5] []
noncomputable def laws_toTask (a0 : Tk) : Option (Tk) := callTy Tb GT s7900 7900 [.agg (rowT .tk a0)] []
noncomputable def laws_toTaskS_l1 (t0 : List Tk) (t4 : Int) (b100 : List Tk) : Option (List Tk) := callTy Tb GT s24801 24801 [.sl .share .tk t0, .bs 100, .int .i64 t4] [.rows .tk b100]
noncomputable def laws_toBox (a0 : Bx) : Option (Bx) := callTy Tb GT s24900 24900 [.agg (rowT .bx a0)] []
noncomputable def laws_toBoxS_l1 (t0 : List Bx) (t4 : Int) (b100 : List Bx) : Option (List Bx) := callTy Tb GT s25001 25001 [.sl .share .bx t0, .bs 100, .int .i64 t4] [.rows .bx b100]
noncomputable def laws_toIntS_l1 (t0 : List Int) (t4 : Int) (b100 : List Int) : Option (List Int) := callTy Tb GT s7801 7801 [.sl .share .int t0, .bs 100, .int .i64 t4] [.rows .int b100]
noncomputable def spec_l6In (a0 : Int) (a1 : Int) (a2 : Int) : Option (Bool) := callTy Tb GT s1600 1600 [.int .i64 a0, .int .i64 a1, .int .i64 a2] []
noncomputable def spec_l15Boxes (a0 : List Bx) : Option (Bool) := callTy Tb GT s24600 24600 [.sl .share .bx a0] []
noncomputable def spec_TaskValid (a0 : Tk) : Option (Bool) := callTy Tb GT s6600 6600 [.agg (rowT .tk a0)] []
noncomputable def spec_l12Boxes (a0 : List Stm) (a1 : Int) : Option (Bool) := callTy Tb GT s23100 23100 [.sl .share .stm a0, .int .i64 a1] []
noncomputable def spec_WorldValid_l1 (t3 : Int) (t4 : Int) (b100_0 : List Tk) (b100_1 : List Bx) (b100_2 : Int) (b100_3 : Int) (b100_4 : List Int) : Option ((List Tk × List Bx × Int × Int × List Int) ⊕ (Bool × List Tk × List Bx × Int × Int × List Int)) := callTy Tb GT s24701 24701 [.bp 100 0, .int .i64 t3, .int .i64 t4] [.var [.sl .share .tk b100_0, .sl .share .bx b100_1, .int .i64 b100_2, .int .i64 b100_3, .sl .share .int b100_4]]
noncomputable def spec_l4Words (a0 : List Int) (a1 : Int) : Option (Bool) := callTy Tb GT s6500 6500 [.sl .share .int a0, .int .i64 a1] []
noncomputable def spec_l16Items_l1 (t0 : List Bx) (t3b : Bool) (t3 : List (List Int)) (t4 : Int) : Option ((Bool × List (List Int))) := callTy Tb GT s30201 30201 [.sl .share .bx t0, .sl (.own t3b) .ints t3, .int .i64 t4] []
noncomputable def laws_toTask_p (a0 : Tk) (A : List Ent) : Option (TkH × List Ent) := callTy Tb GT s41700 41700 [.agg (rowT .tk a0)] [.ar A]
noncomputable def laws_toTaskS_p_l1 (t0 : List Tk) (t3 : Hd) (t4 : Int) (b99 : List Ent) : Option (Hd × List Ent) := callTy Tb GT s42601 42601 [.sl .share .tk t0, .tr .tkH t3.id t3.n, .int .i64 t4] [.ar b99]
noncomputable def laws_toBox_p (a0 : Bx) (A : List Ent) : Option (BxH × List Ent) := callTy Tb GT s43500 43500 [.agg (rowT .bx a0)] [.ar A]
noncomputable def laws_toBoxS_p_l1 (t0 : List Bx) (t3 : Hd) (t4 : Int) (b99 : List Ent) : Option (Hd × List Ent) := callTy Tb GT s42701 42701 [.sl .share .bx t0, .tr .bxH t3.id t3.n, .int .i64 t4] [.ar b99]
noncomputable def laws_toIntS_p_l1 (t0 : List Int) (t3 : Hd) (t4 : Int) (b99 : List Ent) : Option (Hd × List Ent) := callTy Tb GT s39601 39601 [.sl .share .int t0, .tr .int t3.id t3.n, .int .i64 t4] [.ar b99]
noncomputable def impl_turnsValid (a0 : Int) (a1 : Int) (a2 : Int) (a3 : List Int) : Option (Bool) := callTy Tb GT s23800 23800 [.int .i64 a0, .int .i64 a1, .int .i64 a2, .sl .share .int a3] []
noncomputable def impl_boxesValid (a0 : List Bx) : Option (Bool) := callTy Tb GT s23900 23900 [.sl .share .bx a0] []
noncomputable def impl_taskValid (a0 : Tk) (a1 : Int) : Option (Bool) := callTy Tb GT s5500 5500 [.agg (rowT .tk a0), .int .i64 a1] []
noncomputable def impl_WorldValid_l1 (t23 : List Tk) (t24 : Int) (t25 : Int) (b100_0 : List Tk) (b100_1 : List Bx) (b100_2 : Int) (b100_3 : Int) (b100_4 : List Int) : Option (Unit ⊕ Bool) := callTy Tb GT s24001 24001 [.bp 100 0, .sl .share .tk t23, .int .i64 t24, .int .i64 t25] [.var [.sl .share .tk b100_0, .sl .share .bx b100_1, .int .i64 b100_2, .int .i64 b100_3, .sl .share .int b100_4]]
noncomputable def slices_Clone___int_int__p (a0 : List Int) (A : List Ent) : Option (Hd × List Ent) := callTy Tb GT s38200 38200 [.sl .share .int a0] [.ar A]
noncomputable def impl_outcomeOf_p_l1 (t14 : List Bx) (t15 : Int) (t16 : Int) (b100_0 : Hd) (b100_1 : Hd) (b100_2 : Hd) (b100_3 : Bool) (b101_0 : Hd) (b101_1 : Hd) (b101_2 : Hd) (b101_3 : Bool) (b99 : List Ent) : Option (Hd × Hd × Hd × Bool × Hd × Hd × Hd × Bool × List Ent) := callTy Tb GT s43201 43201 [.bp 100 0, .bp 101 0, .sl .share .bx t14, .int .i64 t15, .int .i64 t16] [.var [.tr .int b100_0.id b100_0.n, .tr .intsH b100_1.id b100_1.n, .tr .bool b100_2.id b100_2.n, .bool b100_3], .var [.tr .int b101_0.id b101_0.n, .tr .intsH b101_1.id b101_1.n, .tr .bool b101_2.id b101_2.n, .bool b101_3], .ar b99]
noncomputable def laws_eqIntS_l1 (t0 : List Int) (t1 : List Int) (t5 : Int) : Option (Unit ⊕ Bool) := callTy Tb GT s8401 8401 [.sl .share .int t0, .sl .share .int t1, .int .i64 t5] []
noncomputable def laws_eqIntSS_l1 (t0 : List (List Int)) (t1 : List (List Int)) (t5 : Int) : Option (Unit ⊕ Bool) := callTy Tb GT s30801 30801 [.sl .share .ints t0, .sl .share .ints t1, .int .i64 t5] []
noncomputable def laws_eqBoolS_l1 (t0 : List Bool) (t1 : List Bool) (t5 : Int) : Option (Unit ⊕ Bool) := callTy Tb GT s30901 30901 [.sl .share .bool t0, .sl .share .bool t1, .int .i64 t5] []
noncomputable def laws_eqTask (a0 : Tk) (a1 : Tk) : Option (Bool) := callTy Tb GT s8500 8500 [.agg (rowT .tk a0), .agg (rowT .tk a1)] []
noncomputable def laws_eqTaskS_l1 (t0 : List Tk) (t1 : List Tk) (t5 : Int) : Option (Unit ⊕ Bool) := callTy Tb GT s25201 25201 [.sl .share .tk t0, .sl .share .tk t1, .int .i64 t5] []
noncomputable def laws_eqBox (a0 : Bx) (a1 : Bx) : Option (Bool) := callTy Tb GT s19000 19000 [.agg (rowT .bx a0), .agg (rowT .bx a1)] []
noncomputable def laws_eqBoxS_l1 (t0 : List Bx) (t1 : List Bx) (t5 : Int) : Option (Unit ⊕ Bool) := callTy Tb GT s25301 25301 [.sl .share .bx t0, .sl .share .bx t1, .int .i64 t5] []
noncomputable def laws_markStmtS_p (a0 : Hd) (a1 : Int) (A : List Ent) : Option (Int × List Ent) := callTy Tb GT s40900 40900 [.tr .stmH a0.id a0.n, .int .i64 a1] [.ar A]
noncomputable def laws_markTaskS_p_l1 (t0 : Hd) (t1 : Int) (t5 : Int) (b99 : List Ent) : Option (Int × List Ent) := callTy Tb GT s43001 43001 [.tr .tkH t0.id t0.n, .int .i64 t1, .int .i64 t5] [.ar b99]
noncomputable def laws_markBoxS_p_l1 (t0 : Hd) (t1 : Int) (t5 : Int) (b99 : List Ent) : Option (Int × List Ent) := callTy Tb GT s43101 43101 [.tr .bxH t0.id t0.n, .int .i64 t1, .int .i64 t5] [.ar b99]
noncomputable def laws_markIntS_p_l1 (t0 : Hd) (t1 : Int) (t5 : Int) (b99 : List Ent) : Option (Int × List Ent) := callTy Tb GT s38701 38701 [.tr .int t0.id t0.n, .int .i64 t1, .int .i64 t5] [.ar b99]
noncomputable def laws_markIntSS_p_l1 (t0 : Hd) (t1 : Int) (t5 : Int) (b99 : List Ent) : Option (Int × List Ent) := callTy Tb GT s43301 43301 [.tr .intsH t0.id t0.n, .int .i64 t1, .int .i64 t5] [.ar b99]
noncomputable def laws_markBoolS_p_l1 (t0 : Hd) (t1 : Int) (t5 : Int) (b99 : List Ent) : Option (Int × List Ent) := callTy Tb GT s43401 43401 [.tr .bool t0.id t0.n, .int .i64 t1, .int .i64 t5] [.ar b99]
noncomputable def laws_heldIntS_l1 (t0 : List Int) (t1 : Int) (t5 : Int) : Option (Int ⊕ (Int × Int)) := callTy Tb GT s10601 10601 [.sl .share .int t0, .int .i64 t1, .int .i64 t5] []
noncomputable def laws_heldIntSS_l1 (t0 : List (List Int)) (t1 : Int) (t5 : Int) : Option (Int ⊕ (Int × Int)) := callTy Tb GT s31401 31401 [.sl .share .ints t0, .int .i64 t1, .int .i64 t5] []
noncomputable def laws_heldBoolS_l1 (t0 : List Bool) (t1 : Int) (t5 : Int) : Option (Int ⊕ (Int × Int)) := callTy Tb GT s31501 31501 [.sl .share .bool t0, .int .i64 t1, .int .i64 t5] []
noncomputable def slices_Clone___int_int_ (a0 : List Int) : Option (List Int) := callTy Tb GT s16700 16700 [.sl .share .int a0] []
noncomputable def impl_outcomeOf_o_l1 (t14 : List Bx) (t15 : Int) (t16 : Int) (b100_0b : Bool) (b100_0 : List Int) (b100_1b : Bool) (b100_1 : List (List Int)) (b100_2 : Hd) (b100_3 : Bool) (b101_0 : List Int) (b101_1b : Bool) (b101_1 : List (List Int)) (b101_2 : Hd) (b101_3 : Bool) (b99 : List Ent) : Option ((Bool × List Int) × (Bool × List (List Int)) × Hd × Bool × List Int × (Bool × List (List Int)) × Hd × Bool × List Ent) := callTy Tb GT s39801 39801 [.bp 100 0, .bp 101 0, .sl .share .bx t14, .int .i64 t15, .int .i64 t16] [.var [.sl (.own b100_0b) .int b100_0, .sl (.own b100_1b) .ints b100_1, .tr .bool b100_2.id b100_2.n, .bool b100_3], .var [.sl .share .int b101_0, .sl (.own b101_1b) .ints b101_1, .tr .bool b101_2.id b101_2.n, .bool b101_3], .ar b99]
noncomputable def laws_szStmtS (a0 : List Stm) (a1 : Int) : Option (Int) := callTy Tb GT s7100 7100 [.sl .share .stm a0, .int .i64 a1] []
noncomputable def laws_toStmtS (a0 : List Stm) : Option (List Stm) := callTy Tb GT s7700 7700 [.sl .share .stm a0] []
noncomputable def spec_BoxValid (a0 : Bx) : Option (Bool) := callTy Tb GT s17800 17800 [.agg (rowT .bx a0)] []
noncomputable def spec_l15Boxes_l1 (t0 : List Bx) (t3 : Int) : Option (List Bx ⊕ (List Bx × Bool)) := callTy Tb GT s24601 24601 [.sl .share .bx t0, .int .i64 t3] []
noncomputable def spec_StmtsValid (a0 : List Stm) : Option (Bool) := callTy Tb GT s6300 6300 [.sl .share .stm a0] []
noncomputable def spec_TaskValid_l1 (t3 : Int) (b100_0 : List Int) (b100_1 : List Stm) : Option ((List Int × List Stm) ⊕ (Bool × List Int × List Stm)) := callTy Tb GT s6601 6601 [.bp 100 0, .int .i64 t3] [.var [.sl .share .int b100_0, .sl .share .stm b100_1]]
noncomputable def spec_l12Boxes_l1 (t0 : List Stm) (t1 : Int) (t5 : Int) : Option (Unit ⊕ Bool) := callTy Tb GT s23101 23101 [.sl .share .stm t0, .int .i64 t1, .int .i64 t5] []
noncomputable def spec_WordValid (a0 : Int) : Option (Bool) := callTy Tb GT s6400 6400 [.int .i64 a0] []
noncomputable def spec_l4Words_l1 (t0 : List Int) (t5 : Int) : Option (Unit ⊕ Bool) := callTy Tb GT s6501 6501 [.sl .share .int t0, .int .i64 t5] []
noncomputable def laws_toStmtS_p (a0 : List Stm) (A : List Ent) : Option (Hd × List Ent) := callTy Tb GT s40800 40800 [.sl .share .stm a0] [.ar A]
noncomputable def impl_areWords (a0 : List Int) : Option (Bool) := callTy Tb GT s5100 5100 [.sl .share .int a0] []
noncomputable def impl_BoxValid (a0 : Bx) : Option (Bool) := callTy Tb GT s17600 17600 [.agg (rowT .bx a0)] []
noncomputable def impl_boxesValid_l1 (t0 : List Bx) (t5 : List Bx) (t6 : Int) (t7 : Int) : Option (List Bx ⊕ (List Bx × Bool)) := callTy Tb GT s23901 23901 [.sl .share .bx t0, .sl .share .bx t5, .int .i64 t6, .int .i64 t7] []
noncomputable def impl_stmtsValid (a0 : List Stm) (a1 : Int) : Option (Bool) := callTy Tb GT s5400 5400 [.sl .share .stm a0, .int .i64 a1] []
noncomputable def impl_taskValid_l1 (t1 : Int) (t18 : Int) (t19 : Int) (b100_0 : List Int) (b100_1 : List Stm) : Option (Unit ⊕ Bool) := callTy Tb GT s5501 5501 [.int .i64 t1, .bp 100 0, .int .i64 t18, .int .i64 t19] [.var [.sl .share .int b100_0, .sl .share .stm b100_1]]
noncomputable def laws_eqStmtS (a0 : List Stm) (a1 : List Stm) : Option (Bool) := callTy Tb GT s8300 8300 [.sl .share .stm a0, .sl .share .stm a1] []
noncomputable def laws_markExprS_p (a0 : Hd) (a1 : Int) (A : List Ent) : Option (Int × List Ent) := callTy Tb GT s41300 41300 [.tr .expH a0.id a0.n, .int .i64 a1] [.ar A]
noncomputable def laws_markStmtS_p_l1 (t0 : Hd) (t1 : Int) (t5 : Int) (b99 : List Ent) : Option (Int × List Ent) := callTy Tb GT s40901 40901 [.tr .stmH t0.id t0.n, .int .i64 t1, .int .i64 t5] [.ar b99]
noncomputable def laws_szStmt (a0 : Stm) (a1 : Int) : Option (Int) := callTy Tb GT s7000 7000 [.agg (rowT .stm a0), .int .i64 a1] []
noncomputable def laws_szStmtS_l1 (t0 : List Stm) (t1 : Int) (t5 : Int) : Option (Int ⊕ (Int × Int)) := callTy Tb GT s7101 7101 [.sl .share .stm t0, .int .i64 t1, .int .i64 t5] []
noncomputable def laws_toStmt (a0 : Stm) : Option (Stm) := callTy Tb GT s7600 7600 [.agg (rowT .stm a0)] []
noncomputable def laws_toStmtS_l1 (t0 : List Stm) (t4 : Int) (b100 : List Stm) : Option (List Stm) := callTy Tb GT s7701 7701 [.sl .share .stm t0, .bs 100, .int .i64 t4] [.rows .stm b100]
noncomputable def spec_l11Blocks (a0 : List Stm) (a1 : Int) : Option (Bool) := callTy Tb GT s6200 6200 [.sl .share .stm a0, .int .i64 a1] []
noncomputable def spec_l11Count (a0 : List Stm) : Option (Int) := callTy Tb GT s4000 4000 [.sl .share .stm a0] []
noncomputable def laws_toStmt_p (a0 : Stm) (A : List Ent) : Option (StmH × List Ent) := callTy Tb GT s41200 41200 [.agg (rowT .stm a0)] [.ar A]
noncomputable def laws_toStmtS_p_l1 (t0 : List Stm) (t3 : Hd) (t4 : Int) (b99 : List Ent) : Option (Hd × List Ent) := callTy Tb GT s40801 40801 [.sl .share .stm t0, .tr .stmH t3.id t3.n, .int .i64 t4] [.ar b99]
noncomputable def impl_WordValid (a0 : Int) : Option (Bool) := callTy Tb GT s5000 5000 [.int .i64 a0] []
noncomputable def impl_areWords_l1 (t5 : List Int) (t6 : Int) (t7 : Int) : Option (Unit ⊕ Bool) := callTy Tb GT s5101 5101 [.sl .share .int t5, .int .i64 t6, .int .i64 t7] []
noncomputable def impl_blockValid (a0 : List Stm) (a1 : Int) (a2 : Int) (a3 : Int) : Option (Bool × Int) := callTy Tb GT s5300 5300 [.sl .share .stm a0, .int .i64 a1, .int .i64 a2, .bp 0 0] [.var [.int .i64 a3]]
noncomputable def laws_eqStmt (a0 : Stm) (a1 : Stm) : Option (Bool) := callTy Tb GT s8200 8200 [.agg (rowT .stm a0), .agg (rowT .stm a1)] []
noncomputable def laws_eqStmtS_l1 (t0 : List Stm) (t1 : List Stm) (t5 : Int) : Option (Unit ⊕ Bool) := callTy Tb GT s8301 8301 [.sl .share .stm t0, .sl .share .stm t1, .int .i64 t5] []
noncomputable def laws_markExprS_p_l1 (t0 : Hd) (t1 : Int) (t5 : Int) (b99 : List Ent) : Option (Int × List Ent) := callTy Tb GT s41301 41301 [.tr .expH t0.id t0.n, .int .i64 t1, .int .i64 t5] [.ar b99]
noncomputable def laws_szExpr (a0 : Exp) (a1 : Int) : Option (Int) := callTy Tb GT s6900 6900 [.agg (rowT .exp a0), .int .i64 a1] []
noncomputable def laws_toExpr (a0 : Exp) : Option (Exp) := callTy Tb GT s7500 7500 [.agg (rowT .exp a0)] []
noncomputable def spec_l11Ok (a0 : Stm) (a1 : Int) : Option (Bool) := callTy Tb GT s6100 6100 [.agg (rowT .stm a0), .int .i64 a1] []
noncomputable def spec_l11Blocks_l1 (t0 : List Stm) (t1 : Int) (t5 : Int) : Option (Unit ⊕ Bool) := callTy Tb GT s6201 6201 [.sl .share .stm t0, .int .i64 t1, .int .i64 t5] []
noncomputable def spec_l11Count_l1 (t0 : List Stm) (t3 : Int) (t4 : Int) : Option (Int) := callTy Tb GT s4001 4001 [.sl .share .stm t0, .int .i64 t3, .int .i64 t4] []
noncomputable def laws_toExpr_p (a0 : Exp) (A : List Ent) : Option (ExpH × List Ent) := callTy Tb GT s41500 41500 [.agg (rowT .exp a0)] [.ar A]
noncomputable def impl_stmtValid (a0 : Stm) (a1 : Int) : Option (Bool) := callTy Tb GT s5200 5200 [.rp (rowT .stm a0) 0, .int .i64 a1] []
noncomputable def impl_blockValid_l1 (t0 : List Stm) (t1 : Int) (t2 : Int) (t23 : Int) (t24 : Int) (b0_0 : Int) : Option (Int ⊕ (Bool × Int)) := callTy Tb GT s5301 5301 [.sl .share .stm t0, .int .i64 t1, .int .i64 t2, .bp 0 0, .int .i64 t23, .int .i64 t24] [.var [.int .i64 b0_0]]
noncomputable def laws_eqExpr (a0 : Exp) (a1 : Exp) : Option (Bool) := callTy Tb GT s8100 8100 [.agg (rowT .exp a0), .agg (rowT .exp a1)] []
noncomputable def laws_szExprS (a0 : List Exp) (a1 : Int) : Option (Int) := callTy Tb GT s6800 6800 [.sl .share .exp a0, .int .i64 a1] []
noncomputable def laws_toExprS (a0 : List Exp) : Option (List Exp) := callTy Tb GT s7400 7400 [.sl .share .exp a0] []
noncomputable def spec_l11Simple (a0 : Stm) : Option (Bool) := callTy Tb GT s6000 6000 [.agg (rowT .stm a0)] []
noncomputable def spec_l11Var (a0 : Stm) (a1 : Bool) : Option (Bool) := callTy Tb GT s5700 5700 [.agg (rowT .stm a0), .bool a1] []
noncomputable def spec_l11Box (a0 : Stm) (a1 : Bool) : Option (Bool) := callTy Tb GT s5800 5800 [.agg (rowT .stm a0), .bool a1] []
noncomputable def spec_ExprValid (a0 : Exp) : Option (Bool) := callTy Tb GT s1900 1900 [.agg (rowT .exp a0)] []
noncomputable def laws_toExprS_p (a0 : List Exp) (A : List Ent) : Option (Hd × List Ent) := callTy Tb GT s41600 41600 [.sl .share .exp a0] [.ar A]
noncomputable def impl_stmtValid_1 (a0 : Int) (a1 : Int) (a2 : Bool) : Option (Bool) := callTy Tb GT s11100 11100 [.int .i64 a0, .int .i64 a1, .bool a2] []
noncomputable def impl_ExprValid (a0 : Exp) : Option (Bool) := callTy Tb GT s1200 1200 [.agg (rowT .exp a0)] []
noncomputable def laws_eqExprS (a0 : List Exp) (a1 : List Exp) : Option (Bool) := callTy Tb GT s8000 8000 [.sl .share .exp a0, .sl .share .exp a1] []
noncomputable def laws_szExprS_l1 (t0 : List Exp) (t1 : Int) (t5 : Int) : Option (Int ⊕ (Int × Int)) := callTy Tb GT s6801 6801 [.sl .share .exp t0, .int .i64 t1, .int .i64 t5] []
noncomputable def laws_toExprS_l1 (t0 : List Exp) (t4 : Int) (b100 : List Exp) : Option (List Exp) := callTy Tb GT s7401 7401 [.sl .share .exp t0, .bs 100, .int .i64 t4] [.rows .exp b100]
noncomputable def spec_l11Plain (a0 : Exp) : Option (Bool) := callTy Tb GT s5900 5900 [.agg (rowT .exp a0)] []
noncomputable def spec_l4Ok (a0 : Exp) (a1 : Int) : Option (Bool) := callTy Tb GT s1800 1800 [.agg (rowT .exp a0), .int .i64 a1] []
noncomputable def laws_toExprS_p_l1 (t0 : List Exp) (t3 : Hd) (t4 : Int) (b99 : List Ent) : Option (Hd × List Ent) := callTy Tb GT s41601 41601 [.sl .share .exp t0, .tr .expH t3.id t3.n, .int .i64 t4] [.ar b99]
noncomputable def impl_exprValid (a0 : Exp) (a1 : Int) : Option (Bool) := callTy Tb GT s1100 1100 [.agg (rowT .exp a0), .int .i64 a1] []
noncomputable def laws_eqExprS_l1 (t0 : List Exp) (t1 : List Exp) (t5 : Int) : Option (Unit ⊕ Bool) := callTy Tb GT s8001 8001 [.sl .share .exp t0, .sl .share .exp t1, .int .i64 t5] []
noncomputable def spec_OpValid (a0 : Int) : Option (Bool) := callTy Tb GT s1700 1700 [.int .i64 a0] []
noncomputable def impl_OpValid (a0 : Int) : Option (Bool) := callTy Tb GT s1000 1000 [.int .i64 a0] []
end Go.TFnExactWorldOutcome
