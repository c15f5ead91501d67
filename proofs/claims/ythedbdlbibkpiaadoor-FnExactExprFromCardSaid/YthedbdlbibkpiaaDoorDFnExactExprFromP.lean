import Derived.Test.YthedbdlbibkpiaaDoorLkA
import Derived.Test.YthedbdlbibkpiaaDoorPm2
import Derived.Test.YthedbdlbibkpiaaDoorPm4

set_option linter.unusedVariables false
namespace Go.TFnExactExprFrom
open Go Go.RowKit Go.Vs Go.Tv

@[reducible] def oo (d : Nat) (k : KT) : AOpT := ⟨some d, k, none, []⟩
@[reducible] def op (d : Nat) (k : KT) (f : List Nat) : AOpT := ⟨some d, k, none, f⟩
@[reducible] def on (k : KT) (f : List Nat) : AOpT := ⟨none, k, none, f⟩
@[reducible] def og (d : Option Nat) (k : KT) (i : Nat) (b : Bool) (f : List Nat) : AOpT := ⟨d, k, some (i, b), f⟩
@[reducible] def tt (i : Nat) : OpT := .tmp i
@[reducible] def nn (i : Int) : OpT := .const (.int .i64 i)
@[reducible] def rr (l : List AOpT) : ACT := .region false l
noncomputable def p300 : ProcT := { kind := .fn, ins := [0, 1], bins := [], res := [.keep 4 3], code := (.seq (rr [oo 4 (.alloc 100 [.int .i64 0, .int .i64 0, .sl (.own false) .exp []])])
 (.seq (rr [oo 5 (.mv (tt 0)),
oo 6 (.mv (tt 1)),
oo 7 (.buildS (.own false) .exp []),
oo 8 (.build [.int .i64 0, .int .i64 0, .sl (.own false) .exp []] [(0, 1, tt 5), (1, 1, tt 6), (2, 1, tt 7)]),
on (.store 3 (tt 4) (tt 8)) []])
 .ret)) }
noncomputable def p500 : ProcT := { kind := .fn, ins := [0, 1, 2], bins := [], res := [.keep 6 3], code := (.seq (rr [oo 4 (.box 100 (tt 1)),
oo 5 (.box 101 (tt 2)),
oo 6 (.alloc 102 [.int .i64 0, .int .i64 0, .sl (.own false) .exp []])])
 (.seq (rr [oo 7 (.mv (tt 0)),
oo 8 (.load 3 true false (tt 4)),
oo 9 (.load 3 true false (tt 5)),
oo 10 (.buildS .full .exp [tt 8, tt 9]),
oo 11 (.build [.int .i64 0, .int .i64 0, .sl (.own false) .exp []] [(0, 1, tt 7), (2, 1, tt 10)]),
on (.store 3 (tt 6) (tt 11)) []])
 .ret)) }
noncomputable def p1000 : ProcT := { kind := .fn, ins := [0], bins := [], res := [.tmp 2], code := (.seq (rr [oo 2 (.mv (.const (.bool false)))])
 (.seq (rr [oo 3 (.mv (tt 0)),
oo 4 (.bin .geq (tt 3) (nn 1)),
oo 5 (.mv (tt 4)),
og (some 6) (.mv (tt 0)) 5 true [],
og (some 7) (.bin .leq (tt 6) (nn 12)) 5 true [],
oo 8 (.pick (tt 5) (tt 7) (.const (.bool false))),
oo 2 (.mv (tt 8))])
 .ret)) }
noncomputable def p1100 : ProcT := { kind := .fn, ins := [0, 1], bins := [], res := [.tmp 4], code := (.seq (rr [oo 2 (.box 100 (tt 0)),
oo 4 (.mv (.const (.bool false)))])
 (.seq (.block 0 (.seq (rr [oo 6 (.fadr 0 (tt 2)),
oo 7 (.load 1 false false (tt 6)),
oo 8 (.bin .eql (tt 7) (nn 0)),
oo 5 (.mv (tt 8))])
 (.cond (tt 5) (.seq (rr [oo 9 (.fadr 1 (tt 2)),
oo 10 (.load 1 false false (tt 9)),
oo 11 (.bin .geq (tt 10) (nn 0)),
oo 12 (.mv (tt 11)),
og (some 13) (.fadr 1 (tt 2)) 12 true [],
og (some 14) (.load 1 false false (tt 13)) 12 true [],
og (some 15) (.bin .leq (tt 14) (nn 99999)) 12 true [],
oo 16 (.pick (tt 12) (tt 15) (.const (.bool false))),
oo 17 (.mv (tt 16)),
og (some 18) (.fadr 2 (tt 2)) 17 true [],
og (some 19) (.load 1 false false (tt 18)) 17 true [],
og (some 20) (.len (tt 19)) 17 true [],
og (some 21) (.bin .eql (tt 20) (nn 0)) 17 true [],
oo 22 (.pick (tt 17) (tt 21) (.const (.bool false))),
oo 23 (.mv (tt 22)),
og (some 24) (.mv (tt 1)) 23 true [],
og (some 25) (.bin .gtr (tt 24) (nn 0)) 23 true [],
oo 26 (.pick (tt 23) (tt 25) (.const (.bool false))),
oo 4 (.mv (tt 26))])
 .ret) (.seq (rr [oo 28 (.fadr 0 (tt 2)),
oo 29 (.load 1 false false (tt 28)),
oo 30 (.bin .eql (tt 29) (nn 13)),
oo 27 (.mv (tt 30))])
 (.cond (tt 27) (.seq (rr [oo 31 (.fadr 1 (tt 2)),
oo 32 (.load 1 false false (tt 31)),
oo 33 (.bin .geq (tt 32) (nn 0)),
oo 34 (.mv (tt 33)),
og (some 35) (.fadr 1 (tt 2)) 34 true [],
og (some 36) (.load 1 false false (tt 35)) 34 true [],
og (some 37) (.bin .lss (tt 36) (nn 4)) 34 true [],
oo 38 (.pick (tt 34) (tt 37) (.const (.bool false))),
oo 39 (.mv (tt 38)),
og (some 40) (.fadr 2 (tt 2)) 39 true [],
og (some 41) (.load 1 false false (tt 40)) 39 true [],
og (some 42) (.len (tt 41)) 39 true [],
og (some 43) (.bin .eql (tt 42) (nn 0)) 39 true [],
oo 44 (.pick (tt 39) (tt 43) (.const (.bool false))),
oo 45 (.mv (tt 44)),
og (some 46) (.mv (tt 1)) 45 true [],
og (some 47) (.bin .gtr (tt 46) (nn 0)) 45 true [],
oo 48 (.pick (tt 45) (tt 47) (.const (.bool false))),
oo 4 (.mv (tt 48))])
 .ret) .skip)))))
 (.seq (rr [oo 49 (.fadr 0 (tt 2)),
oo 50 (.load 1 false false (tt 49)),
oo 51 (.call 1000 0 [tt 50]),
oo 52 (.mv (tt 51)),
og (some 53) (.fadr 1 (tt 2)) 52 true [],
og (some 54) (.load 1 false false (tt 53)) 52 true [],
og (some 55) (.bin .eql (tt 54) (nn 0)) 52 true [],
oo 56 (.pick (tt 52) (tt 55) (.const (.bool false))),
oo 57 (.mv (tt 56)),
og (some 58) (.fadr 2 (tt 2)) 57 true [],
og (some 59) (.load 1 false false (tt 58)) 57 true [],
og (some 60) (.len (tt 59)) 57 true [],
og (some 61) (.bin .eql (tt 60) (nn 2)) 57 true [],
oo 62 (.pick (tt 57) (tt 61) (.const (.bool false))),
oo 63 (.mv (tt 62)),
og (some 64) (.mv (tt 1)) 63 true [],
og (some 65) (.bin .gtr (tt 64) (nn 1)) 63 true [],
oo 66 (.pick (tt 63) (tt 65) (.const (.bool false))),
oo 67 (.mv (tt 66)),
og (some 68) (.fadr 2 (tt 2)) 67 true [],
og (some 69) (.load 1 false false (tt 68)) 67 true [],
og (some 70) (.iadr 3 (tt 69) (nn 0)) 67 true [],
og (some 71) (.load 3 true false (tt 70)) 67 true [],
og (some 72) (.mv (tt 1)) 67 true [],
og (some 73) (.bin .sub (tt 72) (nn 1)) 67 true [],
og (some 74) (.call 1100 0 [tt 71, tt 73]) 67 true [],
oo 75 (.pick (tt 67) (tt 74) (.const (.bool false))),
oo 76 (.mv (tt 75)),
og (some 77) (.fadr 2 (tt 2)) 76 true [],
og (some 78) (.load 1 false false (tt 77)) 76 true [],
og (some 79) (.iadr 3 (tt 78) (nn 1)) 76 true [],
og (some 80) (.load 3 true false (tt 79)) 76 true [],
og (some 81) (.mv (tt 1)) 76 true [],
og (some 82) (.bin .sub (tt 81) (nn 1)) 76 true [],
og (some 83) (.call 1100 0 [tt 80, tt 82]) 76 true [],
oo 84 (.pick (tt 76) (tt 83) (.const (.bool false))),
oo 4 (.mv (tt 84))])
 .ret))) }
noncomputable def p1200 : ProcT := { kind := .fn, ins := [0], bins := [], res := [.tmp 2], code := (.seq (rr [oo 1 (.box 100 (tt 0)),
oo 2 (.mv (.const (.bool false)))])
 (.seq (rr [oo 3 (.load 3 true false (tt 1)),
oo 4 (.call 1100 0 [tt 3, nn 5]),
oo 2 (.mv (tt 4))])
 .ret)) }
noncomputable def p1600 : ProcT := { kind := .fn, ins := [0, 1, 2], bins := [], res := [.tmp 6], code := (.seq (rr [oo 6 (.mv (.const (.bool false)))])
 (.seq (rr [oo 7 (.mv (tt 0)),
oo 8 (.mv (tt 1)),
oo 9 (.bin .geq (tt 7) (tt 8)),
oo 10 (.mv (tt 9)),
og (some 11) (.mv (tt 0)) 10 true [],
og (some 12) (.mv (tt 2)) 10 true [],
og (some 13) (.bin .leq (tt 11) (tt 12)) 10 true [],
oo 14 (.pick (tt 10) (tt 13) (.const (.bool false))),
oo 6 (.mv (tt 14))])
 .ret)) }
noncomputable def p1700 : ProcT := { kind := .fn, ins := [0], bins := [], res := [.tmp 2], code := (.seq (rr [oo 2 (.mv (.const (.bool false)))])
 (.seq (rr [oo 3 (.mv (tt 0)),
oo 4 (.call 1600 0 [tt 3, nn 1, nn 12]),
oo 2 (.mv (tt 4))])
 .ret)) }
noncomputable def p1800 : ProcT := { kind := .fn, ins := [0, 1], bins := [], res := [.tmp 4], code := (.seq (rr [oo 2 (.box 100 (tt 0)),
oo 4 (.mv (.const (.bool false)))])
 (.seq (.seq (rr [oo 5 (.mv (tt 1)),
oo 6 (.bin .lss (tt 5) (nn 1))])
 (.cond (tt 6) (.seq (rr [oo 4 (.mv (.const (.bool false)))])
 .ret) .skip))
 (.seq (.seq (rr [oo 7 (.fadr 0 (tt 2)),
oo 8 (.load 1 false false (tt 7)),
oo 9 (.bin .eql (tt 8) (nn 0))])
 (.cond (tt 9) (.seq (rr [oo 10 (.fadr 1 (tt 2)),
oo 11 (.load 1 false false (tt 10)),
oo 12 (.call 1600 0 [tt 11, nn 0, nn 99999]),
oo 13 (.mv (tt 12)),
og (some 14) (.fadr 2 (tt 2)) 13 true [],
og (some 15) (.load 1 false false (tt 14)) 13 true [],
og (some 16) (.len (tt 15)) 13 true [],
og (some 17) (.bin .eql (tt 16) (nn 0)) 13 true [],
oo 18 (.pick (tt 13) (tt 17) (.const (.bool false))),
oo 4 (.mv (tt 18))])
 .ret) .skip))
 (.seq (.seq (rr [oo 19 (.fadr 0 (tt 2)),
oo 20 (.load 1 false false (tt 19)),
oo 21 (.bin .eql (tt 20) (nn 13))])
 (.cond (tt 21) (.seq (rr [oo 22 (.fadr 1 (tt 2)),
oo 23 (.load 1 false false (tt 22)),
oo 24 (.call 1600 0 [tt 23, nn 0, nn 3]),
oo 25 (.mv (tt 24)),
og (some 26) (.fadr 2 (tt 2)) 25 true [],
og (some 27) (.load 1 false false (tt 26)) 25 true [],
og (some 28) (.len (tt 27)) 25 true [],
og (some 29) (.bin .eql (tt 28) (nn 0)) 25 true [],
oo 30 (.pick (tt 25) (tt 29) (.const (.bool false))),
oo 4 (.mv (tt 30))])
 .ret) .skip))
 (.seq (rr [oo 31 (.fadr 0 (tt 2)),
oo 32 (.load 1 false false (tt 31)),
oo 33 (.call 1700 0 [tt 32]),
oo 34 (.mv (tt 33)),
og (some 35) (.fadr 1 (tt 2)) 34 true [],
og (some 36) (.load 1 false false (tt 35)) 34 true [],
og (some 37) (.bin .eql (tt 36) (nn 0)) 34 true [],
oo 38 (.pick (tt 34) (tt 37) (.const (.bool false))),
oo 39 (.mv (tt 38)),
og (some 40) (.fadr 2 (tt 2)) 39 true [],
og (some 41) (.load 1 false false (tt 40)) 39 true [],
og (some 42) (.len (tt 41)) 39 true [],
og (some 43) (.bin .eql (tt 42) (nn 2)) 39 true [],
oo 44 (.pick (tt 39) (tt 43) (.const (.bool false))),
oo 45 (.mv (tt 44)),
og (some 46) (.fadr 2 (tt 2)) 45 true [],
og (some 47) (.load 1 false false (tt 46)) 45 true [],
og (some 48) (.iadr 3 (tt 47) (nn 0)) 45 true [],
og (some 49) (.load 3 true false (tt 48)) 45 true [],
og (some 50) (.mv (tt 1)) 45 true [],
og (some 51) (.bin .sub (tt 50) (nn 1)) 45 true [],
og (some 52) (.call 1800 0 [tt 49, tt 51]) 45 true [],
oo 53 (.pick (tt 45) (tt 52) (.const (.bool false))),
oo 54 (.mv (tt 53)),
og (some 55) (.fadr 2 (tt 2)) 54 true [],
og (some 56) (.load 1 false false (tt 55)) 54 true [],
og (some 57) (.iadr 3 (tt 56) (nn 1)) 54 true [],
og (some 58) (.load 3 true false (tt 57)) 54 true [],
og (some 59) (.mv (tt 1)) 54 true [],
og (some 60) (.bin .sub (tt 59) (nn 1)) 54 true [],
og (some 61) (.call 1800 0 [tt 58, tt 60]) 54 true [],
oo 62 (.pick (tt 54) (tt 61) (.const (.bool false))),
oo 4 (.mv (tt 62))])
 .ret))))) }
noncomputable def p1900 : ProcT := { kind := .fn, ins := [0], bins := [], res := [.tmp 2], code := (.seq (rr [oo 1 (.box 100 (tt 0)),
oo 2 (.mv (.const (.bool false)))])
 (.seq (rr [oo 3 (.load 3 true false (tt 1)),
oo 4 (.call 1800 0 [tt 3, nn 5]),
oo 2 (.mv (tt 4))])
 .ret)) }
noncomputable def p8000 : ProcT := { kind := .fn, ins := [0, 1], bins := [], res := [.tmp 4], code := (.seq (rr [oo 4 (.mv (.const (.bool false)))])
 (.seq (.seq (rr [oo 6 (.mv (tt 0)),
oo 7 (.len (tt 6)),
oo 8 (.mv (tt 1)),
oo 9 (.len (tt 8)),
oo 10 (.bin .neq (tt 7) (tt 9))])
 (.cond (tt 10) (.seq (rr [oo 4 (.mv (.const (.bool false)))])
 .ret) .skip))
 (.seq (.seq (rr [oo 5 (.mv (nn 0))])
 (.block 0 (.label 8001)))
 (.seq (rr [oo 4 (.mv (.const (.bool true)))])
 .ret)))) }
noncomputable def p8001 : ProcT := { kind := .loop, ins := [0, 1, 5], bins := [], outs := [4], bouts := [], code := (.seq (.seq (rr [oo 11 (.mv (tt 5)),
oo 12 (.mv (tt 0)),
oo 13 (.len (tt 12)),
oo 14 (.bin .lss (tt 11) (tt 13))])
 (.cond (tt 14) .skip (.exit 0)))
 (.seq (.block 1 (.seq (.region true [oo 17 (.mv (tt 0)),
oo 18 (.mv (tt 5)),
oo 19 (.iadr 3 (tt 17) (tt 18)),
oo 20 (.load 3 true false (tt 19)),
oo 21 (.mv (tt 1)),
oo 22 (.mv (tt 5)),
oo 23 (.iadr 3 (tt 21) (tt 22)),
oo 24 (.load 3 true false (tt 23)),
oo 25 (.call 8100 0 [tt 20, tt 24]),
oo 26 (.un .not (tt 25))])
 (.cond (tt 26) (.seq (rr [oo 4 (.mv (.const (.bool false)))])
 .ret) .skip)))
 (rr [oo 15 (.mv (tt 5)),
oo 16 (.bin .add (tt 15) (nn 1)),
oo 5 (.mv (tt 16))]))) }
noncomputable def p8100 : ProcT := { kind := .fn, ins := [0, 1], bins := [], res := [.tmp 4], code := (.seq (rr [oo 2 (.box 100 (tt 0)),
oo 3 (.box 101 (tt 1)),
oo 4 (.mv (.const (.bool false)))])
 (.seq (.seq (rr [oo 5 (.fadr 0 (tt 2)),
oo 6 (.load 1 false false (tt 5)),
oo 7 (.fadr 0 (tt 3)),
oo 8 (.load 1 false false (tt 7)),
oo 9 (.bin .neq (tt 6) (tt 8))])
 (.cond (tt 9) (.seq (rr [oo 4 (.mv (.const (.bool false)))])
 .ret) .skip))
 (.seq (.seq (rr [oo 10 (.fadr 1 (tt 2)),
oo 11 (.load 1 false false (tt 10)),
oo 12 (.fadr 1 (tt 3)),
oo 13 (.load 1 false false (tt 12)),
oo 14 (.bin .neq (tt 11) (tt 13))])
 (.cond (tt 14) (.seq (rr [oo 4 (.mv (.const (.bool false)))])
 .ret) .skip))
 (.seq (.seq (rr [oo 15 (.fadr 2 (tt 2)),
oo 16 (.load 1 false false (tt 15)),
oo 17 (.fadr 2 (tt 3)),
oo 18 (.load 1 false false (tt 17)),
oo 19 (.call 8000 0 [tt 16, tt 18]),
oo 20 (.un .not (tt 19))])
 (.cond (tt 20) (.seq (rr [oo 4 (.mv (.const (.bool false)))])
 .ret) .skip))
 (.seq (rr [oo 4 (.mv (.const (.bool true)))])
 .ret))))) }
noncomputable def p10700 : ProcT := { kind := .fn, ins := [0, 1], bins := [], res := [.tmp 4], code := (.seq (rr [oo 4 (.mv (nn 0))])
 (.seq (.seq (rr [oo 5 (.mv (nn 0))])
 (.block 0 (.label 10701)))
 (.seq (rr [oo 39 (.mv (tt 1)),
oo 4 (.mv (tt 39))])
 .ret))) }
noncomputable def p10701 : ProcT := { kind := .loop, ins := [0, 1, 5], bins := [], outs := [1, 4], bouts := [], code := (.seq (.seq (rr [oo 6 (.mv (tt 5)),
oo 7 (.mv (tt 0)),
oo 8 (.len (tt 7)),
oo 9 (.bin .lss (tt 6) (tt 8))])
 (.cond (tt 9) .skip (.exit 0)))
 (.seq (.block 1 (.seq (.seq (rr [oo 12 (.mv (tt 0)),
oo 13 (.mv (tt 5)),
oo 14 (.iadr 3 (tt 12) (tt 13)),
oo 15 (.fadr 0 (tt 14)),
oo 16 (.load 1 false false (tt 15)),
oo 17 (.mv (tt 1)),
oo 18 (.bin .neq (tt 16) (tt 17))])
 (.cond (tt 18) (.seq (rr [oo 4 (.mv (nn (-1)))])
 .ret) .skip))
 (.seq (rr [oo 19 (.mv (tt 1)),
oo 20 (.bin .add (tt 19) (nn 1)),
oo 1 (.mv (tt 20))])
 (.seq (.seq (rr [oo 21 (.mv (tt 0)),
oo 22 (.mv (tt 5)),
oo 23 (.iadr 3 (tt 21) (tt 22)),
oo 24 (.fadr 1 (tt 23)),
oo 25 (.load 1 false false (tt 24)),
oo 26 (.mv (tt 1)),
oo 27 (.bin .neq (tt 25) (tt 26))])
 (.cond (tt 27) (.seq (rr [oo 4 (.mv (nn (-1)))])
 .ret) .skip))
 (.seq (rr [oo 28 (.mv (tt 1)),
oo 29 (.bin .add (tt 28) (nn 1)),
oo 1 (.mv (tt 29))])
 (.seq (rr [oo 30 (.mv (tt 0)),
oo 31 (.mv (tt 5)),
oo 32 (.iadr 3 (tt 30) (tt 31)),
oo 33 (.fadr 2 (tt 32)),
oo 34 (.load 1 false false (tt 33)),
oo 35 (.mv (tt 1)),
oo 36 (.call 10700 0 [tt 34, tt 35]),
oo 1 (.mv (tt 36))])
 (.seq (rr [oo 37 (.mv (tt 1)),
oo 38 (.bin .lss (tt 37) (nn 0))])
 (.cond (tt 38) (.seq (rr [oo 4 (.mv (nn (-1)))])
 .ret) .skip))))))))
 (rr [oo 10 (.mv (tt 5)),
oo 11 (.bin .add (tt 10) (nn 1)),
oo 5 (.mv (tt 11))]))) }
noncomputable def p20700 : ProcT := { kind := .fn, ins := [0], bins := [], res := [.tmp 2], code := (.seq (rr [oo 2 (.mv (.const (.str [])))])
 (.seq (.seq (rr [oo 3 (.mv (tt 0)),
oo 4 (.call 1700 0 [tt 3]),
oo 5 (.un .not (tt 4))])
 (.cond (tt 5) (.seq (rr [oo 2 (.mv (.const (.str [])))])
 .ret) .skip))
 (.seq (rr [oo 6 (.buildS .full .str [.const (.str [124]), .const (.str [94]), .const (.str [38]), .const (.str ([61, 61])), .const (.str [60]), .const (.str ([60, 60])), .const (.str ([62, 62])), .const (.str [43]), .const (.str [45]), .const (.str [42]), .const (.str [47]), .const (.str [37])]),
oo 7 (.mv (tt 0)),
oo 8 (.bin .sub (tt 7) (nn 1)),
oo 9 (.iadr 1 (tt 6) (tt 8)),
oo 10 (.load 1 false false (tt 9)),
oo 2 (.mv (tt 10))])
 .ret))) }
noncomputable def p31800 : ProcT := { kind := .fn, ins := [0], bins := [], res := [.tmp 2], code := (.seq (rr [oo 2 (.mv (nn 0))])
 (.seq (.block 0 (.seq (rr [oo 6 (.mv (tt 0)),
oo 7 (.bin .geq (tt 6) (.const (.int .u8 48))),
oo 8 (.mv (tt 7)),
og (some 9) (.mv (tt 0)) 8 true [],
og (some 10) (.bin .leq (tt 9) (.const (.int .u8 57))) 8 true [],
oo 11 (.pick (tt 8) (tt 10) (.const (.bool false))),
oo 5 (.mv (tt 11))])
 (.cond (tt 5) (.seq (rr [oo 2 (.mv (nn 1))])
 .ret) (.seq (rr [oo 13 (.mv (tt 0)),
oo 14 (.bin .geq (tt 13) (.const (.int .u8 97))),
oo 15 (.mv (tt 14)),
og (some 16) (.mv (tt 0)) 15 true [],
og (some 17) (.bin .leq (tt 16) (.const (.int .u8 122))) 15 true [],
oo 18 (.pick (tt 15) (tt 17) (.const (.bool false))),
oo 12 (.mv (tt 18))])
 (.cond (tt 12) (.seq (rr [oo 2 (.mv (nn 2))])
 .ret) (.seq (rr [oo 20 (.mv (tt 0)),
oo 21 (.bin .eql (tt 20) (.const (.int .u8 32))),
oo 22 (.mv (tt 21)),
og (some 23) (.mv (tt 0)) 22 false [],
og (some 24) (.bin .eql (tt 23) (.const (.int .u8 10))) 22 false [],
oo 25 (.pick (tt 22) (.const (.bool true)) (tt 24)),
oo 19 (.mv (tt 25))])
 (.cond (tt 19) (.seq (rr [oo 2 (.mv (nn 3))])
 .ret) .skip)))))))
 (.seq (rr [oo 3 (.mv (.const (.str ([43, 45, 42, 47, 37, 38, 124, 94, 60, 62, 40, 41, 123, 125, 61, 59]))))])
 (.seq (.seq (rr [oo 4 (.mv (nn 0))])
 (.block 1 (.label 31801)))
 (.seq (rr [oo 2 (.mv (nn 0))])
 .ret))))) }
noncomputable def p31801 : ProcT := { kind := .loop, ins := [0, 3, 4], bins := [], outs := [2], bouts := [], code := (.seq (.seq (rr [oo 26 (.mv (tt 4)),
oo 27 (.mv (tt 3)),
oo 28 (.lenS (tt 27)),
oo 29 (.bin .lss (tt 26) (tt 28))])
 (.cond (tt 29) .skip (.exit 1)))
 (.seq (.block 2 (.seq (rr [oo 32 (.mv (tt 3)),
oo 33 (.mv (tt 4)),
oo 34 (.idxS (tt 32) (tt 33)),
oo 35 (.mv (tt 0)),
oo 36 (.bin .eql (tt 34) (tt 35))])
 (.cond (tt 36) (.seq (rr [oo 2 (.mv (nn 4))])
 .ret) .skip)))
 (rr [oo 30 (.mv (tt 4)),
oo 31 (.bin .add (tt 30) (nn 1)),
oo 4 (.mv (tt 31))]))) }
noncomputable def p31900 : ProcT := { kind := .fn, ins := [0, 1], bins := [], res := [.tmp 4], code := (.seq (rr [oo 4 (.mv (nn 0))])
 (.seq (rr [oo 6 (.mv (tt 1)),
oo 5 (.mv (tt 6))])
 (.seq (.block 0 (.label 31901))
 (.seq (rr [oo 24 (.mv (tt 5)),
oo 4 (.mv (tt 24))])
 .ret)))) }
noncomputable def p31901 : ProcT := { kind := .loop, ins := [0, 1, 5], bins := [], outs := [4, 5], bouts := [], code := (.seq (.seq (.region true [oo 7 (.mv (tt 5)),
oo 8 (.mv (tt 0)),
oo 9 (.lenS (tt 8)),
oo 10 (.bin .lss (tt 7) (tt 9)),
oo 11 (.mv (tt 10)),
og (some 12) (.mv (tt 0)) 11 true [],
og (some 13) (.mv (tt 5)) 11 true [],
og (some 14) (.idxS (tt 12) (tt 13)) 11 true [],
og (some 15) (.call 31800 0 [tt 14]) 11 true [],
og (some 16) (.mv (tt 0)) 11 true [],
og (some 17) (.mv (tt 1)) 11 true [],
og (some 18) (.idxS (tt 16) (tt 17)) 11 true [],
og (some 19) (.call 31800 0 [tt 18]) 11 true [],
og (some 20) (.bin .eql (tt 15) (tt 19)) 11 true [],
oo 21 (.pick (tt 11) (tt 20) (.const (.bool false)))])
 (.cond (tt 21) .skip (.exit 0)))
 (.block 1 (rr [oo 22 (.mv (tt 5)),
oo 23 (.bin .add (tt 22) (nn 1)),
oo 5 (.mv (tt 23))]))) }
noncomputable def p32000 : ProcT := { kind := .fn, ins := [0], bins := [], res := [.tmp 2], code := (.seq (rr [oo 2 (.mv (.const (.bool false)))])
 (.seq (rr [oo 3 (.mv (tt 0)),
oo 4 (.bin .eql (tt 3) (.const (.str ([60, 60])))),
oo 5 (.mv (tt 4)),
og (some 6) (.mv (tt 0)) 5 false [],
og (some 7) (.bin .eql (tt 6) (.const (.str ([62, 62])))) 5 false [],
oo 8 (.pick (tt 5) (.const (.bool true)) (tt 7)),
oo 9 (.mv (tt 8)),
og (some 10) (.mv (tt 0)) 9 false [],
og (some 11) (.bin .eql (tt 10) (.const (.str ([61, 61])))) 9 false [],
oo 12 (.pick (tt 9) (.const (.bool true)) (tt 11)),
oo 2 (.mv (tt 12))])
 .ret)) }
noncomputable def p32100 : ProcT := { kind := .fn, ins := [0, 1], bins := [], res := [.tmp 4], code := (.seq (rr [oo 4 (.mv (nn 0))])
 (.seq (rr [oo 6 (.mv (tt 0)),
oo 7 (.mv (tt 1)),
oo 8 (.idxS (tt 6) (tt 7)),
oo 9 (.call 31800 0 [tt 8]),
oo 5 (.mv (tt 9))])
 (.seq (.seq (rr [oo 10 (.mv (tt 5)),
oo 11 (.bin .eql (tt 10) (nn 1)),
oo 12 (.mv (tt 11)),
og (some 13) (.mv (tt 5)) 12 false [],
og (some 14) (.bin .eql (tt 13) (nn 2)) 12 false [],
oo 15 (.pick (tt 12) (.const (.bool true)) (tt 14))])
 (.cond (tt 15) (.seq (rr [oo 16 (.mv (tt 0)),
oo 17 (.mv (tt 1)),
oo 18 (.call 31900 0 [tt 16, tt 17]),
oo 4 (.mv (tt 18))])
 .ret) .skip))
 (.seq (.seq (rr [oo 19 (.mv (tt 5)),
oo 20 (.bin .neq (tt 19) (nn 4))])
 (.cond (tt 20) (.seq (rr [oo 4 (.mv (nn (-1)))])
 .ret) .skip))
 (.seq (.seq (rr [oo 21 (.mv (tt 1)),
oo 22 (.bin .add (tt 21) (nn 2)),
oo 23 (.mv (tt 0)),
oo 24 (.lenS (tt 23)),
oo 25 (.bin .leq (tt 22) (tt 24)),
oo 26 (.mv (tt 25)),
og (some 27) (.mv (tt 0)) 26 true [],
og (some 28) (.mv (tt 1)) 26 true [],
og (some 29) (.mv (tt 1)) 26 true [],
og (some 30) (.bin .add (tt 29) (nn 2)) 26 true [],
og (some 31) (.slcS (tt 27) (some (tt 28)) (some (tt 30))) 26 true [],
og (some 32) (.call 32000 0 [tt 31]) 26 true [],
oo 33 (.pick (tt 26) (tt 32) (.const (.bool false)))])
 (.cond (tt 33) (.seq (rr [oo 34 (.mv (tt 1)),
oo 35 (.bin .add (tt 34) (nn 2)),
oo 4 (.mv (tt 35))])
 .ret) .skip))
 (.seq (.seq (rr [oo 36 (.mv (tt 0)),
oo 37 (.mv (tt 1)),
oo 38 (.idxS (tt 36) (tt 37)),
oo 39 (.bin .eql (tt 38) (.const (.int .u8 62)))])
 (.cond (tt 39) (.seq (rr [oo 4 (.mv (nn (-1)))])
 .ret) .skip))
 (.seq (rr [oo 40 (.mv (tt 1)),
oo 41 (.bin .add (tt 40) (nn 1)),
oo 4 (.mv (tt 41))])
 .ret))))))) }
noncomputable def p32200 : ProcT := { kind := .fn, ins := [0], bins := [], res := [.tmp 2, .tmp 3], code := (.seq (rr [oo 2 (.mv (.const (.sl (.own false) .str []))),
oo 3 (.mv (.const (.bool false)))])
 (.seq (rr [oo 7 (.buildS (.own true) .str []),
oo 4 (.mv (.take 7))])
 (.seq (.seq (rr [oo 8 (.mv (tt 0)),
oo 9 (.lenS (tt 8)),
oo 10 (.bin .gtr (tt 9) (nn 20000))])
 (.cond (tt 10) (.seq (rr [oo 11 (.mv (tt 4)),
oo 2 (.mv (.take 11)),
oo 3 (.mv (.const (.bool false)))])
 .ret) .skip))
 (.seq (rr [oo 5 (.mv (nn 0))])
 (.seq (.block 0 (.label 32201))
 (.seq (rr [oo 37 (.mv (tt 4)),
oo 2 (.mv (.take 37)),
oo 3 (.mv (.const (.bool true)))])
 .ret)))))) }
noncomputable def p32201 : ProcT := { kind := .loop, ins := [0, 4, 5], bins := [], outs := [2, 3, 4], bouts := [], code := (.seq (.seq (rr [oo 12 (.mv (tt 5)),
oo 13 (.mv (tt 0)),
oo 14 (.lenS (tt 13)),
oo 15 (.bin .lss (tt 12) (tt 14))])
 (.cond (tt 15) .skip (.exit 0)))
 (.block 1 (.seq (.seq (rr [oo 16 (.mv (tt 0)),
oo 17 (.mv (tt 5)),
oo 18 (.idxS (tt 16) (tt 17)),
oo 19 (.call 31800 0 [tt 18]),
oo 20 (.bin .eql (tt 19) (nn 3))])
 (.cond (tt 20) (.seq (rr [oo 21 (.mv (tt 5)),
oo 22 (.bin .add (tt 21) (nn 1)),
oo 5 (.mv (tt 22))])
 (.exit 1)) .skip))
 (.seq (rr [oo 23 (.mv (tt 0)),
oo 24 (.mv (tt 5)),
oo 25 (.call 32100 0 [tt 23, tt 24]),
oo 6 (.mv (tt 25))])
 (.seq (.seq (rr [oo 26 (.mv (tt 6)),
oo 27 (.bin .lss (tt 26) (nn 0))])
 (.cond (tt 27) (.seq (rr [oo 28 (.buildS (.own false) .str []),
oo 2 (.mv (.take 28)),
oo 3 (.mv (.const (.bool false)))])
 .ret) .skip))
 (.seq (rr [oo 29 (.mv (.take 4)),
oo 30 (.mv (tt 0)),
oo 31 (.mv (tt 5)),
oo 32 (.mv (tt 6)),
oo 33 (.slcS (tt 30) (some (tt 31)) (some (tt 32))),
oo 34 (.buildS .full .str [tt 33]),
oo 35 (.app 1 (.take 29) (tt 34)),
oo 4 (.mv (.take 35))])
 (rr [oo 36 (.mv (tt 6)),
oo 5 (.mv (tt 36))]))))))) }
noncomputable def p32300 : ProcT := { kind := .fn, ins := [0], bins := [], res := [.tmp 2], code := (.seq (rr [oo 2 (.mv (nn 0))])
 (.seq (.seq (rr [oo 5 (.mv (tt 0)),
oo 6 (.lenS (tt 5)),
oo 7 (.call 1600 0 [tt 6, nn 1, nn 5]),
oo 8 (.un .not (tt 7))])
 (.cond (tt 8) (.seq (rr [oo 2 (.mv (nn (-1)))])
 .ret) .skip))
 (.seq (rr [oo 3 (.mv (nn 0))])
 (.seq (.seq (rr [oo 4 (.mv (nn 0))])
 (.block 0 (.label 32301)))
 (.seq (rr [oo 33 (.mv (tt 3)),
oo 2 (.mv (tt 33))])
 .ret))))) }
noncomputable def p32301 : ProcT := { kind := .loop, ins := [0, 3, 4], bins := [], outs := [2, 3], bouts := [], code := (.seq (.seq (rr [oo 9 (.mv (tt 4)),
oo 10 (.mv (tt 0)),
oo 11 (.lenS (tt 10)),
oo 12 (.bin .lss (tt 9) (tt 11))])
 (.cond (tt 12) .skip (.exit 0)))
 (.seq (.block 1 (.seq (.seq (rr [oo 15 (.mv (tt 0)),
oo 16 (.mv (tt 4)),
oo 17 (.idxS (tt 15) (tt 16)),
oo 18 (.bin .lss (tt 17) (.const (.int .u8 48))),
oo 19 (.mv (tt 18)),
og (some 20) (.mv (tt 0)) 19 false [],
og (some 21) (.mv (tt 4)) 19 false [],
og (some 22) (.idxS (tt 20) (tt 21)) 19 false [],
og (some 23) (.bin .gtr (tt 22) (.const (.int .u8 57))) 19 false [],
oo 24 (.pick (tt 19) (.const (.bool true)) (tt 23))])
 (.cond (tt 24) (.seq (rr [oo 2 (.mv (nn (-1)))])
 .ret) .skip))
 (rr [oo 25 (.mv (tt 3)),
oo 26 (.bin .mul (nn 10) (tt 25)),
oo 27 (.mv (tt 0)),
oo 28 (.mv (tt 4)),
oo 29 (.idxS (tt 27) (tt 28)),
oo 30 (.bin .sub (tt 29) (.const (.int .u8 48))),
oo 31 (.conv (.int .i64) (tt 30)),
oo 32 (.bin .add (tt 26) (tt 31)),
oo 3 (.mv (tt 32))])))
 (rr [oo 13 (.mv (tt 4)),
oo 14 (.bin .add (tt 13) (nn 1)),
oo 4 (.mv (tt 14))]))) }
noncomputable def p32400 : ProcT := { kind := .fn, ins := [0], bins := [], res := [.tmp 2], code := (.seq (rr [oo 2 (.mv (.const (.str [])))])
 (.seq (rr [oo 3 (.mv (tt 0)),
oo 4 (.bin .add (nn 97) (tt 3)),
oo 5 (.conv (.int .u8) (tt 4)),
oo 6 (.buildS .full .u8 [tt 5]),
oo 7 (.conv .bytesStr (tt 6)),
oo 2 (.mv (tt 7))])
 .ret)) }
noncomputable def p32500 : ProcT := { kind := .fn, ins := [0], bins := [], res := [.tmp 2], code := (.seq (rr [oo 2 (.mv (nn 0))])
 (.seq (.seq (rr [oo 3 (.mv (nn 0))])
 (.block 0 (.label 32501)))
 (.seq (rr [oo 2 (.mv (nn (-1)))])
 .ret))) }
noncomputable def p32501 : ProcT := { kind := .loop, ins := [0, 3], bins := [], outs := [2], bouts := [], code := (.seq (.seq (rr [oo 4 (.mv (tt 3)),
oo 5 (.bin .lss (tt 4) (nn 4))])
 (.cond (tt 5) .skip (.exit 0)))
 (.seq (.block 1 (.seq (rr [oo 8 (.mv (tt 0)),
oo 9 (.mv (tt 3)),
oo 10 (.call 32400 0 [tt 9]),
oo 11 (.bin .eql (tt 8) (tt 10))])
 (.cond (tt 11) (.seq (rr [oo 12 (.mv (tt 3)),
oo 2 (.mv (tt 12))])
 .ret) .skip)))
 (rr [oo 6 (.mv (tt 3)),
oo 7 (.bin .add (tt 6) (nn 1)),
oo 3 (.mv (tt 7))]))) }
noncomputable def p32600 : ProcT := { kind := .fn, ins := [0, 1], bins := [], res := [.cell 4 3 true, .tmp 5], code := (.seq (rr [oo 4 (.alloc 100 [.int .i64 0, .int .i64 0, .sl (.own false) .exp []]),
oo 5 (.mv (nn 0))])
 (.seq (.seq (rr [oo 8 (.mv (tt 1)),
oo 9 (.mv (tt 0)),
oo 10 (.len (tt 9)),
oo 11 (.bin .geq (tt 8) (tt 10))])
 (.cond (tt 11) (.seq (rr [oo 12 (.build [.int .i64 0, .int .i64 0, .sl (.own false) .exp []] []),
on (.store 3 (tt 4) (tt 12)) [],
oo 5 (.mv (nn (-1)))])
 .ret) .skip))
 (.seq (.seq (rr [oo 13 (.mv (tt 0)),
oo 14 (.mv (tt 1)),
oo 15 (.iadr 1 (tt 13) (tt 14)),
oo 16 (.load 1 false false (tt 15)),
oo 17 (.bin .eql (tt 16) (.const (.str [40])))])
 (.cond (tt 17) (.seq (rr [oo 19 (.mv (tt 0)),
oo 20 (.mv (tt 1)),
oo 21 (.bin .add (tt 20) (nn 1)),
oo 22 (.call 32900 0 [tt 19, tt 21, nn 1]),
oo 18 (.mv (tt 22)),
oo 23 (.ext 0 (tt 18)),
oo 24 (.ext 1 (tt 18)),
oo 6 (.alloc 101 [.int .i64 0, .int .i64 0, .sl (.own false) .exp []]),
on (.store 3 (tt 6) (tt 23)) [],
oo 7 (.mv (tt 24))])
 (.seq (.seq (rr [oo 25 (.mv (tt 7)),
oo 26 (.bin .lss (tt 25) (nn 0)),
oo 27 (.mv (tt 26)),
og (some 28) (.mv (tt 7)) 27 false [],
og (some 29) (.mv (tt 0)) 27 false [],
og (some 30) (.len (tt 29)) 27 false [],
og (some 31) (.bin .geq (tt 28) (tt 30)) 27 false [],
oo 32 (.pick (tt 27) (.const (.bool true)) (tt 31)),
oo 33 (.mv (tt 32)),
og (some 34) (.mv (tt 0)) 33 false [],
og (some 35) (.mv (tt 7)) 33 false [],
og (some 36) (.iadr 1 (tt 34) (tt 35)) 33 false [],
og (some 37) (.load 1 false false (tt 36)) 33 false [],
og (some 38) (.bin .neq (tt 37) (.const (.str [41]))) 33 false [],
oo 39 (.pick (tt 33) (.const (.bool true)) (tt 38))])
 (.cond (tt 39) (.seq (rr [oo 40 (.build [.int .i64 0, .int .i64 0, .sl (.own false) .exp []] []),
on (.store 3 (tt 4) (tt 40)) [],
oo 5 (.mv (nn (-1)))])
 .ret) .skip))
 (.seq (rr [oo 41 (.load 3 true false (tt 6)),
oo 42 (.mv (tt 7)),
oo 43 (.bin .add (tt 42) (nn 1)),
on (.store 3 (tt 4) (tt 41)) [],
oo 5 (.mv (tt 43))])
 .ret))) .skip))
 (.seq (.seq (rr [oo 44 (.mv (tt 0)),
oo 45 (.mv (tt 1)),
oo 46 (.iadr 1 (tt 44) (tt 45)),
oo 47 (.load 1 false false (tt 46)),
oo 48 (.call 32300 0 [tt 47]),
oo 49 (.bin .geq (tt 48) (nn 0))])
 (.cond (tt 49) (.seq (rr [oo 50 (.mv (tt 0)),
oo 51 (.mv (tt 1)),
oo 52 (.iadr 1 (tt 50) (tt 51)),
oo 53 (.load 1 false false (tt 52)),
oo 54 (.call 32300 0 [tt 53]),
oo 55 (.call 300 0 [nn 0, tt 54]),
oo 56 (.mv (tt 1)),
oo 57 (.bin .add (tt 56) (nn 1)),
on (.store 3 (tt 4) (tt 55)) [],
oo 5 (.mv (tt 57))])
 .ret) .skip))
 (.seq (.seq (rr [oo 58 (.mv (tt 0)),
oo 59 (.mv (tt 1)),
oo 60 (.iadr 1 (tt 58) (tt 59)),
oo 61 (.load 1 false false (tt 60)),
oo 62 (.call 32500 0 [tt 61]),
oo 63 (.bin .geq (tt 62) (nn 0))])
 (.cond (tt 63) (.seq (rr [oo 64 (.mv (tt 0)),
oo 65 (.mv (tt 1)),
oo 66 (.iadr 1 (tt 64) (tt 65)),
oo 67 (.load 1 false false (tt 66)),
oo 68 (.call 32500 0 [tt 67]),
oo 69 (.call 300 0 [nn 13, tt 68]),
oo 70 (.mv (tt 1)),
oo 71 (.bin .add (tt 70) (nn 1)),
on (.store 3 (tt 4) (tt 69)) [],
oo 5 (.mv (tt 71))])
 .ret) .skip))
 (.seq (rr [oo 72 (.build [.int .i64 0, .int .i64 0, .sl (.own false) .exp []] []),
on (.store 3 (tt 4) (tt 72)) [],
oo 5 (.mv (nn (-1)))])
 .ret)))))) }
noncomputable def p32700 : ProcT := { kind := .fn, ins := [0], bins := [], res := [.tmp 2], code := (.seq (rr [oo 2 (.mv (nn 0))])
 (.seq (.seq (rr [oo 3 (.mv (tt 0)),
oo 4 (.call 1700 0 [tt 3]),
oo 5 (.un .not (tt 4))])
 (.cond (tt 5) (.seq (rr [oo 2 (.mv (nn 0))])
 .ret) .skip))
 (.seq (rr [oo 6 (.buildS .full .int [nn 1, nn 2, nn 3, nn 4, nn 5, nn 6, nn 6, nn 7, nn 7, nn 8, nn 8, nn 8]),
oo 7 (.mv (tt 0)),
oo 8 (.bin .sub (tt 7) (nn 1)),
oo 9 (.iadr 1 (tt 6) (tt 8)),
oo 10 (.load 1 false false (tt 9)),
oo 2 (.mv (tt 10))])
 .ret))) }
noncomputable def p32800 : ProcT := { kind := .fn, ins := [0], bins := [], res := [.tmp 2], code := (.seq (rr [oo 2 (.mv (nn 0))])
 (.seq (.seq (rr [oo 3 (.mv (nn 1))])
 (.block 0 (.label 32801)))
 (.seq (rr [oo 2 (.mv (nn 0))])
 .ret))) }
noncomputable def p32801 : ProcT := { kind := .loop, ins := [0, 3], bins := [], outs := [2], bouts := [], code := (.seq (.seq (rr [oo 4 (.mv (tt 3)),
oo 5 (.bin .leq (tt 4) (nn 12))])
 (.cond (tt 5) .skip (.exit 0)))
 (.seq (.block 1 (.seq (rr [oo 8 (.mv (tt 0)),
oo 9 (.mv (tt 3)),
oo 10 (.call 20700 0 [tt 9]),
oo 11 (.bin .eql (tt 8) (tt 10))])
 (.cond (tt 11) (.seq (rr [oo 12 (.mv (tt 3)),
oo 2 (.mv (tt 12))])
 .ret) .skip)))
 (rr [oo 6 (.mv (tt 3)),
oo 7 (.bin .add (tt 6) (nn 1)),
oo 3 (.mv (tt 7))]))) }
noncomputable def p32900 : ProcT := { kind := .fn, ins := [0, 1, 2], bins := [], res := [.cell 6 3 true, .tmp 7], code := (.seq (rr [oo 6 (.alloc 100 [.int .i64 0, .int .i64 0, .sl (.own false) .exp []]),
oo 7 (.mv (nn 0))])
 (.seq (.seq (rr [oo 13 (.mv (tt 2)),
oo 14 (.bin .gtr (tt 13) (nn 8))])
 (.cond (tt 14) (.seq (rr [oo 15 (.mv (tt 0)),
oo 16 (.mv (tt 1)),
oo 17 (.call 32600 0 [tt 15, tt 16]),
oo 18 (.ext 0 (tt 17)),
oo 19 (.ext 1 (tt 17)),
on (.store 3 (tt 6) (tt 18)) [],
oo 7 (.mv (tt 19))])
 .ret) .skip))
 (.seq (rr [oo 21 (.mv (tt 0)),
oo 22 (.mv (tt 1)),
oo 23 (.mv (tt 2)),
oo 24 (.bin .add (tt 23) (nn 1)),
oo 25 (.call 32900 0 [tt 21, tt 22, tt 24]),
oo 20 (.mv (tt 25)),
oo 26 (.ext 0 (tt 20)),
oo 27 (.ext 1 (tt 20)),
oo 8 (.alloc 101 [.int .i64 0, .int .i64 0, .sl (.own false) .exp []]),
on (.store 3 (tt 8) (tt 26)) [],
oo 9 (.mv (tt 27))])
 (.seq (.block 0 (.label 32901))
 (.seq (rr [oo 65 (.load 3 true false (tt 8)),
oo 66 (.mv (tt 9)),
on (.store 3 (tt 6) (tt 65)) [],
oo 7 (.mv (tt 66))])
 .ret))))) }
noncomputable def p32901 : ProcT := { kind := .loop, ins := [0, 2, 6, 8, 9], bins := [100, 101], outs := [6, 7, 8, 9], bouts := [100, 101], code := (.seq (.seq (rr [oo 28 (.mv (tt 9)),
oo 29 (.bin .geq (tt 28) (nn 0)),
oo 30 (.mv (tt 29)),
og (some 31) (.mv (tt 9)) 30 true [],
og (some 32) (.mv (tt 0)) 30 true [],
og (some 33) (.len (tt 32)) 30 true [],
og (some 34) (.bin .lss (tt 31) (tt 33)) 30 true [],
oo 35 (.pick (tt 30) (tt 34) (.const (.bool false))),
oo 36 (.mv (tt 35)),
og (some 37) (.mv (tt 0)) 36 true [],
og (some 38) (.mv (tt 9)) 36 true [],
og (some 39) (.iadr 1 (tt 37) (tt 38)) 36 true [],
og (some 40) (.load 1 false false (tt 39)) 36 true [],
og (some 41) (.call 32800 0 [tt 40]) 36 true [],
og (some 42) (.call 32700 0 [tt 41]) 36 true [],
og (some 43) (.mv (tt 2)) 36 true [],
og (some 44) (.bin .eql (tt 42) (tt 43)) 36 true [],
oo 45 (.pick (tt 36) (tt 44) (.const (.bool false)))])
 (.cond (tt 45) .skip (.exit 0)))
 (.block 1 (.seq (rr [oo 46 (.mv (tt 0)),
oo 47 (.mv (tt 9)),
oo 48 (.iadr 1 (tt 46) (tt 47)),
oo 49 (.load 1 false false (tt 48)),
oo 50 (.call 32800 0 [tt 49]),
oo 10 (.mv (tt 50))])
 (.seq (rr [oo 52 (.mv (tt 0)),
oo 53 (.mv (tt 9)),
oo 54 (.bin .add (tt 53) (nn 1)),
oo 55 (.mv (tt 2)),
oo 56 (.bin .add (tt 55) (nn 1)),
oo 57 (.call 32900 0 [tt 52, tt 54, tt 56]),
oo 51 (.mv (tt 57)),
oo 58 (.ext 0 (tt 51)),
oo 59 (.ext 1 (tt 51)),
oo 11 (.alloc 102 [.int .i64 0, .int .i64 0, .sl (.own false) .exp []]),
on (.store 3 (tt 11) (tt 58)) [],
oo 12 (.mv (tt 59))])
 (.seq (rr [oo 60 (.mv (tt 10)),
oo 61 (.load 3 true false (tt 8)),
oo 62 (.load 3 true false (tt 11)),
oo 63 (.call 500 0 [tt 60, tt 61, tt 62]),
on (.store 3 (tt 8) (tt 63)) []])
 (rr [oo 64 (.mv (tt 12)),
oo 9 (.mv (tt 64))])))))) }
noncomputable def p33000 : ProcT := { kind := .fn, ins := [0], bins := [], res := [.cell 2 3 true, .tmp 3], code := (.seq (rr [oo 2 (.alloc 100 [.int .i64 0, .int .i64 0, .sl (.own false) .exp []]),
oo 3 (.mv (.const (.bool false)))])
 (.seq (rr [oo 9 (.mv (tt 0)),
oo 10 (.call 32200 0 [tt 9]),
oo 8 (.mv (tt 10)),
oo 11 (.ext 0 (tt 8)),
oo 12 (.ext 1 (tt 8)),
oo 4 (.mv (.take 11)),
oo 5 (.mv (tt 12))])
 (.seq (.seq (rr [oo 13 (.mv (tt 5)),
oo 14 (.un .not (tt 13))])
 (.cond (tt 14) (.seq (rr [oo 15 (.build [.int .i64 0, .int .i64 0, .sl (.own false) .exp []] []),
on (.store 3 (tt 2) (tt 15)) [],
oo 3 (.mv (.const (.bool false)))])
 .ret) .skip))
 (.seq (rr [oo 17 (.mv (tt 4)),
oo 18 (.call 32900 0 [tt 17, nn 0, nn 1]),
oo 16 (.mv (tt 18)),
oo 19 (.ext 0 (tt 16)),
oo 20 (.ext 1 (tt 16)),
oo 6 (.alloc 101 [.int .i64 0, .int .i64 0, .sl (.own false) .exp []]),
on (.store 3 (tt 6) (tt 19)) [],
oo 7 (.mv (tt 20))])
 (.seq (.seq (rr [oo 21 (.mv (tt 7)),
oo 22 (.mv (tt 4)),
oo 23 (.len (tt 22)),
oo 24 (.bin .neq (tt 21) (tt 23)),
oo 25 (.mv (tt 24)),
og (some 26) (.mv (tt 7)) 25 false [],
og (some 27) (.bin .lss (tt 26) (nn 0)) 25 false [],
oo 28 (.pick (tt 25) (.const (.bool true)) (tt 27)),
oo 29 (.mv (tt 28)),
og (some 30) (.load 3 true false (tt 6)) 29 false [],
og (some 31) (.call 1900 0 [tt 30]) 29 false [],
og (some 32) (.un .not (tt 31)) 29 false [],
oo 33 (.pick (tt 29) (.const (.bool true)) (tt 32))])
 (.cond (tt 33) (.seq (rr [oo 34 (.build [.int .i64 0, .int .i64 0, .sl (.own false) .exp []] []),
on (.store 3 (tt 2) (tt 34)) [],
oo 3 (.mv (.const (.bool false)))])
 .ret) .skip))
 (.seq (rr [oo 35 (.load 3 true false (tt 6)),
on (.store 3 (tt 2) (tt 35)) [],
oo 3 (.mv (.const (.bool true)))])
 .ret)))))) }
noncomputable def p33100 : ProcT := { kind := .fn, ins := [0], bins := [], res := [.tmp 2], code := (.seq (rr [oo 2 (.mv (.const (.bool false)))])
 (.seq (rr [oo 3 (.mv (tt 0)),
oo 4 (.bin .geq (tt 3) (.const (.int .u8 48))),
oo 5 (.mv (tt 4)),
og (some 6) (.mv (tt 0)) 5 true [],
og (some 7) (.bin .leq (tt 6) (.const (.int .u8 57))) 5 true [],
oo 8 (.pick (tt 5) (tt 7) (.const (.bool false))),
oo 2 (.mv (tt 8))])
 .ret)) }
noncomputable def p33200 : ProcT := { kind := .fn, ins := [0], bins := [], res := [.tmp 2], code := (.seq (rr [oo 2 (.mv (.const (.bool false)))])
 (.seq (rr [oo 3 (.mv (tt 0)),
oo 4 (.bin .geq (tt 3) (.const (.int .u8 97))),
oo 5 (.mv (tt 4)),
og (some 6) (.mv (tt 0)) 5 true [],
og (some 7) (.bin .leq (tt 6) (.const (.int .u8 122))) 5 true [],
oo 8 (.pick (tt 5) (tt 7) (.const (.bool false))),
oo 2 (.mv (tt 8))])
 .ret)) }
noncomputable def p33300 : ProcT := { kind := .fn, ins := [0], bins := [], res := [.tmp 2], code := (.seq (rr [oo 2 (.mv (nn 0))])
 (.seq (.seq (rr [oo 8 (.buildS .full .fn [.func 33100, .func 33200]),
oo 9 (.len (tt 8)),
oo 10 (.mv (nn 0))])
 (.block 0 (.label 33301)))
 (.seq (.seq (rr [oo 31 (.buildS .full .str [.const (.str ([61, 61])), .const (.str ([60, 60])), .const (.str ([62, 62]))]),
oo 32 (.len (tt 31)),
oo 33 (.mv (nn 0))])
 (.block 4 (.label 33303)))
 (.seq (.seq (rr [oo 41 (.mv (tt 0)),
oo 42 (.bin .neq (tt 41) (.const (.str []))),
oo 43 (.mv (tt 42)),
og (some 44) (.mv (tt 0)) 43 true [],
og (some 45) (.idxS (tt 44) (nn 0)) 43 true [],
og (some 46) (.call 37600 0 [.const (.str ([124, 94, 38, 60, 43, 45, 42, 47, 37, 40, 41, 123, 125, 61, 59])), tt 45]) 43 true [],
og (some 47) (.bin .geq (tt 46) (nn 0)) 43 true [],
oo 48 (.pick (tt 43) (tt 47) (.const (.bool false)))])
 (.cond (tt 48) (.seq (rr [oo 2 (.mv (nn 1))])
 .ret) .skip))
 (.seq (rr [oo 2 (.mv (nn 0))])
 .ret))))) }
noncomputable def p33301 : ProcT := { kind := .loop, ins := [0, 8, 9, 10], bins := [], outs := [0, 2], bouts := [], code := (.seq (rr [oo 11 (.bin .lss (tt 10) (tt 9))])
 (.seq (.cond (tt 11) .skip (.exit 0))
 (.seq (.block 1 (.seq (rr [oo 12 (.iadr 1 (tt 8) (tt 10)),
oo 13 (.load 1 false false (tt 12)),
oo 4 (.mv (tt 13))])
 (.seq (rr [oo 5 (.mv (nn 0))])
 (.seq (.block 2 (.label 33302))
 (.seq (rr [oo 27 (.mv (tt 5)),
oo 28 (.bin .gtr (tt 27) (nn 0))])
 (.cond (tt 28) (.seq (rr [oo 29 (.mv (tt 5)),
oo 2 (.mv (tt 29))])
 .ret) .skip))))))
 (rr [oo 30 (.bin .add (tt 10) (nn 1)),
oo 10 (.mv (tt 30))])))) }
noncomputable def p33302 : ProcT := { kind := .loop, ins := [0, 4, 5, 8, 9, 10], bins := [], outs := [0, 2, 5, 8, 9, 10], bouts := [], code := (.seq (.seq (rr [oo 14 (.mv (tt 5)),
oo 15 (.mv (tt 0)),
oo 16 (.lenS (tt 15)),
oo 17 (.bin .lss (tt 14) (tt 16)),
oo 18 (.mv (tt 17)),
og (some 19) (.mv (tt 4)) 18 true [],
og (some 20) (.mv (tt 0)) 18 true [],
og (some 21) (.mv (tt 5)) 18 true [],
og (some 22) (.idxS (tt 20) (tt 21)) 18 true [],
og (some 23) (.callv (tt 19) [tt 22]) 18 true [],
oo 24 (.pick (tt 18) (tt 23) (.const (.bool false)))])
 (.cond (tt 24) .skip (.exit 2)))
 (.block 3 (rr [oo 25 (.mv (tt 5)),
oo 26 (.bin .add (tt 25) (nn 1)),
oo 5 (.mv (tt 26))]))) }
noncomputable def p33303 : ProcT := { kind := .loop, ins := [0, 31, 32, 33], bins := [], outs := [0, 2], bouts := [], code := (.seq (rr [oo 34 (.bin .lss (tt 33) (tt 32))])
 (.seq (.cond (tt 34) .skip (.exit 4))
 (.seq (.block 5 (.seq (rr [oo 35 (.iadr 1 (tt 31) (tt 33)),
oo 36 (.load 1 false false (tt 35)),
oo 7 (.mv (tt 36))])
 (.seq (rr [oo 37 (.mv (tt 0)),
oo 38 (.mv (tt 7)),
oo 39 (.call 37500 0 [tt 37, tt 38])])
 (.cond (tt 39) (.seq (rr [oo 2 (.mv (nn 2))])
 .ret) .skip))))
 (rr [oo 40 (.bin .add (tt 33) (nn 1)),
oo 33 (.mv (tt 40))])))) }
noncomputable def p33400 : ProcT := { kind := .fn, ins := [0], bins := [], res := [.tmp 2, .tmp 3], code := (.seq (rr [oo 2 (.mv (.const (.sl (.own false) .str []))),
oo 3 (.mv (.const (.bool false)))])
 (.seq (.seq (rr [oo 7 (.mv (tt 0)),
oo 8 (.lenS (tt 7)),
oo 9 (.bin .gtr (tt 8) (nn 20000))])
 (.cond (tt 9) (.seq (rr [oo 2 (.mv (.const (.sl (.own false) .str []))),
oo 3 (.mv (.const (.bool false)))])
 .ret) .skip))
 (.seq (rr [oo 4 (.mv (.const (.sl (.own false) .str [])))])
 (.seq (.seq (rr [oo 5 (.mv (nn 0))])
 (.block 0 (.label 33401)))
 (.seq (rr [oo 44 (.mv (tt 4)),
oo 2 (.mv (.take 44)),
oo 3 (.mv (.const (.bool true)))])
 .ret))))) }
noncomputable def p33401 : ProcT := { kind := .loop, ins := [0, 4, 5], bins := [], outs := [2, 3, 4], bouts := [], code := (.seq (.seq (rr [oo 10 (.mv (tt 5)),
oo 11 (.mv (tt 0)),
oo 12 (.lenS (tt 11)),
oo 13 (.bin .lss (tt 10) (tt 12))])
 (.cond (tt 13) .skip (.exit 0)))
 (.block 1 (.seq (.seq (rr [oo 14 (.mv (tt 0)),
oo 15 (.mv (tt 5)),
oo 16 (.idxS (tt 14) (tt 15)),
oo 17 (.bin .eql (tt 16) (.const (.int .u8 32))),
oo 18 (.mv (tt 17)),
og (some 19) (.mv (tt 0)) 18 false [],
og (some 20) (.mv (tt 5)) 18 false [],
og (some 21) (.idxS (tt 19) (tt 20)) 18 false [],
og (some 22) (.bin .eql (tt 21) (.const (.int .u8 10))) 18 false [],
oo 23 (.pick (tt 18) (.const (.bool true)) (tt 22))])
 (.cond (tt 23) (.seq (rr [oo 24 (.mv (tt 5)),
oo 25 (.bin .add (tt 24) (nn 1)),
oo 5 (.mv (tt 25))])
 (.exit 1)) .skip))
 (.seq (rr [oo 26 (.mv (tt 0)),
oo 27 (.mv (tt 5)),
oo 28 (.slcS (tt 26) (some (tt 27)) none),
oo 29 (.call 33300 0 [tt 28]),
oo 6 (.mv (tt 29))])
 (.seq (.seq (rr [oo 30 (.mv (tt 6)),
oo 31 (.bin .eql (tt 30) (nn 0))])
 (.cond (tt 31) (.seq (rr [oo 2 (.mv (.const (.sl (.own false) .str []))),
oo 3 (.mv (.const (.bool false)))])
 .ret) .skip))
 (.seq (rr [oo 32 (.mv (.take 4)),
oo 33 (.mv (tt 0)),
oo 34 (.mv (tt 5)),
oo 35 (.mv (tt 5)),
oo 36 (.mv (tt 6)),
oo 37 (.bin .add (tt 35) (tt 36)),
oo 38 (.slcS (tt 33) (some (tt 34)) (some (tt 37))),
oo 39 (.buildS .full .str [tt 38]),
oo 40 (.app 1 (.take 32) (tt 39)),
oo 4 (.mv (.take 40))])
 (rr [oo 41 (.mv (tt 5)),
oo 42 (.mv (tt 6)),
oo 43 (.bin .add (tt 41) (tt 42)),
oo 5 (.mv (tt 43))]))))))) }
noncomputable def p33500 : ProcT := { kind := .fn, ins := [0], bins := [0], res := [.tmp 2], code := (.seq (rr [oo 2 (.mv (.const (.str [])))])
 (.seq (.seq (.region true [oo 3 (.mv (tt 0)),
op 4 (.nilck (tt 3)) [0],
op 5 (.fadr 1 (tt 4)) [0],
op 6 (.load 1 false false (tt 5)) [0],
oo 7 (.mv (tt 0)),
op 8 (.nilck (tt 7)) [0],
op 9 (.fadr 0 (tt 8)) [0],
op 10 (.load 1 false false (tt 9)) [0],
oo 11 (.len (tt 10)),
oo 12 (.bin .lss (tt 6) (tt 11)),
oo 13 (.mv (tt 12)),
og (some 14) (.mv (tt 0)) 13 true [],
og (some 15) (.nilck (tt 14)) 13 true [0],
og (some 16) (.fadr 2 (tt 15)) 13 true [0],
og (some 17) (.load 1 false false (tt 16)) 13 true [0],
og (some 18) (.un .not (tt 17)) 13 true [],
oo 19 (.pick (tt 13) (tt 18) (.const (.bool false)))])
 (.cond (tt 19) (.seq (.region true [oo 20 (.mv (tt 0)),
op 21 (.nilck (tt 20)) [0],
op 22 (.fadr 0 (tt 21)) [0],
op 23 (.load 1 false false (tt 22)) [0],
oo 24 (.mv (tt 0)),
op 25 (.nilck (tt 24)) [0],
op 26 (.fadr 1 (tt 25)) [0],
op 27 (.load 1 false false (tt 26)) [0],
oo 28 (.iadr 1 (tt 23) (tt 27)),
oo 29 (.load 1 false false (tt 28)),
oo 2 (.mv (tt 29))])
 .ret) .skip))
 (.seq (rr [oo 2 (.mv (.const (.str [])))])
 .ret))) }
noncomputable def p33600 : ProcT := { kind := .fn, ins := [0, 1], bins := [0], res := [.tmp 4], code := (.seq (rr [oo 4 (.mv (.const (.bool false)))])
 (.seq (.seq (rr [oo 5 (.mv (tt 0)),
oo 6 (.call 33500 0 [tt 5]),
oo 7 (.mv (tt 1)),
oo 8 (.bin .neq (tt 6) (tt 7))])
 (.cond (tt 8) (.seq (rr [oo 4 (.mv (.const (.bool false)))])
 .ret) .skip))
 (.seq (rr [oo 9 (.mv (tt 0)),
oo 10 (.nilck (tt 9)),
oo 11 (.fadr 1 (tt 10)),
oo 12 (.load 1 false false (tt 11)),
oo 13 (.bin .add (tt 12) (nn 1)),
oo 14 (.nilck (tt 9)),
oo 15 (.fadr 1 (tt 14)),
on (.store 1 (tt 15) (tt 13)) []])
 (.seq (rr [oo 4 (.mv (.const (.bool true)))])
 .ret)))) }
noncomputable def p33700 : ProcT := { kind := .fn, ins := [0, 1], bins := [0], res := [], code := (.seq (rr [oo 4 (.mv (tt 0)),
oo 5 (.mv (tt 1)),
oo 6 (.call 33600 0 [tt 4, tt 5]),
oo 7 (.un .not (tt 6))])
 (.cond (tt 7) (rr [oo 8 (.mv (tt 0)),
oo 9 (.nilck (tt 8)),
oo 10 (.fadr 2 (tt 9)),
on (.store 1 (tt 10) (.const (.bool true))) []]) .skip)) }
noncomputable def p33800 : ProcT := { kind := .fn, ins := [0], bins := [0], res := [.tmp 2], code := (.seq (rr [oo 2 (.mv (.const (.str [])))])
 (.seq (rr [oo 4 (.mv (tt 0)),
oo 5 (.call 33500 0 [tt 4]),
oo 3 (.mv (tt 5))])
 (.seq (.seq (rr [oo 6 (.mv (tt 3)),
oo 7 (.bin .eql (tt 6) (.const (.str [])))])
 (.cond (tt 7) (rr [oo 8 (.mv (tt 0)),
oo 9 (.nilck (tt 8)),
oo 10 (.fadr 2 (tt 9)),
on (.store 1 (tt 10) (.const (.bool true))) []]) .skip))
 (.seq (rr [oo 11 (.mv (tt 0)),
oo 12 (.nilck (tt 11)),
oo 13 (.fadr 1 (tt 12)),
oo 14 (.load 1 false false (tt 13)),
oo 15 (.bin .add (tt 14) (nn 1)),
oo 16 (.nilck (tt 11)),
oo 17 (.fadr 1 (tt 16)),
on (.store 1 (tt 17) (tt 15)) []])
 (.seq (rr [oo 18 (.mv (tt 3)),
oo 2 (.mv (tt 18))])
 .ret))))) }
noncomputable def p33900 : ProcT := { kind := .fn, ins := [0], bins := [0], res := [.tmp 2], code := (.seq (rr [oo 2 (.mv (nn 0))])
 (.seq (rr [oo 6 (.mv (tt 0)),
oo 7 (.call 33800 0 [tt 6]),
oo 3 (.mv (tt 7))])
 (.seq (.seq (rr [oo 8 (.mv (tt 3)),
oo 9 (.bin .eql (tt 8) (.const (.str []))),
oo 10 (.mv (tt 9)),
og (some 11) (.mv (tt 3)) 10 false [],
og (some 12) (.lenS (tt 11)) 10 false [],
og (some 13) (.bin .gtr (tt 12) (nn 5)) 10 false [],
oo 14 (.pick (tt 10) (.const (.bool true)) (tt 13)),
oo 15 (.mv (tt 14)),
og (some 16) (.mv (tt 3)) 15 false [],
og (some 17) (.idxS (tt 16) (nn 0)) 15 false [],
og (some 18) (.call 33100 0 [tt 17]) 15 false [],
og (some 19) (.un .not (tt 18)) 15 false [],
oo 20 (.pick (tt 15) (.const (.bool true)) (tt 19))])
 (.cond (tt 20) (.seq (rr [oo 21 (.mv (tt 0)),
oo 22 (.nilck (tt 21)),
oo 23 (.fadr 2 (tt 22)),
on (.store 1 (tt 23) (.const (.bool true))) []])
 (.seq (rr [oo 2 (.mv (nn 0))])
 .ret)) .skip))
 (.seq (rr [oo 25 (.mv (tt 3)),
oo 26 (.call 37700 0 [tt 25]),
oo 24 (.mv (tt 26)),
oo 27 (.ext 0 (tt 24)),
oo 28 (.ext 1 (tt 24)),
oo 4 (.mv (tt 27)),
oo 5 (.mv (tt 28))])
 (.seq (rr [oo 29 (.mv (tt 4)),
oo 2 (.mv (tt 29))])
 .ret))))) }
noncomputable def p34000 : ProcT := { kind := .fn, ins := [0], bins := [0], res := [.tmp 2], code := (.seq (rr [oo 2 (.mv (nn 0))])
 (.seq (rr [oo 4 (.mv (tt 0)),
oo 5 (.call 33800 0 [tt 4]),
oo 3 (.mv (tt 5))])
 (.seq (.seq (rr [oo 6 (.mv (tt 3)),
oo 7 (.lenS (tt 6)),
oo 8 (.bin .neq (tt 7) (nn 1)),
oo 9 (.mv (tt 8)),
og (some 10) (.mv (tt 3)) 9 false [],
og (some 11) (.idxS (tt 10) (nn 0)) 9 false [],
og (some 12) (.bin .lss (tt 11) (.const (.int .u8 97))) 9 false [],
oo 13 (.pick (tt 9) (.const (.bool true)) (tt 12)),
oo 14 (.mv (tt 13)),
og (some 15) (.mv (tt 3)) 14 false [],
og (some 16) (.idxS (tt 15) (nn 0)) 14 false [],
og (some 17) (.bin .geq (tt 16) (.const (.int .u8 101))) 14 false [],
oo 18 (.pick (tt 14) (.const (.bool true)) (tt 17))])
 (.cond (tt 18) (.seq (rr [oo 19 (.mv (tt 0)),
oo 20 (.nilck (tt 19)),
oo 21 (.fadr 2 (tt 20)),
on (.store 1 (tt 21) (.const (.bool true))) []])
 (.seq (rr [oo 2 (.mv (nn 0))])
 .ret)) .skip))
 (.seq (rr [oo 22 (.mv (tt 3)),
oo 23 (.idxS (tt 22) (nn 0)),
oo 24 (.bin .sub (tt 23) (.const (.int .u8 97))),
oo 25 (.conv (.int .i64) (tt 24)),
oo 2 (.mv (tt 25))])
 .ret)))) }
noncomputable def p34100 : ProcT := { kind := .fn, ins := [0], bins := [0], res := [.cell 2 3 true], code := (.seq (rr [oo 2 (.alloc 100 [.int .i64 0, .int .i64 0, .sl (.own false) .exp []])])
 (.seq (rr [oo 5 (.mv (tt 0)),
oo 6 (.call 33500 0 [tt 5]),
oo 3 (.mv (tt 6))])
 (.seq (.block 0 (.seq (rr [oo 8 (.mv (tt 3)),
oo 9 (.bin .eql (tt 8) (.const (.str [40]))),
oo 7 (.mv (tt 9))])
 (.cond (tt 7) (.seq (rr [oo 10 (.mv (tt 0)),
oo 11 (.nilck (tt 10)),
oo 12 (.fadr 1 (tt 11)),
oo 13 (.load 1 false false (tt 12)),
oo 14 (.bin .add (tt 13) (nn 1)),
oo 15 (.nilck (tt 10)),
oo 16 (.fadr 1 (tt 15)),
on (.store 1 (tt 16) (tt 14)) []])
 (.seq (rr [oo 17 (.mv (tt 0)),
oo 18 (.call 34400 0 [tt 17, nn 1]),
oo 4 (.alloc 101 [.int .i64 0, .int .i64 0, .sl (.own false) .exp []]),
on (.store 3 (tt 4) (tt 18)) []])
 (.seq (rr [oo 19 (.mv (tt 0)),
oo 20 (.call 33700 0 [tt 19, .const (.str [41])])])
 (.seq (rr [oo 21 (.load 3 true false (tt 4)),
on (.store 3 (tt 2) (tt 21)) []])
 .ret)))) (.seq (rr [oo 23 (.mv (tt 3)),
oo 24 (.bin .neq (tt 23) (.const (.str []))),
oo 25 (.mv (tt 24)),
og (some 26) (.mv (tt 3)) 25 true [],
og (some 27) (.idxS (tt 26) (nn 0)) 25 true [],
og (some 28) (.call 33100 0 [tt 27]) 25 true [],
oo 29 (.pick (tt 25) (tt 28) (.const (.bool false))),
oo 22 (.mv (tt 29))])
 (.cond (tt 22) (.seq (rr [oo 30 (.mv (tt 0)),
oo 31 (.call 33900 0 [tt 30]),
oo 32 (.build [.int .i64 0, .int .i64 0, .sl (.own false) .exp []] [(0, 1, nn 0), (1, 1, tt 31)]),
on (.store 3 (tt 2) (tt 32)) []])
 .ret) .skip)))))
 (.seq (rr [oo 33 (.mv (tt 0)),
oo 34 (.call 34000 0 [tt 33]),
oo 35 (.build [.int .i64 0, .int .i64 0, .sl (.own false) .exp []] [(0, 1, nn 13), (1, 1, tt 34)]),
on (.store 3 (tt 2) (tt 35)) []])
 .ret)))) }
noncomputable def p34200 : ProcT := { kind := .fn, ins := [0], bins := [], res := [.tmp 2], code := (.seq (rr [oo 2 (.mv (nn 0))])
 (.seq (.seq (rr [oo 5 (.load 12 true false (.glob 0)),
oo 6 (.mv (nn 0))])
 (.block 0 (.label 34201)))
 (.seq (rr [oo 2 (.mv (nn 0))])
 .ret))) }
noncomputable def p34201 : ProcT := { kind := .loop, ins := [0, 5, 6], bins := [], outs := [2], bouts := [], code := (.seq (rr [oo 7 (.bin .lss (tt 6) (nn 12))])
 (.seq (.cond (tt 7) .skip (.exit 0))
 (.seq (.block 1 (.seq (rr [oo 8 (.mv (tt 6)),
oo 9 (.idxA 1 12 1 false (tt 5) (tt 6)),
oo 3 (.mv (tt 8)),
oo 4 (.mv (tt 9))])
 (.seq (rr [oo 10 (.mv (tt 4)),
oo 11 (.mv (tt 0)),
oo 12 (.bin .eql (tt 10) (tt 11))])
 (.cond (tt 12) (.seq (rr [oo 13 (.mv (tt 3)),
oo 14 (.bin .add (nn 1) (tt 13)),
oo 2 (.mv (tt 14))])
 .ret) .skip))))
 (rr [oo 15 (.bin .add (tt 6) (nn 1)),
oo 6 (.mv (tt 15))])))) }
noncomputable def p34300 : ProcT := { kind := .fn, ins := [0], bins := [], res := [.tmp 2], code := (.seq (rr [oo 2 (.mv (nn 0))])
 (.seq (.seq (rr [oo 3 (.mv (tt 0))])
 (.block 0 (.seq (rr [oo 5 (.bin .eql (tt 3) (nn 1)),
oo 4 (.mv (tt 5))])
 (.cond (tt 4) (.seq (rr [oo 2 (.mv (nn 1))])
 .ret) (.seq (rr [oo 7 (.bin .eql (tt 3) (nn 2)),
oo 6 (.mv (tt 7))])
 (.cond (tt 6) (.seq (rr [oo 2 (.mv (nn 2))])
 .ret) (.seq (rr [oo 9 (.bin .eql (tt 3) (nn 3)),
oo 8 (.mv (tt 9))])
 (.cond (tt 8) (.seq (rr [oo 2 (.mv (nn 3))])
 .ret) (.seq (rr [oo 11 (.bin .eql (tt 3) (nn 4)),
oo 10 (.mv (tt 11))])
 (.cond (tt 10) (.seq (rr [oo 2 (.mv (nn 4))])
 .ret) (.seq (rr [oo 13 (.bin .eql (tt 3) (nn 5)),
oo 12 (.mv (tt 13))])
 (.cond (tt 12) (.seq (rr [oo 2 (.mv (nn 5))])
 .ret) (.seq (.seq (rr [oo 15 (.bin .eql (tt 3) (nn 6)),
oo 14 (.mv (tt 15))])
 (.cond (tt 14) .skip (rr [oo 16 (.bin .eql (tt 3) (nn 7)),
oo 14 (.mv (tt 16))])))
 (.cond (tt 14) (.seq (rr [oo 2 (.mv (nn 6))])
 .ret) (.seq (.seq (rr [oo 18 (.bin .eql (tt 3) (nn 8)),
oo 17 (.mv (tt 18))])
 (.cond (tt 17) .skip (rr [oo 19 (.bin .eql (tt 3) (nn 9)),
oo 17 (.mv (tt 19))])))
 (.cond (tt 17) (.seq (rr [oo 2 (.mv (nn 7))])
 .ret) (.seq (.seq (rr [oo 21 (.bin .eql (tt 3) (nn 10)),
oo 20 (.mv (tt 21))])
 (.cond (tt 20) .skip (.seq (rr [oo 22 (.bin .eql (tt 3) (nn 11)),
oo 20 (.mv (tt 22))])
 (.cond (tt 20) .skip (rr [oo 23 (.bin .eql (tt 3) (nn 12)),
oo 20 (.mv (tt 23))])))))
 (.cond (tt 20) (.seq (rr [oo 2 (.mv (nn 8))])
 .ret) .skip))))))))))))))))))
 (.seq (rr [oo 2 (.mv (nn 0))])
 .ret))) }
noncomputable def p34400 : ProcT := { kind := .fn, ins := [0, 1], bins := [0], res := [.cell 4 3 true], code := (.seq (rr [oo 4 (.alloc 100 [.int .i64 0, .int .i64 0, .sl (.own false) .exp []])])
 (.seq (rr [oo 7 (.mv (tt 0)),
oo 8 (.call 34100 0 [tt 7]),
oo 5 (.alloc 101 [.int .i64 0, .int .i64 0, .sl (.own false) .exp []]),
on (.store 3 (tt 5) (tt 8)) []])
 (.seq (.block 0 (.label 34401))
 (.seq (rr [oo 41 (.load 3 true false (tt 5)),
on (.store 3 (tt 4) (tt 41)) []])
 .ret)))) }
noncomputable def p34401 : ProcT := { kind := .loop, ins := [0, 1, 4, 5], bins := [0, 100, 101], outs := [0, 4, 5], bouts := [0, 100, 101], code := (.seq (.seq (rr [oo 9 (.mv (tt 0)),
oo 10 (.nilck (tt 9)),
oo 11 (.fadr 2 (tt 10)),
oo 12 (.load 1 false false (tt 11)),
oo 13 (.un .not (tt 12))])
 (.cond (tt 13) .skip (.exit 0)))
 (.block 1 (.seq (rr [oo 14 (.mv (tt 0)),
oo 15 (.call 33500 0 [tt 14]),
oo 16 (.call 34200 0 [tt 15]),
oo 6 (.mv (tt 16))])
 (.seq (.seq (rr [oo 17 (.mv (tt 6)),
oo 18 (.bin .eql (tt 17) (nn 0)),
oo 19 (.mv (tt 18)),
og (some 20) (.mv (tt 6)) 19 false [],
og (some 21) (.call 34300 0 [tt 20]) 19 false [],
og (some 22) (.mv (tt 1)) 19 false [],
og (some 23) (.bin .lss (tt 21) (tt 22)) 19 false [],
oo 24 (.pick (tt 19) (.const (.bool true)) (tt 23))])
 (.cond (tt 24) (.exit 0) .skip))
 (.seq (rr [oo 25 (.mv (tt 0)),
oo 26 (.nilck (tt 25)),
oo 27 (.fadr 1 (tt 26)),
oo 28 (.load 1 false false (tt 27)),
oo 29 (.bin .add (tt 28) (nn 1)),
oo 30 (.nilck (tt 25)),
oo 31 (.fadr 1 (tt 30)),
on (.store 1 (tt 31) (tt 29)) []])
 (.region true [oo 32 (.mv (tt 6)),
op 33 (.load 3 true false (tt 5)) [101],
oo 34 (.mv (tt 0)),
oo 35 (.mv (tt 6)),
oo 36 (.call 34300 0 [tt 35]),
oo 37 (.bin .add (tt 36) (nn 1)),
op 38 (.call 34400 0 [tt 34, tt 37]) [0],
oo 39 (.buildS .full .exp [tt 33, tt 38]),
oo 40 (.build [.int .i64 0, .int .i64 0, .sl (.own false) .exp []] [(0, 1, tt 32), (2, 1, tt 39)]),
on (.store 3 (tt 5) (tt 40)) [101]])))))) }
noncomputable def p34500 : ProcT := { kind := .fn, ins := [0], bins := [], res := [.cell 2 3 true, .tmp 3], code := (.seq (rr [oo 2 (.alloc 100 [.int .i64 0, .int .i64 0, .sl (.own false) .exp []]),
oo 3 (.mv (.const (.bool false)))])
 (.seq (rr [oo 9 (.mv (tt 0)),
oo 10 (.call 33400 0 [tt 9]),
oo 8 (.mv (tt 10)),
oo 11 (.ext 0 (tt 8)),
oo 12 (.ext 1 (tt 8)),
oo 4 (.mv (.take 11)),
oo 5 (.mv (tt 12))])
 (.seq (.seq (rr [oo 13 (.mv (tt 5)),
oo 14 (.un .not (tt 13))])
 (.cond (tt 14) (.seq (rr [oo 15 (.build [.int .i64 0, .int .i64 0, .sl (.own false) .exp []] []),
on (.store 3 (tt 2) (tt 15)) [],
oo 3 (.mv (.const (.bool false)))])
 .ret) .skip))
 (.seq (rr [oo 16 (.mv (tt 4)),
oo 17 (.build [.sl (.own false) .str [], .int .i64 0, .bool false] [(0, 1, tt 16)]),
oo 6 (.alloc 101 [.sl (.own false) .str [], .int .i64 0, .bool false]),
on (.store 3 (tt 6) (tt 17)) []])
 (.seq (rr [oo 18 (.call 34400 0 [tt 6, nn 1]),
oo 7 (.alloc 102 [.int .i64 0, .int .i64 0, .sl (.own false) .exp []]),
on (.store 3 (tt 7) (tt 18)) []])
 (.seq (.seq (rr [oo 19 (.fadr 2 (tt 6)),
oo 20 (.load 1 false false (tt 19)),
oo 21 (.mv (tt 20)),
og (some 22) (.fadr 1 (tt 6)) 21 false [],
og (some 23) (.load 1 false false (tt 22)) 21 false [],
og (some 24) (.mv (tt 4)) 21 false [],
og (some 25) (.len (tt 24)) 21 false [],
og (some 26) (.bin .neq (tt 23) (tt 25)) 21 false [],
oo 27 (.pick (tt 21) (.const (.bool true)) (tt 26)),
oo 28 (.mv (tt 27)),
og (some 29) (.load 3 true false (tt 7)) 28 false [],
og (some 30) (.call 1200 0 [tt 29]) 28 false [],
og (some 31) (.un .not (tt 30)) 28 false [],
oo 32 (.pick (tt 28) (.const (.bool true)) (tt 31))])
 (.cond (tt 32) (.seq (rr [oo 33 (.build [.int .i64 0, .int .i64 0, .sl (.own false) .exp []] []),
on (.store 3 (tt 2) (tt 33)) [],
oo 3 (.mv (.const (.bool false)))])
 .ret) .skip))
 (.seq (rr [oo 34 (.load 3 true false (tt 7)),
on (.store 3 (tt 2) (tt 34)) [],
oo 3 (.mv (.const (.bool true)))])
 .ret))))))) }
noncomputable def p34700 : ProcT := { kind := .fn, ins := [0, 1], bins := [], res := [.tmp 4], code := (.seq (rr [oo 2 (.box 100 (tt 0)),
oo 4 (.mv (nn 0))])
 (.seq (rr [oo 5 (.fadr 2 (tt 2)),
oo 6 (.load 1 false false (tt 5)),
oo 7 (.mv (tt 1)),
oo 8 (.call 10700 0 [tt 6, tt 7]),
oo 1 (.mv (tt 8))])
 (.seq (.seq (rr [oo 9 (.mv (tt 1)),
oo 10 (.bin .lss (tt 9) (nn 0))])
 (.cond (tt 10) (.seq (rr [oo 4 (.mv (nn (-1)))])
 .ret) .skip))
 (.seq (rr [oo 11 (.mv (tt 1)),
oo 4 (.mv (tt 11))])
 .ret)))) }
noncomputable def p34800 : ProcT := { kind := .fn, ins := [0], bins := [], res := [.tmp 2], loc := true, code := (.seq (rr [oo 2 (.mv (.const (.bool false)))])
 (.seq (.seq (rr [oo 11 (.mv (tt 0)),
oo 12 (.lenS (tt 11)),
oo 13 (.bin .gtr (tt 12) (nn 1048576))])
 (.cond (tt 13) (.seq (rr [oo 2 (.mv (.const (.bool true)))])
 .ret) .skip))
 (.seq (rr [oo 15 (.mv (tt 0)),
oo 16 (.call 33000 0 [tt 15]),
oo 14 (.mv (tt 16)),
oo 17 (.ext 0 (tt 14)),
oo 18 (.ext 1 (tt 14)),
oo 3 (.alloc 100 [.int .i64 0, .int .i64 0, .sl (.own false) .exp []]),
on (.store 3 (tt 3) (tt 17)) [],
oo 4 (.mv (tt 18))])
 (.seq (rr [oo 20 (.mv (tt 0)),
oo 21 (.tr (.call .pview 43700 [tt 20])),
oo 19 (.mv (tt 21)),
oo 22 (.ext 0 (tt 19)),
oo 23 (.ext 1 (tt 19)),
oo 5 (.alloc 101 [.int .i64 0, .int .i64 0, .sl (.own false) .exp []]),
on (.store 3 (tt 5) (tt 22)) [],
oo 6 (.mv (tt 23))])
 (.seq (.seq (rr [oo 24 (.load 3 true false (tt 5)),
oo 25 (.load 3 true false (tt 3)),
oo 26 (.tr (.call .view 8100 [tt 24, tt 25])),
oo 27 (.un .not (tt 26)),
oo 28 (.mv (tt 27)),
og (some 29) (.mv (tt 6)) 28 false [],
og (some 30) (.mv (tt 4)) 28 false [],
og (some 31) (.eqb true (tt 29) (tt 30)) 28 false [],
oo 32 (.pick (tt 28) (.const (.bool true)) (tt 31))])
 (.cond (tt 32) (.seq (rr [oo 2 (.mv (.const (.bool false)))])
 .ret) .skip))
 (.seq (rr [oo 7 (.mv (nn 1))])
 (.seq (rr [oo 33 (.load 3 true false (tt 5)),
oo 34 (.mv (tt 7)),
oo 35 (.tr (.call .pass 43600 [tt 33, tt 34])),
oo 7 (.mv (tt 35))])
 (.seq (rr [oo 8 (.mv (nn 1))])
 (.seq (rr [oo 36 (.load 3 true false (tt 5)),
oo 37 (.mv (tt 8)),
oo 38 (.tr (.call .view 34700 [tt 36, tt 37])),
oo 8 (.mv (tt 38))])
 (.seq (.seq (rr [oo 39 (.mv (tt 8)),
oo 40 (.bin .lss (tt 39) (nn 0))])
 (.cond (tt 40) (.seq (rr [oo 2 (.mv (.const (.bool false)))])
 .ret) .skip))
 (.seq (.seq (rr [oo 41 (.mv (tt 8)),
oo 42 (.mv (tt 7)),
oo 43 (.bin .neq (tt 41) (tt 42))])
 (.cond (tt 43) (.seq (rr [oo 2 (.mv (.const (.bool false)))])
 .ret) .skip))
 (.seq (rr [oo 45 (.mv (tt 0)),
oo 46 (.call 34500 0 [tt 45]),
oo 44 (.mv (tt 46)),
oo 47 (.ext 0 (tt 44)),
oo 48 (.ext 1 (tt 44)),
oo 9 (.alloc 102 [.int .i64 0, .int .i64 0, .sl (.own false) .exp []]),
on (.store 3 (tt 9) (tt 47)) [],
oo 10 (.mv (tt 48))])
 (.seq (.seq (rr [oo 49 (.load 3 true false (tt 9)),
oo 50 (.load 3 true false (tt 3)),
oo 51 (.call 8100 0 [tt 49, tt 50]),
oo 52 (.un .not (tt 51)),
oo 53 (.mv (tt 52)),
og (some 54) (.mv (tt 10)) 53 false [],
og (some 55) (.mv (tt 4)) 53 false [],
og (some 56) (.eqb true (tt 54) (tt 55)) 53 false [],
oo 57 (.pick (tt 53) (.const (.bool true)) (tt 56))])
 (.cond (tt 57) (.seq (rr [oo 2 (.mv (.const (.bool false)))])
 .ret) .skip))
 (.seq (rr [oo 8 (.mv (nn 1))])
 (.seq (rr [oo 58 (.load 3 true false (tt 5)),
oo 59 (.mv (tt 8)),
oo 60 (.tr (.call .view 34700 [tt 58, tt 59])),
oo 8 (.mv (tt 60))])
 (.seq (.seq (rr [oo 61 (.mv (tt 8)),
oo 62 (.bin .lss (tt 61) (nn 0))])
 (.cond (tt 62) (.seq (rr [oo 2 (.mv (.const (.bool false)))])
 .ret) .skip))
 (.seq (.seq (rr [oo 63 (.mv (tt 8)),
oo 64 (.mv (tt 7)),
oo 65 (.bin .neq (tt 63) (tt 64))])
 (.cond (tt 65) (.seq (rr [oo 2 (.mv (.const (.bool false)))])
 .ret) .skip))
 (.seq (rr [oo 2 (.mv (.const (.bool true)))])
 .ret)))))))))))))))))) }
noncomputable def p41300 : ProcT := { kind := .fn, ins := [0, 1], bins := [99], res := [.tmp 4], code := (.seq (rr [oo 4 (.mv (nn 0))])
 (.seq (.seq (rr [oo 5 (.mv (nn 0))])
 (.block 0 (.label 41301)))
 (.seq (rr [oo 33 (.mv (tt 1)),
oo 4 (.mv (tt 33))])
 .ret))) }
noncomputable def p41301 : ProcT := { kind := .loop, ins := [0, 1, 5], bins := [99], outs := [1, 4], bouts := [99], code := (.seq (.seq (rr [oo 6 (.mv (tt 5)),
oo 7 (.mv (tt 0)),
oo 8 (.tr (.len (tt 7))),
oo 9 (.bin .lss (tt 6) (tt 8))])
 (.cond (tt 9) .skip (.exit 0)))
 (.seq (.block 1 (.seq (rr [oo 12 (.mv (tt 0)),
oo 13 (.mv (tt 5)),
oo 14 (.mv (tt 1)),
oo 15 (.tr (.iadr 3 (tt 12) (tt 13))),
oo 16 (.tr (.fadr 0 (tt 15))),
on (.tr (.store 1 (tt 16) (tt 14))) []])
 (.seq (rr [oo 17 (.mv (tt 1)),
oo 18 (.bin .add (tt 17) (nn 1)),
oo 1 (.mv (tt 18))])
 (.seq (rr [oo 19 (.mv (tt 0)),
oo 20 (.mv (tt 5)),
oo 21 (.mv (tt 1)),
oo 22 (.tr (.iadr 3 (tt 19) (tt 20))),
oo 23 (.tr (.fadr 1 (tt 22))),
on (.tr (.store 1 (tt 23) (tt 21))) []])
 (.seq (rr [oo 24 (.mv (tt 1)),
oo 25 (.bin .add (tt 24) (nn 1)),
oo 1 (.mv (tt 25))])
 (rr [oo 26 (.mv (tt 0)),
oo 27 (.mv (tt 5)),
oo 28 (.tr (.iadr 3 (tt 26) (tt 27))),
oo 29 (.tr (.fadr 2 (tt 28))),
oo 30 (.tr (.load 1 false (tt 29))),
oo 31 (.mv (tt 1)),
oo 32 (.tr (.call .pass 41300 [tt 30, tt 31])),
oo 1 (.mv (tt 32))]))))))
 (rr [oo 10 (.mv (tt 5)),
oo 11 (.bin .add (tt 10) (nn 1)),
oo 5 (.mv (tt 11))]))) }
noncomputable def p43600 : ProcT := { kind := .fn, ins := [0, 1], bins := [99], res := [.tmp 4], code := (.seq (rr [oo 2 (.box 100 (tt 0)),
oo 4 (.mv (nn 0))])
 (.seq (rr [oo 5 (.fadr 2 (tt 2)),
oo 6 (.load 1 false false (tt 5)),
oo 7 (.mv (tt 1)),
oo 8 (.tr (.call .pass 41300 [tt 6, tt 7])),
oo 1 (.mv (tt 8))])
 (.seq (rr [oo 9 (.mv (tt 1)),
oo 4 (.mv (tt 9))])
 .ret))) }
noncomputable def p43700 : ProcT := { kind := .fn, ins := [0], bins := [99], res := [.cell 2 3 true, .tmp 3], code := (.seq (rr [oo 2 (.alloc 100 [.int .i64 0, .int .i64 0, .tr .expH none 0]),
oo 3 (.mv (.const (.bool false)))])
 (.seq (rr [oo 9 (.mv (tt 0)),
oo 10 (.call 33400 0 [tt 9]),
oo 8 (.mv (tt 10)),
oo 11 (.ext 0 (tt 8)),
oo 12 (.ext 1 (tt 8)),
oo 4 (.mv (.take 11)),
oo 5 (.mv (tt 12))])
 (.seq (.seq (rr [oo 13 (.mv (tt 5)),
oo 14 (.un .not (tt 13))])
 (.cond (tt 14) (.seq (rr [oo 15 (.build [.int .i64 0, .int .i64 0, .tr .expH none 0] []),
on (.store 3 (tt 2) (tt 15)) [],
oo 3 (.mv (.const (.bool false)))])
 .ret) .skip))
 (.seq (rr [oo 16 (.mv (tt 4)),
oo 17 (.build [.sl (.own false) .str [], .int .i64 0, .bool false] [(0, 1, tt 16)]),
oo 6 (.alloc 101 [.sl (.own false) .str [], .int .i64 0, .bool false]),
on (.store 3 (tt 6) (tt 17)) []])
 (.seq (rr [oo 18 (.tr (.call .pass 43800 [tt 6, nn 1])),
oo 7 (.alloc 102 [.int .i64 0, .int .i64 0, .tr .expH none 0]),
on (.store 3 (tt 7) (tt 18)) []])
 (.seq (.seq (rr [oo 19 (.fadr 2 (tt 6)),
oo 20 (.load 1 false false (tt 19)),
oo 21 (.mv (tt 20)),
og (some 22) (.fadr 1 (tt 6)) 21 false [],
og (some 23) (.load 1 false false (tt 22)) 21 false [],
og (some 24) (.mv (tt 4)) 21 false [],
og (some 25) (.len (tt 24)) 21 false [],
og (some 26) (.bin .neq (tt 23) (tt 25)) 21 false [],
oo 27 (.pick (tt 21) (.const (.bool true)) (tt 26)),
oo 28 (.mv (tt 27)),
og (some 29) (.load 3 true false (tt 7)) 28 false [],
og (some 30) (.tr (.call .view 1200 [tt 29])) 28 false [],
og (some 31) (.un .not (tt 30)) 28 false [],
oo 32 (.pick (tt 28) (.const (.bool true)) (tt 31))])
 (.cond (tt 32) (.seq (rr [oo 33 (.build [.int .i64 0, .int .i64 0, .tr .expH none 0] []),
on (.store 3 (tt 2) (tt 33)) [],
oo 3 (.mv (.const (.bool false)))])
 .ret) .skip))
 (.seq (rr [oo 34 (.load 3 true false (tt 7)),
on (.store 3 (tt 2) (tt 34)) [],
oo 3 (.mv (.const (.bool true)))])
 .ret))))))) }
noncomputable def p43800 : ProcT := { kind := .fn, ins := [0, 1], bins := [0, 99], res := [.cell 4 3 true], code := (.seq (rr [oo 4 (.alloc 100 [.int .i64 0, .int .i64 0, .tr .expH none 0])])
 (.seq (rr [oo 7 (.mv (tt 0)),
oo 8 (.tr (.call .pass 43900 [tt 7])),
oo 5 (.alloc 101 [.int .i64 0, .int .i64 0, .tr .expH none 0]),
on (.store 3 (tt 5) (tt 8)) []])
 (.seq (.block 0 (.label 43801))
 (.seq (rr [oo 41 (.load 3 true false (tt 5)),
on (.store 3 (tt 4) (tt 41)) []])
 .ret)))) }
noncomputable def p43801 : ProcT := { kind := .loop, ins := [0, 1, 4, 5], bins := [0, 100, 101, 99], outs := [0, 4, 5], bouts := [0, 100, 101, 99], code := (.seq (.seq (rr [oo 9 (.mv (tt 0)),
oo 10 (.nilck (tt 9)),
oo 11 (.fadr 2 (tt 10)),
oo 12 (.load 1 false false (tt 11)),
oo 13 (.un .not (tt 12))])
 (.cond (tt 13) .skip (.exit 0)))
 (.block 1 (.seq (rr [oo 14 (.mv (tt 0)),
oo 15 (.call 33500 0 [tt 14]),
oo 16 (.call 34200 0 [tt 15]),
oo 6 (.mv (tt 16))])
 (.seq (.seq (rr [oo 17 (.mv (tt 6)),
oo 18 (.bin .eql (tt 17) (nn 0)),
oo 19 (.mv (tt 18)),
og (some 20) (.mv (tt 6)) 19 false [],
og (some 21) (.call 34300 0 [tt 20]) 19 false [],
og (some 22) (.mv (tt 1)) 19 false [],
og (some 23) (.bin .lss (tt 21) (tt 22)) 19 false [],
oo 24 (.pick (tt 19) (.const (.bool true)) (tt 23))])
 (.cond (tt 24) (.exit 0) .skip))
 (.seq (rr [oo 25 (.mv (tt 0)),
oo 26 (.nilck (tt 25)),
oo 27 (.fadr 1 (tt 26)),
oo 28 (.load 1 false false (tt 27)),
oo 29 (.bin .add (tt 28) (nn 1)),
oo 30 (.nilck (tt 25)),
oo 31 (.fadr 1 (tt 30)),
on (.store 1 (tt 31) (tt 29)) []])
 (.region true [oo 32 (.mv (tt 6)),
op 33 (.load 3 true false (tt 5)) [101],
oo 34 (.mv (tt 0)),
oo 35 (.mv (tt 6)),
oo 36 (.call 34300 0 [tt 35]),
oo 37 (.bin .add (tt 36) (nn 1)),
op 38 (.tr (.call .pass 43800 [tt 34, tt 37])) [0, 99],
op 39 (.tr (.lit .expH [tt 33, tt 38])) [99],
oo 40 (.build [.int .i64 0, .int .i64 0, .tr .expH none 0] [(0, 1, tt 32), (2, 1, tt 39)]),
on (.store 3 (tt 5) (tt 40)) [101]])))))) }
noncomputable def p43900 : ProcT := { kind := .fn, ins := [0], bins := [0, 99], res := [.cell 2 3 true], code := (.seq (rr [oo 2 (.alloc 100 [.int .i64 0, .int .i64 0, .tr .expH none 0])])
 (.seq (rr [oo 5 (.mv (tt 0)),
oo 6 (.call 33500 0 [tt 5]),
oo 3 (.mv (tt 6))])
 (.seq (.block 0 (.seq (rr [oo 8 (.mv (tt 3)),
oo 9 (.bin .eql (tt 8) (.const (.str [40]))),
oo 7 (.mv (tt 9))])
 (.cond (tt 7) (.seq (rr [oo 10 (.mv (tt 0)),
oo 11 (.nilck (tt 10)),
oo 12 (.fadr 1 (tt 11)),
oo 13 (.load 1 false false (tt 12)),
oo 14 (.bin .add (tt 13) (nn 1)),
oo 15 (.nilck (tt 10)),
oo 16 (.fadr 1 (tt 15)),
on (.store 1 (tt 16) (tt 14)) []])
 (.seq (rr [oo 17 (.mv (tt 0)),
oo 18 (.tr (.call .pass 43800 [tt 17, nn 1])),
oo 4 (.alloc 101 [.int .i64 0, .int .i64 0, .tr .expH none 0]),
on (.store 3 (tt 4) (tt 18)) []])
 (.seq (rr [oo 19 (.mv (tt 0)),
oo 20 (.call 33700 0 [tt 19, .const (.str [41])])])
 (.seq (rr [oo 21 (.load 3 true false (tt 4)),
on (.store 3 (tt 2) (tt 21)) []])
 .ret)))) (.seq (rr [oo 23 (.mv (tt 3)),
oo 24 (.bin .neq (tt 23) (.const (.str []))),
oo 25 (.mv (tt 24)),
og (some 26) (.mv (tt 3)) 25 true [],
og (some 27) (.idxS (tt 26) (nn 0)) 25 true [],
og (some 28) (.call 33100 0 [tt 27]) 25 true [],
oo 29 (.pick (tt 25) (tt 28) (.const (.bool false))),
oo 22 (.mv (tt 29))])
 (.cond (tt 22) (.seq (rr [oo 30 (.mv (tt 0)),
oo 31 (.call 33900 0 [tt 30]),
oo 32 (.build [.int .i64 0, .int .i64 0, .tr .expH none 0] [(0, 1, nn 0), (1, 1, tt 31)]),
on (.store 3 (tt 2) (tt 32)) []])
 .ret) .skip)))))
 (.seq (rr [oo 33 (.mv (tt 0)),
oo 34 (.call 34000 0 [tt 33]),
oo 35 (.build [.int .i64 0, .int .i64 0, .tr .expH none 0] [(0, 1, nn 13), (1, 1, tt 34)]),
on (.store 3 (tt 2) (tt 35)) []])
 .ret)))) }
noncomputable def p37500 : ProcT := { kind := .prim, ins := [], bins := [], code := .skip, pf := Vs.prefixF }
noncomputable def p37600 : ProcT := { kind := .prim, ins := [], bins := [], code := .skip, pf := Vs.indexF }
noncomputable def p37700 : ProcT := { kind := .prim, ins := [], bins := [], code := .skip, pf := Vs.atoiF }
noncomputable def tab : List (Nat × ProcT) := [(300, p300), (500, p500), (1000, p1000), (1100, p1100), (1200, p1200), (1600, p1600), (1700, p1700), (1800, p1800), (1900, p1900), (8000, p8000), (8001, p8001), (8100, p8100), (10700, p10700), (10701, p10701), (20700, p20700), (31800, p31800), (31801, p31801), (31900, p31900), (31901, p31901), (32000, p32000), (32100, p32100), (32200, p32200), (32201, p32201), (32300, p32300), (32301, p32301), (32400, p32400), (32500, p32500), (32501, p32501), (32600, p32600), (32700, p32700), (32800, p32800), (32801, p32801), (32900, p32900), (32901, p32901), (33000, p33000), (33100, p33100), (33200, p33200), (33300, p33300), (33301, p33301), (33302, p33302), (33303, p33303), (33400, p33400), (33401, p33401), (33500, p33500), (33600, p33600), (33700, p33700), (33800, p33800), (33900, p33900), (34000, p34000), (34100, p34100), (34200, p34200), (34201, p34201), (34300, p34300), (34400, p34400), (34401, p34401), (34500, p34500), (34700, p34700), (34800, p34800), (37500, p37500), (37600, p37600), (37700, p37700), (41300, p41300), (41301, p41301), (43600, p43600), (43700, p43700), (43800, p43800), (43801, p43801), (43900, p43900)]
noncomputable abbrev Tb : Nat → Option ProcT := (Vs.look · tab)
@[reducible] def s300 : Sig := [⟨.ret, [.agg 3], [], [.h (.int .i64), .h (.int .i64), .h (.slm .exp)]⟩]
@[reducible] def s500 : Sig := [⟨.ret, [.agg 3], [], [.h (.int .i64), .h (.int .i64), .h (.slm .exp)]⟩]
@[reducible] def s1000 : Sig := [⟨.ret, [.one], [], [.h (.bool)]⟩]
@[reducible] def s1100 : Sig := [⟨.ret, [.one], [], [.h (.bool)]⟩]
@[reducible] def s1200 : Sig := [⟨.ret, [.one], [], [.h (.bool)]⟩]
@[reducible] def s1600 : Sig := [⟨.ret, [.one], [], [.h (.bool)]⟩]
@[reducible] def s1700 : Sig := [⟨.ret, [.one], [], [.h (.bool)]⟩]
@[reducible] def s1800 : Sig := [⟨.ret, [.one], [], [.h (.bool)]⟩]
@[reducible] def s1900 : Sig := [⟨.ret, [.one], [], [.h (.bool)]⟩]
@[reducible] def s8000 : Sig := [⟨.ret, [.one], [], [.h (.bool)]⟩]
@[reducible] def s8001 : Sig := [⟨.exit 0, [.one], [], [.undef]⟩, ⟨.ret, [.one], [], [.h (.bool)]⟩]
@[reducible] def s8100 : Sig := [⟨.ret, [.one], [], [.h (.bool)]⟩]
@[reducible] def s10700 : Sig := [⟨.ret, [.one], [], [.h (.int .i64)]⟩]
@[reducible] def s10701 : Sig := [⟨.exit 0, [.one, .one], [], [.h (.int .i64), .undef]⟩, ⟨.ret, [.one, .one], [], [.h (.int .i64), .h (.int .i64)]⟩]
@[reducible] def s20700 : Sig := [⟨.ret, [.one], [], [.h (.str)]⟩]
@[reducible] def s31800 : Sig := [⟨.ret, [.one], [], [.h (.int .i64)]⟩]
@[reducible] def s31801 : Sig := [⟨.exit 1, [.one], [], [.undef]⟩, ⟨.ret, [.one], [], [.h (.int .i64)]⟩]
@[reducible] def s31900 : Sig := [⟨.ret, [.one], [], [.h (.int .i64)]⟩]
@[reducible] def s31901 : Sig := [⟨.exit 0, [.one, .one], [], [.undef, .h (.int .i64)]⟩]
@[reducible] def s32000 : Sig := [⟨.ret, [.one], [], [.h (.bool)]⟩]
@[reducible] def s32100 : Sig := [⟨.ret, [.one], [], [.h (.int .i64)]⟩]
@[reducible] def s32200 : Sig := [⟨.ret, [.tup 2], [], [.h (.sl .str), .h (.bool)]⟩]
@[reducible] def s32201 : Sig := [⟨.exit 0, [.one, .one, .one], [], [.undef, .undef, .h (.ownb .str)]⟩, ⟨.ret, [.one, .one, .one], [], [.h (.ownb .str), .h (.bool), .h (.ownb .str)]⟩]
@[reducible] def s32300 : Sig := [⟨.ret, [.one], [], [.h (.int .i64)]⟩]
@[reducible] def s32301 : Sig := [⟨.exit 0, [.one, .one], [], [.undef, .h (.int .i64)]⟩, ⟨.ret, [.one, .one], [], [.h (.int .i64), .h (.int .i64)]⟩]
@[reducible] def s32400 : Sig := [⟨.ret, [.one], [], [.h (.str)]⟩]
@[reducible] def s32500 : Sig := [⟨.ret, [.one], [], [.h (.int .i64)]⟩]
@[reducible] def s32501 : Sig := [⟨.exit 0, [.one], [], [.undef]⟩, ⟨.ret, [.one], [], [.h (.int .i64)]⟩]
@[reducible] def s32600 : Sig := [⟨.ret, [.tup 2], [], [.h (.agg .exp), .h (.int .i64)]⟩]
@[reducible] def s32700 : Sig := [⟨.ret, [.one], [], [.h (.int .i64)]⟩]
@[reducible] def s32800 : Sig := [⟨.ret, [.one], [], [.h (.int .i64)]⟩]
@[reducible] def s32801 : Sig := [⟨.exit 0, [.one], [], [.undef]⟩, ⟨.ret, [.one], [], [.h (.int .i64)]⟩]
@[reducible] def s32900 : Sig := [⟨.ret, [.tup 2], [], [.h (.agg .exp), .h (.int .i64)]⟩]
@[reducible] def s32901 : Sig := [⟨.exit 0, [.one, .one, .one, .one], [.var 3, .var 3], [.bp 100 0, .undef, .bp 101 0, .h (.int .i64), .h (.int .i64), .h (.int .i64), .h (.ownb .exp), .h (.int .i64), .h (.int .i64), .h (.slm .exp)]⟩]
@[reducible] def s33000 : Sig := [⟨.ret, [.tup 2], [], [.h (.agg .exp), .h (.bool)]⟩]
@[reducible] def s33100 : Sig := [⟨.ret, [.one], [], [.h (.bool)]⟩]
@[reducible] def s33200 : Sig := [⟨.ret, [.one], [], [.h (.bool)]⟩]
@[reducible] def s33300 : Sig := [⟨.ret, [.one], [], [.h (.int .i64)]⟩]
@[reducible] def s33301 : Sig := [⟨.exit 0, [.one, .one], [], [.h (.str), .undef]⟩, ⟨.ret, [.one, .one], [], [.h (.str), .h (.int .i64)]⟩]
@[reducible] def s33302 : Sig := [⟨.exit 2, [.one, .one, .one, .one, .one, .one], [], [.h (.str), .undef, .h (.int .i64), .fnl ([33100, 33200] : List Nat), .h (.int .i64), .h (.int .i64)]⟩]
@[reducible] def s33303 : Sig := [⟨.exit 4, [.one, .one], [], [.h (.str), .undef]⟩, ⟨.ret, [.one, .one], [], [.h (.str), .h (.int .i64)]⟩]
@[reducible] def s33400 : Sig := [⟨.ret, [.tup 2], [], [.h (.sl .str), .h (.bool)]⟩]
@[reducible] def s33401 : Sig := [⟨.exit 0, [.one, .one, .one], [], [.undef, .undef, .h (.ownb .str)]⟩, ⟨.ret, [.one, .one, .one], [], [.h (.ownb .str), .h (.bool), .h (.ownb .str)]⟩]
@[reducible] def s33500 : Sig := [⟨.ret, [.one], [.var 3], [.h (.str), .h (.sl .str), .h (.int .i64), .h (.bool)]⟩]
@[reducible] def s33600 : Sig := [⟨.ret, [.one], [.var 3], [.h (.bool), .h (.sl .str), .h (.int .i64), .h (.bool)]⟩]
@[reducible] def s33700 : Sig := [⟨.ret, [.tup 0], [.var 3], [.h (.sl .str), .h (.int .i64), .h (.bool)]⟩]
@[reducible] def s33800 : Sig := [⟨.ret, [.one], [.var 3], [.h (.str), .h (.sl .str), .h (.int .i64), .h (.bool)]⟩]
@[reducible] def s33900 : Sig := [⟨.ret, [.one], [.var 3], [.h (.int .i64), .h (.sl .str), .h (.int .i64), .h (.bool)]⟩]
@[reducible] def s34000 : Sig := [⟨.ret, [.one], [.var 3], [.h (.int .i64), .h (.sl .str), .h (.int .i64), .h (.bool)]⟩]
@[reducible] def s34100 : Sig := [⟨.ret, [.one], [.var 3], [.h (.agg .exp), .h (.sl .str), .h (.int .i64), .h (.bool)]⟩]
@[reducible] def s34200 : Sig := [⟨.ret, [.one], [], [.h (.int .i64)]⟩]
@[reducible] def s34201 : Sig := [⟨.exit 0, [.one], [], [.undef]⟩, ⟨.ret, [.one], [], [.h (.int .i64)]⟩]
@[reducible] def s34300 : Sig := [⟨.ret, [.one], [], [.h (.int .i64)]⟩]
@[reducible] def s34400 : Sig := [⟨.ret, [.one], [.var 3], [.h (.agg .exp), .h (.sl .str), .h (.int .i64), .h (.bool)]⟩]
@[reducible] def s34401 : Sig := [⟨.exit 0, [.one, .one, .one], [.var 3, .var 3, .var 3], [.bp 0 0, .bp 100 0, .bp 101 0, .h (.sl .str), .h (.int .i64), .h (.bool), .h (.int .i64), .h (.int .i64), .h (.ownb .exp), .h (.int .i64), .h (.int .i64), .h (.slm .exp)]⟩]
@[reducible] def s34500 : Sig := [⟨.ret, [.tup 2], [], [.h (.agg .exp), .h (.bool)]⟩]
@[reducible] def s34700 : Sig := [⟨.ret, [.one], [], [.h (.int .i64)]⟩]
@[reducible] def s34800 : Sig := [⟨.ret, [.one], [], [.h (.bool)]⟩]
@[reducible] def s37500 : Sig := [⟨.ret, [.one], [], [.h (.bool)]⟩]
@[reducible] def s37600 : Sig := [⟨.ret, [.one], [], [.h (.int .i64)]⟩]
@[reducible] def s37700 : Sig := [⟨.ret, [.tup 2], [], [.h (.int .i64), .undef]⟩]
@[reducible] def s41300 : Sig := [⟨.ret, [.one], [.ar], [.h (.int .i64), .h (.ar)]⟩]
@[reducible] def s41301 : Sig := [⟨.exit 0, [.one, .one], [.ar], [.h (.int .i64), .undef, .h (.ar)]⟩]
@[reducible] def s43600 : Sig := [⟨.ret, [.one], [.ar], [.h (.int .i64), .h (.ar)]⟩]
@[reducible] def s43700 : Sig := [⟨.ret, [.tup 2], [.ar], [.h (.agg .expH), .h (.bool), .h (.ar)]⟩]
@[reducible] def s43800 : Sig := [⟨.ret, [.one], [.var 3, .ar], [.h (.agg .expH), .h (.sl .str), .h (.int .i64), .h (.bool), .h (.ar)]⟩]
@[reducible] def s43801 : Sig := [⟨.exit 0, [.one, .one, .one], [.var 3, .var 3, .var 3, .ar], [.bp 0 0, .bp 100 0, .bp 101 0, .h (.sl .str), .h (.int .i64), .h (.bool), .h (.int .i64), .h (.int .i64), .h (.tr .expH), .h (.int .i64), .h (.int .i64), .h (.tr .expH), .h (.ar)]⟩]
@[reducible] def s43900 : Sig := [⟨.ret, [.one], [.var 3, .ar], [.h (.agg .expH), .h (.sl .str), .h (.int .i64), .h (.bool), .h (.ar)]⟩]
def sgs : List (Nat × Sig) := [(300, s300), (500, s500), (1000, s1000), (1100, s1100), (1200, s1200), (1600, s1600), (1700, s1700), (1800, s1800), (1900, s1900), (8000, s8000), (8001, s8001), (8100, s8100), (10700, s10700), (10701, s10701), (20700, s20700), (31800, s31800), (31801, s31801), (31900, s31900), (31901, s31901), (32000, s32000), (32100, s32100), (32200, s32200), (32201, s32201), (32300, s32300), (32301, s32301), (32400, s32400), (32500, s32500), (32501, s32501), (32600, s32600), (32700, s32700), (32800, s32800), (32801, s32801), (32900, s32900), (32901, s32901), (33000, s33000), (33100, s33100), (33200, s33200), (33300, s33300), (33301, s33301), (33302, s33302), (33303, s33303), (33400, s33400), (33401, s33401), (33500, s33500), (33600, s33600), (33700, s33700), (33800, s33800), (33900, s33900), (34000, s34000), (34100, s34100), (34200, s34200), (34201, s34201), (34300, s34300), (34400, s34400), (34401, s34401), (34500, s34500), (34700, s34700), (34800, s34800), (37500, s37500), (37600, s37600), (37700, s37700), (41300, s41300), (41301, s41301), (43600, s43600), (43700, s43700), (43800, s43800), (43801, s43801), (43900, s43900)]
def sg (g : Nat) : Sig := (Vs.look g sgs).getD []
def GT (i : Nat) : List TV := if i = 0 then [.str [124], .str [94], .str [38], .str ([61, 61]), .str [60], .str ([60, 60]), .str ([62, 62]), .str [43], .str [45], .str [42], .str [47], .str [37]] else []
noncomputable def laws_FnExactExprFrom (a0 : List UInt8) : Option (Bool) := callTy Tb GT s34800 34800 [.str a0] []
noncomputable def spec_ExprFrom (a0 : List UInt8) : Option (Exp × Bool) := callTy Tb GT s33000 33000 [.str a0] []
noncomputable def impl_ExprFrom_p (a0 : List UInt8) (A : List Ent) : Option (ExpH × Bool × List Ent) := callTy Tb GT s43700 43700 [.str a0] [.ar A]
noncomputable def laws_eqExpr (a0 : Exp) (a1 : Exp) : Option (Bool) := callTy Tb GT s8100 8100 [.agg (rowT .exp a0), .agg (rowT .exp a1)] []
noncomputable def laws_markExpr_p (a0 : ExpH) (a1 : Int) (A : List Ent) : Option (Int × List Ent) := callTy Tb GT s43600 43600 [.agg (rowT .expH a0), .int .i64 a1] [.ar A]
noncomputable def laws_heldExpr (a0 : Exp) (a1 : Int) : Option (Int) := callTy Tb GT s34700 34700 [.agg (rowT .exp a0), .int .i64 a1] []
noncomputable def impl_ExprFrom (a0 : List UInt8) : Option (Exp × Bool) := callTy Tb GT s34500 34500 [.str a0] []
noncomputable def spec_Tokens (a0 : List UInt8) : Option (List (List UInt8) × Bool) := callTy Tb GT s32200 32200 [.str a0] []
noncomputable def spec_l5Parse (a0 : List (List UInt8)) (a1 : Int) (a2 : Int) : Option (Exp × Int) := callTy Tb GT s32900 32900 [.sl .share .str a0, .int .i64 a1, .int .i64 a2] []
noncomputable def spec_ExprValid (a0 : Exp) : Option (Bool) := callTy Tb GT s1900 1900 [.agg (rowT .exp a0)] []
noncomputable def impl_Tokens (a0 : List UInt8) : Option (List (List UInt8) × Bool) := callTy Tb GT s33400 33400 [.str a0] []
noncomputable def impl_parser_expr_p (a1 : Int) (a0tokens : List (List UInt8)) (a0at : Int) (a0failed : Bool) (A : List Ent) : Option (ExpH × List (List UInt8) × Int × Bool × List Ent) := callTy Tb GT s43800 43800 [.bp 0 0, .int .i64 a1] [.var [.sl .share .str a0tokens, .int .i64 a0at, .bool a0failed], .ar A]
noncomputable def impl_ExprValid (a0 : Exp) : Option (Bool) := callTy Tb GT s1200 1200 [.agg (rowT .exp a0)] []
noncomputable def laws_eqExprS (a0 : List Exp) (a1 : List Exp) : Option (Bool) := callTy Tb GT s8000 8000 [.sl .share .exp a0, .sl .share .exp a1] []
noncomputable def laws_markExprS_p (a0 : Hd) (a1 : Int) (A : List Ent) : Option (Int × List Ent) := callTy Tb GT s41300 41300 [.tr .expH a0.id a0.n, .int .i64 a1] [.ar A]
noncomputable def laws_heldExprS (a0 : List Exp) (a1 : Int) : Option (Int) := callTy Tb GT s10700 10700 [.sl .share .exp a0, .int .i64 a1] []
noncomputable def impl_parser_expr (a1 : Int) (a0tokens : List (List UInt8)) (a0at : Int) (a0failed : Bool) : Option (Exp × List (List UInt8) × Int × Bool) := callTy Tb GT s34400 34400 [.bp 0 0, .int .i64 a1] [.var [.sl .share .str a0tokens, .int .i64 a0at, .bool a0failed]]
noncomputable def spec_l3Kind (a0 : Int) : Option (Int) := callTy Tb GT s31800 31800 [.int .u8 a0] []
noncomputable def spec_l3End (a0 : List UInt8) (a1 : Int) : Option (Int) := callTy Tb GT s32100 32100 [.str a0, .int .i64 a1] []
noncomputable def spec_Tokens_l1 (t0 : List UInt8) (t4b : Bool) (t4 : List (List UInt8)) (t5 : Int) : Option (((Bool × List (List UInt8))) ⊕ ((Bool × List (List UInt8)) × Bool × (Bool × List (List UInt8)))) := callTy Tb GT s32201 32201 [.str t0, .sl (.own t4b) .str t4, .int .i64 t5] []
noncomputable def spec_l5First (a0 : List (List UInt8)) (a1 : Int) : Option (Exp × Int) := callTy Tb GT s32600 32600 [.sl .share .str a0, .int .i64 a1] []
noncomputable def spec_l5Op (a0 : List UInt8) : Option (Int) := callTy Tb GT s32800 32800 [.str a0] []
noncomputable def spec_OpLevel (a0 : Int) : Option (Int) := callTy Tb GT s32700 32700 [.int .i64 a0] []
noncomputable def spec_l4Both (a0 : Int) (a1 : Exp) (a2 : Exp) : Option (Int × Int × (Md × List Exp)) := callTy Tb GT s500 500 [.int .i64 a0, .agg (rowT .exp a1), .agg (rowT .exp a2)] []
noncomputable def spec_l5Parse_l1 (t0 : List (List UInt8)) (t2 : Int) (t9 : Int) (b100_0 : Int) (b100_1 : Int) (b100_2b : Bool) (b100_2 : List Exp) (b101_0 : Int) (b101_1 : Int) (b101_2m : Md) (b101_2 : List Exp) : Option (Int × Int × Int × (Bool × List Exp) × Int × Int × (Md × List Exp)) := callTy Tb GT s32901 32901 [.sl .share .str t0, .int .i64 t2, .bp 100 0, .bp 101 0, .int .i64 t9] [.var [.int .i64 b100_0, .int .i64 b100_1, .sl (.own b100_2b) .exp b100_2], .var [.int .i64 b101_0, .int .i64 b101_1, .sl b101_2m .exp b101_2]]
noncomputable def spec_l4Ok (a0 : Exp) (a1 : Int) : Option (Bool) := callTy Tb GT s1800 1800 [.agg (rowT .exp a0), .int .i64 a1] []
noncomputable def impl_tokenLength (a0 : List UInt8) : Option (Int) := callTy Tb GT s33300 33300 [.str a0] []
noncomputable def impl_Tokens_l1 (t0 : List UInt8) (t4b : Bool) (t4 : List (List UInt8)) (t5 : Int) : Option (((Bool × List (List UInt8))) ⊕ ((Bool × List (List UInt8)) × Bool × (Bool × List (List UInt8)))) := callTy Tb GT s33401 33401 [.str t0, .sl (.own t4b) .str t4, .int .i64 t5] []
noncomputable def impl_parser_operand_p (a0tokens : List (List UInt8)) (a0at : Int) (a0failed : Bool) (A : List Ent) : Option (ExpH × List (List UInt8) × Int × Bool × List Ent) := callTy Tb GT s43900 43900 [.bp 0 0] [.var [.sl .share .str a0tokens, .int .i64 a0at, .bool a0failed], .ar A]
noncomputable def impl_parser_peek (a0tokens : List (List UInt8)) (a0at : Int) (a0failed : Bool) : Option (List UInt8 × List (List UInt8) × Int × Bool) := callTy Tb GT s33500 33500 [.bp 0 0] [.var [.sl .share .str a0tokens, .int .i64 a0at, .bool a0failed]]
noncomputable def impl_opFrom (a0 : List UInt8) : Option (Int) := callTy Tb GT s34200 34200 [.str a0] []
noncomputable def impl_OpLevel (a0 : Int) : Option (Int) := callTy Tb GT s34300 34300 [.int .i64 a0] []
noncomputable def impl_parser_expr_p_l1 (t1 : Int) (b0_0 : List (List UInt8)) (b0_1 : Int) (b0_2 : Bool) (b100_0 : Int) (b100_1 : Int) (b100_2 : Hd) (b101_0 : Int) (b101_1 : Int) (b101_2 : Hd) (b99 : List Ent) : Option (List (List UInt8) × Int × Bool × Int × Int × Hd × Int × Int × Hd × List Ent) := callTy Tb GT s43801 43801 [.bp 0 0, .int .i64 t1, .bp 100 0, .bp 101 0] [.var [.sl .share .str b0_0, .int .i64 b0_1, .bool b0_2], .var [.int .i64 b100_0, .int .i64 b100_1, .tr .expH b100_2.id b100_2.n], .var [.int .i64 b101_0, .int .i64 b101_1, .tr .expH b101_2.id b101_2.n], .ar b99]
noncomputable def impl_exprValid (a0 : Exp) (a1 : Int) : Option (Bool) := callTy Tb GT s1100 1100 [.agg (rowT .exp a0), .int .i64 a1] []
noncomputable def laws_eqExprS_l1 (t0 : List Exp) (t1 : List Exp) (t5 : Int) : Option (Unit ⊕ Bool) := callTy Tb GT s8001 8001 [.sl .share .exp t0, .sl .share .exp t1, .int .i64 t5] []
noncomputable def laws_markExprS_p_l1 (t0 : Hd) (t1 : Int) (t5 : Int) (b99 : List Ent) : Option (Int × List Ent) := callTy Tb GT s41301 41301 [.tr .expH t0.id t0.n, .int .i64 t1, .int .i64 t5] [.ar b99]
noncomputable def laws_heldExprS_l1 (t0 : List Exp) (t1 : Int) (t5 : Int) : Option (Int ⊕ (Int × Int)) := callTy Tb GT s10701 10701 [.sl .share .exp t0, .int .i64 t1, .int .i64 t5] []
noncomputable def impl_parser_operand (a0tokens : List (List UInt8)) (a0at : Int) (a0failed : Bool) : Option (Exp × List (List UInt8) × Int × Bool) := callTy Tb GT s34100 34100 [.bp 0 0] [.var [.sl .share .str a0tokens, .int .i64 a0at, .bool a0failed]]
noncomputable def impl_parser_expr_l1 (t1 : Int) (b0_0 : List (List UInt8)) (b0_1 : Int) (b0_2 : Bool) (b100_0 : Int) (b100_1 : Int) (b100_2b : Bool) (b100_2 : List Exp) (b101_0 : Int) (b101_1 : Int) (b101_2m : Md) (b101_2 : List Exp) : Option (List (List UInt8) × Int × Bool × Int × Int × (Bool × List Exp) × Int × Int × (Md × List Exp)) := callTy Tb GT s34401 34401 [.bp 0 0, .int .i64 t1, .bp 100 0, .bp 101 0] [.var [.sl .share .str b0_0, .int .i64 b0_1, .bool b0_2], .var [.int .i64 b100_0, .int .i64 b100_1, .sl (.own b100_2b) .exp b100_2], .var [.int .i64 b101_0, .int .i64 b101_1, .sl b101_2m .exp b101_2]]
noncomputable def spec_l3Kind_l1 (t0 : Int) (t3 : List UInt8) (t4 : Int) : Option (Unit ⊕ Int) := callTy Tb GT s31801 31801 [.int .u8 t0, .str t3, .int .i64 t4] []
noncomputable def spec_l3Run (a0 : List UInt8) (a1 : Int) : Option (Int) := callTy Tb GT s31900 31900 [.str a0, .int .i64 a1] []
noncomputable def spec_l3Two (a0 : List UInt8) : Option (Bool) := callTy Tb GT s32000 32000 [.str a0] []
noncomputable def spec_l5Number (a0 : List UInt8) : Option (Int) := callTy Tb GT s32300 32300 [.str a0] []
noncomputable def spec_l4Leaf (a0 : Int) (a1 : Int) : Option (Int × Int × (Md × List Exp)) := callTy Tb GT s300 300 [.int .i64 a0, .int .i64 a1] []
noncomputable def spec_l5Var (a0 : List UInt8) : Option (Int) := callTy Tb GT s32500 32500 [.str a0] []
noncomputable def spec_OpText (a0 : Int) : Option (List UInt8) := callTy Tb GT s20700 20700 [.int .i64 a0] []
noncomputable def spec_l5Op_l1 (t0 : List UInt8) (t3 : Int) : Option (Unit ⊕ Int) := callTy Tb GT s32801 32801 [.str t0, .int .i64 t3] []
noncomputable def spec_OpValid (a0 : Int) : Option (Bool) := callTy Tb GT s1700 1700 [.int .i64 a0] []
noncomputable def spec_l6In (a0 : Int) (a1 : Int) (a2 : Int) : Option (Bool) := callTy Tb GT s1600 1600 [.int .i64 a0, .int .i64 a1, .int .i64 a2] []
noncomputable def impl_isDigit (a0 : Int) : Option (Bool) := callTy Tb GT s33100 33100 [.int .u8 a0] []
noncomputable def impl_tokenLength_l1_l2_33100 (t0 : List UInt8) (t5 : Int) (t9 : Int) (t10 : Int) : Option (List UInt8 × Int × Int × Int) := callTy Tb GT s33302 33302 [.str t0, .fn 33100 [], .int .i64 t5, .sl .full .fn ([33100, 33200] : List Nat), .int .i64 t9, .int .i64 t10] []
noncomputable def impl_isLetter (a0 : Int) : Option (Bool) := callTy Tb GT s33200 33200 [.int .u8 a0] []
noncomputable def impl_tokenLength_l1_l2_33200 (t0 : List UInt8) (t5 : Int) (t9 : Int) (t10 : Int) : Option (List UInt8 × Int × Int × Int) := callTy Tb GT s33302 33302 [.str t0, .fn 33200 [], .int .i64 t5, .sl .full .fn ([33100, 33200] : List Nat), .int .i64 t9, .int .i64 t10] []
noncomputable def impl_tokenLength_l1 (t0 : List UInt8) (t9 : Int) (t10 : Int) : Option (List UInt8 ⊕ (List UInt8 × Int)) := callTy Tb GT s33301 33301 [.str t0, .sl .full .fn ([33100, 33200] : List Nat), .int .i64 t9, .int .i64 t10] []
noncomputable def strings_HasPrefix (a0 : List UInt8) (a1 : List UInt8) : Option (Bool) := callTy Tb GT s37500 37500 [.str a0, .str a1] []
noncomputable def impl_tokenLength_l3 (t0 : List UInt8) (t31m : Md) (t31 : List (List UInt8)) (t32 : Int) (t33 : Int) : Option (List UInt8 ⊕ (List UInt8 × Int)) := callTy Tb GT s33303 33303 [.str t0, .sl t31m .str t31, .int .i64 t32, .int .i64 t33] []
noncomputable def strings_IndexByte (a0 : List UInt8) (a1 : Int) : Option (Int) := callTy Tb GT s37600 37600 [.str a0, .int .u8 a1] []
noncomputable def impl_parser_need (a1 : List UInt8) (a0tokens : List (List UInt8)) (a0at : Int) (a0failed : Bool) : Option (List (List UInt8) × Int × Bool) := callTy Tb GT s33700 33700 [.bp 0 0, .str a1] [.var [.sl .share .str a0tokens, .int .i64 a0at, .bool a0failed]]
noncomputable def impl_parser_number (a0tokens : List (List UInt8)) (a0at : Int) (a0failed : Bool) : Option (Int × List (List UInt8) × Int × Bool) := callTy Tb GT s33900 33900 [.bp 0 0] [.var [.sl .share .str a0tokens, .int .i64 a0at, .bool a0failed]]
noncomputable def impl_parser_variable (a0tokens : List (List UInt8)) (a0at : Int) (a0failed : Bool) : Option (Int × List (List UInt8) × Int × Bool) := callTy Tb GT s34000 34000 [.bp 0 0] [.var [.sl .share .str a0tokens, .int .i64 a0at, .bool a0failed]]
noncomputable def impl_opFrom_l1 (t0 : List UInt8) (t6 : Int) : Option (Unit ⊕ Int) := callTy Tb GT s34201 34201 [.str t0, .agg [.str [124], .str [94], .str [38], .str ([61, 61]), .str [60], .str ([60, 60]), .str ([62, 62]), .str [43], .str [45], .str [42], .str [47], .str [37]], .int .i64 t6] []
noncomputable def impl_OpValid (a0 : Int) : Option (Bool) := callTy Tb GT s1000 1000 [.int .i64 a0] []
noncomputable def spec_l3Run_l1 (t0 : List UInt8) (t1 : Int) (t5 : Int) : Option (Int) := callTy Tb GT s31901 31901 [.str t0, .int .i64 t1, .int .i64 t5] []
noncomputable def spec_l5Number_l1 (t0 : List UInt8) (t3 : Int) (t4 : Int) : Option (Int ⊕ (Int × Int)) := callTy Tb GT s32301 32301 [.str t0, .int .i64 t3, .int .i64 t4] []
noncomputable def spec_l5Name (a0 : Int) : Option (List UInt8) := callTy Tb GT s32400 32400 [.int .i64 a0] []
noncomputable def spec_l5Var_l1 (t0 : List UInt8) (t3 : Int) : Option (Unit ⊕ Int) := callTy Tb GT s32501 32501 [.str t0, .int .i64 t3] []
noncomputable def impl_parser_accept (a1 : List UInt8) (a0tokens : List (List UInt8)) (a0at : Int) (a0failed : Bool) : Option (Bool × List (List UInt8) × Int × Bool) := callTy Tb GT s33600 33600 [.bp 0 0, .str a1] [.var [.sl .share .str a0tokens, .int .i64 a0at, .bool a0failed]]
noncomputable def impl_parser_take (a0tokens : List (List UInt8)) (a0at : Int) (a0failed : Bool) : Option (List UInt8 × List (List UInt8) × Int × Bool) := callTy Tb GT s33800 33800 [.bp 0 0] [.var [.sl .share .str a0tokens, .int .i64 a0at, .bool a0failed]]
noncomputable def strconv_Atoi (a0 : List UInt8) : Option (Int) := callTy Tb GT s37700 37700 [.str a0] []
end Go.TFnExactExprFrom
